import PyProof.Rows.All
import Wide.All
import OpenK.AllK
import Wide.FinOn
import HandS.ForMost
import HandS.ForExc
import HandS.Lambda
import KE.KeyNested
import HandS.Nested
import HandS.Flow
import KE.KNest
import KE.DataEq
import HandS.TupAny
import HandS.TupMul
import HandS.Text
import HandS.Deep
import HandS.Iter
import HandS.IsInst
import HandS.FStr
import HandS.Conv
import KE.SortData
import HandS.Style
import KE.KExcSuper
import HandS.ExcInit
import HandS.ExcField
import KE.KExcIs
import HandS.ExcIs
import PyProof.StrOps2
import KE.IntTextLaws
import KE.GoesEnum
import PyProof.Rows.IntBool
import KE.KRevSl
import KE.KStrOpen
import HandS.DictComp
import HandS.TupLe
import HandS.Defaults
import HandS.TupSets
import HandS.SortKw
import HandS.Star
import HandS.NoneIn
import HandS.SetBool
import HandS.RaiseMore
import KE.KDictKeyed
import KE.KDictWalk
import KE.KDictCopyH
import HandS.TupLen
import HandS.Zip
import KE.DataMinMax
import PyProof.DictCompW
import PyProof.Rows.TupDisplay
import KE.KDictDisplayH
import HandS.Wide
import PySem.Challenge.RW_outandover_k22_runs_counted
set_option Elab.async false
set_option linter.all false
set_option maxRecDepth 100000
set_option maxHeartbeats 4000000
namespace B
open PySem L2

inductive S1 where
  | v (p : PyData)
  | l (n : Nat)
  | p (a : PyData) (n : Nat)
  | dd (kvs : List (NestedKey × PyData))
  | dt (a b : PyData) (kvs : List (NestedKey × PyData))
inductive D where
  | val (p : PyData)
  | loc (n : Nat)
  | cst (v : V)
  | frz (xs : List PyData)
  | err
  | fn (n : Str)
  | pr (a b : S1)
  | tr (a b c : S1)
  | dv (kvs : List (NestedKey × PyData))
  | clo (n : Str) (cs : List S1)
  | dkv (kvs : List (Key × PyData))

inductive O where
  | lst (xs : List PyData)
  | dk (kvs : List (Key × PyData))
  | dt (kvs : List (List Key × PyData))
  | ins (C : Str) (fs : List (Str × D))
  | lr (xs : List S1)
  | dr (kvs : List (Key × S1))
  | dn (kvs : List (NestedKey × PyData))
  | dm (kvs : List (NestedKey × S1))
  | dz (kvs : List (NestedKey × PyData))
  | dkz (kvs : List (Key × PyData))

inductive Ex where
  | own (C : Str) (fs : List (Str × D))

abbrev Store := List O
inductive Res (α : Type) where
  | ok (a : α) (st : Store)
  | exc (e : Ex) (st : Store)
  | bad

abbrev M (α : Type) : Type := Store → Res α
def rt {α : Type} (a : α) : M α := fun st => .ok a st
def bd {α β : Type} (m : M α) (k : α → M β) : M β := fun st =>
  match m st with
  | .ok a st' => k a st'
  | .exc e st' => .exc e st'
  | .bad => .bad
def bad {α : Type} : M α := fun _ => .bad
def thr {α : Type} (e : Ex) : M α := fun st => .exc e st
theorem bd_ok {α β : Type} {m : M α} {k : α → M β} {st st' : Store} {a : α} (h : m st = .ok a st') : bd m k st = k a st' := by unfold bd; rw [h]
theorem bd_exc {α β : Type} {m : M α} {k : α → M β} {st st' : Store} {e : Ex} (h : m st = .exc e st') : bd m k st = .exc e st' := by unfold bd; rw [h]
theorem bd_bad {α β : Type} {m : M α} {k : α → M β} {st : Store} (h : m st = .bad) : bd m k st = .bad := by unfold bd; rw [h]
@[simp] theorem rt_def {α : Type} (a : α) (st : Store) : rt a st = .ok a st := rfl
@[simp] theorem bad_def {α : Type} (st : Store) : (bad : M α) st = .bad := rfl
@[simp] theorem thr_def {α : Type} (e : Ex) (st : Store) : (thr e : M α) st = .exc e st := rfl

structure Wd where
  rho : List Addr
  ext : List Addr
abbrev Wd.bn (w : Wd) : List Addr := w.rho ++ w.ext
def NoT (o : HO) : Prop := ∀ ps, o ≠ .tbl ps
def Sb (w : Wd) (H : Hp) (w' : Wd) (H' : Hp) : Prop := ∀ a o, NoT o → a ∉ w.bn → H a = some o → a ∉ w'.bn ∧ H' a = some o
class Nm where
  tb : List (Addr × Str)
  cl : Str → Addr
  wl : World
  nf : Str → Option (Stmt × Str × Str × List Str) := fun _ => none
class Gd where
  G : Wd → Hp → Prop
  xv : V → Prop
  sb : ∀ {w w' : Wd} {H H' : Hp}, Sb w H w' H' → G w H → G w' H'
variable [Nm] [Gd]
def TupAt (K : W.Frag) (w : Wd) (H : Hp) (a : Addr) (vs : List V) : Prop :=
  (Rd H a (.tup vs) ∧ a ∉ w.bn) ∨ ∃ (o : Obj) (its : Array Value) (n : Nat), K.lookup a = some o ∧ o.cls = .type "tuple" ∧ o.data = .seq its n ∧ its.size ≤ sizeLine ∧ Vals vs its.toList
def LsAt (K : W.Frag) (w : Wd) (H : Hp) (a : Addr) (vs : List V) : Prop := H a = some (.lst vs) ∧ a ∉ w.bn
def FzAt (K : W.Frag) (w : Wd) (H : Hp) (a : Addr) (vs : List V) : Prop :=
  ((∃ o, H a = some (.frz o (.lst vs))) ∧ a ∉ w.bn) ∨ ∃ (o : Obj) (its : Array Value) (n : Nat), K.lookup a = some o ∧ o.cls = .type "list" ∧ o.dict = none ∧ o.data = .seq its n ∧ its.size ≤ sizeLine ∧ Vals vs its.toList
theorem FzAt.sq {K : W.Frag} {w : Wd} {H : Hp} {a : Addr} {vs : List V} (h : FzAt K w H a vs) : SqL K H a vs := by
  rcases h with ⟨h, _⟩ | h
  · exact .inl (.inr h)
  · exact .inr h
theorem TupAt.sq {K : W.Frag} {w : Wd} {H : Hp} {a : Addr} {vs : List V} (h : TupAt K w H a vs) : SqT K H a vs := by
  rcases h with ⟨h, _⟩ | h
  · exact .inl h
  · exact .inr h
theorem LsAt.sq {K : W.Frag} {w : Wd} {H : Hp} {a : Addr} {vs : List V} (h : LsAt K w H a vs) : SqL K H a vs := SqL.of h.1

mutual
inductive Rp (K : W.Frag) (w : Wd) (H : Hp) : PyData → V → Prop where
  | non : Rp K w H .none .non
  | bl (b : Bool) : Rp K w H (.bool b) (.bl b)
  | int (i : Int) : Rp K w H (.int i) (.int i)
  | str (x : Str) : Rp K w H (.str x) (.str x)
  | tup {a : Addr} {vs : List V} {ds : List PyData} : TupAt K w H a vs → Rps K w H ds vs → Rp K w H (.tuple ds) (.ref a)
  | ls {a : Addr} {vs : List V} {ds : List PyData} : LsAt K w H a vs → Rps K w H ds vs → Rp K w H (.list ds) (.ref a)
inductive Rps (K : W.Frag) (w : Wd) (H : Hp) : List PyData → List V → Prop where
  | nil : Rps K w H [] []
  | cons {d : PyData} {ds : List PyData} {v : V} {vs : List V} : Rp K w H d v → Rps K w H ds vs → Rps K w H (d :: ds) (v :: vs)
end

structure Ge (w : Wd) (H : Hp) (w' : Wd) (H' : Hp) : Prop where
  pre : ∃ more, w'.rho = w.rho ++ more ∧ w'.ext = w.ext ∧ ∀ p ∈ more, p ∉ w.bn ∧ H p = none
  keep : ∀ a o, NoT o → a ∉ w.rho → H a = some o → H' a = some o
  there : ∀ a o, a ∉ w.rho → H a = some o → ∃ o', H' a = some o'
  fk : ∀ a od o, H a = some (.frz od o) → H' a = some (.frz od o)
theorem Ge.refl (w : Wd) (H : Hp) : Ge w H w H := ⟨⟨[], by simp, rfl, fun _ h => by simp at h⟩, fun _ _ _ _ h => h, fun _ o _ h => ⟨o, h⟩, fun _ _ _ h => h⟩
theorem Wd.nr {w : Wd} {a : Addr} (h : a ∉ w.bn) : a ∉ w.rho := fun q => h (List.mem_append_left _ q)
theorem Ge.notin {w w' : Wd} {H H' : Hp} (g : Ge w H w' H') {a : Addr} {o : HO} (h : H a = some o) (n : a ∉ w.bn) : a ∉ w'.bn := by
  obtain ⟨more, e1, e2, hm⟩ := g.pre
  intro q
  rw [Wd.bn, e1, e2] at q
  rcases List.mem_append.mp q with q | q
  · rcases List.mem_append.mp q with q | q
    · exact n (List.mem_append_left _ q)
    · rw [(hm a q).2] at h; cases h
  · exact n (List.mem_append_right _ q)
theorem Ge.notinr {w w' : Wd} {H H' : Hp} (g : Ge w H w' H') {a : Addr} {o : HO} (h : H a = some o) (n : a ∉ w.rho) : a ∉ w'.rho := by
  obtain ⟨more, e1, e2, hm⟩ := g.pre
  intro q
  rw [e1] at q
  rcases List.mem_append.mp q with q | q
  · exact n q
  · rw [(hm a q).2] at h; cases h
theorem Ge.trans {r0 r1 r2 : Wd} {H0 H1 H2 : Hp} (g : Ge r0 H0 r1 H1) (k : Ge r1 H1 r2 H2) : Ge r0 H0 r2 H2 := by
  obtain ⟨m1, e1, f1, h1⟩ := g.pre
  obtain ⟨m2, e2, f2, h2⟩ := k.pre
  refine ⟨⟨m1 ++ m2, by rw [e2, e1, List.append_assoc], f2.trans f1, fun p hp => ?_⟩, fun a o t n h => k.keep a o t (g.notinr h n) (g.keep a o t n h), fun a o n h => let ⟨o1, h1⟩ := g.there a o n h; k.there a o1 (g.notinr h n) h1, fun a od o h => k.fk a od o (g.fk a od o h)⟩
  rcases List.mem_append.mp hp with hp | hp
  · exact h1 p hp
  · obtain ⟨n1, n2⟩ := h2 p hp
    have n0 : p ∉ r0.bn := fun q => n1 (by
      rw [Wd.bn, e1, f1]
      rcases List.mem_append.mp q with q | q
      · exact List.mem_append_left _ (List.mem_append_left _ q)
      · exact List.mem_append_right _ q)
    refine ⟨n0, ?_⟩
    cases q : H0 p with
    | none => rfl
    | some o => obtain ⟨o1, z⟩ := g.there p o (Wd.nr n0) q; rw [z] at n2; cases n2
theorem Ge.get {w w' : Wd} {H H' : Hp} (g : Ge w H w' H') {n : Nat} {a : Addr} (h : w.rho[n]? = some a) : w'.rho[n]? = some a := by
  obtain ⟨more, e, _, _⟩ := g.pre
  rw [e, List.getElem?_append_left (List.getElem?_eq_some_iff.mp h).1]
  exact h
theorem Ge.same {w : Wd} {H H' : Hp} (s : Same H H') : Ge w H w H' := ⟨⟨[], by simp, rfl, fun _ h => by simp at h⟩, fun a o _ _ h => s a o h, fun a o _ h => ⟨o, s a o h⟩, fun a od o h => s a _ h⟩
theorem Ge.sb {w w' : Wd} {H H' : Hp} (g : Ge w H w' H') : Sb w H w' H' := fun a o t n h => ⟨g.notin h n, g.keep a o t (Wd.nr n) h⟩
theorem Sb.trans {w0 w1 w2 : Wd} {H0 H1 H2 : Hp} (g : Sb w0 H0 w1 H1) (k : Sb w1 H1 w2 H2) : Sb w0 H0 w2 H2 := fun a o t n h => let ⟨n1, h1⟩ := g a o t n h; k a o t n1 h1

section
variable {K : W.Frag} {w w' : Wd} {H H' : Hp}
theorem TupAt.mono (g : Ge w H w' H') {a : Addr} {vs : List V} (h : TupAt K w H a vs) : TupAt K w' H' a vs := by
  rcases h with ⟨h | ⟨o, h⟩, n⟩ | h
  · exact .inl ⟨.inl (g.keep _ _ (fun _ z => by cases z) (Wd.nr n) h), g.notin h n⟩
  · exact .inl ⟨.inr ⟨o, g.keep _ _ (fun _ z => by cases z) (Wd.nr n) h⟩, g.notin h n⟩
  · exact .inr h
theorem LsAt.mono (g : Ge w H w' H') {a : Addr} {vs : List V} (h : LsAt K w H a vs) : LsAt K w' H' a vs := ⟨g.keep _ _ (fun _ z => by cases z) (Wd.nr h.2) h.1, g.notin h.1 h.2⟩
theorem FzAt.mono (g : Ge w H w' H') {a : Addr} {vs : List V} (h : FzAt K w H a vs) : FzAt K w' H' a vs := by
  rcases h with ⟨⟨o, h⟩, n⟩ | h
  · exact .inl ⟨⟨o, g.keep _ _ (fun _ z => by cases z) (Wd.nr n) h⟩, g.notin h n⟩
  · exact .inr h
mutual
theorem Rp.mono (g : Ge w H w' H') : ∀ {d : PyData} {v : V}, Rp K w H d v → Rp K w' H' d v
  | _, _, .non => .non
  | _, _, .bl b => .bl b
  | _, _, .int i => .int i
  | _, _, .str x => .str x
  | _, _, .tup h r => .tup (h.mono g) (Rps.mono g r)
  | _, _, .ls h r => .ls (h.mono g) (Rps.mono g r)
theorem Rps.mono (g : Ge w H w' H') : ∀ {ds : List PyData} {vs : List V}, Rps K w H ds vs → Rps K w' H' ds vs
  | _, _, .nil => .nil
  | _, _, .cons r s => .cons (Rp.mono g r) (Rps.mono g s)
end
mutual
theorem Rp.dp : ∀ {d : PyData} {v : V}, Rp K w H d v → Dp K H v d
  | _, _, .non => .non
  | _, _, .bl b => .bl b
  | _, _, .int i => .int i
  | _, _, .str x => .str x
  | _, _, .tup h r => .tup h.sq (Rps.dp r)
  | _, _, .ls h r => .lst h.sq (Rps.dp r)
theorem Rps.dp : ∀ {ds : List PyData} {vs : List V}, Rps K w H ds vs → DpAll K H vs ds
  | _, _, .nil => .nil
  | _, _, .cons r s => .cons (Rp.dp r) (Rps.dp s)
end
theorem Rps.length : ∀ {ds : List PyData} {vs : List V}, Rps K w H ds vs → ds.length = vs.length
  | _, _, .nil => rfl
  | _, _, .cons _ s => by rw [List.length_cons, List.length_cons, Rps.length s]
theorem Rps.append : ∀ {ds es : List PyData} {vs ws : List V}, Rps K w H ds vs → Rps K w H es ws → Rps K w H (ds ++ es) (vs ++ ws)
  | _, _, _, _, .nil, s => s
  | _, _, _, _, .cons r t, s => .cons r (Rps.append t s)
theorem Rps.get : ∀ {ds : List PyData} {vs : List V} {i : Nat} {d : PyData}, Rps K w H ds vs → ds[i]? = some d → ∃ v, vs[i]? = some v ∧ Rp K w H d v
  | _, _, _, _, .nil, e => by simp at e
  | _, _, 0, _, .cons r _, e => by simp at e; subst e; exact ⟨_, rfl, r⟩
  | _, _, i + 1, d, .cons _ t, e => by
    obtain ⟨u, h1, h2⟩ := Rps.get (i := i) (d := d) t (by simpa using e)
    exact ⟨u, by simpa using h1, h2⟩
def rawN (wl : World) (a : Addr) (xs : List (NestedKey × Addr × Value)) : HO := .ext fun h => (a == sysModules) = false ∧ xs.length ≤ sizeLine ∧ (xs.map (·.1)).Nodup ∧
  ∃ o es ep, h.get? a = some o ∧ o.ExactDict ∧ o.data = .dict es ep ∧ es.toList = xs.map fun x => ⟨x.1.hash wl, .ref x.2.1, x.2.2⟩
inductive RpN (K : W.Frag) (w : Wd) (H : Hp) : List (NestedKey × PyData) → List (NestedKey × Addr × Value) → Prop where
  | nil : RpN K w H [] []
  | cons {k : NestedKey} {d : PyData} {b : Addr} {v : V} {u : Value} {ds : List (NestedKey × PyData)} {xs : List (NestedKey × Addr × Value)} : Rp K w H k.data (.ref b) → k.depth ≤ 8 → Rp K w H d v → RelV v u → RpN K w H ds xs → RpN K w H ((k, d) :: ds) ((k, b, u) :: xs)
theorem RpN.mono {K : W.Frag} {w w' : Wd} {H H' : Hp} (g : Ge w H w' H') : ∀ {ds : List (NestedKey × PyData)} {xs : List (NestedKey × Addr × Value)}, RpN K w H ds xs → RpN K w' H' ds xs
  | _, _, .nil => .nil
  | _, _, .cons r d q v s => .cons (r.mono g) d (q.mono g) v (RpN.mono g s)
def DnAt (K : W.Frag) (w : Wd) (H : Hp) (a : Addr) (xs : List (NestedKey × Addr × Value)) : Prop := (∃ od, H a = some (.frz od (rawN Nm.wl a xs))) ∧ a ∉ w.bn
theorem DnAt.mono {K : W.Frag} {w w' : Wd} {H H' : Hp} (g : Ge w H w' H') {a : Addr} {xs : List (NestedKey × Addr × Value)} (h : DnAt K w H a xs) : DnAt K w' H' a xs := let ⟨⟨od, e⟩, n⟩ := h; ⟨⟨od, g.keep _ _ (fun _ z => by cases z) (Wd.nr n) e⟩, g.notin e n⟩
def RpS (K : W.Frag) (w : Wd) (H : Hp) : S1 → V → Prop
  | .v p, v => Rp K w H p v
  | .l n, v => ∃ a, v = .ref a ∧ w.rho[n]? = some a
  | .p d n, v => ∃ q u b, v = .ref q ∧ TupAt K w H q [u, .ref b] ∧ Rp K w H d u ∧ w.rho[n]? = some b
  | .dd kvs, v => ∃ a xs, v = .ref a ∧ DnAt K w H a xs ∧ RpN K w H kvs xs
  | .dt d e kvs, v => ∃ q u t a xs, v = .ref q ∧ TupAt K w H q [u, t, .ref a] ∧ Rp K w H d u ∧ Rp K w H e t ∧ DnAt K w H a xs ∧ RpN K w H kvs xs
theorem RpS.mono (g : Ge w H w' H') : ∀ {d : S1} {v : V}, RpS K w H d v → RpS K w' H' d v
  | .v _, _, h => Rp.mono g h
  | .l _, _, ⟨a, e, h⟩ => ⟨a, e, g.get h⟩
  | .p _ _, _, ⟨q, u, b, e, t, r, h⟩ => ⟨q, u, b, e, t.mono g, Rp.mono g r, g.get h⟩
  | .dd _, _, ⟨a, xs, e, h, r⟩ => ⟨a, xs, e, h.mono g, RpN.mono g r⟩
  | .dt _ _ _, _, ⟨q, u, t, a, xs, e, ht, r1, r2, h, r⟩ => ⟨q, u, t, a, xs, e, ht.mono g, Rp.mono g r1, Rp.mono g r2, h.mono g, RpN.mono g r⟩
def CellIn (K : W.Frag) (w : Wd) (H : Hp) (c : Addr) (s : S1) : Prop := ∃ o u v, H c = some (.frz o (.own 0)) ∧ c ∉ w.bn ∧ o.data = .cell (some u) ∧ RelV v u ∧ RpS K w H s v
structure CellsIn (K : W.Frag) (w : Wd) (H : Hp) (cl : List (Str × Addr)) (fr : List Str) (cs : List S1) : Prop where
  all : ∀ p ∈ cl, ∃ o u, H p.2 = some (.frz o (.own 0)) ∧ p.2 ∉ w.bn ∧ o.data = .cell u
  inj : ∀ x y c, cl.lookup x = some c → cl.lookup y = some c → x = y
  len : cs.length = fr.length
  has : ∀ (i : Nat) (y : Str) (s : S1), fr[i]? = some y → cs[i]? = some s → ∃ c, cl.lookup y = some c ∧ CellIn K w H c s
theorem CellIn.mono (g : Ge w H w' H') {c : Addr} {s : S1} (h : CellIn K w H c s) : CellIn K w' H' c s :=
  let ⟨o, u, v, e, n, d, r, q⟩ := h; ⟨o, u, v, g.keep _ _ (fun _ z => by cases z) (Wd.nr n) e, g.notin e n, d, r, RpS.mono g q⟩
theorem CellsIn.mono (g : Ge w H w' H') {cl : List (Str × Addr)} {fr : List Str} {cs : List S1} (h : CellsIn K w H cl fr cs) : CellsIn K w' H' cl fr cs :=
  ⟨fun p hp => let ⟨o, u, e, n, d⟩ := h.all p hp; ⟨o, u, g.keep _ _ (fun _ z => by cases z) (Wd.nr n) e, g.notin e n, d⟩, h.inj, h.len, fun i y s e1 e2 => let ⟨c, e, r⟩ := h.has i y s e1 e2; ⟨c, e, r.mono g⟩⟩
def CloAt (K : W.Frag) (w : Wd) (H : Hp) (n : Str) (cs : List S1) (f : Addr) : Prop :=
  ∃ st nm q fr c cl, Nm.nf n = some (st, nm, q, fr) ∧ H f = some (NdefX.FnO f (NdefX.NF.of st nm q cl c)) ∧ f ∉ w.bn ∧ H c = some (LamX.CodeO c q) ∧ c ∉ w.bn ∧ CellsIn K w H cl fr cs
theorem CloAt.mono (g : Ge w H w' H') {n : Str} {cs : List S1} {f : Addr} (h : CloAt K w H n cs f) : CloAt K w' H' n cs f :=
  let ⟨st, nm, q, fr, c, cl, e, h1, n1, h2, n2, h3⟩ := h
  ⟨st, nm, q, fr, c, cl, e, g.keep _ _ NdefX.fnO_ne (Wd.nr n1) h1, g.notin h1 n1, g.keep _ _ LamX.codeO_ne (Wd.nr n2) h2, g.notin h2 n2, h3.mono g⟩
inductive RpK (K : W.Frag) (w : Wd) (H : Hp) {κ : Type} : List (κ × PyData) → List (κ × V) → Prop where
  | nil : RpK K w H [] []
  | cons {k : κ} {d : PyData} {ds : List (κ × PyData)} {v : V} {vs : List (κ × V)} : Rp K w H d v → RpK K w H ds vs → RpK K w H ((k, d) :: ds) ((k, v) :: vs)
theorem RpK.mono {K : W.Frag} {w w' : Wd} {H H' : Hp} (g : Ge w H w' H') {κ : Type} : ∀ {ds : List (κ × PyData)} {vs : List (κ × V)}, RpK K w H ds vs → RpK K w' H' ds vs
  | _, _, .nil => .nil
  | _, _, .cons r s => .cons (r.mono g) (RpK.mono g s)

def DkAt (w : Wd) (H : Hp) (a : Addr) (vs : List (Key × V)) : Prop := (∃ od, H a = some (.frz od (.dK vs))) ∧ a ∉ w.bn
theorem DkAt.mono {w w' : Wd} {H H' : Hp} (g : Ge w H w' H') {a : Addr} {vs : List (Key × V)} (h : DkAt w H a vs) : DkAt w' H' a vs := let ⟨⟨od, e⟩, n⟩ := h; ⟨⟨od, g.keep _ _ (fun _ z => by cases z) (Wd.nr n) e⟩, g.notin e n⟩
def RpD (K : W.Frag) (w : Wd) (H : Hp) : D → V → Prop
  | .val p, v => Rp K w H p v
  | .loc n, v => ∃ a, v = .ref a ∧ w.rho[n]? = some a
  | .cst u, v => u = v
  | .frz xs, v => ∃ a vs, v = .ref a ∧ FzAt K w H a vs ∧ Rps K w H xs vs
  | .err, v => Gd.xv v
  | .fn n, v => v = .ref (Nm.cl n)
  | .pr x y, v => ∃ a u t, v = .ref a ∧ TupAt K w H a [u, t] ∧ RpS K w H x u ∧ RpS K w H y t
  | .tr x y z, v => ∃ a u t s, v = .ref a ∧ TupAt K w H a [u, t, s] ∧ RpS K w H x u ∧ RpS K w H y t ∧ RpS K w H z s
  | .dv kvs, v => ∃ a xs, v = .ref a ∧ DnAt K w H a xs ∧ RpN K w H kvs xs
  | .clo n cs, v => ∃ f, v = .ref f ∧ CloAt K w H n cs f
  | .dkv kvs, v => ∃ a vs, v = .ref a ∧ DkAt w H a vs ∧ RpK K w H kvs vs
theorem RpD.mono (g : Ge w H w' H') : ∀ {d : D} {v : V}, RpD K w H d v → RpD K w' H' d v
  | .val _, _, h => Rp.mono g h
  | .loc _, _, ⟨a, e, h⟩ => ⟨a, e, g.get h⟩
  | .cst _, _, h => h
  | .frz _, _, ⟨a, vs, e, h, r⟩ => ⟨a, vs, e, h.mono g, Rps.mono g r⟩
  | .err, _, h => h
  | .fn _, _, h => h
  | .pr _ _, _, ⟨a, u, t, e, h, r1, r2⟩ => ⟨a, u, t, e, h.mono g, RpS.mono g r1, RpS.mono g r2⟩
  | .tr _ _ _, _, ⟨a, u, t, s, e, h, r1, r2, r3⟩ => ⟨a, u, t, s, e, h.mono g, RpS.mono g r1, RpS.mono g r2, RpS.mono g r3⟩
  | .dv _, _, ⟨a, xs, e, h, r⟩ => ⟨a, xs, e, h.mono g, RpN.mono g r⟩
  | .clo _ _, _, ⟨f, e, h⟩ => ⟨f, e, h.mono g⟩
  | .dkv _, _, ⟨a, vs, e, h, r⟩ => ⟨a, vs, e, h.mono g, RpK.mono g r⟩
inductive RpDs (K : W.Frag) (w : Wd) (H : Hp) : List D → List V → Prop where
  | nil : RpDs K w H [] []
  | cons {d : D} {ds : List D} {v : V} {vs : List V} : RpD K w H d v → RpDs K w H ds vs → RpDs K w H (d :: ds) (v :: vs)
theorem RpDs.mono (g : Ge w H w' H') : ∀ {ds : List D} {vs : List V}, RpDs K w H ds vs → RpDs K w' H' ds vs
  | _, _, .nil => .nil
  | _, _, .cons r s => .cons (r.mono g) (RpDs.mono g s)
theorem RpDs.length : ∀ {ds : List D} {vs : List V}, RpDs K w H ds vs → ds.length = vs.length
  | _, _, .nil => rfl
  | _, _, .cons _ s => by rw [List.length_cons, List.length_cons, RpDs.length s]
end

def RpF (K : W.Frag) (w : Wd) (H : Hp) (fs : List (Str × D)) (gs : List (Str × V)) : Prop :=
  fs.map (·.1) = gs.map (·.1) ∧ ∀ x, (∀ d, fs.lookup x = some d → ∃ v, gs.lookup x = some v ∧ RpD K w H d v) ∧ (fs.lookup x = none → gs.lookup x = none)
inductive RpSs (K : W.Frag) (w : Wd) (H : Hp) : List S1 → List V → Prop where
  | nil : RpSs K w H [] []
  | cons {d : S1} {ds : List S1} {v : V} {vs : List V} : RpS K w H d v → RpSs K w H ds vs → RpSs K w H (d :: ds) (v :: vs)
theorem RpSs.mono {K : W.Frag} {w w' : Wd} {H H' : Hp} (g : Ge w H w' H') : ∀ {ds : List S1} {vs : List V}, RpSs K w H ds vs → RpSs K w' H' ds vs
  | _, _, .nil => .nil
  | _, _, .cons r s => .cons (r.mono g) (RpSs.mono g s)
inductive RpKS (K : W.Frag) (w : Wd) (H : Hp) {κ : Type} : List (κ × S1) → List (κ × V) → Prop where
  | nil : RpKS K w H [] []
  | cons {k : κ} {d : S1} {ds : List (κ × S1)} {v : V} {vs : List (κ × V)} : RpS K w H d v → RpKS K w H ds vs → RpKS K w H ((k, d) :: ds) ((k, v) :: vs)
theorem RpKS.mono {K : W.Frag} {w w' : Wd} {H H' : Hp} (g : Ge w H w' H') {κ : Type} : ∀ {ds : List (κ × S1)} {vs : List (κ × V)}, RpKS K w H ds vs → RpKS K w' H' ds vs
  | _, _, .nil => .nil
  | _, _, .cons r s => .cons (r.mono g) (RpKS.mono g s)

mutual
/-- the key that data is, a bool as its number -/
def nkb : PyData → Option NestedKey
  | .none => some .none
  | .int i => some (.num i)
  | .str x => some (.text x)
  | .tuple xs => (nkbs xs).map .tup
  | .bool b => some (.num (if b = true then 1 else 0))
  | .list _ => none
  | .dict _ => none
def nkbs : List PyData → Option (List NestedKey)
  | [] => some []
  | x :: r => (nkb x).bind fun k => (nkbs r).map (k :: ·)
end
inductive RpM (K : W.Frag) (w : Wd) (H : Hp) : List (NestedKey × S1) → List (NestedKey × Addr × Value) → Prop where
  | nil : RpM K w H [] []
  | cons {k : NestedKey} {kd : PyData} {d : S1} {b : Addr} {v : V} {u : Value} {ds : List (NestedKey × S1)} {xs : List (NestedKey × Addr × Value)} : nkb kd = some k → Rp K w H kd (.ref b) → k.depth ≤ 8 → RpS K w H d v → RelV v u → RpM K w H ds xs → RpM K w H ((k, d) :: ds) ((k, b, u) :: xs)
theorem RpM.mono {K : W.Frag} {w w' : Wd} {H H' : Hp} (g : Ge w H w' H') : ∀ {ds : List (NestedKey × S1)} {xs : List (NestedKey × Addr × Value)}, RpM K w H ds xs → RpM K w' H' ds xs
  | _, _, .nil => .nil
  | _, _, .cons e r d q v s => .cons e (r.mono g) d (q.mono g) v (RpM.mono g s)
def ObjRel (K : W.Frag) (w : Wd) (H : Hp) (a : Addr) : O → Prop
  | .lst xs => ∃ vs, H a = some (.lst vs) ∧ Rps K w H xs vs
  | .dk kvs => ∃ vs, H a = some (.dK vs) ∧ RpK K w H kvs vs
  | .dt kvs => ∃ vs, H a = some (.dT vs) ∧ RpK K w H kvs vs
  | .ins C fs => ∃ dx gs, H a = some (.ins (Nm.cl C) dx gs) ∧ RpF K w H fs gs
  | .lr xs => ∃ vs, H a = some (.lst vs) ∧ RpSs K w H xs vs
  | .dr kvs => ∃ vs, H a = some (.dK vs) ∧ RpKS K w H kvs vs
  | .dn kvs => ∃ xs, H a = some (rawN Nm.wl a xs) ∧ RpN K w H kvs xs
  | .dm kvs => ∃ xs, H a = some (rawN Nm.wl a xs) ∧ RpM K w H kvs xs
  | .dz kvs => ∃ xs, (∃ od, H a = some (.frz od (rawN Nm.wl a xs))) ∧ RpN K w H kvs xs
  | .dkz kvs => ∃ vs, (∃ od, H a = some (.frz od (.dK vs))) ∧ RpK K w H kvs vs

structure Acc (a : Addr) (o : HO) : Prop where
  nt : NoT o
  nc : ∀ q, o ≠ LamX.CodeO a q
structure RelSt (K : W.Frag) (w : Wd) (H : Hp) (st : Store) : Prop where
  len : st.length = w.rho.length
  nd : w.rho.Nodup
  trk : ∀ a ∈ w.ext, ∃ o, H a = some o ∧ Acc a o
  nde : ∀ a ∈ w.rho, a ∉ w.ext
  obj : ∀ (n : Nat) (o : O) (a : Addr), st[n]? = some o → w.rho[n]? = some a → ObjRel K w H a o
  tab : LamX.Tabs Nm.tb H
  inv : Gd.G w H

structure RelEnv (K : W.Frag) (w : Wd) (H : Hp) (env : List (Option D)) (σ : St) : Prop where
  len : env.length = σ.length
  get : ∀ (i : Nat) (d : D), env[i]? = some (some d) → ∃ v, σ[i]? = some (some v) ∧ RpD K w H d v
theorem RelEnv.mono {K : W.Frag} {w w' : Wd} {H H' : Hp} (g : Ge w H w' H') {env : List (Option D)} {σ : St} (h : RelEnv K w H env σ) : RelEnv K w' H' env σ :=
  ⟨h.len, fun i d e => let ⟨v, e1, r⟩ := h.get i d e; ⟨v, e1, r.mono g⟩⟩
theorem RelEnv.set {K : W.Frag} {w : Wd} {H : Hp} {env : List (Option D)} {σ : St} (h : RelEnv K w H env σ) (i : Nat) {d : D} {v : V} (r : RpD K w H d v) : RelEnv K w H (env.set i (some d)) (σ.set i (some v)) := by
  refine ⟨by simp [h.len], fun j c e => ?_⟩
  by_cases hj : j = i
  · subst hj
    have hl : j < env.length := by
      have := (List.getElem?_eq_some_iff.mp e).1
      simpa using this
    rw [List.getElem?_set_self hl] at e
    cases e
    exact ⟨v, by rw [List.getElem?_set_self (by rw [← h.len]; exact hl)], r⟩
  · rw [List.getElem?_set_ne (Ne.symm hj)] at e ⊢
    exact h.get j c e
theorem RelEnv.kill {K : W.Frag} {w : Wd} {H : Hp} {env : List (Option D)} {σ : St} (h : RelEnv K w H env σ) (i : Nat) : RelEnv K w H (env.set i none) σ := by
  refine ⟨by simp [h.len], fun j c e => ?_⟩
  by_cases hj : j = i
  · subst hj
    have hl : j < env.length := by
      have := (List.getElem?_eq_some_iff.mp e).1
      simpa using this
    rw [List.getElem?_set_self hl] at e
    cases e
  · rw [List.getElem?_set_ne (Ne.symm hj)] at e
    exact h.get j c e
def kill (is : List Nat) (env : List (Option D)) : List (Option D) := is.foldl (fun e i => e.set i none) env
theorem RelEnv.kills {K : W.Frag} {w : Wd} {H : Hp} {σ : St} : ∀ (is : List Nat) {env : List (Option D)}, RelEnv K w H env σ → RelEnv K w H (B.kill is env) σ
  | [], _, h => h
  | i :: is, _, h => RelEnv.kills is (RelEnv.kill h i)

def RelX (K : W.Frag) (w : Wd) (H : Hp) : Ex → Value → Option Addr → Prop
  | .own C fs, c, dx => c = .ref (Nm.cl C) ∧ ∃ d gs, dx = some d ∧ H d = some (.xd gs) ∧ d ∉ w.bn ∧ RpF K w H fs gs

def Post {α β : Type} (K : W.Frag) (E : XK) (R : Wd → Hp → α → β → Prop) (w : Wd) (H : Hp) (r : Res α) (Q : β → Hp → Prop) : Prop :=
  match r with
  | .ok a st' => ∀ w' H' b, Ge w H w' H' → RelSt K w' H' st' → R w' H' a b → Q b H'
  | .exc e st' => ∀ w' H' c dx, Ge w H w' H' → RelSt K w' H' st' → RelX K w' H' e c dx → E c dx H'
  | .bad => False
theorem Post.mono {α β : Type} {K : W.Frag} {E : XK} {R : Wd → Hp → α → β → Prop} {w w' : Wd} {H H' : Hp} {r : Res α} {Q : β → Hp → Prop} (g : Ge w H w' H') (h : Post K E R w H r Q) : Post K E R w' H' r Q := by
  cases r with
  | ok a st => exact fun r1 H1 b g1 s1 q1 => h r1 H1 b (g.trans g1) s1 q1
  | exc e st => exact fun r1 H1 c dx g1 s1 q1 => h r1 H1 c dx (g.trans g1) s1 q1
  | bad => exact h

abbrev Env := List (Option D)
def Rf {α β : Type} (K : W.Frag) (E : XK) (R : Wd → Hp → α → β → Prop) (t : St → Hp → (β → Hp → Prop) → Prop) (f : Env → M α) : Prop :=
  ∀ w σ H env st Q, RelSt K w H st → RelEnv K w H env σ → Post K E R w H (f env st) Q → t σ H Q

theorem Rf.bind {α β α' β' : Type} {K : W.Frag} {E : XK} {R : Wd → Hp → α → β → Prop} {R' : Wd → Hp → α' → β' → Prop} {t : St → Hp → (β → Hp → Prop) → Prop} {f : Env → M α} {u : β → St → Hp → (β' → Hp → Prop) → Prop} {g : α → Env → M α'}
    (h : Rf K E R t f) (k : ∀ w σ H env st a b Q, RelSt K w H st → RelEnv K w H env σ → R w H a b → Post K E R' w H (g a env st) Q → u b σ H Q) :
    Rf K E R' (fun σ H Q => t σ H fun b H1 => u b σ H1 Q) (fun env => bd (f env) fun a => g a env) := by
  intro w σ H env st Q hs he hp
  refine h w σ H env st _ hs he ?_
  replace hp : Post K E R' w H (bd (f env) (fun a => g a env) st) Q := hp
  cases hf : f env st with
  | ok a st' =>
    rw [bd_ok hf] at hp
    exact fun r1 H1 b g1 s1 q1 => k r1 σ H1 env st' a b Q s1 (he.mono g1) q1 (hp.mono g1)
  | exc e st' =>
    rw [bd_exc hf] at hp
    exact hp
  | bad =>
    rw [bd_bad hf] at hp
    exact hp

abbrev RE (K : W.Frag) : Wd → Hp → D → V → Prop := RpD K
abbrev RA (K : W.Frag) : Wd → Hp → List D → List V → Prop := RpDs K
abbrev RB : Wd → Hp → Bool → Bool → Prop := fun _ _ a b => a = b

structure SE (X : Cx) (E : XK) (e : Expr) (t : TE) (f : Env → M D) : Prop where
  pe : PE X e t
  rf : Rf X.K E (RE X.K) t f
structure SA (X : Cx) (E : XK) (es : List Expr) (t : TA) (f : Env → M (List D)) : Prop where
  pa : PA X es t
  rf : Rf X.K E (RA X.K) t f
structure ST (X : Cx) (E : XK) (e : Expr) (t : TT) (f : Env → M Bool) : Prop where
  pt : PT X e t
  rf : Rf X.K E RB t f
structure SW (X : Cx) (E : XK) (e : Expr) (t : TT) (f : Env → M Bool) : Prop where
  pw : PW X e t
  rf : Rf X.K E RB t f
theorem SW.st {X : Cx} {E : XK} {e : Expr} {t : TT} {f : Env → M Bool} (h : SW X E e t f) : ST X E e t f := ⟨h.pw.pt, h.rf⟩

inductive Fl where
  | nx (env : Env) | rt (d : D) | bk (env : Env) | ct (env : Env)
def PostS (K : W.Frag) (E : XK) (w : Wd) (H : Hp) (r : Res Fl) (Z : Ends) : Prop :=
  match r with
  | .ok (.nx env) st' => ∀ w' H' σ', Ge w H w' H' → RelSt K w' H' st' → RelEnv K w' H' env σ' → Z.nx σ' H'
  | .ok (.rt d) st' => ∀ w' H' v, Ge w H w' H' → RelSt K w' H' st' → RpD K w' H' d v → Z.rt v H'
  | .ok (.bk env) st' => ∀ w' H' σ', Ge w H w' H' → RelSt K w' H' st' → RelEnv K w' H' env σ' → Z.bk σ' H'
  | .ok (.ct env) st' => ∀ w' H' σ', Ge w H w' H' → RelSt K w' H' st' → RelEnv K w' H' env σ' → Z.ct σ' H'
  | .exc e st' => ∀ w' H' c dx, Ge w H w' H' → RelSt K w' H' st' → RelX K w' H' e c dx → E c dx H'
  | .bad => False
theorem PostS.mono {K : W.Frag} {E : XK} {w w' : Wd} {H H' : Hp} {r : Res Fl} {Z : Ends} (g : Ge w H w' H') (h : PostS K E w H r Z) : PostS K E w' H' r Z := by
  cases r with
  | ok a st => cases a <;> exact fun r1 H1 b g1 s1 q1 => h r1 H1 b (g.trans g1) s1 q1
  | exc e st => exact fun r1 H1 c dx g1 s1 q1 => h r1 H1 c dx (g.trans g1) s1 q1
  | bad => exact h
def RfS (K : W.Frag) (E : XK) (t : TS) (f : Env → M Fl) : Prop :=
  ∀ w σ H env st Z, RelSt K w H st → RelEnv K w H env σ → PostS K E w H (f env st) Z → t Z σ H
structure SS (X : Cx) (E : XK) (s : Stmt) (t : TS) (f : Env → M Fl) : Prop where
  ps : PS X s t
  rf : RfS X.K E t f
structure SSs (X : Cx) (E : XK) (s : List Stmt) (t : TS) (f : Env → M Fl) : Prop where
  ps : PSs X s t
  rf : RfS X.K E t f
end B
namespace B
open PySem L2
variable [Nm] [Gd]

theorem Rf.step {α β α' β' : Type} {K : W.Frag} {E : XK} {R : Wd → Hp → α → β → Prop} {R' : Wd → Hp → α' → β' → Prop} {t : St → Hp → (β → Hp → Prop) → Prop} {f : Env → M α} (h : Rf K E R t f)
    {w : Wd} {σ : St} {H : Hp} {env : Env} {st : Store} {g : α → M α'} {Q : β' → Hp → Prop} {U : β → Hp → Prop} (hs : RelSt K w H st) (he : RelEnv K w H env σ) (hp : Post K E R' w H (bd (f env) g st) Q)
    (k : ∀ w' H' st' a b, Ge w H w' H' → RelSt K w' H' st' → RelEnv K w' H' env σ → R w' H' a b → Post K E R' w' H' (g a st') Q → U b H') : t σ H U := by
  refine h w σ H env st _ hs he ?_
  cases hf : f env st with
  | ok a st' =>
    rw [bd_ok hf] at hp
    exact fun r1 H1 b g1 s1 q1 => k r1 H1 st' a b g1 s1 (he.mono g1) q1 (hp.mono g1)
  | exc e st' => rw [bd_exc hf] at hp; exact hp
  | bad => rw [bd_bad hf] at hp; exact hp
theorem Rf.stepS {α β : Type} {K : W.Frag} {E : XK} {R : Wd → Hp → α → β → Prop} {t : St → Hp → (β → Hp → Prop) → Prop} {f : Env → M α} (h : Rf K E R t f)
    {w : Wd} {σ : St} {H : Hp} {env : Env} {st : Store} {g : α → M Fl} {Z : Ends} {U : β → Hp → Prop} (hs : RelSt K w H st) (he : RelEnv K w H env σ) (hp : PostS K E w H (bd (f env) g st) Z)
    (k : ∀ w' H' st' a b, Ge w H w' H' → RelSt K w' H' st' → RelEnv K w' H' env σ → R w' H' a b → PostS K E w' H' (g a st') Z → U b H') : t σ H U := by
  refine h w σ H env st _ hs he ?_
  cases hf : f env st with
  | ok a st' =>
    rw [bd_ok hf] at hp
    exact fun r1 H1 b g1 s1 q1 => k r1 H1 st' a b g1 s1 (he.mono g1) q1 (hp.mono g1)
  | exc e st' => rw [bd_exc hf] at hp; exact hp
  | bad => rw [bd_bad hf] at hp; exact hp
theorem Post.now {α β : Type} {K : W.Frag} {E : XK} {R : Wd → Hp → α → β → Prop} {w : Wd} {H : Hp} {a : α} {st : Store} {b : β} {Q : β → Hp → Prop} (hp : Post K E R w H (.ok a st) Q) (hs : RelSt K w H st) (r : R w H a b) : Q b H :=
  hp w H b (Ge.refl _ _) hs r

def gv (i : Nat) (env : Env) : M D := match env[i]? with
  | some (some d) => rt d
  | _ => bad
def cD (d : D) : Env → M D := fun _ => rt d
def aNil : Env → M (List D) := fun _ => rt []
def aCons (fa : Env → M D) (fr : Env → M (List D)) : Env → M (List D) := fun env => bd (fa env) fun x => bd (fr env) fun xs => rt (x :: xs)
section
variable {X : Cx} {E : XK} {a b c e : Expr} {ta tb tc : TE} {fa fb fc : Env → M D} {pos : Pos}
theorem rf_var {K : W.Frag} {i : Nat} : Rf K E (RE K) (tVar i) (gv i) := by
  intro w σ H env st Q hs he hp
  unfold gv at hp
  cases q : env[i]? with
  | none => rw [q] at hp; exact hp.elim
  | some o =>
    cases o with
    | none => rw [q] at hp; exact hp.elim
    | some d =>
      rw [q] at hp
      obtain ⟨v, ev, r⟩ := he.get i d q
      exact ⟨v, ev, Post.now hp hs r⟩
theorem se_var (i : Nat) {x : Str} (hN : X.N[i]? = some x := by rfl) (hv : Vis X.env.scope x := by first | exact Or.inl rfl | exact Or.inr (Or.inl rfl) | exact Or.inr (Or.inr rfl)) (hd : (x == ("__debug__" : Str)) = false := by decide)
    (hcd : (x == ("__classdict__" : Str)) = false := by decide) : SE X E (.Name x pos) (tVar i) (gv i) := ⟨pe_var hN hv hd hcd, rf_var⟩
theorem rf_const {K : W.Frag} {d : D} {v : V} (h : ∀ w H, RpD K w H d v) : Rf K E (RE K) (tC v) (cD d) := fun w σ H env st Q hs he hp => Post.now hp hs (h w H)
theorem se_int {i j} : SE X E (.Constant (.int i) j pos) (tC (.int i)) (cD (.val (.int i))) := ⟨pe_int, rf_const fun _ _ => .int i⟩
theorem se_bl {i j} : SE X E (.Constant (.bool i) j pos) (tC (.bl i)) (cD (.val (.bool i))) := ⟨pe_bl, rf_const fun _ _ => .bl i⟩
theorem se_str {i j} : SE X E (.Constant (.str i) j pos) (tC (.str i)) (cD (.val (.str i))) := ⟨pe_str, rf_const fun _ _ => .str i⟩
theorem se_non {j} : SE X E (.Constant .none j pos) (tC .non) (cD (.val .none)) := ⟨pe_non, rf_const fun _ _ => .non⟩
variable {es : List Expr} {tr : TA} {fr : Env → M (List D)}
theorem sa_nil : SA X E [] tNil aNil := ⟨pa_nil, fun w σ H env st Q hs he hp => Post.now hp hs .nil⟩
theorem sa_cons (ha : SE X E e ta fa) (hr : SA X E es tr fr) (hs : starEach (e :: es) X.env = (false, eval e X.env) :: starEach es X.env := by rfl) :
    SA X E (e :: es) (tCons ta tr) (aCons fa fr) := by
  refine ⟨pa_cons ha.pe hr.pa hs, fun w σ H env st Q s0 e0 hp => ?_⟩
  refine ha.rf.step s0 e0 hp fun r1 H1 st1 x v g1 s1 e1 q1 hp => ?_
  refine hr.rf.step s1 e1 hp fun r2 H2 st2 xs vs g2 s2 e2 q2 hp => ?_
  exact Post.now hp s2 (.cons (q1.mono g2) q2)
end
def vals : List D → Option (List PyData)
  | [] => some []
  | .val p :: r => (vals r).map (p :: ·)
  | _ :: _ => none
theorem RpDs.vals {K : W.Frag} {w : Wd} {H : Hp} : ∀ {ds : List D} {ps : List PyData} {vs : List V}, RpDs K w H ds vs → B.vals ds = some ps → Rps K w H ps vs
  | _, ps, _, .nil, e => by
    have : ps = [] := by simpa [B.vals] using e.symm
    subst this
    exact .nil
  | .val p :: r, ps, _, .cons h t, e => by
    cases q : B.vals r with
    | none => simp [B.vals, q] at e
    | some qs =>
      have : ps = p :: qs := by simpa [B.vals, q] using e.symm
      subst this
      exact .cons h (RpDs.vals t q)
  | .loc _ :: _, _, _, .cons _ _, e => by simp [B.vals] at e
  | .cst _ :: _, _, _, .cons _ _, e => by simp [B.vals] at e
  | .frz _ :: _, _, _, .cons _ _, e => by simp [B.vals] at e
  | .pr _ _ :: _, _, _, .cons _ _, e => by simp [B.vals] at e
  | .tr _ _ _ :: _, _, _, .cons _ _, e => by simp [B.vals] at e
  | .dv _ :: _, _, _, .cons _ _, e => by simp [B.vals] at e
  | .clo _ _ :: _, _, _, .cons _ _, e => by simp [B.vals] at e
  | .dkv _ :: _, _, _, .cons _ _, e => by simp [B.vals] at e
theorem Same.new {H : Hp} {p : Addr} {o : HO} (hp : H p = none) : Same H (upd H p o) := fun b u h => by rw [upd_ne (ne_of_none h hp)]; exact h
theorem Ge.new {w : Wd} {H : Hp} {p : Addr} {o : HO} (hp : H p = none) : Ge w H w (upd H p o) := .same (Same.new hp)
theorem RelSt.there {K : W.Frag} {w : Wd} {H : Hp} {st : Store} (hs : RelSt K w H st) {a : Addr} (h : a ∈ w.bn) : ∃ o, H a = some o := by
  rcases List.mem_append.mp h with h | h
  · obtain ⟨n, hn⟩ := List.getElem?_of_mem h
    have hl : n < st.length := by rw [hs.len]; exact (List.getElem?_eq_some_iff.mp hn).1
    have := hs.obj n st[n] a (by simp [hl]) hn
    cases q : st[n] with
    | lst xs => rw [q] at this; obtain ⟨vs, e, _⟩ := this; exact ⟨_, e⟩
    | dk xs => rw [q] at this; obtain ⟨vs, e, _⟩ := this; exact ⟨_, e⟩
    | dt xs => rw [q] at this; obtain ⟨vs, e, _⟩ := this; exact ⟨_, e⟩
    | ins C fs => rw [q] at this; obtain ⟨dx, vs, e, _⟩ := this; exact ⟨_, e⟩
    | lr xs => rw [q] at this; obtain ⟨vs, e, _⟩ := this; exact ⟨_, e⟩
    | dr xs => rw [q] at this; obtain ⟨vs, e, _⟩ := this; exact ⟨_, e⟩
    | dn xs => rw [q] at this; obtain ⟨vs, e, _⟩ := this; exact ⟨_, e⟩
    | dm xs => rw [q] at this; obtain ⟨vs, e, _⟩ := this; exact ⟨_, e⟩
    | dz xs => rw [q] at this; obtain ⟨vs, ⟨_, e⟩, _⟩ := this; exact ⟨_, e⟩
    | dkz xs => rw [q] at this; obtain ⟨vs, ⟨_, e⟩, _⟩ := this; exact ⟨_, e⟩
  · exact let ⟨o, e, _⟩ := hs.trk a h; ⟨o, e⟩
theorem RelSt.notin {K : W.Frag} {w : Wd} {H : Hp} {st : Store} (hs : RelSt K w H st) {p : Addr} (h : H p = none) : p ∉ w.bn := fun q => by
  obtain ⟨o, e⟩ := hs.there q
  rw [h] at e; cases e
theorem RpF.mono {K : W.Frag} {w w' : Wd} {H H' : Hp} (g : Ge w H w' H') {fs : List (Str × D)} {gs : List (Str × V)} (h : RpF K w H fs gs) : RpF K w' H' fs gs :=
  ⟨h.1, fun x => ⟨fun d e => let ⟨v, e1, r⟩ := (h.2 x).1 d e; ⟨v, e1, r.mono g⟩, (h.2 x).2⟩⟩
theorem ObjRel.mono {K : W.Frag} {w w' : Wd} {H H' : Hp} {a : Addr} {o : O} (g : Ge w H w' H') (ha : H' a = H a) (h : ObjRel K w H a o) : ObjRel K w' H' a o := by
  cases o with
  | lst xs => obtain ⟨vs, e, r⟩ := h; exact ⟨vs, ha.trans e, r.mono g⟩
  | dk xs => obtain ⟨vs, e, r⟩ := h; exact ⟨vs, ha.trans e, r.mono g⟩
  | dt xs => obtain ⟨vs, e, r⟩ := h; exact ⟨vs, ha.trans e, r.mono g⟩
  | ins C fs => obtain ⟨dx, vs, e, r⟩ := h; exact ⟨dx, vs, ha.trans e, r.mono g⟩
  | lr xs => obtain ⟨vs, e, r⟩ := h; exact ⟨vs, ha.trans e, r.mono g⟩
  | dr xs => obtain ⟨vs, e, r⟩ := h; exact ⟨vs, ha.trans e, r.mono g⟩
  | dn xs => obtain ⟨vs, e, r⟩ := h; exact ⟨vs, ha.trans e, r.mono g⟩
  | dm xs => obtain ⟨vs, e, r⟩ := h; exact ⟨vs, ha.trans e, r.mono g⟩
  | dz xs => obtain ⟨vs, ⟨od, e⟩, r⟩ := h; exact ⟨vs, ⟨od, ha.trans e⟩, r.mono g⟩
  | dkz xs => obtain ⟨vs, ⟨od, e⟩, r⟩ := h; exact ⟨vs, ⟨od, ha.trans e⟩, r.mono g⟩
theorem RelSt.same {K : W.Frag} {w : Wd} {H H' : Hp} {st : Store} (hs : RelSt K w H st) (s : Same H H') : RelSt K w H' st :=
  ⟨hs.len, hs.nd, fun a h => let ⟨o, e, x⟩ := hs.trk a h; ⟨o, s a o e, x⟩, hs.nde, fun n o a e1 e2 => by
    obtain ⟨u, hu⟩ := hs.there (List.mem_append_left _ (List.mem_of_getElem? e2))
    exact (hs.obj n o a e1 e2).mono (.same s) ((s a u hu).trans hu.symm), hs.tab.ext s, Gd.sb (Ge.sb (.same s)) hs.inv⟩
theorem heapAt : ∀ n : Nat, ∃ h : Heap, h.objs.size = n
  | 0 => ⟨{}, rfl⟩
  | n + 1 => by
    obtain ⟨h, e⟩ := heapAt n
    exact ⟨h.push { cls := .type "set", data := .fields #[] }, by rw [Heap.size_push, e]⟩
theorem rawN_code {wl : World} {a : Addr} {xs : List (NestedKey × Addr × Value)} (q : Str) : rawN wl a xs ≠ LamX.CodeO a q := by
  intro z
  obtain ⟨h, e⟩ := heapAt a
  have z := congrFun (HO.ext.inj z) (h.push { cls := .type "set", data := .fields #[.none, .str q 0] })
  have g : (h.push { cls := .type "set", data := .fields #[.none, .str q 0] }).get? a = some { cls := .type "set", data := .fields #[.none, .str q 0] } := by rw [← e]; exact Heap.get?_push_size _ rfl
  have y := z.mpr ⟨_, _, _, g, rfl, rfl⟩
  obtain ⟨_, _, _, o, es, ep, ho, _, hd, _⟩ := y
  rw [g] at ho
  cases ho
  cases hd
theorem RelSt.kind {K : W.Frag} {w : Wd} {H : Hp} {st : Store} (hs : RelSt K w H st) {a : Addr} (ha : a ∈ w.rho) : ∃ u, H a = some u ∧ NoT u ∧ ∀ q, u ≠ LamX.CodeO a q := by
  obtain ⟨n, hn⟩ := List.mem_iff_getElem?.mp ha
  have hl : n < st.length := by rw [hs.len]; exact (List.getElem?_eq_some_iff.mp hn).1
  have h := hs.obj n st[n] a (List.getElem?_eq_getElem hl) hn
  cases ho : st[n] with
  | lst xs => rw [ho] at h; obtain ⟨vs, e, _⟩ := h; exact ⟨_, e, (fun _ z => by cases z), (fun _ z => by cases z)⟩
  | dk xs => rw [ho] at h; obtain ⟨vs, e, _⟩ := h; exact ⟨_, e, (fun _ z => by cases z), (fun _ z => by cases z)⟩
  | dt xs => rw [ho] at h; obtain ⟨vs, e, _⟩ := h; exact ⟨_, e, (fun _ z => by cases z), (fun _ z => by cases z)⟩
  | ins C fs => rw [ho] at h; obtain ⟨dx, vs, e, _⟩ := h; exact ⟨_, e, (fun _ z => by cases z), (fun _ z => by cases z)⟩
  | lr xs => rw [ho] at h; obtain ⟨vs, e, _⟩ := h; exact ⟨_, e, (fun _ z => by cases z), (fun _ z => by cases z)⟩
  | dr xs => rw [ho] at h; obtain ⟨vs, e, _⟩ := h; exact ⟨_, e, (fun _ z => by cases z), (fun _ z => by cases z)⟩
  | dn xs => rw [ho] at h; obtain ⟨vs, e, _⟩ := h; exact ⟨_, e, (fun _ z => by cases z), rawN_code⟩
  | dm xs => rw [ho] at h; obtain ⟨vs, e, _⟩ := h; exact ⟨_, e, (fun _ z => by cases z), rawN_code⟩
  | dz xs => rw [ho] at h; obtain ⟨vs, ⟨_, e⟩, _⟩ := h; exact ⟨_, e, (fun _ z => by cases z), (fun _ z => by cases z)⟩
  | dkz xs => rw [ho] at h; obtain ⟨vs, ⟨_, e⟩, _⟩ := h; exact ⟨_, e, (fun _ z => by cases z), (fun _ z => by cases z)⟩
theorem tabs_upd {T : List (Addr × Str)} {H : Hp} {a : Addr} {u v : HO} (t : LamX.Tabs T H) (e : H a = some v) (n1 : NoT v) (n2 : ∀ q, v ≠ LamX.CodeO a q) : LamX.Tabs T (upd H a u) := fun p hp => by
  obtain ⟨ps, h1, h2, h3⟩ := t p hp
  refine ⟨ps, by rw [upd_ne (fun z => by rw [z, e] at h1; exact n1 _ (Option.some.inj h1))]; exact h1, h2, fun pos cv hc => ?_⟩
  obtain ⟨c, e1, e2⟩ := h3 pos cv hc
  exact ⟨c, e1, by rw [upd_ne (fun z => by rw [z, e] at e2; exact n2 _ (Option.some.inj e2))]; exact e2⟩
theorem RelSt.new {K : W.Frag} {w : Wd} {H : Hp} {st : Store} {p : Addr} {o : HO} (hs : RelSt K w H st) (hp : H p = none) : RelSt K w (upd H p o) st := hs.same (Same.new hp)
theorem RelSt.write {K : W.Frag} {w : Wd} {H : Hp} {st : Store} {n : Nat} {a : Addr} {o : O} {u : HO} (hs : RelSt K w H st) (ha : w.rho[n]? = some a) (ho : ObjRel K w (upd H a u) a o) (nf : ∀ od v, H a ≠ some (.frz od v)) : RelSt K w (upd H a u) (st.set n o) ∧ Ge w H w (upd H a u) := by
  have hm : a ∈ w.rho := List.mem_of_getElem? ha
  have g : Ge w H w (upd H a u) := ⟨⟨[], by simp, rfl, fun _ h => by simp at h⟩, fun b v _ nb h => by rw [upd_ne (fun z => nb (by rw [z]; exact hm))]; exact h, fun b v nb h => ⟨v, by rw [upd_ne (fun z => nb (by rw [z]; exact hm))]; exact h⟩, fun b od v h => by rw [upd_ne (fun z => nf od v (by rw [← z]; exact h))]; exact h⟩
  obtain ⟨u0, hu0, hu1, hu2⟩ := hs.kind hm
  refine ⟨⟨by simp [hs.len], hs.nd, fun b hb => ?_, hs.nde, fun m q b e1 e2 => ?_, tabs_upd hs.tab hu0 hu1 hu2, Gd.sb g.sb hs.inv⟩, g⟩
  · obtain ⟨v, e, x⟩ := hs.trk b hb
    exact ⟨v, by rw [upd_ne (show b ≠ a from fun z => hs.nde a hm (by rw [← z]; exact hb))]; exact e, x⟩
  by_cases hmn : m = n
  · subst hmn
    rw [ha] at e2; cases e2
    have hl : m < st.length := by rw [hs.len]; exact (List.getElem?_eq_some_iff.mp ha).1
    rw [List.getElem?_set_self hl] at e1
    cases e1
    exact ho
  · rw [List.getElem?_set_ne (Ne.symm hmn)] at e1
    have nb : b ≠ a := fun z => by
      subst z
      obtain ⟨h1, q1⟩ := List.getElem?_eq_some_iff.mp e2
      obtain ⟨h2, q2⟩ := List.getElem?_eq_some_iff.mp ha
      exact hmn ((List.getElem_inj hs.nd).mp (q1.trans q2.symm))
    exact (hs.obj m q b e1 e2).mono g (upd_ne nb)
abbrev Wd.add (w : Wd) (p : Addr) : Wd := ⟨w.rho ++ [p], w.ext⟩
theorem RelSt.push {K : W.Frag} {w : Wd} {H : Hp} {st : Store} {p : Addr} {o : O} {u : HO} (hs : RelSt K w H st) (hp : H p = none) (ho : ObjRel K (w.add p) (upd H p u) p o) : RelSt K (w.add p) (upd H p u) (st ++ [o]) ∧ Ge w H (w.add p) (upd H p u) := by
  have np := hs.notin hp
  have g : Ge w H (w.add p) (upd H p u) := ⟨⟨[p], rfl, rfl, fun q hq => by
    have : q = p := by simpa using hq
    subst this
    exact ⟨np, hp⟩⟩, fun b v _ nb h => by rw [upd_ne (ne_of_none h hp)]; exact h, fun b v nb h => ⟨v, by rw [upd_ne (ne_of_none h hp)]; exact h⟩, fun b od v h => by rw [upd_ne (ne_of_none h hp)]; exact h⟩
  refine ⟨⟨by simp [hs.len], ?_, fun b hb => ?_, fun b hb hb' => ?_, fun m q b e1 e2 => ?_, hs.tab.ext (Same.new hp), Gd.sb g.sb hs.inv⟩, g⟩
  · show (w.rho ++ [p]).Nodup
    rw [List.nodup_append]
    refine ⟨hs.nd, by simp, fun x hx y hy e => ?_⟩
    have : y = p := by simpa using hy
    subst this; subst e
    exact np (List.mem_append_left _ hx)
  · obtain ⟨v, e, x⟩ := hs.trk b hb
    exact ⟨v, by rw [upd_ne (ne_of_none e hp)]; exact e, x⟩
  · rcases List.mem_append.mp hb with z | z
    · exact hs.nde b z hb'
    · have : b = p := by simpa using z
      subst this
      exact np (List.mem_append_right _ hb')
  · by_cases hm : m < st.length
    · rw [List.getElem?_append_left hm] at e1
      rw [List.getElem?_append_left (by rw [← hs.len]; exact hm)] at e2
      obtain ⟨v, hw⟩ := hs.there (List.mem_append_left _ (List.mem_of_getElem? e2))
      exact (hs.obj m q b e1 e2).mono g (upd_ne (ne_of_none hw hp))
    · have hl : m < (st ++ [o]).length := (List.getElem?_eq_some_iff.mp e1).1
      have : m = st.length := by simp at hl; omega
      subst this
      rw [List.getElem?_append_right (Nat.le_refl _)] at e1
      rw [List.getElem?_append_right (by rw [hs.len]; exact Nat.le_refl _)] at e2
      simp at e1
      have e3 : p = b := by simpa [hs.len] using e2
      subst e1; subst e3
      exact ho
def tupD (ds : List D) : M D := match vals ds with
  | some ps => if ps.length ≤ sizeLine then rt (.val (.tuple ps)) else bad
  | none => bad
theorem Rp.newTup {K : W.Frag} {w : Wd} {H : Hp} {p : Addr} {ps : List PyData} {vs : List V} (np : p ∉ w.bn) (r : Rps K w H ps vs) (hp : H p = none) : Rp K w (upd H p (.tup vs)) (.tuple ps) (.ref p) :=
  .tup (.inl ⟨.inl upd_same, np⟩) (r.mono (.new hp))
theorem Rp.newLs {K : W.Frag} {w : Wd} {H : Hp} {p : Addr} {ps : List PyData} {vs : List V} (np : p ∉ w.bn) (r : Rps K w H ps vs) (hp : H p = none) : Rp K w (upd H p (.lst vs)) (.list ps) (.ref p) :=
  .ls ⟨upd_same, np⟩ (r.mono (.new hp))
def PostF (K : W.Frag) (E : XK) (w : Wd) (H : Hp) (r : Res (List PyData)) (Q : VK) : Prop :=
  match r with
  | .ok xs st' => ∀ w' H' p vs, Ge w H w' H' → RelSt K w' H' st' → H' p = none → Rps K w' H' xs vs → Q (.ref p) (upd H' p (.lst vs))
  | .exc e st' => ∀ w' H' c dx, Ge w H w' H' → RelSt K w' H' st' → RelX K w' H' e c dx → E c dx H'
  | .bad => False
theorem PostF.mono {K : W.Frag} {E : XK} {w w' : Wd} {H H' : Hp} {r : Res (List PyData)} {Q : VK} (g : Ge w H w' H') (h : PostF K E w H r Q) : PostF K E w' H' r Q := by
  cases r with
  | ok a st => exact fun r1 H1 p vs g1 s1 q1 => h r1 H1 p vs (g.trans g1) s1 q1
  | exc e st => exact fun r1 H1 c dx g1 s1 q1 => h r1 H1 c dx (g.trans g1) s1 q1
  | bad => exact h
def RfF (K : W.Frag) (E : XK) (t : TE) (f : Env → M (List PyData)) : Prop :=
  ∀ w σ H env st Q, RelSt K w H st → RelEnv K w H env σ → PostF K E w H (f env st) Q → t σ H Q
structure SF (X : Cx) (E : XK) (e : Expr) (t : TE) (f : Env → M (List PyData)) : Prop where
  pe : PE X e t
  rf : RfF X.K E t f
def asVal (f : Env → M (List PyData)) : Env → M D := fun env => bd (f env) fun xs => rt (.val (.list xs))
def newL (xs : List PyData) : M D := fun st => .ok (.loc st.length) (st ++ [.lst xs])
def asObj (f : Env → M (List PyData)) : Env → M D := fun env => bd (f env) newL
theorem rf_val {K : W.Frag} {E : XK} {t : TE} {f : Env → M (List PyData)} (h : RfF K E t f) : Rf K E (RE K) t (asVal f) := by
  intro w σ H env st Q s0 e0 hp
  refine h w σ H env st Q s0 e0 ?_
  unfold asVal at hp
  cases hf : f env st with
  | ok a st' =>
    rw [bd_ok hf] at hp
    exact fun r1 H1 p vs g1 s1 n1 q1 => hp r1 _ _ (g1.trans (.new n1)) (s1.new n1) (Rp.newLs (s1.notin n1) q1 n1)
  | exc e st' => rw [bd_exc hf] at hp; exact hp
  | bad => rw [bd_bad hf] at hp; exact hp
theorem rf_obj {K : W.Frag} {E : XK} {t : TE} {f : Env → M (List PyData)} (h : RfF K E t f) : Rf K E (RE K) t (asObj f) := by
  intro w σ H env st Q s0 e0 hp
  refine h w σ H env st Q s0 e0 ?_
  unfold asObj at hp
  cases hf : f env st with
  | ok a st' =>
    rw [bd_ok hf] at hp
    refine fun r1 H1 p vs g1 s1 n1 q1 => ?_
    have np := s1.notin n1
    have gg : Ge r1 H1 (r1.add p) (upd H1 p (.lst vs)) := ⟨⟨[p], rfl, rfl, fun q hq => by
        have : q = p := by simpa using hq
        subst this
        exact ⟨np, n1⟩⟩, fun b v _ nb h => by rw [upd_ne (ne_of_none h n1)]; exact h, fun b v nb h => ⟨v, by rw [upd_ne (ne_of_none h n1)]; exact h⟩, fun b od v h => by rw [upd_ne (ne_of_none h n1)]; exact h⟩
    obtain ⟨s2, g2⟩ := s1.push (o := .lst a) (u := .lst vs) n1 ⟨vs, upd_same, q1.mono gg⟩
    exact hp _ _ _ (g1.trans g2) s2 ⟨p, rfl, by rw [s1.len]; simp⟩
  | exc e st' => rw [bd_exc hf] at hp; exact hp
  | bad => rw [bd_bad hf] at hp; exact hp
theorem Rf.stepF {α β : Type} {K : W.Frag} {E : XK} {R : Wd → Hp → α → β → Prop} {t : St → Hp → (β → Hp → Prop) → Prop} {f : Env → M α} (h : Rf K E R t f)
    {w : Wd} {σ : St} {H : Hp} {env : Env} {st : Store} {g : α → M (List PyData)} {Q : VK} {U : β → Hp → Prop} (hs : RelSt K w H st) (he : RelEnv K w H env σ) (hp : PostF K E w H (bd (f env) g st) Q)
    (k : ∀ w' H' st' a b, Ge w H w' H' → RelSt K w' H' st' → RelEnv K w' H' env σ → R w' H' a b → PostF K E w' H' (g a st') Q → U b H') : t σ H U := by
  refine h w σ H env st _ hs he ?_
  cases hf : f env st with
  | ok a st' =>
    rw [bd_ok hf] at hp
    exact fun r1 H1 b g1 s1 q1 => k r1 H1 st' a b g1 s1 (he.mono g1) q1 (hp.mono g1)
  | exc e st' => rw [bd_exc hf] at hp; exact hp
  | bad => rw [bd_bad hf] at hp; exact hp
section
variable {X : Cx} {E : XK} {a b c e : Expr} {ta tb tc : TE} {fa fb fc : Env → M D} {pos : Pos} {es : List Expr} {tr : TA} {fr : Env → M (List D)} {tt tu : TT} {ft fu : Env → M Bool} {ff : Env → M (List PyData)}
theorem SF.v (h : SF X E e ta ff) : SE X E e ta (asVal ff) := ⟨h.pe, rf_val h.rf⟩
theorem SF.o (h : SF X E e ta ff) : SE X E e ta (asObj ff) := ⟨h.pe, rf_obj h.rf⟩
def tupE (fr : Env → M (List D)) : Env → M D := fun env => bd (fr env) tupD
theorem se_tup {x1} (h : SA X E es tr fr) : SE X E (.Tuple es x1 pos) (tTup tr) (tupE fr) := by
  refine ⟨pe_tup h.pa, fun w σ H env st Q s0 e0 hp => ?_⟩
  refine h.rf.step s0 e0 hp fun r1 H1 st1 ds vs g1 s1 e1 q1 hp => ?_
  unfold tupD at hp
  cases hv : vals ds with
  | none => rw [hv] at hp; exact hp.elim
  | some ps =>
    simp only [hv] at hp
    split at hp
    · rename_i hl
      have r := q1.vals hv
      refine ⟨by rw [← r.length]; exact hl, fun p hn => ?_⟩
      exact hp r1 _ _ (.new hn) (s1.new hn) (Rp.newTup (s1.notin hn) r hn)
    · exact hp.elim
def lstD (ds : List D) : M (List PyData) := match vals ds with
  | some ps => if ps.length ≤ sizeLine then rt ps else bad
  | none => bad
def lstE (fr : Env → M (List D)) : Env → M (List PyData) := fun env => bd (fr env) lstD
theorem sf_lst (h : SA X E es tr fr) : SF X E (.List es pos) (tLst tr) (lstE fr) := by
  refine ⟨pe_lst h.pa, fun w σ H env st Q s0 e0 hp => ?_⟩
  refine h.rf.stepF s0 e0 hp fun r1 H1 st1 ds vs g1 s1 e1 q1 hp => ?_
  unfold lstD at hp
  cases hv : vals ds with
  | none => rw [hv] at hp; exact hp.elim
  | some ps =>
    simp only [hv] at hp
    split at hp
    · rename_i hl
      have r := q1.vals hv
      exact ⟨by rw [← r.length]; exact hl, fun p hn => hp r1 _ p vs (Ge.refl _ _) s1 hn r⟩
    · exact hp.elim

def BOp (K : W.Frag) (E : XK) (r : R2) (g : D → D → M D) : Prop :=
  ∀ w H st dx dy x y Q, RelSt K w H st → RpD K w H dx x → RpD K w H dy y → Post K E (RE K) w H (g dx dy st) Q → r x y H Q
def op2 (g : D → D → M D) (fa fb : Env → M D) : Env → M D := fun env => bd (fa env) fun x => bd (fb env) fun y => g x y
theorem rf_op {K : W.Frag} {r : R2} {g : D → D → M D} (hB : BOp K E r g) (ha : Rf K E (RE K) ta fa) (hb : Rf K E (RE K) tb fb) : Rf K E (RE K) (tOp r ta tb) (op2 g fa fb) := by
  intro w σ H env st Q s0 e0 hp
  refine ha.step s0 e0 hp fun r1 H1 st1 x v g1 s1 e1 q1 hp => ?_
  refine hb.step s1 e1 hp fun r2 H2 st2 y u g2 s2 e2 q2 hp => ?_
  exact hB r2 H2 st2 x y v u Q s2 (q1.mono g2) q2 hp
theorem se_op {op : Operator} {r : R2} {g : D → D → M D} (ho : OpR X (binaryOp op) r) (hB : BOp X.K E r g) (ha : SE X E a ta fa) (hb : SE X E b tb fb) : SE X E (.BinOp a op b pos) (tOp r ta tb) (op2 g fa fb) :=
  ⟨pe_op ho ha.pe hb.pe, rf_op hB ha.rf hb.rf⟩
theorem se_cmp {op : CmpOp} {r : R2} {g : D → D → M D} (ho : OpR X (compareOp op) r) (hB : BOp X.K E r g) (ha : SE X E a ta fa) (hb : SE X E b tb fb) (hm : behindInMarks op b = false) : SE X E (.Compare a [op] [b] pos) (tOp r ta tb) (op2 g fa fb) :=
  ⟨pe_cmpR ho ha.pe hb.pe hm, rf_op hB ha.rf hb.rf⟩
def boolOf (d : D) : M Bool := match d with
  | .val (.bool b) => rt b
  | _ => bad
theorem Rp.boolOf {K : W.Frag} {w : Wd} {H : Hp} {d : D} {v : V} {st : Store} {b : Bool} {st' : Store} (r : RpD K w H d v) (h : B.boolOf d st = .ok b st') : v = .bl b ∧ st' = st := by
  cases d with
  | val p =>
    cases p with
    | bool c =>
      cases r
      simp [B.boolOf] at h
      exact ⟨by rw [h.1], h.2.symm⟩
    | _ => simp [B.boolOf] at h
  | _ => simp [B.boolOf] at h
theorem post_bool {α' β' : Type} {K : W.Frag} {w : Wd} {H : Hp} {d : D} {v : V} {st : Store} {R' : Wd → Hp → α' → β' → Prop} {g : Bool → M α'} {Q : β' → Hp → Prop} (r : RpD K w H d v) (h : Post K E R' w H (bd (B.boolOf d) g st) Q) : ∃ b, v = .bl b ∧ Post K E R' w H (g b st) Q := by
  cases d with
  | val p =>
    cases p with
    | bool c => cases r; exact ⟨c, rfl, h⟩
    | _ => exact h.elim
  | _ => exact h.elim
def tst (fa : Env → M D) : Env → M Bool := fun env => bd (fa env) boolOf
theorem st_cmp {op : CmpOp} {r : R2} {g : D → D → M D} (ho : OpR X (compareOp op) r) (hB : BOp X.K E r g) (ha : SE X E a ta fa) (hb : SE X E b tb fb) (hm : behindInMarks op b = false) : ST X E (.Compare a [op] [b] pos) (tTest (tOp r ta tb)) (tst (op2 g fa fb)) := by
  refine ⟨pt_cmpR ho ha.pe hb.pe hm, fun w σ H env st Q s0 e0 hp => ?_⟩
  refine (rf_op hB ha.rf hb.rf).step s0 e0 hp fun r1 H1 st1 d v g1 s1 e1 q1 hp => ?_
  obtain ⟨b, e, hp⟩ := post_bool (g := rt) q1 (show Post X.K E RB r1 H1 (bd (boolOf d) rt st1) Q by
    unfold bd
    cases q : boolOf d st1 <;> (rw [q] at hp; exact hp))
  exact ⟨b, e, Post.now hp s1 rfl⟩

def tru (d : D) : M Bool := fun st => match d with
  | .val .none => .ok false st
  | .val (.bool b) => .ok b st
  | .val (.int i) => .ok (i != 0) st
  | .val (.str y) => if y.length ≤ sizeLine then .ok ((y.length : Int) != 0) st else .bad
  | .val (.list xs) => .ok (!xs.isEmpty) st
  | .val (.tuple xs) => .ok (!xs.isEmpty) st
  | .loc n => match st[n]? with
    | some (.lst xs) => .ok (!xs.isEmpty) st
    | some (.dk xs) => .ok (!xs.isEmpty) st
    | _ => .bad
  | _ => .bad
theorem Rps.empty {K : W.Frag} {w : Wd} {H : Hp} {xs : List PyData} {vs : List V} (r : Rps K w H xs vs) : (!vs.isEmpty) = !xs.isEmpty := by cases r <;> rfl
theorem RpK.empty {K : W.Frag} {w : Wd} {H : Hp} {κ : Type} {xs : List (κ × PyData)} {vs : List (κ × V)} (r : RpK K w H xs vs) : (!vs.isEmpty) = !xs.isEmpty := by cases r <;> rfl
theorem RelSt.at {K : W.Frag} {w : Wd} {H : Hp} {st : Store} (hs : RelSt K w H st) {n : Nat} {o : O} {v : V} (h : st[n]? = some o) (r : RpD K w H (.loc n) v) : ∃ a, v = .ref a ∧ w.rho[n]? = some a ∧ ObjRel K w H a o := by
  obtain ⟨a, e, ha⟩ := r
  exact ⟨a, e, ha, hs.obj n o a h ha⟩
theorem tru_rel {K : W.Frag} {w : Wd} {H : Hp} {st st' : Store} {d : D} {v : V} {b : Bool} (hs : RelSt K w H st) (r : RpD K w H d v) (h : tru d st = .ok b st') : TruV K v H b ∧ st' = st := by
  cases d with
  | val p =>
    cases p with
    | none => cases r; simp [tru] at h; exact ⟨h.1.symm ▸ rfl, h.2.symm⟩
    | bool c => cases r; simp [tru] at h; exact ⟨h.1.symm ▸ rfl, h.2.symm⟩
    | int c => cases r; simp only [tru, Res.ok.injEq] at h; exact ⟨h.1.symm ▸ rfl, h.2.symm⟩
    | str c =>
      cases r
      simp only [tru] at h
      split at h
      · rename_i hl
        simp only [Res.ok.injEq] at h
        exact ⟨⟨hl, h.1.symm⟩, h.2.symm⟩
      · cases h
    | list xs =>
      simp only [tru, Res.ok.injEq] at h
      cases r with
      | ls l r => exact ⟨.inl ⟨_, l.sq, h.1.symm.trans r.empty.symm⟩, h.2.symm⟩
    | tuple xs =>
      simp only [tru, Res.ok.injEq] at h
      cases r with
      | tup l r => exact ⟨.inr (.inl ⟨_, l.sq, h.1.symm.trans r.empty.symm⟩), h.2.symm⟩
    | dict _ => simp [tru] at h
  | cst u => simp [tru] at h
  | err => simp [tru] at h
  | fn _ => simp [tru] at h
  | pr _ _ => simp [tru] at h
  | tr _ _ _ => simp [tru] at h
  | dv _ => simp [tru] at h
  | clo _ _ => simp [tru] at h
  | dkv _ => simp [tru] at h
  | frz u => simp [tru] at h
  | loc n =>
    simp only [tru] at h
    cases q : st[n]? with
    | none => rw [q] at h; cases h
    | some o =>
      rw [q] at h
      obtain ⟨a, rfl, _, ob⟩ := hs.at q r
      cases o with
      | lst xs =>
        simp only [Res.ok.injEq] at h
        obtain ⟨vs, e, r⟩ := ob
        exact ⟨.inl ⟨vs, SqL.of e, h.1.symm.trans r.empty.symm⟩, h.2.symm⟩
      | dk xs =>
        simp only [Res.ok.injEq] at h
        obtain ⟨vs, e, r⟩ := ob
        exact ⟨.inr (.inr ⟨vs, e, h.1.symm.trans r.empty.symm⟩), h.2.symm⟩
      | _ => cases h
theorem tru_noexc {d : D} {st st' : Store} {e : Ex} : tru d st ≠ .exc e st' := by
  unfold tru
  repeat' split
  all_goals (intro h; cases h)
theorem post_tru {α' β' : Type} {K : W.Frag} {w : Wd} {H : Hp} {d : D} {v : V} {st : Store} {R' : Wd → Hp → α' → β' → Prop} {g : Bool → M α'} {Q : β' → Hp → Prop} (hs : RelSt K w H st) (r : RpD K w H d v) (h : Post K E R' w H (bd (tru d) g st) Q) : ∃ b, TruV K v H b ∧ Post K E R' w H (g b st) Q := by
  cases q : tru d st with
  | ok b st' =>
    obtain ⟨t, e⟩ := tru_rel hs r q
    subst e
    rw [bd_ok q] at h
    exact ⟨b, t, h⟩
  | exc e st' => exact (tru_noexc q).elim
  | bad => rw [bd_bad q] at h; exact h.elim
def truT (fa : Env → M D) : Env → M Bool := fun env => bd (fa env) tru
theorem st_truth {K : W.Frag} (ha : SE X E a ta fa) (hK : X.K = K := by rfl) (he : ∀ whole, isTrue a X.env whole = (do let v ← whole; standAt a.pos; holding [v] (truthy v)) := by intro _; rfl) : ST X E a (fun σ H Q => ta σ H fun x H' => ∃ k, TruV K x H' k ∧ Q k H') (truT fa) := by
  subst hK
  refine ⟨pt_truth ha.pe he, fun w σ H env st Q s0 e0 hp => ?_⟩
  refine ha.rf.step s0 e0 hp fun r1 H1 st1 d v g1 s1 e1 q1 hp => ?_
  obtain ⟨b, t, hp⟩ := post_tru (g := rt) s1 q1 (show Post X.K E RB r1 H1 (bd (tru d) rt st1) Q by
    unfold bd
    cases q : tru d st1 <;> (rw [q] at hp; exact hp))
  exact ⟨b, t, Post.now hp s1 rfl⟩
def andT (f g : Env → M Bool) : Env → M Bool := fun env => bd (f env) fun b => if b = true then g env else rt false
def orT (f g : Env → M Bool) : Env → M Bool := fun env => bd (f env) fun b => if b = true then rt true else g env
def notT (f : Env → M Bool) : Env → M Bool := fun env => bd (f env) fun b => rt (!b)
variable {rest : List Expr}
theorem sw_and1 (ha : ST X E a tt ft) : SW X E (.BoolOp .And [a] pos) tt ft := ⟨pw_and1 ha.pt, ha.rf⟩
theorem sw_or1 (ha : ST X E a tt ft) : SW X E (.BoolOp .Or [a] pos) tt ft := ⟨pw_or1 ha.pt, ha.rf⟩
theorem sw_and (ha : ST X E a tt ft) (hb : SW X E (.BoolOp .And (b :: rest) pos) tu fu) : SW X E (.BoolOp .And (a :: b :: rest) pos) (tAnd tt tu) (andT ft fu) := by
  refine ⟨pw_and ha.pt hb.pw, fun w σ H env st Q s0 e0 hp => ?_⟩
  refine ha.rf.step s0 e0 hp fun r1 H1 st1 d v g1 s1 e1 q1 hp => ?_
  cases q1
  cases d with
  | true => exact hb.rf r1 σ H1 env st1 Q s1 e1 hp
  | false => exact Post.now hp s1 rfl
theorem sw_or (ha : ST X E a tt ft) (hb : SW X E (.BoolOp .Or (b :: rest) pos) tu fu) : SW X E (.BoolOp .Or (a :: b :: rest) pos) (tOr tt tu) (orT ft fu) := by
  refine ⟨pw_or ha.pt hb.pw, fun w σ H env st Q s0 e0 hp => ?_⟩
  refine ha.rf.step s0 e0 hp fun r1 H1 st1 d v g1 s1 e1 q1 hp => ?_
  cases q1
  cases d with
  | true => exact Post.now hp s1 rfl
  | false => exact hb.rf r1 σ H1 env st1 Q s1 e1 hp
theorem st_not (ha : ST X E a tt ft) : ST X E (.UnaryOp .Not a pos) (tNot tt) (notT ft) := by
  refine ⟨pt_not ha.pt, fun w σ H env st Q s0 e0 hp => ?_⟩
  refine ha.rf.step s0 e0 hp fun r1 H1 st1 d v g1 s1 e1 q1 hp => ?_
  cases q1
  exact Post.now hp s1 rfl
def ifV (f : Env → M Bool) (g h : Env → M D) : Env → M D := fun env => bd (f env) fun b => if b = true then g env else h env
theorem se_if {c : Expr} (hc : ST X E c tt ft) (ha : SE X E a ta fa) (hb : SE X E b tb fb) : SE X E (.IfExp c a b pos) (tIf tt ta tb) (ifV ft fa fb) := by
  refine ⟨pe_ifExp hc.pt ha.pe hb.pe, fun w σ H env st Q s0 e0 hp => ?_⟩
  refine hc.rf.step s0 e0 hp fun r1 H1 st1 d v g1 s1 e1 q1 hp => ?_
  cases q1
  cases d with
  | true => exact ha.rf r1 σ H1 env st1 Q s1 e1 hp
  | false => exact hb.rf r1 σ H1 env st1 Q s1 e1 hp
end
end B
namespace B
open PySem L2
variable [Nm] [Gd]

structure Mo (w : Wd) (H : Hp) (w' : Wd) (H' : Hp) : Prop where
  sub : Sb w H w' H'
  get : ∀ (n : Nat) (a : Addr), w.rho[n]? = some a → w'.rho[n]? = some a
theorem Ge.mo {w w' : Wd} {H H' : Hp} (g : Ge w H w' H') : Mo w H w' H' := ⟨g.sb, fun _ _ h => g.get h⟩
theorem Mo.trans {w0 w1 w2 : Wd} {H0 H1 H2 : Hp} (g : Mo w0 H0 w1 H1) (k : Mo w1 H1 w2 H2) : Mo w0 H0 w2 H2 := ⟨g.sub.trans k.sub, fun n a h => k.get n a (g.get n a h)⟩
section
variable {K : W.Frag} {w w' : Wd} {H H' : Hp}
theorem TupAt.mo (g : Mo w H w' H') {a : Addr} {vs : List V} (h : TupAt K w H a vs) : TupAt K w' H' a vs := by
  rcases h with ⟨h | ⟨o, h⟩, n⟩ | h
  · exact .inl ⟨.inl (g.sub _ _ (fun _ z => by cases z) n h).2, (g.sub _ _ (fun _ z => by cases z) n h).1⟩
  · exact .inl ⟨.inr ⟨o, (g.sub _ _ (fun _ z => by cases z) n h).2⟩, (g.sub _ _ (fun _ z => by cases z) n h).1⟩
  · exact .inr h
theorem LsAt.mo (g : Mo w H w' H') {a : Addr} {vs : List V} (h : LsAt K w H a vs) : LsAt K w' H' a vs := let ⟨n, e⟩ := g.sub _ _ (fun _ z => by cases z) h.2 h.1; ⟨e, n⟩
theorem FzAt.mo (g : Mo w H w' H') {a : Addr} {vs : List V} (h : FzAt K w H a vs) : FzAt K w' H' a vs := by
  rcases h with ⟨⟨o, h⟩, n⟩ | h
  · exact .inl ⟨⟨o, (g.sub _ _ (fun _ z => by cases z) n h).2⟩, (g.sub _ _ (fun _ z => by cases z) n h).1⟩
  · exact .inr h
mutual
theorem Rp.mo (g : Mo w H w' H') : ∀ {d : PyData} {v : V}, Rp K w H d v → Rp K w' H' d v
  | _, _, .non => .non
  | _, _, .bl b => .bl b
  | _, _, .int i => .int i
  | _, _, .str x => .str x
  | _, _, .tup h r => .tup (h.mo g) (Rps.mo g r)
  | _, _, .ls h r => .ls (h.mo g) (Rps.mo g r)
theorem Rps.mo (g : Mo w H w' H') : ∀ {ds : List PyData} {vs : List V}, Rps K w H ds vs → Rps K w' H' ds vs
  | _, _, .nil => .nil
  | _, _, .cons r s => .cons (Rp.mo g r) (Rps.mo g s)
end
theorem RpN.mo (g : Mo w H w' H') : ∀ {ds : List (NestedKey × PyData)} {xs : List (NestedKey × Addr × Value)}, RpN K w H ds xs → RpN K w' H' ds xs
  | _, _, .nil => .nil
  | _, _, .cons r d q v s => .cons (r.mo g) d (q.mo g) v (RpN.mo g s)
theorem DnAt.mo (g : Mo w H w' H') {a : Addr} {xs : List (NestedKey × Addr × Value)} (h : DnAt K w H a xs) : DnAt K w' H' a xs := let ⟨⟨od, e⟩, n⟩ := h; let ⟨n, e⟩ := g.sub _ _ (fun _ z => by cases z) n e; ⟨⟨od, e⟩, n⟩
theorem RpS.mo (g : Mo w H w' H') : ∀ {d : S1} {v : V}, RpS K w H d v → RpS K w' H' d v
  | .v _, _, h => Rp.mo g h
  | .l _, _, ⟨a, e, h⟩ => ⟨a, e, g.get _ _ h⟩
  | .p _ _, _, ⟨q, u, b, e, t, r, h⟩ => ⟨q, u, b, e, t.mo g, Rp.mo g r, g.get _ _ h⟩
  | .dd _, _, ⟨a, xs, e, h, r⟩ => ⟨a, xs, e, h.mo g, RpN.mo g r⟩
  | .dt _ _ _, _, ⟨q, u, t, a, xs, e, ht, r1, r2, h, r⟩ => ⟨q, u, t, a, xs, e, ht.mo g, Rp.mo g r1, Rp.mo g r2, h.mo g, RpN.mo g r⟩
theorem CellIn.mo (g : Mo w H w' H') {c : Addr} {s : S1} (h : CellIn K w H c s) : CellIn K w' H' c s :=
  let ⟨o, u, v, e, n, d, r, q⟩ := h; let ⟨n', e'⟩ := g.sub _ _ (fun _ z => by cases z) n e; ⟨o, u, v, e', n', d, r, RpS.mo g q⟩
theorem CloAt.mo (g : Mo w H w' H') {n : Str} {cs : List S1} {f : Addr} (h : CloAt K w H n cs f) : CloAt K w' H' n cs f := by
  obtain ⟨st, nm, q, fr, c, cl, e, h1, n1, h2, n2, h3⟩ := h
  obtain ⟨m1, k1⟩ := g.sub _ _ NdefX.fnO_ne n1 h1
  obtain ⟨m2, k2⟩ := g.sub _ _ LamX.codeO_ne n2 h2
  exact ⟨st, nm, q, fr, c, cl, e, k1, m1, k2, m2, ⟨fun p hp => let ⟨o, u, e, n, d⟩ := h3.all p hp; let ⟨n', e'⟩ := g.sub _ _ (fun _ z => by cases z) n e; ⟨o, u, e', n', d⟩, h3.inj, h3.len, fun i y s e1 e2 => let ⟨c, e, r⟩ := h3.has i y s e1 e2; ⟨c, e, r.mo g⟩⟩⟩
theorem RpK.mo (g : Mo w H w' H') {κ : Type} : ∀ {ds : List (κ × PyData)} {vs : List (κ × V)}, RpK K w H ds vs → RpK K w' H' ds vs
  | _, _, .nil => .nil
  | _, _, .cons r s => .cons (r.mo g) (RpK.mo g s)
theorem DkAt.mo (g : Mo w H w' H') {a : Addr} {vs : List (Key × V)} (h : DkAt w H a vs) : DkAt w' H' a vs := let ⟨⟨od, e⟩, n⟩ := h; let ⟨n, e⟩ := g.sub _ _ (fun _ z => by cases z) n e; ⟨⟨od, e⟩, n⟩
theorem RpD.mo (g : Mo w H w' H') : ∀ {d : D} {v : V}, RpD K w H d v → RpD K w' H' d v
  | .val _, _, h => Rp.mo g h
  | .loc _, _, ⟨a, e, h⟩ => ⟨a, e, g.get _ _ h⟩
  | .cst _, _, h => h
  | .frz _, _, ⟨a, vs, e, h, r⟩ => ⟨a, vs, e, h.mo g, Rps.mo g r⟩
  | .err, _, h => h
  | .fn _, _, h => h
  | .pr _ _, _, ⟨a, u, t, e, h, r1, r2⟩ => ⟨a, u, t, e, h.mo g, RpS.mo g r1, RpS.mo g r2⟩
  | .tr _ _ _, _, ⟨a, u, t, s, e, h, r1, r2, r3⟩ => ⟨a, u, t, s, e, h.mo g, RpS.mo g r1, RpS.mo g r2, RpS.mo g r3⟩
  | .dv _, _, ⟨a, xs, e, h, r⟩ => ⟨a, xs, e, h.mo g, RpN.mo g r⟩
  | .clo _ _, _, ⟨f, e, h⟩ => ⟨f, e, h.mo g⟩
  | .dkv _, _, ⟨a, vs, e, h, r⟩ => ⟨a, vs, e, h.mo g, RpK.mo g r⟩
theorem RelEnv.mo (g : Mo w H w' H') {env : Env} {σ : St} (h : RelEnv K w H env σ) : RelEnv K w' H' env σ := ⟨h.len, fun i d e => let ⟨v, e1, r⟩ := h.get i d e; ⟨v, e1, r.mo g⟩⟩
theorem RpF.mo (g : Mo w H w' H') {fs : List (Str × D)} {gs : List (Str × V)} (h : RpF K w H fs gs) : RpF K w' H' fs gs :=
  ⟨h.1, fun x => ⟨fun d e => let ⟨v, e1, r⟩ := (h.2 x).1 d e; ⟨v, e1, r.mo g⟩, (h.2 x).2⟩⟩
theorem RpM.mo (g : Mo w H w' H') : ∀ {ds : List (NestedKey × S1)} {xs : List (NestedKey × Addr × Value)}, RpM K w H ds xs → RpM K w' H' ds xs
  | _, _, .nil => .nil
  | _, _, .cons e r d q v s => .cons e (r.mo g) d (q.mo g) v (RpM.mo g s)
theorem RpSs.mo (g : Mo w H w' H') : ∀ {ds : List S1} {vs : List V}, RpSs K w H ds vs → RpSs K w' H' ds vs
  | _, _, .nil => .nil
  | _, _, .cons r s => .cons (r.mo g) (RpSs.mo g s)
theorem RpKS.mo (g : Mo w H w' H') {κ : Type} : ∀ {ds : List (κ × S1)} {vs : List (κ × V)}, RpKS K w H ds vs → RpKS K w' H' ds vs
  | _, _, .nil => .nil
  | _, _, .cons r s => .cons (r.mo g) (RpKS.mo g s)
theorem ObjRel.mo {a : Addr} {o : O} (g : Mo w H w' H') (ha : H' a = H a) (h : ObjRel K w H a o) : ObjRel K w' H' a o := by
  cases o with
  | lst xs => obtain ⟨vs, e, r⟩ := h; exact ⟨vs, ha.trans e, r.mo g⟩
  | dk xs => obtain ⟨vs, e, r⟩ := h; exact ⟨vs, ha.trans e, r.mo g⟩
  | dt xs => obtain ⟨vs, e, r⟩ := h; exact ⟨vs, ha.trans e, r.mo g⟩
  | ins C fs => obtain ⟨dx, vs, e, r⟩ := h; exact ⟨dx, vs, ha.trans e, r.mo g⟩
  | lr xs => obtain ⟨vs, e, r⟩ := h; exact ⟨vs, ha.trans e, r.mo g⟩
  | dr xs => obtain ⟨vs, e, r⟩ := h; exact ⟨vs, ha.trans e, r.mo g⟩
  | dn xs => obtain ⟨vs, e, r⟩ := h; exact ⟨vs, ha.trans e, r.mo g⟩
  | dm xs => obtain ⟨vs, e, r⟩ := h; exact ⟨vs, ha.trans e, r.mo g⟩
  | dz xs => obtain ⟨vs, ⟨od, e⟩, r⟩ := h; exact ⟨vs, ⟨od, ha.trans e⟩, r.mo g⟩
  | dkz xs => obtain ⟨vs, ⟨od, e⟩, r⟩ := h; exact ⟨vs, ⟨od, ha.trans e⟩, r.mo g⟩
end
def seqS (f g : Env → M Fl) : Env → M Fl := fun env => bd (f env) fun r => match r with
  | .nx env' => g env'
  | r => rt r
def nxS : Env → M Fl := fun env => rt (.nx env)
theorem PostS.nxc {K : W.Frag} {E : XK} {w : Wd} {H : Hp} {env : Env} {st : Store} {Z : Ends} {σ : St} (hp : PostS K E w H (.ok (.nx env) st) Z) (hs : RelSt K w H st) (he : RelEnv K w H env σ) : Z.nx σ H := hp w H σ (Ge.refl _ _) hs he
section
variable {X : Cx} {E : XK} {a b c e : Expr} {ta tb tc : TE} {fa fb fc : Env → M D} {pos : Pos} {es : List Expr} {tr : TA} {fr : Env → M (List D)} {tt tu : TT} {ft fu : Env → M Bool} {s : Stmt} {ss s1 s2 : List Stmt} {ts us : TS} {fs gs : Env → M Fl}
theorem rf_seq {K : W.Frag} (h1 : RfS K E ts fs) (h2 : RfS K E us gs) : RfS K E (tSeq ts us) (seqS fs gs) := by
  intro w σ H env st Z s0 e0 hp
  refine h1 w σ H env st _ s0 e0 ?_
  unfold seqS at hp
  cases hf : fs env st with
  | ok r st' =>
    rw [bd_ok hf] at hp
    cases r with
    | nx env' => exact fun w' H' σ' g s1 e1 => h2 w' σ' H' env' st' Z s1 e1 (hp.mono g)
    | rt d => exact hp
    | bk env' => exact hp
    | ct env' => exact hp
  | exc e st' => rw [bd_exc hf] at hp; exact hp
  | bad => rw [bd_bad hf] at hp; exact hp
theorem ss_nil : SSs X E [] tNext nxS := ⟨pss_nil, fun w σ H env st Z s0 e0 hp => hp.nxc s0 e0⟩
theorem ss_cons (h1 : SS X E s ts fs) (h2 : SSs X E ss us gs) : SSs X E (s :: ss) (tSeq ts us) (seqS fs gs) := ⟨pss_cons h1.ps h2.ps, rf_seq h1.rf h2.rf⟩
theorem ss_one (h1 : SS X E s ts fs) : SSs X E [s] ts fs := ⟨pss_one h1.ps, h1.rf⟩
def killS (is : List Nat) (f : Env → M Fl) : Env → M Fl := fun env => bd (f env) fun r => match r with
  | .nx env' => rt (.nx (kill is env'))
  | r => rt r
theorem rf_kill {K : W.Frag} (is : List Nat) (h : RfS K E ts fs) : RfS K E ts (killS is fs) := by
  intro w σ H env st Z s0 e0 hp
  refine h w σ H env st _ s0 e0 ?_
  unfold killS at hp
  cases hf : fs env st with
  | ok r st' =>
    rw [bd_ok hf] at hp
    cases r with
    | nx env' => exact fun w' H' σ' g s1 e1 => hp w' H' σ' g s1 (e1.kills is)
    | rt d => exact hp
    | bk env' => exact hp
    | ct env' => exact hp
  | exc e st' => rw [bd_exc hf] at hp; exact hp
  | bad => rw [bd_bad hf] at hp; exact hp
theorem ss_kill (is : List Nat) (h : SS X E s ts fs) : SS X E s ts (killS is fs) := ⟨h.ps, rf_kill is h.rf⟩
theorem sss_kill (is : List Nat) (h : SSs X E ss ts fs) : SSs X E ss ts (killS is fs) := ⟨h.ps, rf_kill is h.rf⟩
def ctS : Env → M Fl := fun env => rt (.ct env)
theorem ss_continue : SS X E (.Continue pos) tCont ctS := ⟨ps_continue, fun w σ H env st Z s0 e0 hp => hp w H σ (Ge.refl _ _) s0 e0⟩
def dropS (fa : Env → M D) : Env → M Fl := fun env => bd (fa env) fun _ => rt (.nx env)
theorem ss_expr (he : SE X E e ta fa) (hs : swapsWith e none pos.line X.env = pure false := by rfl) : SS X E (.Expr e pos) (tDrop ta) (dropS fa) := by
  refine ⟨ps_expr he.pe hs, fun w σ H env st Z s0 e0 hp => ?_⟩
  exact he.rf.stepS s0 e0 hp fun r1 H1 st1 d v g1 s1 e1 q1 hp => hp.nxc s1 e1
def retS (fa : Env → M D) : Env → M Fl := fun env => bd (fa env) fun d => rt (.rt d)
theorem ss_ret (he : SE X E e ta fa) : SS X E (.Return (some e) pos) (tRet ta) (retS fa) := by
  refine ⟨ps_ret he.pe, fun w σ H env st Z s0 e0 hp => ?_⟩
  exact he.rf.stepS s0 e0 hp fun r1 H1 st1 d v g1 s1 e1 q1 hp => hp r1 H1 v (Ge.refl _ _) s1 q1
def ifS (ft : Env → M Bool) (f g : Env → M Fl) : Env → M Fl := fun env => bd (ft env) fun b => if b = true then f env else g env
theorem ss_if (hc : ST X E c tt ft) (ha : SSs X E s1 ts fs) (hb : SSs X E s2 us gs) : SS X E (.If c s1 s2 pos) (tIfS tt ts us) (ifS ft fs gs) := by
  refine ⟨ps_if hc.pt ha.ps hb.ps, fun w σ H env st Z s0 e0 hp => ?_⟩
  refine hc.rf.stepS s0 e0 hp fun r1 H1 st1 d v g1 s1 e1 q1 hp => ?_
  cases q1
  cases d with
  | true => exact ha.rf r1 σ H1 env st1 Z s1 e1 hp
  | false => exact hb.rf r1 σ H1 env st1 Z s1 e1 hp

def PostG (K : W.Frag) (E : XK) (is : List Nat) (σ : St) (w : Wd) (H : Hp) (r : Res Env) (Q : St → Hp → Prop) : Prop :=
  match r with
  | .ok env st' => ∀ w' H' σ', Ge w H w' H' → RelSt K w' H' st' → RelEnv K w' H' env σ' → (∀ vs, (∀ i ∈ is, i ∈ vs) → wipe σ' vs = wipe σ vs) → Q σ' H'
  | .exc e st' => ∀ w' H' c dx, Ge w H w' H' → RelSt K w' H' st' → RelX K w' H' e c dx → E c dx H'
  | .bad => False
theorem PostG.mono {K : W.Frag} {is : List Nat} {σ : St} {w w' : Wd} {H H' : Hp} {r : Res Env} {Q : St → Hp → Prop} (g : Ge w H w' H') (h : PostG K E is σ w H r Q) : PostG K E is σ w' H' r Q := by
  cases r with
  | ok a st => exact fun r1 H1 b g1 s1 q1 => h r1 H1 b (g.trans g1) s1 q1
  | exc e st => exact fun r1 H1 c dx g1 s1 q1 => h r1 H1 c dx (g.trans g1) s1 q1
  | bad => exact h
def RfG (K : W.Frag) (E : XK) (is : List Nat) (t : TG) (f : D → Env → M Env) : Prop :=
  ∀ w σ H env st d v Q, RelSt K w H st → RelEnv K w H env σ → RpD K w H d v → PostG K E is σ w H (f d env st) Q → t v σ H Q
structure SG (X : Cx) (E : XK) (is : List Nat) (tg : Expr) (t : TG) (f : D → Env → M Env) : Prop where
  pg : PG X tg t
  rf : RfG X.K E is t f
def RfGs (K : W.Frag) (E : XK) (is : List Nat) (t : TGs) (f : List PyData → Env → M Env) : Prop :=
  ∀ w σ H env st ds vs Q, RelSt K w H st → RelEnv K w H env σ → Rps K w H ds vs → PostG K E is σ w H (f ds env st) Q → t vs σ H Q
structure SGs (X : Cx) (E : XK) (is : List Nat) (tg : List Expr) (t : TGs) (f : List PyData → Env → M Env) : Prop where
  pg : PGs X tg t
  rf : RfGs X.K E is t f
def setV (i : Nat) (d : D) (env : Env) : M Env := rt (env.set i (some d))
theorem wipe_set {i : Nat} {o : Option V} : ∀ {vs : List Nat} {σ : St}, i ∈ vs → wipe (σ.set i o) vs = wipe σ vs := by
  intro vs
  induction vs with
  | nil => intro σ h; simp at h
  | cons v r ih =>
    intro σ h
    unfold wipe
    by_cases hr : i ∈ r
    · rw [ih hr]
    · have e : i = v := by
        rcases List.mem_cons.mp h with e | e
        · exact e
        · exact absurd e hr
      subst e
      have : ∀ (l : List Nat) (τ : St), i ∉ l → wipe (τ.set i o) l = (wipe τ l).set i o := by
        intro l
        induction l with
        | nil => intro τ _; rfl
        | cons x l ihl =>
          intro τ hn
          simp only [List.mem_cons, not_or] at hn
          unfold wipe
          rw [ihl τ hn.2, List.set_comm _ _ hn.1]
      rw [this r σ hr, List.set_set]
theorem sg_name {i : Nat} {x : Str} (hN : X.N.Nodup) (hi : X.N[i]? = some x := by rfl) (hx : Loc X.env.scope x := by first | exact Or.inl rfl | exact Or.inr rfl) (hf : X.fn x = true ∨ X.env.scope.names.lookup x = some .local := by first | exact .inl rfl | exact .inr rfl) : SG X E [i] (.Name x pos) (gName i) (setV i) := by
  refine ⟨pg_name hN hi hx hf, fun w σ H env st d v Q s0 e0 r hp => ?_⟩
  exact hp w H _ (Ge.refl _ _) s0 (e0.set i r) fun vs h => wipe_set (h i (by simp))
def setsNil (ds : List PyData) (env : Env) : M Env := match ds with
  | [] => rt env
  | _ => bad
def setsCons (f : D → Env → M Env) (g : List PyData → Env → M Env) (ds : List PyData) (env : Env) : M Env := match ds with
  | d :: r => bd (f (.val d) env) fun env' => g r env'
  | [] => bad
theorem sgs_nil : SGs X E [] [] gNil setsNil := by
  refine ⟨pgs_nil, fun w σ H env st ds vs Q s0 e0 r hp => ?_⟩
  cases r with
  | nil => exact ⟨rfl, hp w H σ (Ge.refl _ _) s0 e0 fun _ _ => rfl⟩
  | cons _ _ => exact hp.elim
theorem sgs_cons {is js : List Nat} {t : TG} {u : TGs} {f : D → Env → M Env} {g : List PyData → Env → M Env} (h1 : SG X E is e t f) (h2 : SGs X E js es u g)
    (hs : (assignEach (e :: es) X.env).map (·.2) = assign e X.env :: (assignEach es X.env).map (·.2) := by rfl) : SGs X E (is ++ js) (e :: es) (gCons t u) (setsCons f g) := by
  refine ⟨pgs_cons h1.pg h2.pg hs, fun w σ H env st ds vs Q s0 e0 r hp => ?_⟩
  cases r with
  | nil => exact hp.elim
  | @cons d ds v vs r rr =>
    refine ⟨v, vs, rfl, ?_⟩
    refine h1.rf w σ H env st (.val d) v _ s0 e0 r ?_
    unfold setsCons at hp
    simp only at hp
    cases hf : f (.val d) env st with
    | ok env' st' =>
      rw [bd_ok hf] at hp
      intro w' H' σ' g1 s1 e1 q1
      refine h2.rf w' σ' H' env' st' ds vs Q s1 e1 (rr.mono g1) ?_
      have hp' := hp.mono g1
      cases hg : g ds env' st' with
      | ok env2 st2 =>
        rw [hg] at hp'
        exact fun w2 H2 σ2 g2 s2 e2 q2 => hp' w2 H2 σ2 g2 s2 e2 fun vs hv => (q2 vs fun i hi => hv i (List.mem_append_right _ hi)).trans (q1 vs fun i hi => hv i (List.mem_append_left _ hi))
      | exc e st2 => rw [hg] at hp'; exact hp'
      | bad => rw [hg] at hp'; exact hp'
    | exc e st' => rw [bd_exc hf] at hp; exact hp
    | bad => rw [bd_bad hf] at hp; exact hp
def setT (n : Nat) (g : List PyData → Env → M Env) (d : D) (env : Env) : M Env := match d with
  | .val (.tuple ps) => if ps.length = n then g ps env else bad
  | _ => bad
theorem sg_tup {K : W.Frag} {is : List Nat} {k n : Nat} {t : TGs} {g : List PyData → Env → M Env} (h : SGs X E is es t g) (hK : X.K = K := by rfl) (hc : X.calm = true := by rfl)
    (hn : (assignEach es X.env).length = n := by rfl) (hst : (assignEach es X.env).findIdx? (·.1) = none := by rfl) : SG X E is (.Tuple es k pos) (gTup K n t) (setT n g) := by
  subst hK
  refine ⟨pg_tup hc h.pg hn hst, fun w σ H env st d v Q s0 e0 r hp => ?_⟩
  cases d with
  | val p =>
    cases p with
    | tuple ps =>
      simp only [setT] at hp
      split at hp
      · rename_i hl
        cases r with
        | tup ht rr => exact ⟨_, _, rfl, ht.sq, by rw [← rr.length]; exact hl, h.rf w σ H env st ps _ Q s0 e0 rr hp⟩
      · exact hp.elim
    | _ => exact hp.elim
  | _ => exact hp.elim
def asgS (fa : Env → M D) (g : D → Env → M Env) : Env → M Fl := fun env => bd (fa env) fun d => bd (g d env) fun env' => rt (.nx env')
theorem rf_asg {K : W.Frag} {is : List Nat} {t : TG} {g : D → Env → M Env} (ha : Rf K E (RE K) ta fa) (hg : RfG K E is t g) : RfS K E (tAsg ta t) (asgS fa g) := by
  intro w σ H env st Z s0 e0 hp
  refine ha.stepS s0 e0 hp fun r1 H1 st1 d v g1 s1 e1 q1 hp => ?_
  refine hg r1 σ H1 env st1 d v _ s1 e1 q1 ?_
  cases hf : g d env st1 with
  | ok env' st' => rw [bd_ok hf] at hp; exact fun w' H' σ' g2 s2 e2 _ => hp w' H' σ' g2 s2 e2
  | exc e st' => rw [bd_exc hf] at hp; exact hp
  | bad => rw [bd_bad hf] at hp; exact hp
theorem ss_set {i : Nat} {x : Str} {pos' : Pos} (hN : X.N.Nodup) (he : SE X E e ta fa) (hi : X.N[i]? = some x := by rfl) (hx : Loc X.env.scope x := by first | exact Or.inl rfl | exact Or.inr rfl) (hs : swapsWith e (some (.Name x pos')) pos.line X.env = pure false := by rfl) (hf : X.fn x = true ∨ X.env.scope.names.lookup x = some .local := by first | exact .inl rfl | exact .inr rfl) :
    SS X E (.Assign [.Name x pos'] e pos) (tAsg ta (gName i)) (asgS fa (setV i)) :=
  ⟨ps_set hN hi hx he.pe hs hf, rf_asg (is := [i]) he.rf fun w σ H env st d v Q s0 e0 r hp => hp w H _ (Ge.refl _ _) s0 (e0.set i r) fun vs h => wipe_set (h i (by simp))⟩
inductive Src where
  | fix (xs : List PyData)
  | obj (n : Nat)
def Fk (H H' : Hp) : Prop := ∀ a od o, H a = some (.frz od o) → H' a = some (.frz od o)
theorem Fk.trans {H0 H1 H2 : Hp} (g : Fk H0 H1) (k : Fk H1 H2) : Fk H0 H2 := fun a od o h => k a od o (g a od o h)
theorem Fk.new {H : Hp} {p : Addr} {o : HO} (hp : H p = none) : Fk H (upd H p o) := fun b od v h => by rw [upd_ne (fun z => by rw [z, hp] at h; cases h)]; exact h
theorem Fk.same {H H' : Hp} (s : Same H H') : Fk H H' := fun b od v h => s b _ h
def ItOk (K : W.Frag) (w : Wd) (H : Hp) (J : It) (xs : List PyData) : Prop :=
  ∀ w' H' st', Mo w H w' H' → Fk H H' → RelSt K w' H' st' → (∀ (i : Nat) (x : PyData), xs[i]? = some x → J.go i H' ∧ ∀ v H2, J.yld i H' v H2 → Same H' H2 ∧ Rp K w' H2 x v) ∧ J.stop xs.length H'
def RI (K : W.Frag) (w : Wd) (H : Hp) : Src → It → Prop
  | .fix xs, J => ItOk K w H J xs
  | .obj n, J => ∃ a, w.rho[n]? = some a ∧ J = Itl K a
theorem ItOk.mono {K : W.Frag} {w w' : Wd} {H H' : Hp} {J : It} {xs : List PyData} (g : Mo w H w' H') (f : Fk H H') (h : ItOk K w H J xs) : ItOk K w' H' J xs := fun w2 H2 st2 g2 f2 s2 => h w2 H2 st2 (g.trans g2) (f.trans f2) s2
structure SI (X : Cx) (E : XK) (tg iter : Expr) (t : TI) (f : Env → M Src) : Prop where
  pi : PI X tg iter t
  rf : Rf X.K E (RI X.K) t f
def forF (body : PyData → Env → M Fl) : List PyData → Env → M Fl
  | [], env => rt (.nx env)
  | x :: r, env => bd (body x env) fun f => match f with
    | .nx env' => forF body r env'
    | .ct env' => forF body r env'
    | .bk env' => rt (.nx env')
    | .rt d => rt (.rt d)
def forO (body : PyData → Env → M Fl) (n : Nat) : Nat → Nat → Env → M Fl
  | 0, _, _ => bad
  | m + 1, i, env => fun st => match st[n]? with
    | some (.lst xs) => match xs[i]? with
      | none => .ok (.nx env) st
      | some x => bd (body x env) (fun f => match f with
        | .nx env' => forO body n m (i + 1) env'
        | .ct env' => forO body n m (i + 1) env'
        | .bk env' => rt (.nx env')
        | .rt d => rt (.rt d)) st
    | _ => .bad
def forS (m : Nat) (fi : Env → M Src) (g : D → Env → M Env) (fb : Env → M Fl) : Env → M Fl := fun env => bd (fi env) fun s => match s with
  | .fix xs => forF (fun x env => bd (g (.val x) env) fb) xs env
  | .obj n => forO (fun x env => bd (g (.val x) env) fb) n m 0 env
theorem rf_for {K : W.Frag} {m0 : Nat} {ti : TI} {tg : TG} {fi : Env → M Src} {is : List Nat} {g : D → Env → M Env} (hi : Rf K E (RI K) ti fi) (hg : RfG K E is tg g) (hb : RfS K E ts fs) : RfS K E (tFor ti tg ts) (forS m0 fi g fs) := by
  intro w σ H env st Z s0 e0 hp
  refine hi.stepS s0 e0 hp fun w1 H1 st1 s J g1 s1 e1 q1 hp => ?_
  cases s with
  | fix xs =>
    simp only at hp
    let W : Nat → Nat → St → Hp → Prop := fun i m σ H => ∃ w env st, Ge w1 H1 w H ∧ RelSt K w H st ∧ RelEnv K w H env σ ∧ i ≤ xs.length ∧ m = xs.length - i ∧ PostS K E w H (forF (fun x env => bd (g (.val x) env) fs) (xs.drop i) env st) Z
    refine ⟨W, ⟨xs.length, w1, env, st1, Ge.refl _ _, s1, e1, Nat.zero_le _, rfl, hp⟩, ?_⟩
    rintro i m σ2 H2 ⟨w2, env2, st2, g2, s2, e2, hil, rfl, hp2⟩
    obtain ⟨yes, no⟩ := q1 w2 H2 st2 g2.mo g2.fk s2
    by_cases hlt : i < xs.length
    · right
      have ex : xs[i]? = some xs[i] := by simp [hlt]
      have ed : xs.drop i = xs[i] :: xs.drop (i + 1) := List.drop_eq_getElem_cons hlt
      obtain ⟨go, yld⟩ := yes i _ ex
      refine ⟨go, fun σ' H' => W (i + 1) (xs.length - (i + 1)) σ' H', fun σ' H' h => ⟨_, by omega, h⟩, fun v H3 hy => ?_⟩
      obtain ⟨sm, rx⟩ := yld v H3 hy
      rw [ed] at hp2
      unfold forF at hp2
      have g3 : Ge w2 H2 w2 H3 := .same sm
      refine hg w2 σ2 H3 env2 st2 (.val xs[i]) v _ (s2.same sm) (e2.mono g3) rx ?_
      have hp3 := hp2.mono g3
      cases hf : g (.val xs[i]) env2 st2 with
      | ok env' st' =>
        intro w4 H4 σ4 g4 s4 e4 _
        refine hb w4 σ4 H4 env' st' _ s4 e4 ?_
        have hp4 := hp3.mono g4
        have eb : bd (g (.val xs[i]) env2) fs st2 = fs env' st' := bd_ok hf
        cases hr : fs env' st' with
        | ok r st5 =>
          rw [bd_ok (eb.trans hr)] at hp4
          cases r with
          | nx env5 => exact fun w5 H5 σ5 g5 s5 e5 => ⟨w5, env5, st5, g2.trans (g3.trans (g4.trans g5)), s5, e5, hlt, rfl, hp4.mono g5⟩
          | ct env5 => exact fun w5 H5 σ5 g5 s5 e5 => ⟨w5, env5, st5, g2.trans (g3.trans (g4.trans g5)), s5, e5, hlt, rfl, hp4.mono g5⟩
          | bk env5 => exact hp4
          | rt d => exact hp4
        | exc e st5 => rw [bd_exc (eb.trans hr)] at hp4; exact hp4
        | bad => rw [bd_bad (eb.trans hr)] at hp4; exact hp4
      | exc e st' => rw [bd_exc (bd_exc hf)] at hp3; exact hp3
      | bad => rw [bd_bad (bd_bad hf)] at hp3; exact hp3
    · left
      have e : i = xs.length := by omega
      subst e
      refine ⟨no, ?_⟩
      rw [List.drop_length] at hp2
      exact hp2.nxc s2 e2
  | obj n =>
    obtain ⟨a, ha, rfl⟩ := q1
    simp only at hp
    let W : Nat → Nat → St → Hp → Prop := fun i m σ H => ∃ w env st, Ge w1 H1 w H ∧ RelSt K w H st ∧ RelEnv K w H env σ ∧ PostS K E w H (forO (fun x env => bd (g (.val x) env) fs) n m i env st) Z
    refine ⟨W, ⟨m0, w1, env, st1, Ge.refl _ _, s1, e1, hp⟩, ?_⟩
    rintro i m σ2 H2 ⟨w2, env2, st2, g2, s2, e2, hp2⟩
    cases m with
    | zero => exact hp2.elim
    | succ m =>
      unfold forO at hp2
      cases ho : st2[n]? with
      | none => simp only [ho] at hp2; exact hp2.elim
      | some o =>
        cases o with
        | lst xs =>
          simp only [ho] at hp2
          obtain ⟨vs, ev, rv⟩ := s2.obj n _ a ho (g2.get ha)
          cases hx : xs[i]? with
          | none =>
            left
            simp only [hx] at hp2
            refine ⟨⟨vs, SqL.of ev, ?_⟩, hp2.nxc s2 e2⟩
            rw [← rv.length]
            exact List.getElem?_eq_none_iff.mp hx
          | some x =>
            right
            simp only [hx] at hp2
            obtain ⟨v, hv, rx⟩ := rv.get hx
            refine ⟨⟨vs, v, SqL.of ev, hv⟩, fun σ' H' => W (i + 1) m σ' H', fun σ' H' h => ⟨m, Nat.lt_succ_self _, h⟩, fun v' H3 hy => ?_⟩
            obtain ⟨e3, hy⟩ := hy
            subst e3
            have e4 : v' = v := by
              have q := hy vs (SqL.of ev)
              rw [hv] at q
              exact (Option.some.inj q).symm
            subst e4
            refine hg w2 σ2 _ env2 st2 (.val x) v' _ s2 e2 rx ?_
            cases hf : g (.val x) env2 st2 with
            | ok env' st' =>
              intro w4 H4 σ4 g4 s4 e4 _
              refine hb w4 σ4 H4 env' st' _ s4 e4 ?_
              have hp4 := hp2.mono g4
              have eb : bd (g (.val x) env2) fs st2 = fs env' st' := bd_ok hf
              cases hr : fs env' st' with
              | ok r st5 =>
                rw [bd_ok (eb.trans hr)] at hp4
                cases r with
                | nx env5 => exact fun w5 H5 σ5 g5 s5 e5 => ⟨w5, env5, st5, g2.trans (g4.trans g5), s5, e5, hp4.mono g5⟩
                | ct env5 => exact fun w5 H5 σ5 g5 s5 e5 => ⟨w5, env5, st5, g2.trans (g4.trans g5), s5, e5, hp4.mono g5⟩
                | bk env5 => exact hp4
                | rt d => exact hp4
              | exc e st5 => rw [bd_exc (eb.trans hr)] at hp4; exact hp4
              | bad => rw [bd_bad (eb.trans hr)] at hp4; exact hp4
            | exc e st' => rw [bd_exc (bd_exc hf)] at hp2; exact hp2
            | bad => rw [bd_bad (bd_bad hf)] at hp2; exact hp2
        | _ => simp only [ho] at hp2; exact hp2.elim
theorem ss_for (m0 : Nat) {iter tg : Expr} {is : List Nat} {ti : TI} {t : TG} {fi : Env → M Src} {g : D → Env → M Env} (hp : PassesOwn (model X.prog X.w) X.A X.env X.xe) (hi : SI X E tg iter ti fi) (hg : SG X E is tg t g) (hb : SSs X E ss ts fs) (hc : X.calm = true := by rfl)
    (hs : ∀ x, foldedSetIterable iter X.env x = pure x := by intro _; rfl) : SS X E (.For tg iter ss [] pos) (tFor ti t ts) (forS m0 fi g fs) := ⟨ps_for hp hc hi.pi hg.pg hb.ps hs, rf_for hi.rf hg.rf hb.rf⟩
end

end B
namespace B
open PySem L2
variable [Nm] [Gd]

abbrev Wd.prot (w : Wd) (p : Addr) : Wd := ⟨w.rho, p :: w.ext⟩
def hide (H : Hp) (p : Addr) : Hp := fun b => if b = p then none else H b
theorem hide_same {H : Hp} {p : Addr} : hide H p p = none := by unfold hide; rw [if_pos rfl]
theorem hide_ne {H : Hp} {p b : Addr} (h : b ≠ p) : hide H p b = H b := by unfold hide; rw [if_neg h]
theorem upd_hide {H : Hp} {p : Addr} {o : HO} : upd (hide H p) p o = upd H p o := by
  funext b; unfold upd hide; split <;> rfl
theorem Mo.prot {K : W.Frag} {w : Wd} {H : Hp} {st : Store} {p : Addr} {o : HO} (hs : RelSt K w H st) (hp : H p = none) : Mo w H (w.prot p) (upd H p o) := by
  refine ⟨fun a u _ n h => ?_, fun _ _ h => h⟩
  have ne := ne_of_none h hp
  refine ⟨fun q => ?_, by rw [upd_ne ne]; exact h⟩
  rcases List.mem_append.mp q with q | q
  · exact n (List.mem_append_left _ q)
  · rcases List.mem_cons.mp q with q | q
    · exact ne q
    · exact n (List.mem_append_right _ q)
theorem RelSt.prot {K : W.Frag} {w : Wd} {H : Hp} {st : Store} {p : Addr} {o : HO} (hs : RelSt K w H st) (hp : H p = none) (oC : Acc p o := by first | assumption | exact ⟨(by intro _ z; cases z), (by intro _ z; unfold LamX.CodeO at z; cases z)⟩) : RelSt K (w.prot p) (upd H p o) st := by
  have np := hs.notin hp
  refine ⟨hs.len, hs.nd, fun a h => ?_, fun a h q => ?_, fun n q a e1 e2 => ?_, hs.tab.ext (Same.new hp), Gd.sb (Mo.prot hs hp).sub hs.inv⟩
  · rcases List.mem_cons.mp h with e | h
    · exact ⟨o, by rw [e, upd_same], by rw [e]; exact oC⟩
    · obtain ⟨u, e, x⟩ := hs.trk a h
      exact ⟨u, by rw [upd_ne (ne_of_none e hp)]; exact e, x⟩
  · rcases List.mem_cons.mp q with e | q
    · exact np (by rw [← e]; exact List.mem_append_left _ h)
    · exact hs.nde a h q
  · have ne : a ≠ p := fun z => np (by rw [← z]; exact List.mem_append_left _ (List.mem_of_getElem? e2))
    exact (hs.obj n q a e1 e2).mo (Mo.prot hs hp) (upd_ne ne)
theorem Fk.hide {H : Hp} {p : Addr} {o : HO} (h : H p = some o) (n : ∀ od v, o ≠ .frz od v := by intro _ _ z; cases z) : Fk H (hide H p) := fun a od v e => by
  have ne : a ≠ p := fun z => by rw [z, h] at e; exact n od v (Option.some.inj e)
  rw [hide_ne ne]; exact e
theorem unprot {K : W.Frag} {w w' : Wd} {H H' : Hp} {st st' : Store} {p : Addr} {o : HO} (hs : RelSt K w H st) (hp : H p = none) (g : Ge (w.prot p) (upd H p o) w' H') (s : RelSt K w' H' st') (o1 : NoT o := by intro _ z; cases z) (o2 : ∀ phi, o ≠ .ext phi := by intro _ z; cases z) :
    ∃ w2, Mo w' H' w2 (hide H' p) ∧ RelSt K w2 (hide H' p) st' ∧ Ge w H w2 (hide H' p) ∧ H' p = some o ∧ w2.rho = w'.rho := by
  have np := hs.notin hp
  obtain ⟨more, e1, e2, hm⟩ := g.pre
  have e2' : w'.ext = p :: w.ext := e2
  have e1' : w'.rho = w.rho ++ more := e1
  have npr : p ∉ w'.rho := fun q => s.nde p q (by rw [e2']; exact List.mem_cons_self)
  have mo : Mo w' H' ⟨w'.rho, w.ext⟩ (hide H' p) := ⟨fun a u _ n h => by
    have ne : a ≠ p := fun z => n (List.mem_append_right _ (by rw [e2', z]; exact List.mem_cons_self))
    refine ⟨fun q => ?_, by rw [hide_ne ne]; exact h⟩
    rcases List.mem_append.mp q with q | q
    · exact n (List.mem_append_left _ q)
    · exact n (List.mem_append_right _ (by rw [e2']; exact List.mem_cons_of_mem _ q)), fun _ _ h => h⟩
  have hpo : H' p = some o := g.keep p o o1 (fun q => np (List.mem_append_left _ q)) upd_same
  have tb : LamX.Tabs Nm.tb (hide H' p) := fun t ht => by
    obtain ⟨ps, h1, h2, h3⟩ := s.tab t ht
    refine ⟨ps, by rw [hide_ne (fun z => by rw [z, hpo] at h1; exact o1 _ (Option.some.inj h1))]; exact h1, h2, fun pos cv hc => ?_⟩
    obtain ⟨c, e1, e2⟩ := h3 pos cv hc
    exact ⟨c, e1, by rw [hide_ne (fun z => by rw [z, hpo] at e2; exact o2 _ (Option.some.inj e2))]; exact e2⟩
  refine ⟨⟨w'.rho, w.ext⟩, mo, ⟨s.len, s.nd, fun a h => ?_, fun a h q => s.nde a h (by rw [e2']; exact List.mem_cons_of_mem _ q), fun n q a h1 h2 => ?_, tb, Gd.sb mo.sub s.inv⟩, ⟨⟨more, e1', rfl, fun q hq => ?_⟩, fun a u t n h => ?_, fun a u n h => ?_, fun a od u h => ?_⟩, hpo, rfl⟩
  · obtain ⟨u, e, x⟩ := s.trk a (by rw [e2']; exact List.mem_cons_of_mem _ h)
    exact ⟨u, by rw [hide_ne (fun z => np (by rw [← z]; exact List.mem_append_right _ h))]; exact e, x⟩
  · have ne : a ≠ p := fun z => npr (by rw [← z]; exact List.mem_of_getElem? h2)
    exact (s.obj n q a h1 h2).mo mo (hide_ne ne)
  · obtain ⟨n1, n2⟩ := hm q hq
    have ne : q ≠ p := fun z => by rw [z, upd_same] at n2; cases n2
    rw [upd_ne ne] at n2
    refine ⟨fun z => n1 ?_, n2⟩
    rcases List.mem_append.mp z with z | z
    · exact List.mem_append_left _ z
    · exact List.mem_append_right _ (List.mem_cons_of_mem _ z)
  · have ne : a ≠ p := ne_of_none h hp
    rw [hide_ne ne]
    exact g.keep a u t n (by rw [upd_ne ne]; exact h)
  · have ne : a ≠ p := ne_of_none h hp
    rw [hide_ne ne]
    exact g.there a u n (by rw [upd_ne ne]; exact h)
  · have ne : a ≠ p := ne_of_none h hp
    rw [hide_ne ne]
    exact g.fk a od u (by rw [upd_ne ne]; exact h)

def noX {α : Type} (m : M α) : M α := fun st => match m st with
  | .exc _ _ => .bad
  | r => r
theorem noX_ok {α : Type} {m : M α} {st st' : Store} {a : α} (h : m st = .ok a st') : noX m st = .ok a st' := by unfold noX; rw [h]
theorem noX_exc {α : Type} {m : M α} {st st' : Store} {e : Ex} (h : m st = .exc e st') : noX m st = .bad := by unfold noX; rw [h]
theorem noX_bad {α : Type} {m : M α} {st : Store} (h : m st = .bad) : noX m st = .bad := by unfold noX; rw [h]
def PostN (K : W.Frag) (p : Addr) (w : Wd) (H : Hp) (r : Res (List PyData)) (Nx : Hp → Prop) : Prop :=
  match r with
  | .ok acc st' => ∀ w' H' vs, Ge w H w' H' → RelSt K w' H' st' → H' p = none → Rps K w' H' acc vs → Nx (upd H' p (.lst vs))
  | _ => False
theorem PostN.mono {K : W.Frag} {p : Addr} {w w' : Wd} {H H' : Hp} {r : Res (List PyData)} {Nx : Hp → Prop} (g : Ge w H w' H') (h : PostN K p w H r Nx) : PostN K p w' H' r Nx := by
  cases r with
  | ok acc st => exact fun w2 H2 vs g2 => h w2 H2 vs (g.trans g2)
  | exc e st => exact h
  | bad => exact h
abbrev TN := Addr → St → Hp → (Hp → Prop) → Prop
def RfN (K : W.Frag) (t : TN) (f : Env → List PyData → M (List PyData)) : Prop :=
  ∀ p w σ H env st acc vs Nx, RelSt K w H st → RelEnv K w H env σ → H p = none → Rps K w H acc vs → PostN K p w H (f env acc st) Nx → t p σ (upd H p (.lst vs)) Nx
def tIn (tt : TT) (te : TE) : TN := fun p σ2 H2 Nx => tt σ2 H2 fun b H3 => if b = true then te σ2 H3 fun y H4 => ∃ acc, H4 p = some (.lst acc) ∧ acc.length < sizeLine ∧ Nx (upd H4 p (.lst (acc ++ [y]))) else Nx H3
def lcIn (ft : Env → M Bool) (fe : Env → M D) (env : Env) (acc : List PyData) : M (List PyData) :=
  bd (noX (ft env)) fun b => if b = true then bd (noX (fe env)) fun d => (match d with
    | .val y => if acc.length < sizeLine then rt (acc ++ [y]) else bad
    | _ => bad) else rt acc
theorem Rf.stepN {α β : Type} {K : W.Frag} {R : Wd → Hp → α → β → Prop} {t : St → Hp → (β → Hp → Prop) → Prop} {f : Env → M α} (h : Rf K E0 R t f)
    {p : Addr} {w : Wd} {σ : St} {H : Hp} {env : Env} {st : Store} {vs : List V} {g : α → M (List PyData)} {Nx : Hp → Prop} {U : β → Hp → Prop} (hs : RelSt K w H st) (he : RelEnv K w H env σ) (hn : H p = none) (hp : PostN K p w H (bd (noX (f env)) g st) Nx)
    (k : ∀ w1 H1 w2 st' a b, RelSt K w1 H1 st' → R w1 H1 a b → Mo w1 H1 w2 (hide H1 p) → w2.rho = w1.rho → RelSt K w2 (hide H1 p) st' → Ge w H w2 (hide H1 p) → H1 p = some (.lst vs) → PostN K p w2 (hide H1 p) (g a st') Nx → U b H1) : t σ (upd H p (.lst vs)) U := by
  refine h (w.prot p) σ _ env st _ (hs.prot hn) (he.mo (Mo.prot hs hn)) ?_
  cases hf : f env st with
  | ok a st' =>
    rw [bd_ok (noX_ok hf)] at hp
    intro w1 H1 b g1 s1 q1
    obtain ⟨w2, mo, s2, g2, hD, er⟩ := unprot hs hn g1 s1
    exact k w1 H1 w2 st' a b s1 q1 mo er s2 g2 hD (hp.mono g2)
  | exc e st' => rw [bd_bad (noX_exc hf)] at hp; exact hp.elim
  | bad => rw [bd_bad (noX_bad hf)] at hp; exact hp.elim
theorem upd_self {H : Hp} {p : Addr} {o : HO} (h : H p = some o) : upd H p o = H := by
  funext b
  by_cases e : b = p
  · rw [e, upd_same, h]
  · rw [upd_ne e]
theorem rfn_in {K : W.Frag} {tt : TT} {te : TE} {ft : Env → M Bool} {fe : Env → M D} (ht : Rf K E0 RB tt ft) (he : Rf K E0 (RE K) te fe) : RfN K (tIn tt te) (lcIn ft fe) := by
  intro p w σ H env st acc vs Nx s0 e0 n0 q0 hp
  refine ht.stepN s0 e0 n0 hp fun w1 H1 w2 st1 b b' s1 r1 mo er s2 g2 hD hp => ?_
  cases r1
  have hh : upd (hide H1 p) p (.lst vs) = H1 := by rw [upd_hide, upd_self hD]
  cases b with
  | false =>
    rw [if_neg Bool.false_ne_true] at hp ⊢
    have := hp w2 _ vs (Ge.refl _ _) s2 hide_same (q0.mono g2)
    rw [hh] at this
    exact this
  | true =>
    rw [if_pos rfl] at hp ⊢
    rw [← hh]
    refine he.stepN s2 (e0.mono g2) hide_same hp fun w3 H3 w4 st3 d v s3 r3 mo3 er3 s4 g4 hD3 hp => ?_
    cases d with
    | val y =>
      simp only at hp
      split at hp
      · rename_i hl
        refine ⟨vs, hD3, by rw [← q0.length]; exact hl, ?_⟩
        have := hp w4 _ (vs ++ [v]) (Ge.refl _ _) s4 hide_same (((q0.mono g2).mono g4).append (.cons (Rp.mo mo3 r3) .nil))
        rw [upd_hide] at this
        exact this
      · exact hp.elim
    | _ => exact hp.elim
def lcF (g : D → Env → M Env) (inner : Env → List PyData → M (List PyData)) (env : Env) : List PyData → List PyData → M (List PyData)
  | [], acc => rt acc
  | x :: r, acc => bd (noX (g (.val x) env)) fun env' => bd (inner env' acc) fun acc' => lcF g inner env r acc'
def lcO (g : D → Env → M Env) (inner : Env → List PyData → M (List PyData)) (n : Nat) (env : Env) : Nat → Nat → List PyData → M (List PyData)
  | 0, _, _ => bad
  | m + 1, i, acc => fun st => match st[n]? with
    | some (.lst xs) => match xs[i]? with
      | none => .ok acc st
      | some x => bd (noX (g (.val x) env)) (fun env' => bd (inner env' acc) fun acc' => lcO g inner n env m (i + 1) acc') st
    | _ => .bad
def lcL (m : Nat) (g : D → Env → M Env) (inner : Env → List PyData → M (List PyData)) (env : Env) (s : Src) (acc : List PyData) : M (List PyData) := match s with
  | .fix xs => lcF g inner env xs acc
  | .obj n => lcO g inner n env m 0 acc
def LcLoop (J : It) (g : TG) (t : TN) (p : Addr) (vs : List Nat) (σ : St) (H : Hp) (Fin : Hp → Prop) : Prop :=
  ∃ W : Nat → Nat → Hp → Prop, (∃ m, W 0 m H) ∧ ∀ i m H, W i m H →
    (J.stop i H ∧ Fin H) ∨ (J.go i H ∧ ∃ Nx : Hp → Prop, (∀ H', Nx H' → ∃ m', m' < m ∧ W (i + 1) m' H') ∧ ∀ x H', J.yld i H x H' → g x (wipe σ vs) H' fun σ2 H2 => wipe σ2 vs = wipe σ vs ∧ t p σ2 H2 Nx)
theorem RelEnv.wiped {K : W.Frag} {w : Wd} {H : Hp} : ∀ {vs : List Nat} {env : Env} {σ : St}, RelEnv K w H env σ → RelEnv K w H (B.kill vs env) (wipe σ vs) := by
  intro vs env σ h
  refine ⟨by rw [wipe_length, (h.kills vs).len], fun i d e => ?_⟩
  have keep : ∀ (l : List Nat) (en : Env) (i : Nat) (d : D), (B.kill l en)[i]? = some (some d) → i ∉ l ∧ en[i]? = some (some d) := by
    intro l
    induction l with
    | nil => intro en i d e; exact ⟨by simp, e⟩
    | cons x l ih =>
      intro en i d e
      obtain ⟨h1, h2⟩ := ih (en.set x none) i d e
      by_cases hx : i = x
      · subst hx
        have hl : i < en.length := by
          have := (List.getElem?_eq_some_iff.mp h2).1
          simpa using this
        rw [List.getElem?_set_self hl] at h2
        cases h2
      · rw [List.getElem?_set_ne (Ne.symm hx)] at h2
        exact ⟨by simp [hx, h1], h2⟩
  obtain ⟨h1, h2⟩ := keep vs env i d e
  obtain ⟨v, e1, r⟩ := h.get i d h2
  exact ⟨v, by rw [wipe_out h1]; exact e1, r⟩
theorem ItOk.prot {K : W.Frag} {w : Wd} {H : Hp} {J : It} {xs : List PyData} {st : Store} {p : Addr} {o : HO} (h : ItOk K w H J xs) (hs : RelSt K w H st) (hp : H p = none) {i : Nat} {x : PyData} (hx : xs[i]? = some x) (oC : Acc p o := by exact ⟨(by intro _ z; cases z), (by intro _ z; unfold LamX.CodeO at z; cases z)⟩) :
    J.go i (upd H p o) ∧ ∀ v H2, J.yld i (upd H p o) v H2 → Same (upd H p o) H2 ∧ Rp K (w.prot p) H2 x v := (h (w.prot p) _ st (Mo.prot hs hp) (Fk.new hp) (hs.prot hp oC)).1 i x hx
theorem lc_loop {K : W.Frag} {m0 : Nat} {J : It} {tg : TG} {t : TN} {is vs0 : List Nat} {g : D → Env → M Env} {inner : Env → List PyData → M (List PyData)} (hg : RfG K E0 is tg g) (hi : RfN K t inner) (his : ∀ i ∈ is, i ∈ vs0)
    {w : Wd} {σ : St} {H : Hp} {env : Env} {st : Store} {s : Src} {acc : List PyData} {vs : List V} {p : Addr} {Fin : Hp → Prop} (hs : RelSt K w H st) (he : RelEnv K w H env σ) (hn : H p = none) (hq : Rps K w H acc vs) (hJ : RI K w H s J)
    (hp : PostN K p w H (lcL m0 g inner (kill vs0 env) s acc st) Fin) : LcLoop J tg t p vs0 σ (upd H p (.lst vs)) Fin := by
  have turn : ∀ (w2 : Wd) (H2 : Hp) (st2 : Store) (acc2 : List PyData) (vs2 : List V) (x : PyData) (v : V) (H3 : Hp) (rest : List PyData → M (List PyData)) (Nx : Hp → Prop), Ge w H w2 H2 → RelSt K w2 H2 st2 → H2 p = none → Rps K w2 H2 acc2 vs2 →
      Same (upd H2 p (.lst vs2)) H3 → Rp K (w2.prot p) H3 x v → PostN K p w2 H2 (bd (noX (g (.val x) (kill vs0 env))) (fun env' => bd (inner env' acc2) rest) st2) Fin →
      (∀ w4 H4 st4 acc4 vs4, Ge w H w4 H4 → RelSt K w4 H4 st4 → H4 p = none → Rps K w4 H4 acc4 vs4 → PostN K p w4 H4 (rest acc4 st4) Fin → Nx (upd H4 p (.lst vs4))) →
      tg v (wipe σ vs0) H3 fun σ2 H2 => wipe σ2 vs0 = wipe σ vs0 ∧ t p σ2 H2 Nx := by
    intro w2 H2 st2 acc2 vs2 x v H3 rest Nx g2 s2 n2 q2 sm rx hp2 hN
    have e2 : RelEnv K w2 H2 (kill vs0 env) (wipe σ vs0) := (he.mono g2).wiped
    have s2p := s2.prot (o := .lst vs2) n2
    have g3 : Ge (w2.prot p) (upd H2 p (.lst vs2)) (w2.prot p) H3 := .same sm
    refine hg (w2.prot p) (wipe σ vs0) H3 (kill vs0 env) st2 (.val x) v _ (s2p.same sm) ((e2.mo (Mo.prot s2 n2)).mono g3) rx ?_
    cases hf : g (.val x) (kill vs0 env) st2 with
    | ok env' st' =>
      rw [bd_ok (noX_ok hf)] at hp2
      intro w4 H4 σ4 g4 s4 e4 ww
      refine ⟨(ww vs0 his).trans ?_, ?_⟩
      · have : ∀ (l : List Nat) (τ : St), wipe (wipe τ l) l = wipe τ l := fun l τ => by
          apply List.ext_getElem?
          intro i
          by_cases hi : i ∈ l
          · have key : ∀ (l : List Nat) (τ : St), i ∈ l → (wipe τ l)[i]? = if i < τ.length then some none else none := by
              intro l
              induction l with
              | nil => intro τ h; simp at h
              | cons y l ih =>
                intro τ h
                unfold wipe
                by_cases hy : i = y
                · subst hy
                  by_cases hl : i < τ.length
                  · rw [List.getElem?_set_self (by rw [wipe_length]; exact hl), if_pos hl]
                  · rw [if_neg hl, List.getElem?_eq_none (by rw [List.length_set, wipe_length]; omega)]
                · rw [List.getElem?_set_ne (Ne.symm hy)]
                  exact ih τ (by
                    rcases List.mem_cons.mp h with e | e
                    · exact absurd e hy
                    · exact e)
            rw [key l _ hi, key l _ hi, wipe_length]
          · rw [wipe_out hi]
        exact this vs0 σ
      · obtain ⟨w5, mo5, s5, g5, hD5, er5⟩ := unprot s2 n2 (g3.trans g4) s4
        have hh : upd (hide H4 p) p (.lst vs2) = H4 := by rw [upd_hide, upd_self hD5]
        rw [← hh]
        refine hi p w5 σ4 (hide H4 p) env' st' acc2 vs2 Nx s5 (e4.mo mo5) hide_same (q2.mono g5) ?_
        have hp5 := hp2.mono g5
        cases hr : inner env' acc2 st' with
        | ok acc6 st6 =>
          rw [bd_ok hr] at hp5
          exact fun w6 H6 vs6 g6 s6 n6 q6 => hN w6 H6 st6 acc6 vs6 (g2.trans (g5.trans g6)) s6 n6 q6 (hp5.mono g6)
        | exc e st6 => rw [bd_exc hr] at hp5; exact hp5.elim
        | bad => rw [bd_bad hr] at hp5; exact hp5.elim
    | exc e st' => rw [bd_bad (noX_exc hf)] at hp2; exact hp2.elim
    | bad => rw [bd_bad (noX_bad hf)] at hp2; exact hp2.elim
  cases s with
  | fix xs =>
    let W : Nat → Nat → Hp → Prop := fun i m H' => ∃ w2 H2 st2 acc2 vs2, H' = upd H2 p (.lst vs2) ∧ Ge w H w2 H2 ∧ RelSt K w2 H2 st2 ∧ H2 p = none ∧ Rps K w2 H2 acc2 vs2 ∧ i ≤ xs.length ∧ m = xs.length - i ∧ PostN K p w2 H2 (lcF g inner (kill vs0 env) (xs.drop i) acc2 st2) Fin
    refine ⟨W, ⟨xs.length, w, H, st, acc, vs, rfl, Ge.refl _ _, hs, hn, hq, Nat.zero_le _, rfl, hp⟩, ?_⟩
    rintro i m H' ⟨w2, H2, st2, acc2, vs2, rfl, g2, s2, n2, q2, hil, rfl, hp2⟩
    have J2 : ItOk K w2 H2 J xs := ItOk.mono g2.mo g2.fk hJ
    by_cases hlt : i < xs.length
    · right
      have ex : xs[i]? = some xs[i] := by simp [hlt]
      have ed : xs.drop i = xs[i] :: xs.drop (i + 1) := List.drop_eq_getElem_cons hlt
      obtain ⟨go, yld⟩ := J2.prot (o := .lst vs2) s2 n2 ex
      refine ⟨go, fun H' => W (i + 1) (xs.length - (i + 1)) H', fun H' h => ⟨_, by omega, h⟩, fun v H3 hy => ?_⟩
      obtain ⟨sm, rx⟩ := yld v H3 hy
      rw [ed] at hp2
      unfold lcF at hp2
      exact turn w2 H2 st2 acc2 vs2 xs[i] v H3 _ _ g2 s2 n2 q2 sm rx hp2 fun w4 H4 st4 acc4 vs4 g4 s4 n4 q4 hp4 => ⟨w4, H4, st4, acc4, vs4, rfl, g4, s4, n4, q4, hlt, rfl, hp4⟩
    · left
      have e : i = xs.length := by omega
      subst e
      refine ⟨(J2 w2 _ st2 (Ge.new n2).mo (Fk.new n2) (s2.new n2)).2, ?_⟩
      rw [List.drop_length] at hp2
      exact hp2 w2 H2 vs2 (Ge.refl _ _) s2 n2 q2
  | obj n =>
    obtain ⟨a, ha, rfl⟩ := hJ
    have npa : a ≠ p := fun z => hs.notin hn (by rw [← z]; exact List.mem_append_left _ (List.mem_of_getElem? ha))
    let W : Nat → Nat → Hp → Prop := fun i m H' => ∃ w2 H2 st2 acc2 vs2, H' = upd H2 p (.lst vs2) ∧ Ge w H w2 H2 ∧ RelSt K w2 H2 st2 ∧ H2 p = none ∧ Rps K w2 H2 acc2 vs2 ∧ PostN K p w2 H2 (lcO g inner n (kill vs0 env) m i acc2 st2) Fin
    refine ⟨W, ⟨m0, w, H, st, acc, vs, rfl, Ge.refl _ _, hs, hn, hq, hp⟩, ?_⟩
    rintro i m H' ⟨w2, H2, st2, acc2, vs2, rfl, g2, s2, n2, q2, hp2⟩
    cases m with
    | zero => exact (show False from hp2).elim
    | succ m =>
      unfold lcO at hp2
      cases ho : st2[n]? with
      | none => simp only [ho] at hp2; exact (show False from hp2).elim
      | some o =>
        cases o with
        | lst xs =>
          simp only [ho] at hp2
          obtain ⟨us, ev, rv⟩ := s2.obj n _ a ho (g2.get ha)
          have ev' : upd H2 p (.lst vs2) a = some (.lst us) := by rw [upd_ne npa]; exact ev
          cases hx : xs[i]? with
          | none =>
            left
            simp only [hx] at hp2
            refine ⟨⟨us, SqL.of ev', ?_⟩, hp2 w2 H2 vs2 (Ge.refl _ _) s2 n2 q2⟩
            rw [← rv.length]
            exact List.getElem?_eq_none_iff.mp hx
          | some x =>
            right
            simp only [hx] at hp2
            obtain ⟨v, hv, rx⟩ := rv.get hx
            refine ⟨⟨us, v, SqL.of ev', hv⟩, fun H' => W (i + 1) m H', fun H' h => ⟨m, Nat.lt_succ_self _, h⟩, fun v' H3 hy => ?_⟩
            obtain ⟨e3, hy⟩ := hy
            subst e3
            have e4 : v' = v := by
              have q := hy us (SqL.of ev')
              rw [hv] at q
              exact (Option.some.inj q).symm
            subst e4
            exact turn w2 H2 st2 acc2 vs2 x v' _ _ _ g2 s2 n2 q2 (Same.refl _) (rx.mo (Mo.prot s2 n2)) hp2 fun w4 H4 st4 acc4 vs4 g4 s4 n4 q4 hp4 => ⟨w4, H4, st4, acc4, vs4, rfl, g4, s4, n4, q4, hp4⟩
        | _ => simp only [ho] at hp2; exact (show False from hp2).elim
def lcS (m : Nat) (own : List Nat) (fi : Env → M Src) (g : D → Env → M Env) (ft : Env → M Bool) (fe : Env → M D) : Env → M (List PyData) := fun env => bd (fi env) fun s => noX (lcL m g (lcIn ft fe) (kill own env) s [])
theorem rf_lc {K : W.Frag} {E : XK} {m : Nat} {own is : List Nat} {ti : TI} {tg : TG} {tt : TT} {te : TE} {fi : Env → M Src} {g : D → Env → M Env} {ft : Env → M Bool} {fe : Env → M D} (hi : Rf K E (RI K) ti fi) (hg : RfG K E0 is tg g) (his : ∀ i ∈ is, i ∈ own)
    (ht : Rf K E0 RB tt ft) (he : Rf K E0 (RE K) te fe) : RfF K E (tLc ti tg tt te own) (lcS m own fi g ft fe) := by
  intro w σ H env st Q s0 e0 hp
  unfold lcS at hp
  refine hi w σ H env st _ s0 e0 ?_
  cases hf : fi env st with
  | ok s st' =>
    rw [bd_ok hf] at hp
    intro w1 H1 J g1 s1 q1 p np
    refine lc_loop (m0 := m) hg (rfn_in ht he) his s1 (e0.mono g1) np .nil q1 (Fin := fun H' => Q (.ref p) H') ?_
    have hp := hp.mono g1
    cases hr : lcL m g (lcIn ft fe) (kill own env) s [] st' with
    | ok acc st2 =>
      rw [noX_ok hr] at hp
      exact fun w2 H2 vs g2 s2 n2 q2 => hp w2 H2 p vs g2 s2 n2 q2
    | exc e st2 => rw [noX_exc hr] at hp; exact hp.elim
    | bad => rw [noX_bad hr] at hp; exact hp.elim
  | exc e st' => rw [bd_exc hf] at hp; exact hp
  | bad => rw [bd_bad hf] at hp; exact hp
structure STs (X : Cx) (E : XK) (es : List Expr) (t : TT) (f : Env → M Bool) : Prop where
  pt : PTs X es t
  rf : Rf X.K E RB t f
section
variable {X : Cx} {E : XK} {elt tg iter : Expr} {ifs : List Expr} {scope : Scope} {own : List (Str × Nat)} {is : List Nat} {pos : Pos} {ti : TI} {g : TG} {tt : TT} {te : TE} {fi : Env → M Src} {fg : D → Env → M Env} {ft : Env → M Bool} {fe : Env → M D} {t : TT} {f : Env → M Bool} {c : Expr}
def yesT : Env → M Bool := fun _ => rt true
theorem sts_nil : STs X E [] tYes yesT := ⟨pts_nil, fun w σ H env st Q hs he hp => Post.now hp hs rfl⟩
theorem sf_lc (m : Nat) (hN : X.N.Nodup) (hi : SI X E tg iter ti fi) (ok : BlkOk X.N X.env.scope scope own)
    (hg : ∀ (s : Shared) (H : Hp) (C : Addr) (cl : List (Str × Addr)) (fp : List Addr), SG (X.blk s H scope (PySem.compEnvC scope cl C X.env) fp) E0 is tg g fg) (ht : ∀ (s : Shared) (H : Hp) (C : Addr) (cl : List (Str × Addr)) (fp : List Addr), STs (X.blk s H scope (PySem.compEnvC scope cl C X.env) fp) E0 ifs tt ft)
    (he : ∀ (s : Shared) (H : Hp) (C : Addr) (cl : List (Str × Addr)) (fp : List Addr), SE (X.blk s H scope (PySem.compEnvC scope cl C X.env) fp) E0 elt te fe) {os : List Nat} (hos : own.map (·.2) = os := by rfl) (his : ∀ i ∈ is, i ∈ os := by decide) (hc : X.calm = true := by rfl) (hs : ∀ x, foldedSetIterable iter X.env x = pure x := by intro _; rfl) :
    SF X E (.ListComp elt [⟨tg, iter, ifs, 0⟩] scope pos) (tLc ti g tt te os) (lcS m os fi fg ft fe) := by
  subst hos
  exact ⟨pe_lc hc hN hi.pi ok (fun s H C cl fp => (hg s H C cl fp).pg) (fun s H C cl fp => (ht s H C cl fp).pt) (fun s H C cl fp => (he s H C cl fp).pe) hs,
    rf_lc hi.rf (hg {} (fun _ => none) 0 [] []).rf his (ht {} (fun _ => none) 0 [] []).rf (he {} (fun _ => none) 0 [] []).rf⟩
end
end B
namespace B
open PySem L2
variable [Nm] [Gd]

structure FnG (P : Program) (w : World) (K : W.Frag) (mg : Str → Option Value) (base : Heap) (k : Nat) (f : Addr) (fd : FuncData) (ps : List Str) (sp : Sp) : Prop where
  size : ∀ vs H Q E, sp vs H Q E → vs.length = ps.length
  goes : ∀ (A : Around) (out : List PySem.Env) (s : Shared) (H : Hp) (args : Args) (us : List Value) (vs : List V) (Q : VK) (E : XK), Room k A → A.guards = some [] → Env0 P w K mg base A out s H →
    BindsTo s fd args (ps.zip us) → Vals vs us → sp vs H Q E → codeAny (model P w) A (.call (.ref f) args) (CR (L2.CX P w) out P w H s Q E) s
theorem FnG.up {P : Program} {w : World} {K : W.Frag} {mg : Str → Option Value} {base : Heap} {j k : Nat} {f : Addr} {fd : FuncData} {ps : List Str} {sp : Sp} (F : FnG P w K mg base j f fd ps sp) (h : j ≤ k) : FnG P w K mg base k f fd ps sp :=
  ⟨F.size, fun A out s H args us vs Q E hr => F.goes A out s H args us vs Q E (hr.mono h)⟩
section
variable {X : Cx} {E : XK} {e : Expr} {es : List Expr} {t tk : TA} {pos p : Pos} {x : Str} {f : Addr} {fd : FuncData} {ps ks : List Str} {k : Nat} {sp : Sp} {kws : List Keyword}
  {g : List Value → List Value → List Value} {gV : List V → List V → List V}
theorem CR.after {pins : List (Addr × Obj)} {σ : St} {H : Hp} {s : Shared} {Q : VK} (hx : Passes (L2.CX X.prog X.w) X E) (I : Inv X pins σ H s) {r : Result} {s' : Shared} (h : CR (L2.CX X.prog X.w) X.stack X.prog X.w H s Q E r s') :
    match r with
    | .ok (.ret u) => EP X pins σ Q u s'
    | .ok _ => False
    | .error e => X.xe e s' := by
  cases r with
  | error e => exact hx pins σ H s e s' I h
  | ok fl => cases fl with
    | ret u => exact I.after h
    | next => exact False.elim h
    | brk => exact False.elim h
    | cont => exact False.elim h
theorem goFn {pins : List (Addr × Obj)} {σ : St} {H : Hp} {s : Shared} {Q : VK} {us : List Value} {vs : List V} (F : FnG X.prog X.w X.K X.mg X.base k f fd ps sp) (hr : Room k X.A) (hG : X.A.guards = some []) (hb : Binds X.K fd ps []) (hx : Passes (L2.CX X.prog X.w) X E)
    (I : Inv X pins σ H s) (r : Vals vs us) (h : sp vs H Q E) : wpAny (model X.prog X.w) X.A (call (.ref f) us) (EP X pins σ Q) X.xe s := by
  have hz : us.length = ps.length := by rw [← r.length]; exact F.size _ _ _ _ h
  have bt := hb s us I.kIn (by rw [List.append_nil]; exact hz)
  rw [List.append_nil] at bt
  refine wpAny_call (codeAny_mono (F.goes X.A X.stack s H ⟨us, []⟩ us vs Q E hr hG I.env0 bt r h) fun r s' hq => ?_)
  have q := CR.after hx I hq
  cases r with
  | error e => exact q
  | ok fl => cases fl with
    | ret u => exact q
    | next => exact False.elim q
    | brk => exact False.elim q
    | cont => exact False.elim q
def tCallG (sp : Sp) (E : XK) (t : TA) : TE := fun σ H Q => t σ H fun vs H1 => sp vs H1 Q E
theorem pg_call (F : FnG X.prog X.w X.K X.mg X.base k f fd ps sp) (hr : Room k X.A) (hG : X.A.guards = some []) (hg : Gl X x) (hm : X.mg x = some (.ref f)) (hk : PySem.W.keepIn X.K (.ref f) = true) (hb : Binds X.K fd ps []) (hx : Passes (L2.CX X.prog X.w) X E)
    (ha : PA X (e :: es) t) (hdb : (x == ("__debug__" : Str)) = false) (he : starEach (e :: es) X.env = (false, eval e X.env) :: starEach es X.env) (hpl : (backTo pos (starEach es X.env)).any (·.1) = false) :
    PE X (.Call (.Name x p) (e :: es) [] pos) (tCallG sp E t) :=
  ⟨fun pins s σ H Q I h => wpAny_Call_Name_kw (ld_glob I hg hm (PySem.W.callWith_K (h₀ := X.base) I.ok.mod.kin hk (thn (ha.run pos pins s σ H _ I h) fun us s1 ⟨vs, H1, I1, r, q⟩ => ⟨I1.kIn, goFn F hr hG hb hx I1 r q⟩) he hpl) hdb)⟩
theorem pg_call0 (F : FnG X.prog X.w X.K X.mg X.base k f fd ps sp) (hr : Room k X.A) (hG : X.A.guards = some []) (hg : Gl X x) (hm : X.mg x = some (.ref f)) (hk : PySem.W.keepIn X.K (.ref f) = true) (hb : Binds X.K fd ps []) (hx : Passes (L2.CX X.prog X.w) X E)
    (hdb : (x == ("__debug__" : Str)) = false) : PE X (.Call (.Name x p) [] [] pos) (tCallG sp E tNil) :=
  ⟨fun pins s σ H Q I h => wpAny_Call_Name_kw (ld_glob I hg hm (PySem.W.callWith_K0 I.kIn hk (goFn (us := []) F hr hG hb hx I .nil h)) hdb)⟩
end
theorem fnG_of {P : Program} {w : World} {K : W.Frag} {mg : Str → Option Value} {base : Heap} {k : Nat} {f : Addr} {nm qual : Str} {pms : Arguments} {body : List Stmt} {sc : Scope} {dV kV dc pm cdv ct oc : Value} {an od : Option Addr}
    {osl : Array (Option Value)} {N ps : List Str} {sp : Sp} (lk : K.lookup f = some ⟨oc, od, .func (PySem.W.fnOf nm qual pms body sc dV kV dc pm an cdv ct), osl⟩) (hcd : PySem.W.codeIn K cdv qual = true) (S : FnScope N ps sc)
    (size : ∀ vs H Q E, sp vs H Q E → vs.length = ps.length)
    (hbody : ∀ (A : Around) (out : List PySem.Env) (s : Shared) (H : Hp) (vs : List V) (Q : VK) (E : XK), Room k (A.deeper (PyProof.Rows.envOfC qual sc s.heap.objs.size f cdv)) → A.guards = some [] → sp vs H Q E →
      ∃ t, PSs (cxOf (L2.CX P w) P w K mg base N qual sc f cdv A out s H E) body t ∧ t { nx := fun _ H' => Q .non H', rt := Q } (start N vs) H) :
    FnG P w K mg base (k + 1) f (PySem.W.fnOf nm qual pms body sc dV kV dc pm an cdv ct) ps sp := by
  refine ⟨size, fun A out s H args us vs Q E hr hG e0 hb r hsp => ?_⟩
  have hz := size _ _ _ _ hsp
  have inH : K.In s.heap := e0.mod.kin.keeps fun b o e => (e0.bs b o e).1
  have lm : s.heap.NoLimit := e0.mod.nolimit.keeps fun b o e => (e0.bs b o e).1
  have hkd : ∀ y ∈ ps.zip us, sc.names.lookup y.1 = some .local ∨ (sc.names.lookup y.1 = some .cell ∧ ((PySem.cellsFrom (s.heap.objs.size + 1) sc.names []).lookup y.1).isSome = true) := fun ⟨n, v⟩ hy => by
    rcases S.par n (List.of_mem_zip hy).1 with z | z
    · exact .inl z
    · exact .inr ⟨z, PySem.W.cellsFrom_some _ _ _ (.inl z)⟩
  refine codeAny_call_function hr.depth (inH _ _ lk) rfl S.co S.gen rfl (PySem.W.codeRec_of inH hcd) (hb _ _ _ _ ?_)
  refine wpAny_newFunctionEnv_cells S.kind hkd fun env he s1 y => ?_
  subst he
  refine ⟨lm.keeps y.toInCall.keep, codeAny_func ?_⟩
  obtain ⟨t, ht, hq⟩ := hbody A out s H vs Q E (hr.deeper _) hG hsp
  have J : Inv (cxOf (L2.CX P w) P w K mg base N qual sc f cdv A out s H E) [] (start N vs) H s1 := inv_start S hr.hd e0 hz r y
  refine wpAny_mono (ht.run [] s1 (start N vs) H _ J hq) (fun fl s' hs => ?_) fun e s' hs => hs
  have out_ : ∀ {σ' : St} {H' : Hp} {v : V} {u : Value}, Inv (cxOf (L2.CX P w) P w K mg base N qual sc f cdv A out s H E) [] σ' H' s' → RelV v u → Q v H' → CE out P w H s Q u s' :=
    fun {σ' H' v u} I rv q => ⟨v, H', I.os, I.bare, I.base, I.hok, rv, q⟩
  cases fl with
  | ret u =>
    obtain ⟨v, σ', H', I, rv, q⟩ := hs
    exact out_ I rv q
  | next =>
    obtain ⟨σ', H', I, q⟩ := hs
    exact out_ (v := V.non) (u := Value.none) I rfl q
  | brk => obtain ⟨_, _, _, q⟩ := hs; exact False.elim q
  | cont => obtain ⟨_, _, _, q⟩ := hs; exact False.elim q

def spOf (K : W.Frag) (n : Nat) (m : List D → M D) : Sp := fun vs H Q E => vs.length = n ∧ ∃ w st ds, RelSt K w H st ∧ RpDs K w H ds vs ∧ Post K E (RE K) w H (m ds st) Q
section
variable {X : Cx} {E : XK} {e : Expr} {es : List Expr} {tr tk : TA} {fr fk : Env → M (List D)} {pos p : Pos} {x : Str} {f : Addr} {fd : FuncData} {ps ks : List Str} {k n : Nat} {m : List D → M D} {kws : List Keyword} {g : List Value → List Value → List Value} {gV : List V → List V → List V} {gD : List D → List D → List D}
def lenIs (n : Nat) (fr : Env → M (List D)) : Prop := ∀ env st ds st', fr env st = .ok ds st' → ds.length = n
theorem lenIs_nil : lenIs 0 aNil := fun _ _ _ _ h => by cases h; rfl
theorem lenIs_cons {fa : Env → M D} (h : lenIs n fr) : lenIs (n + 1) (aCons fa fr) := by
  intro env st ds st' e
  unfold aCons bd at e
  cases q : fa env st with
  | ok a st1 =>
    simp only [q] at e
    cases q2 : fr env st1 with
    | ok b st2 =>
      simp only [q2, rt, Res.ok.injEq] at e
      rw [← e.1, List.length_cons, h _ _ _ _ q2]
    | exc _ _ => simp only [q2] at e; cases e
    | bad => simp only [q2] at e; cases e
  | exc _ _ => simp only [q] at e; cases e
  | bad => simp only [q] at e; cases e
def callF (m : List D → M D) (fr : Env → M (List D)) : Env → M D := fun env => bd (fr env) m
theorem rf_call {K : W.Frag} (hn : lenIs n fr) (ha : Rf K E (RA K) tr fr) : Rf K E (RE K) (tCallG (spOf K n m) E tr) (callF m fr) := by
  intro w σ H env st Q s0 e0 hp
  unfold callF at hp
  refine ha w σ H env st _ s0 e0 ?_
  cases hf : fr env st with
  | ok ds st' =>
    rw [bd_ok hf] at hp
    exact fun w1 H1 vs g1 s1 q1 => ⟨by rw [← q1.length]; exact hn _ _ _ _ hf, w1, st', ds, s1, q1, hp.mono g1⟩
  | exc e st' => rw [bd_exc hf] at hp; exact hp
  | bad => rw [bd_bad hf] at hp; exact hp
theorem se_call {K : W.Frag} (F : FnG X.prog X.w X.K X.mg X.base k f fd ps (spOf K n m)) (hr : Room k X.A) (hG : X.A.guards = some []) (hm : X.mg x = some (.ref f)) (hk : PySem.W.keepIn X.K (.ref f) = true) (hb : Binds X.K fd ps []) (hx : Passes (L2.CX X.prog X.w) X E)
    (ha : SA X E (e :: es) tr fr) (hn : lenIs n fr) (hK : X.K = K := by rfl) (hg : Gl X x := by rfl) (hdb : (x == ("__debug__" : Str)) = false := by decide) (he : starEach (e :: es) X.env = (false, eval e X.env) :: starEach es X.env := by rfl) (hpl : (backTo pos (starEach es X.env)).any (·.1) = false := by rfl) :
    SE X E (.Call (.Name x p) (e :: es) [] pos) (tCallG (spOf K n m) E tr) (callF m fr) := by
  subst hK
  exact ⟨pg_call F hr hG hg hm hk hb hx ha.pa hdb he hpl, rf_call hn ha.rf⟩
theorem se_call0 {K : W.Frag} (F : FnG X.prog X.w X.K X.mg X.base k f fd ps (spOf K 0 m)) (hr : Room k X.A) (hG : X.A.guards = some []) (hm : X.mg x = some (.ref f)) (hk : PySem.W.keepIn X.K (.ref f) = true) (hb : Binds X.K fd ps []) (hx : Passes (L2.CX X.prog X.w) X E)
    (hK : X.K = K := by rfl) (hg : Gl X x := by rfl) (hdb : (x == ("__debug__" : Str)) = false := by decide) : SE X E (.Call (.Name x p) [] [] pos) (tCallG (spOf K 0 m) E tNil) (callF m aNil) := by
  subst hK
  exact ⟨pg_call0 F hr hG hg hm hk hb hx hdb, rf_call lenIs_nil (sa_nil (X := X)).rf⟩
structure SK (X : Cx) (E : XK) (kws : List Keyword) (t : TA) (f : Env → M (List D)) : Prop where
  pk : PK X kws t
  rf : Rf X.K E (RA X.K) t f
variable {ta : TE} {fa : Env → M D} {kpos : Pos} {nm : Option Str}
theorem sk_nil : SK X E [] tNil aNil := ⟨pk_nil, (sa_nil (X := X)).rf⟩
theorem sk_cons (ha : SE X E e ta fa) (hr : SK X E kws tr fr) : SK X E (⟨nm, e, kpos⟩ :: kws) (tCons ta tr) (aCons fa fr) := by
  refine ⟨pk_cons ha.pe hr.pk, fun w σ H env st Q s0 e0 hp => ?_⟩
  refine ha.rf.step s0 e0 hp fun r1 H1 st1 x v g1 s1 e1 q1 hp => ?_
  refine hr.rf.step s1 e1 hp fun r2 H2 st2 xs vs g2 s2 e2 q2 hp => ?_
  exact Post.now hp s2 (.cons (q1.mono g2) q2)
end
def fnOf (n : Nat) (body : Env → M Fl) (ds : List D) : M D := bd (body (ds.map some ++ List.replicate (n - ds.length) none)) fun f => match f with
  | .rt d => rt d
  | .nx _ => rt (.val .none)
  | _ => bad
theorem RelEnv.start {K : W.Frag} {w : Wd} {H : Hp} {ds : List D} {vs : List V} {N : List Str} (r : RpDs K w H ds vs) : RelEnv K w H (ds.map some ++ List.replicate (N.length - ds.length) none) (L2.start N vs) := by
  have hl := r.length
  refine ⟨by simp [L2.start, hl], fun i d e => ?_⟩
  have : ∀ (ds : List D) (vs : List V), RpDs K w H ds vs → ∀ (i : Nat) (d : D) (t : List (Option D)) (u : St), (∀ j : Nat, t[j]? ≠ some (some d)) → (ds.map some ++ t)[i]? = some (some d) → ∃ v, (vs.map some ++ u)[i]? = some (some v) ∧ RpD K w H d v := by
    intro ds vs r
    induction r with
    | nil => intro i d t u ht h; exact absurd h (ht i)
    | cons r rr ih =>
      intro i d t u ht h
      cases i with
      | zero => simp at h; subst h; exact ⟨_, rfl, r⟩
      | succ i => simpa using ih i d t u ht (by simpa using h)
  refine this ds vs r i d _ _ (fun j h => ?_) e
  have := List.mem_of_getElem? h
  simp at this
section
variable {P : Program} {w : World} {K : W.Frag} {mg : Str → Option Value} {base : Heap}
theorem does {x qual : Str} {st : Stmt} {f : Addr} {fd : FuncData} {N ps : List Str} {k : Nat} {body : Env → M Fl} (F : Fun K x qual st f fd) (S : FnScope N ps (defScope st))
    (h : ∀ (A : Around) (out : List PySem.Env) (s : Shared) (H : Hp) (E : XK), Room k (A.deeper (PyProof.Rows.envOfC qual (defScope st) s.heap.objs.size f fd.code)) → A.guards = some [] → ∃ t, SSs (cxOf (L2.CX P w) P w K mg base N qual (defScope st) f fd.code A out s H E) E (defBody st) t body) :
    FnG P w K mg base (k + 1) f fd ps (spOf K ps.length (fnOf N.length body)) := by
  obtain ⟨oc, od, kV, doc, pm, an, cdv, ct, osl, rfl, lk, hcd⟩ := F.ex
  refine fnG_of lk hcd S (fun vs H Q E h => h.1) fun A out s H vs Q E hr hG hsp => ?_
  obtain ⟨t, d⟩ := h A out s H E hr hG
  obtain ⟨_, w, st0, ds, hs, r, hp⟩ := hsp
  refine ⟨t, d.ps, d.rf w _ H _ st0 _ hs (RelEnv.start r) ?_⟩
  unfold fnOf at hp
  cases hf : body (ds.map some ++ List.replicate (N.length - ds.length) none) st0 with
  | ok r st' =>
    rw [bd_ok hf] at hp
    cases r with
    | nx env => exact fun w' H' σ' g s1 _ => hp w' H' _ g s1 .non
    | rt d => exact hp
    | bk env => exact hp.elim
    | ct env => exact hp.elim
  | exc e st' => rw [bd_exc hf] at hp; exact hp
  | bad => rw [bd_bad hf] at hp; exact hp
end
end B
namespace B
open PySem L2
variable [Nm] [Gd]
open PyProof.Rows (AllBare)
open PyProof.Rows (IntsAre)
omit [Nm] [Gd] in
theorem lawRuns {P : Program} {w : World} {K : W.Frag} {mg mb : Str → Option Value} {k : Nat} {fa a : Addr} {fd : FuncData} {x : Str} {sp : Sp} {s1 : Shared} {vs : List Value} {ns : List Int} {cs : List (Addr × Addr × Str)}
    (inK : K.In s1.heap) (hmg : s1.heap.Ns mainGlobals mg) (hmb : s1.heap.Ns builtinsNs mb) (hbt : ∀ x : Str, x ≠ "__name__" → mb x = bootBuiltins x) (lim : s1.heap.NoLimit) (hgen : s1.gens = #[])
    (tE : ∀ p ∈ cs, s1.heap.get? p.2.1 = some { cls := .none, data := .fields #[] }) (tN : ∀ p ∈ cs, K.lookup p.2.1 = none) (tC : ∀ p ∈ cs, PySem.W.CodeHd s1.heap p.1 p.2.1)
    (hbm : ∃ (bm : Addr) (ob : Obj), mg "__builtins__" = some (.ref bm) ∧ bm ≠ builtinsNs ∧ s1.heap.get? bm = some ob ∧ ob.cls = .type "module" ∧ ob.dict = some builtinsNs ∧ ob.data = .plain)
    (hobj : s1.heap.get? a = some { cls := .type "list", data := .seq vs.toArray }) (hint : IntsAre vs ns) (hsz : ns.length ≤ sizeLine) (hr : Room k callerA)
    (F : ∀ base : Heap, K.In base → base.Ns mainGlobals mg → (∀ p ∈ cs, LamX.TabB base mg p.1 p.2.1) → FnG P w K mg base k fa fd [x] sp) (hbind : ∀ (s : Shared) (u : Value), BindsTo s fd ⟨[u], []⟩ [(x, u)])
    (hsp : ∀ H : Hp, (∀ p ∈ cs, H p.2.1 = some (.tbl #[])) → (∀ b o, H b = some o → (∃ ps, o = .tbl ps) ∨ ∃ ob xs, o = .frz ob (.lst xs)) → SqL K H a (ns.map V.int) → sp [.ref a] H (fun v _ => v = .bl true) fun _ _ _ => False) :
    codeAny (model P w) callerA (.call (.ref fa) ⟨[.ref a], []⟩) (fun r s' => r = .ok (.ret (.bool true)) ∧ OldK s1.heap s'.heap ∧ s'.os = s1.os ∧ AllBare s'.gens) s1 := by
  have rel := vals_ints hint
  have len := hint.length
  let tabs : List Addr := cs.map fun p => p.2.1
  have isT : ∀ b, b ∈ tabs → s1.heap.get? b = some { cls := .none, data := .fields #[] } := fun b hb => by
    obtain ⟨p, hp, e⟩ := List.mem_map.mp hb
    rw [← e]
    exact tE p hp
  have aT : a ∉ tabs := fun z => by
    have q := isT a z
    rw [hobj] at q
    cases q
  have inT : ∀ p ∈ cs, p.2.1 ∈ tabs := fun p hp => List.mem_map.mpr ⟨p, hp, rfl⟩
  have go : ∀ H : Hp, (∀ b, b ∈ tabs → H b = some (.tbl #[])) → (∀ b, b ∉ tabs → H b = none ∨ ∃ o xs, H b = some (.frz o (.lst xs))) → SqL K H a (ns.map V.int) → HOk P w H s1.heap → (∀ b, H b ≠ none → b = a ∨ b ∈ tabs) → (H a ≠ none → K.lookup a = none) →
      codeAny (model P w) callerA (.call (.ref fa) ⟨[.ref a], []⟩) (fun r s' => r = .ok (.ret (.bool true)) ∧ OldK s1.heap s'.heap ∧ s'.os = s1.os ∧ AllBare s'.gens) s1 := by
    intro H ht only sq hok ha hk
    have toBase : ∀ {b : Addr} {o : Obj}, s1.heap.get? b = some o → H b = none → (hidT s1.heap H).get? b = some o := fun e n => hidT_get e n
    have clear : ∀ {b : Addr} {o : Obj}, s1.heap.get? b = some o → (∀ vs n, o.data ≠ .seq vs n) → o.data ≠ .fields #[] → H b = none := fun {b o} e n1 n2 => by
      cases q : H b with
      | none => rfl
      | some u =>
        rcases ha b (by rw [q]; simp) with z | z
        · subst z
          rw [hobj] at e
          cases e
          exact absurd rfl (n1 _ _)
        · rw [isT b z] at e
          cases e
          exact absurd rfl n2
    have nsB : ∀ {b : Addr} {m : Str → Option Value}, s1.heap.Ns b m → (hidT s1.heap H).Ns b m := fun {b m} ⟨o, es, ep, e, d, r⟩ => ⟨o, es, ep, toBase e (clear e (fun _ _ z => by rw [d] at z; cases z) (fun z => by rw [d] at z; cases z)), d, r⟩
    have inB : K.In (hidT s1.heap H) := fun b o e => toBase (inK b o e) (by
      cases q : H b with
      | none => rfl
      | some u =>
        rcases ha b (by rw [q]; simp) with z | z
        · subst z
          rw [hk (by rw [q]; simp)] at e
          cases e
        · obtain ⟨p, hp, ep⟩ := List.mem_map.mp z
          rw [← ep, tN p hp] at e
          cases e)
    have modB : Mod K mg (hidT s1.heap H) := ⟨inB, nsB hmg, ⟨mb, nsB hmb, hbt⟩, let ⟨mc, h1, h2⟩ := lim; ⟨mc, nsB h1, h2⟩⟩
    have tabB : ∀ p ∈ cs, LamX.TabB (hidT s1.heap H) mg p.1 p.2.1 := fun p hp => by
      refine ⟨?_, ?_, fun z => ?_⟩
      · obtain ⟨o, us, file, tf, flags, tg, inF, text, tt, f1, f2, f3, f4⟩ := tC p hp
        refine ⟨o, us, file, tf, flags, tg, inF, text, tt, toBase f1 (clear f1 (fun _ _ z => ?_) fun z => ?_), f2, f3, f4⟩
        · rw [f3] at z; cases z
        · rw [f3] at z; cases z
          simp at f4
      · obtain ⟨bm, ob, g1, g2, g3, g4, g5, g6⟩ := hbm
        have nG : bm ≠ mainGlobals := fun q => by
          obtain ⟨o, es, ep, e, hd, _⟩ := hmg
          rw [q, e] at g3
          cases g3
          rw [hd] at g6
          cases g6
        have nP : bm ≠ p.2.1 := fun q => by
          rw [q, tE p hp] at g3
          cases g3
          cases g6
        exact ⟨bm, ob, g1, g2, nG, nP, toBase g3 (clear g3 (fun _ _ z => by rw [g6] at z; cases z) fun z => by rw [g6] at z; cases z), g4, g5, g6⟩
      · obtain ⟨o, es, ep, e, hd, _⟩ := hmg
        rw [z, tE p hp] at e
        cases e
        cases hd
    have env0 : Env0 P w K mg (hidT s1.heap H) callerA [] s1 H :=
      ⟨rfl, modB, fun b o e => of_hidT e, Nat.le_of_eq (hidT_size _ _), trivial, fun b hb => absurd (show b ∈ ([] : List Addr) from hb) (by simp), hok, .of_eq hgen⟩
    have kinds : ∀ b o, H b = some o → (∃ ps, o = .tbl ps) ∨ ∃ ob xs, o = .frz ob (.lst xs) := fun b o e => by
      by_cases hb : b ∈ tabs
      · rw [ht b hb] at e; cases e; exact .inl ⟨_, rfl⟩
      · rcases only b hb with z | ⟨ob, xs, z⟩
        · rw [z] at e; cases e
        · rw [z] at e; cases e; exact .inr ⟨_, _, rfl⟩
    refine codeAny_mono ((F _ inB (nsB hmg) tabB).goes callerA [] s1 H ⟨[.ref a], []⟩ [.ref a] [.ref a] _ _ hr rfl env0 (hbind s1 (.ref a)) (.cons rfl .nil) (hsp H (fun p hp => ht _ (inT p hp)) kinds sq)) fun r s' h => ?_
    cases r with
    | error e =>
      obtain ⟨_, _, _, _, _, _, _, _, _, _, _, _, z⟩ := h
      exact z.elim
    | ok fl => cases fl with
      | next => exact False.elim h
      | brk => exact False.elim h
      | cont => exact False.elim h
      | ret u =>
        obtain ⟨v, H', os, bare, un, hok', rv, q⟩ := h
        have q2 : v = .bl true := q
        subst q2
        obtain rfl : u = Value.bool true := rv
        have key : ∀ b o, b ∉ tabs → s1.heap.get? b = some o → s'.heap.get? b = some o := fun b o nb e => by
          rcases only b nb with z | ⟨ob, xs, z⟩
          · exact un.keep b o e z (fun y => absurd (show b ∈ ([] : List Addr) from y) (by simp)) (by simp)
          · obtain ⟨e1, _⟩ := hok b _ z
            obtain ⟨e2, _⟩ := hok' b _ (un.frzs b ob _ z)
            rw [e] at e1; cases e1
            exact e2
        have more : ∀ p ∈ cs, ∃ vs : Array Value, s'.heap.get? p.2.1 = some { cls := .none, data := .fields vs } := fun p hp => by
          obtain ⟨vs, z⟩ := un.tbls p.2.1 #[] (ht _ (inT p hp))
          exact ⟨_, hok' p.2.1 _ z⟩
        refine ⟨rfl, ⟨fun b o e => ?_, fun b o e => ?_⟩, os, bare⟩
        · by_cases hb : b ∈ tabs
          · obtain ⟨p, hp, ep⟩ := List.mem_map.mp hb
            obtain ⟨vs, hm⟩ := more p hp
            rw [← ep] at e ⊢
            rw [tE p hp] at e
            cases e
            exact .inr (.inl ⟨((tC p hp).tab (tE p hp)).isCodeTable, rfl, #[], vs, rfl, by rw [Array.empty_append]; exact hm⟩)
          · exact .inl (key b o hb e)
        · by_cases hb : b ∈ tabs
          · obtain ⟨p, hp, ep⟩ := List.mem_map.mp hb
            obtain ⟨vs, hm⟩ := more p hp
            rw [← ep]
            exact ⟨_, hm⟩
          · exact ⟨o, key b o hb e⟩
  cases hk : K.lookup a with
  | some o =>
    have e := inK a o hk
    rw [hobj] at e
    cases e
    refine go (fun b => if b ∈ tabs then some (.tbl #[]) else none) (fun b hb => if_pos hb) (fun b hb => .inl (if_neg hb)) (.inr ⟨_, vs.toArray, _, hk, rfl, rfl, rfl, by rw [List.size_toArray, len]; exact hsz, by simpa using rel⟩) (fun b u z => ?_) (fun b z => ?_) fun z => absurd (if_neg aT) z
    · by_cases hb : b ∈ tabs
      · have z2 := (if_pos hb).symm.trans z
        cases z2
        exact isT b hb
      · have z2 := (if_neg hb).symm.trans z
        cases z2
    · by_cases hb : b ∈ tabs
      · exact .inr hb
      · exact absurd (if_neg hb) z
  | none =>
    refine go (fun b => if b ∈ tabs then some (.tbl #[]) else if b = a then some (.frz { cls := .type "list", data := .seq vs.toArray } (.lst (ns.map V.int))) else none) (fun b hb => if_pos hb) (fun b hb => ?_)
      (.inl (.inr ⟨{ cls := .type "list", data := .seq vs.toArray }, (if_neg aT).trans (if_pos rfl)⟩)) (fun b u z => ?_) (fun b z => ?_) fun _ => hk
    · by_cases hb2 : b = a
      · exact .inr ⟨_, _, (if_neg hb).trans (if_pos hb2)⟩
      · exact .inl ((if_neg hb).trans (if_neg hb2))
    · by_cases hb : b ∈ tabs
      · have z2 := (if_pos hb).symm.trans z
        cases z2
        exact isT b hb
      · have z1 := (if_neg hb).symm.trans z
        by_cases hb2 : b = a
        · have z2 := (if_pos hb2).symm.trans z1
          cases z2
          subst hb2
          exact ⟨hobj, by rw [List.length_map]; exact hsz, vs, _, rel, hobj⟩
        · have z2 := (if_neg hb2).symm.trans z1
          cases z2
    · by_cases hb : b ∈ tabs
      · exact .inr hb
      · by_cases hb2 : b = a
        · exact .inl hb2
        · exact absurd ((if_neg hb).trans (if_neg hb2)) z
@[reducible] def Gd.no : Gd := ⟨fun _ _ => True, fun _ => False, fun _ _ => trivial⟩
structure LawAt (P : Program) (w : World) (K : W.Frag) (mg : Str → Option Value) (k : Nat) (fa : Addr) (x : Str) (m : List D → M D) (h : Heap) where
  nm : Nm
  fd : FuncData
  cs : List (Addr × Addr × Str)
  tb : nm.tb = cs.map fun p => (p.2.1, p.2.2)
  tE : ∀ p ∈ cs, h.get? p.2.1 = some { cls := .none, data := .fields #[] }
  tN : ∀ p ∈ cs, K.lookup p.2.1 = none
  tC : ∀ p ∈ cs, PySem.W.CodeHd h p.1 p.2.1
  bind : ∀ (s : Shared) (u : Value), BindsTo s fd ⟨[u], []⟩ [(x, u)]
  ok : ∀ base : Heap, K.In base → base.Ns mainGlobals mg → (∀ p ∈ cs, LamX.TabB base mg p.1 p.2.1) → FnG P w K mg base k fa fd [x] (@spOf nm Gd.no K 1 m)
omit [Nm] [Gd] in
theorem lawEnds {l : PySem.W.OpenLaw} {n k : Nat} {q : Program} {loose : List Str} {XP : (Str → Option Value) → Heap → Prop} {YP : World → Heap → Prop} {d : DefRec} {K : Params → W.Frag} {x : Str} {m : List D → M D}
    (hn : l.most = some n) (hn2 : n ≤ sizeLine) (hdf : d.params.defaults = []) (hr : Room k callerA) (hY : ∀ (w : World) (h : Heap), YP w h → (K w.params).In h)
    (F : ∀ (w : World) (mg mb : Str → Option Value) (fa : Addr) (h : Heap) (mean : PySem.ExcName → Option Value), (K w.params).In h → PyProof.Rows.Top q (PySem.W.looseW q loose) mean mg mb h → mg d.name = some (.ref fa) → Nonempty (LawAt l.prog w (K w.params) mg k fa x m h))
    (hm : ∀ ns : List Int, ns.length ≤ n → ∃ st, m [.frz (ns.map PyData.int)] [] = .ok (.val (.bool true)) st) :
    PySem.W.WalkO q loose XP YP l.row.toRowW d [] (fun f vs => PySem.call f vs) := by
  refine Att.attach_call hn hdf fun w s0 s1 mg mb fa o pm cd doc a vs ns G Y ho hd hcd hmg hobj hints hlen hg => ?_
  have inK := hY w _ Y
  obtain ⟨L⟩ := F w mg mb fa _ _ inK G.T hmg
  refine lawRuns inK G.T.g G.T.b G.T.builtins G.T.nolimit hg L.tE L.tN L.tC G.T.bmain hobj hints (Nat.le_trans hlen hn2) hr L.ok L.bind fun H hT kinds sq => ?_
  obtain ⟨st, e⟩ := hm ns hlen
  letI := L.nm
  letI := Gd.no
  have intsR : ∀ l : List Int, Rps (K w.params) ⟨[], []⟩ H (l.map PyData.int) (l.map V.int) := fun l => by
    induction l with
    | nil => exact .nil
    | cons i r ih => exact .cons (.int i) ih
  refine ⟨rfl, ⟨[], []⟩, [], [.frz (ns.map PyData.int)], ⟨rfl, List.nodup_nil, fun _ h => by simp at h, fun _ h => by simp at h, fun n o a h => by simp at h, fun p hp => ?_, trivial⟩, .cons ⟨a, _, rfl, ?_, intsR ns⟩ .nil, ?_⟩
  · have hp' : p ∈ L.nm.tb := hp
    rw [L.tb] at hp'
    obtain ⟨c, hc, rfl⟩ := List.mem_map.mp hp'
    exact LamX.TabS.nil (hT c hc)
  · rcases sq with z | z
    · rcases z with z | z
      · rcases kinds a _ z with ⟨_, y⟩ | ⟨_, _, y⟩ <;> cases y
      · exact .inl ⟨z, by simp⟩
    · exact .inr z
  · rw [e]
    intro w' H' v g s r
    cases r
    rfl
end B
namespace B
open PySem L2
variable [Nm] [Gd]

def dat (st : Store) : D → Option PyData
  | .val p => some p
  | .loc n => match st[n]? with
    | some (.lst xs) => some (.list xs)
    | _ => none
  | .cst _ => none
  | .frz _ => none
  | .err => none
  | .fn _ => none
  | .pr _ _ => none
  | .tr _ _ _ => none
  | .dv _ => none
  | .clo _ _ => none
  | .dkv _ => none
section
variable {K : W.Frag} {w : Wd} {H : Hp} {st : Store} {d : D} {v : V} {p : PyData}
theorem dat_val (h : dat st d = some p) (n : ∀ xs, p ≠ .list xs) : d = .val p := by
  cases d with
  | val q => simp [dat] at h; rw [h]
  | loc k =>
    simp only [dat] at h
    split at h
    · exact absurd (Option.some.inj h).symm (n _)
    · cases h
  | cst _ => simp [dat] at h
  | frz _ => simp [dat] at h
  | err => simp [dat] at h
  | fn _ => simp [dat] at h
  | pr _ _ => simp [dat] at h
  | tr _ _ _ => simp [dat] at h
  | dv _ => simp [dat] at h
  | clo _ _ => simp [dat] at h
  | dkv _ => simp [dat] at h
theorem dat_lst {xs : List PyData} (hs : RelSt K w H st) (r : RpD K w H d v) (h : dat st d = some (.list xs)) : ∃ a vs, v = .ref a ∧ H a = some (.lst vs) ∧ Rps K w H xs vs := by
  cases d with
  | val q =>
    simp only [dat, Option.some.injEq] at h
    subst h
    cases r with
    | ls l r => exact ⟨_, _, rfl, l.1, r⟩
  | loc k =>
    simp only [dat] at h
    split at h
    · rename_i ys e
      simp only [Option.some.injEq, PyData.list.injEq] at h
      subst h
      obtain ⟨a, rfl, _, vs, e, r⟩ := hs.at e r
      exact ⟨a, vs, rfl, e, r⟩
    · cases h
  | cst _ => simp [dat] at h
  | frz _ => simp [dat] at h
  | err => simp [dat] at h
  | fn _ => simp [dat] at h
  | pr _ _ => simp [dat] at h
  | tr _ _ _ => simp [dat] at h
  | dv _ => simp [dat] at h
  | clo _ _ => simp [dat] at h
  | dkv _ => simp [dat] at h
theorem dat_tup {xs : List PyData} (r : RpD K w H d v) (h : dat st d = some (.tuple xs)) : ∃ a vs, v = .ref a ∧ TupAt K w H a vs ∧ Rps K w H xs vs := by
  have e := dat_val h (fun _ q => by cases q)
  subst e
  cases r with
  | tup l r => exact ⟨_, _, rfl, l, r⟩
theorem dat_int {i : Int} (r : RpD K w H d v) (h : dat st d = some (.int i)) : v = .int i := by
  have e := dat_val h (fun _ q => by cases q)
  subst e
  cases r
  rfl
theorem dat_str {i : Str} (r : RpD K w H d v) (h : dat st d = some (.str i)) : v = .str i := by
  have e := dat_val h (fun _ q => by cases q)
  subst e
  cases r
  rfl
theorem dat_bool {i : Bool} (r : RpD K w H d v) (h : dat st d = some (.bool i)) : v = .bl i := by
  have e := dat_val h (fun _ q => by cases q)
  subst e
  cases r
  rfl
theorem dat_dp (hs : RelSt K w H st) (r : RpD K w H d v) (h : dat st d = some p) : Dp K H v p := by
  cases d with
  | val q =>
    simp only [dat, Option.some.injEq] at h
    subst h
    exact Rp.dp r
  | loc k =>
    cases p with
    | list xs =>
      obtain ⟨a, vs, rfl, e, r⟩ := dat_lst hs r h
      exact .lst (SqL.of e) r.dp
    | _ =>
      simp only [dat] at h
      split at h <;> cases h
  | cst _ => simp [dat] at h
  | frz _ => simp [dat] at h
  | err => simp [dat] at h
  | fn _ => simp [dat] at h
  | pr _ _ => simp [dat] at h
  | tr _ _ _ => simp [dat] at h
  | dv _ => simp [dat] at h
  | clo _ _ => simp [dat] at h
  | dkv _ => simp [dat] at h
end
mutual
theorem Dp.plain {K : W.Frag} {H : Hp} : ∀ {v : V} {d : PyData}, Dp K H v d → d.plain = true
  | _, _, .non => rfl
  | _, _, .bl _ => rfl
  | _, _, .int _ => rfl
  | _, _, .str _ => rfl
  | _, _, .lst _ r => by simp only [PyData.plain]; exact DpAll.plain r
  | _, _, .tup _ r => by simp only [PyData.plain]; exact DpAll.plain r
theorem DpAll.plain {K : W.Frag} {H : Hp} : ∀ {vs : List V} {ds : List PyData}, DpAll K H vs ds → PyData.plainAll ds = true
  | _, _, .nil => rfl
  | _, _, .cons r s => by simp only [PyData.plainAll, Dp.plain r, DpAll.plain s, Bool.and_self]
end
abbrev okV (p : PyData) (st : Store) : Res D := .ok (.val p) st

section
variable {K : W.Frag} {E : XK}
def addF (x y : D) : M D := fun st => match dat st x, dat st y with
  | some (.int i), some (.int j) => okV (.int (i + j)) st
  | some (.str a), some (.str b) => if a.length + b.length ≤ sizeLine then okV (.str (a ++ b)) st else .bad
  | some (.list a), some (.list b) => if a.length + b.length ≤ sizeLine then okV (.list (a ++ b)) st else .bad
  | some (.tuple a), some (.tuple b) => if a.length + b.length ≤ sizeLine then okV (.tuple (a ++ b)) st else .bad
  | _, _ => .bad
def rAddA (K : W.Frag) : R2 := fun x y H Q => rI0 (fun i j => .int (i + j)) x y H Q ∨ (∃ i j, x = .str i ∧ y = .str j ∧ i.length + j.length ≤ sizeLine ∧ Q (.str (i ++ j)) H) ∨ rCat x y H Q ∨ rCatA K x y H Q
theorem op_addA {X : Cx} {K : W.Frag} (hK : X.K = K := by rfl) : OpR X (binaryOp .Add) (rAddA K) := by
  subst hK
  exact OpR.or op_add (OpR.or op_add_str (OpR.or op_cat op_catA))
theorem bop_add : BOp K E (rAddA K) addF := by
  intro w H st dx dy x y Q hs rx ry hp
  unfold addF at hp
  split at hp
  · rename_i e1 e2
    exact .inl ⟨_, _, dat_int rx e1, dat_int ry e2, Post.now hp hs (.int _)⟩
  · rename_i e1 e2
    split at hp
    · rename_i hl
      exact .inr (.inl ⟨_, _, dat_str rx e1, dat_str ry e2, hl, Post.now hp hs (.str _)⟩)
    · exact hp.elim
  · rename_i e1 e2
    split at hp
    · rename_i hl
      obtain ⟨a, vs, e3, ha, ra⟩ := dat_lst hs rx e1
      obtain ⟨b, us, e4, hb, rb⟩ := dat_lst hs ry e2
      refine .inr (.inr (.inl ⟨a, b, vs, us, e3, e4, ha, hb, by rw [← ra.length, ← rb.length]; exact hl, fun p np => ?_⟩))
      exact hp w _ _ (.new np) (hs.new np) (Rp.newLs (hs.notin np) (ra.append rb) np)
    · exact hp.elim
  · rename_i e1 e2
    split at hp
    · rename_i hl
      obtain ⟨a, vs, e3, ha, ra⟩ := dat_tup rx e1
      obtain ⟨b, us, e4, hb, rb⟩ := dat_tup ry e2
      refine .inr (.inr (.inr ⟨a, b, vs, us, e3, e4, ha.sq, hb.sq, by rw [← ra.length, ← rb.length]; exact hl, fun z => ?_, fun z1 z2 => ?_, fun z1 z2 p np => ?_⟩))
      · subst z
        cases ra
        exact Post.now hp hs (.tup hb rb)
      · subst z2
        cases rb
        rw [List.append_nil] at hp
        exact Post.now hp hs (.tup ha ra)
      · exact hp w _ _ (.new np) (hs.new np) (Rp.newTup (hs.notin np) (ra.append rb) np)
    · exact hp.elim
  · exact hp.elim
def subF (x y : D) : M D := fun st => match dat st x, dat st y with
  | some (.int i), some (.int j) => okV (.int (i - j)) st
  | _, _ => .bad
theorem bop_sub : BOp K E (rI0 fun i j => .int (i - j)) subF := by
  intro w H st dx dy x y Q hs rx ry hp
  unfold subF at hp
  split at hp
  · rename_i e1 e2
    exact ⟨_, _, dat_int rx e1, dat_int ry e2, Post.now hp hs (.int _)⟩
  · exact hp.elim
def mulF (x y : D) : M D := fun st => match dat st x, dat st y with
  | some (.int i), some (.int j) => if (-(2 ^ 64) < i ∧ i < 2 ^ 64) ∨ (-(2 ^ 64) < j ∧ j < 2 ^ 64) then okV (.int (i * j)) st else .bad
  | some (.tuple a), some (.int j) => if a ≠ [] ∧ 2 ≤ j ∧ j ≤ 1000 ∧ a.length ≤ 1000 then okV (.tuple (List.replicate j.toNat a).flatten) st else .bad
  | some (.list a), some (.int j) => if -(2 ^ 63) ≤ j ∧ j < 2 ^ 63 ∧ a.length * j.toNat ≤ sizeLine then okV (.list (List.replicate j.toNat a).flatten) st else .bad
  | _, _ => .bad
def rMulA (K : W.Frag) : R2 := fun x y H Q => rI CMul (fun i j => .int (i * j)) x y H Q ∨ rRepT K x y H Q ∨ rRep x y H Q
theorem op_mulA {X : Cx} {K : W.Frag} (hK : X.K = K := by rfl) : OpR X (binaryOp .Mult) (rMulA K) := by
  subst hK
  exact OpR.or op_mul (OpR.or op_repT op_rep)
theorem Rps.times {w : Wd} {H : Hp} {a : List PyData} {vs : List V} (r : Rps K w H a vs) : ∀ n : Nat, Rps K w H (List.replicate n a).flatten (List.replicate n vs).flatten
  | 0 => .nil
  | n + 1 => by
    rw [List.replicate_succ, List.replicate_succ, List.flatten_cons, List.flatten_cons]
    exact r.append (Rps.times r n)
theorem bop_mul : BOp K E (rMulA K) mulF := by
  intro w H st dx dy x y Q hs rx ry hp
  unfold mulF at hp
  split at hp
  · rename_i e1 e2
    split at hp
    · rename_i hc
      exact .inl ⟨_, _, dat_int rx e1, dat_int ry e2, hc, Post.now hp hs (.int _)⟩
    · exact hp.elim
  · rename_i e1 e2
    split at hp
    · rename_i hc
      obtain ⟨h1, h2, h3, h4⟩ := hc
      obtain ⟨a, vs, e3, ha, ra⟩ := dat_tup rx e1
      refine .inr (.inl ⟨a, _, vs, e3, dat_int ry e2, ha.sq, ?_, h2, h3, by rw [← ra.length]; exact h4, fun p np => ?_⟩)
      · rintro rfl
        cases ra
        exact h1 rfl
      · exact hp w _ _ (.new np) (hs.new np) (Rp.newTup (hs.notin np) (ra.times _) np)
    · exact hp.elim
  · rename_i e1 e2
    split at hp
    · rename_i hc
      obtain ⟨h1, h2, h3⟩ := hc
      obtain ⟨a, vs, e3, ha, ra⟩ := dat_lst hs rx e1
      refine .inr (.inr ⟨a, _, vs, e3, dat_int ry e2, ha, h1, h2, by rw [← ra.length]; exact h3, fun p np => ?_⟩)
      exact hp w _ _ (.new np) (hs.new np) (Rp.newLs (hs.notin np) (ra.times _) np)
    · exact hp.elim
  · exact hp.elim
def modF (x y : D) : M D := fun st => match dat st x, dat st y with
  | some (.int i), some (.int j) => if 0 < j then okV (.int (i % j)) st else .bad
  | _, _ => .bad
theorem bop_mod : BOp K E (rI (fun _ j => 0 < j) fun i j => .int (i % j)) modF := by
  intro w H st dx dy x y Q hs rx ry hp
  unfold modF at hp
  split at hp
  · rename_i e1 e2
    split at hp
    · rename_i hc
      exact ⟨_, _, dat_int rx e1, dat_int ry e2, hc, Post.now hp hs (.int _)⟩
    · exact hp.elim
  · exact hp.elim
def fdivF (x y : D) : M D := fun st => match dat st x, dat st y with
  | some (.int i), some (.int j) => if 0 < j ∧ j < 1073741824 then okV (.int (i / j)) st else .bad
  | _, _ => .bad
theorem bop_fdiv : BOp K E (rI CDiv fun i j => .int (i / j)) fdivF := by
  intro w H st dx dy x y Q hs rx ry hp
  unfold fdivF at hp
  split at hp
  · rename_i e1 e2
    split at hp
    · rename_i hc
      exact ⟨_, _, dat_int rx e1, dat_int ry e2, hc, Post.now hp hs (.int _)⟩
    · exact hp.elim
  · exact hp.elim
def powF (x y : D) : M D := fun st => match dat st x, dat st y with
  | some (.int i), some (.int j) => if 0 ≤ j ∧ j ≤ 1000000 ∧ i.natAbs < 2 ^ 64 then okV (.int (i ^ j.toNat)) st else .bad
  | _, _ => .bad
theorem bop_pow : BOp K E (rI CPow fun i j => .int (i ^ j.toNat)) powF := by
  intro w H st dx dy x y Q hs rx ry hp
  unfold powF at hp
  split at hp
  · rename_i e1 e2
    split at hp
    · rename_i hc
      exact ⟨_, _, dat_int rx e1, dat_int ry e2, hc, Post.now hp hs (.int _)⟩
    · exact hp.elim
  · exact hp.elim
def negF (x : D) : M D := fun st => match dat st x with
  | some (.int i) => okV (.int (-i)) st
  | _ => .bad

def cmpF (c : Int → Int → Bool) (x y : D) : M D := fun st => match dat st x, dat st y with
  | some (.int i), some (.int j) => okV (.bool (c i j)) st
  | _, _ => .bad
theorem bop_cmp {c : Int → Int → Bool} : BOp K E (rI0 fun i j => .bl (c i j)) (cmpF c) := by
  intro w H st dx dy x y Q hs rx ry hp
  unfold cmpF at hp
  split at hp
  · rename_i e1 e2
    exact ⟨_, _, dat_int rx e1, dat_int ry e2, Post.now hp hs (.bl _)⟩
  · exact hp.elim
def eqF (x y : D) : M D := fun st => match dat st x, dat st y with
  | some d, some e => if min d.depth e.depth ≤ 64 then okV (.bool (PyData.eqv d e)) st else .bad
  | _, _ => .bad
def neF (x y : D) : M D := fun st => match dat st x, dat st y with
  | some d, some e => if min d.depth e.depth ≤ 64 then okV (.bool (!PyData.eqv d e)) st else .bad
  | _, _ => .bad
def rEqP (K : W.Frag) : R2 := fun x y H Q => ∃ d e, Dp K H x d ∧ Dp K H y e ∧ min d.depth e.depth ≤ 64 ∧ Q (.bl (PyData.eqv d e)) H
def rNeP (K : W.Frag) : R2 := fun x y H Q => ∃ d e, Dp K H x d ∧ Dp K H y e ∧ min d.depth e.depth ≤ 64 ∧ Q (.bl (!PyData.eqv d e)) H
theorem op_eqP {X : Cx} {K : W.Frag} (hu : X.A.units + 64 < cLine) (hK : X.K = K := by rfl) : OpR X (compareOp .Eq) (rEqP K) := by
  subst hK
  intro pins s σ H x y v u Q I rx ry h
  obtain ⟨d, e, hd, he, hl, q⟩ := h
  obtain ⟨as, r1⟩ := L2.Dp.reads I d x v hd rx
  obtain ⟨bs, r2⟩ := L2.Dp.reads I e y u he ry
  exact SeqAt.eq_plain r1 r2 (Dp.plain hd) (Dp.plain he) (by omega) ⟨.bl _, H, I, rfl, q⟩
theorem op_neP {X : Cx} {K : W.Frag} (hu : X.A.units + 64 < cLine) (hK : X.K = K := by rfl) : OpR X (compareOp .NotEq) (rNeP K) := by
  subst hK
  intro pins s σ H x y v u Q I rx ry h
  obtain ⟨d, e, hd, he, hl, q⟩ := h
  obtain ⟨as, r1⟩ := L2.Dp.reads I d x v hd rx
  obtain ⟨bs, r2⟩ := L2.Dp.reads I e y u he ry
  exact SeqAt.ne_plain r1 r2 (Dp.plain hd) (Dp.plain he) (by omega) ⟨.bl _, H, I, rfl, q⟩
theorem bop_eq : BOp K E (rEqP K) eqF := by
  intro w H st dx dy x y Q hs rx ry hp
  unfold eqF at hp
  split at hp
  · rename_i e1 e2
    split at hp
    · rename_i hc
      exact ⟨_, _, dat_dp hs rx e1, dat_dp hs ry e2, hc, Post.now hp hs (.bl _)⟩
    · exact hp.elim
  · exact hp.elim
theorem bop_ne : BOp K E (rNeP K) neF := by
  intro w H st dx dy x y Q hs rx ry hp
  unfold neF at hp
  split at hp
  · rename_i e1 e2
    split at hp
    · rename_i hc
      exact ⟨_, _, dat_dp hs rx e1, dat_dp hs ry e2, hc, Post.now hp hs (.bl _)⟩
    · exact hp.elim
  · exact hp.elim
def inAny (d : PyData) (xs : List PyData) : Bool := xs.any fun y => PyData.eqv y d
def inF (neg : Bool) (x y : D) : M D := fun st => match dat st x, dat st y with
  | some d, some (.list xs) => if min (PyData.depthAll xs) d.depth ≤ 64 then okV (.bool (neg != inAny d xs)) st else .bad
  | some d, some (.tuple xs) => if min (PyData.depthAll xs) d.depth ≤ 64 then okV (.bool (neg != inAny d xs)) st else .bad
  | some (.str a), some (.str b) => match a.cps.toList with
    | [c] => okV (.bool (neg != decide (c ∈ b.cps.toList))) st
    | _ => .bad
  | _, _ => .bad
def rInP (K : W.Frag) (neg : Bool) : R2 := fun x y H Q => (∃ d xs, Dp K H x d ∧ (Dp K H y (.list xs) ∨ Dp K H y (.tuple xs)) ∧ min (PyData.depthAll xs) d.depth ≤ 64 ∧ Q (.bl (neg != inAny d xs)) H) ∨
  ∃ (c : Nat) (z : Str), x = .str ⟨#[c]⟩ ∧ y = .str z ∧ Q (.bl (neg != decide (c ∈ z.cps.toList))) H
theorem op_inP {X : Cx} {K : W.Frag} (hu : X.A.units + 66 < cLine) (hK : X.K = K := by rfl) : OpR X (compareOp .In) (rInP K false) := by
  subst hK
  intro pins s σ H x y v u Q I rx ry h
  rcases h with ⟨d, xs, hd, he, hl, q⟩ | ⟨c, z, e1, e2, q⟩
  · obtain ⟨as, r1⟩ := L2.Dp.reads I d x v hd rx
    rcases he with he | he
    · obtain ⟨bs, r2⟩ := L2.Dp.reads I _ y u he ry
      exact SeqAt.in_list_data r2 r1 (by have := Dp.plain he; simpa [PyData.plain] using this) (Dp.plain hd) (by omega) ⟨.bl _, H, I, rfl, by simpa [inAny] using q⟩
    · obtain ⟨bs, r2⟩ := L2.Dp.reads I _ y u he ry
      exact SeqAt.in_tuple_data r2 r1 (by have := Dp.plain he; simpa [PyData.plain] using this) (Dp.plain hd) (by omega) ⟨.bl _, H, I, rfl, by simpa [inAny] using q⟩
  · exact op_in_sign pins s σ H x y v u Q I rx ry ⟨c, z, e1, e2, by simpa using q⟩
theorem op_notInP {X : Cx} {K : W.Frag} (hu : X.A.units + 66 < cLine) (hK : X.K = K := by rfl) : OpR X (compareOp .NotIn) (rInP K true) := by
  subst hK
  intro pins s σ H x y v u Q I rx ry h
  rcases h with ⟨d, xs, hd, he, hl, q⟩ | ⟨c, z, e1, e2, q⟩
  · obtain ⟨as, r1⟩ := L2.Dp.reads I d x v hd rx
    rcases he with he | he
    · obtain ⟨bs, r2⟩ := L2.Dp.reads I _ y u he ry
      exact SeqAt.notIn_list_data r2 r1 (by have := Dp.plain he; simpa [PyData.plain] using this) (Dp.plain hd) (by omega) ⟨.bl _, H, I, rfl, by simpa [inAny] using q⟩
    · obtain ⟨bs, r2⟩ := L2.Dp.reads I _ y u he ry
      exact SeqAt.notIn_tuple_data r2 r1 (by have := Dp.plain he; simpa [PyData.plain] using this) (Dp.plain hd) (by omega) ⟨.bl _, H, I, rfl, by simpa [inAny] using q⟩
  · exact op_notIn_sign pins s σ H x y v u Q I rx ry ⟨c, z, e1, e2, by simpa using q⟩
theorem bop_in {neg : Bool} : BOp K E (rInP K neg) (inF neg) := by
  intro w H st dx dy x y Q hs rx ry hp
  unfold inF at hp
  split at hp
  · rename_i e1 e2
    split at hp
    · rename_i hc
      exact .inl ⟨_, _, dat_dp hs rx e1, .inl (dat_dp hs ry e2), hc, Post.now hp hs (.bl _)⟩
    · exact hp.elim
  · rename_i e1 e2
    split at hp
    · rename_i hc
      exact .inl ⟨_, _, dat_dp hs rx e1, .inr (dat_dp hs ry e2), hc, Post.now hp hs (.bl _)⟩
    · exact hp.elim
  · rename_i a b e1 e2
    split at hp
    · rename_i c hc
      refine .inr ⟨c, b, ?_, dat_str ry e2, Post.now hp hs (.bl _)⟩
      rw [dat_str rx e1]
      have : a = ⟨#[c]⟩ := by
        cases a with
        | mk cps => simp only [Str.mk.injEq]; simp only at hc; exact Array.toList_inj.mp (by rw [hc])
      rw [this]
    · exact hp.elim
  · exact hp.elim
end
section
variable {X : Cx} {E : XK} {a : Expr} {ta : TE} {fa : Env → M D} {pos pos' : Pos}
def negE (fa : Env → M D) : Env → M D := fun env => bd (fa env) negF
theorem se_neg (ha : SE X E a ta fa) : SE X E (.UnaryOp .USub a pos) (tUn (rU fun i => .int (-i)) ta) (negE fa) := by
  refine ⟨pe_un un_neg ha.pe, fun w σ H env st Q s0 e0 hp => ?_⟩
  refine ha.rf.step s0 e0 hp fun r1 H1 st1 x v g1 s1 e1 q1 hp => ?_
  unfold negF at hp
  split at hp
  · rename_i e
    exact ⟨_, dat_int q1 e, Post.now hp s1 (.int _)⟩
  · exact hp.elim
end
end B
namespace B
open PySem L2
variable [Nm] [Gd]

def ixF (x y : D) : M D := fun st => match dat st x, dat st y with
  | some (.list xs), some (.int i) => match atI xs i with
    | some v => okV v st
    | none => .bad
  | some (.tuple xs), some (.int i) => match atI xs i with
    | some v => okV v st
    | none => .bad
  | some (.str z), some (.int i) => if z.length ≤ sizeLine then (match atI z.cps.toList i with
    | some c => okV (.str ⟨#[c]⟩) st
    | none => .bad) else .bad
  | _, _ => .bad
section
variable {K : W.Frag} {E : XK}
theorem Rps.at {w : Wd} {H : Hp} {xs : List PyData} {vs : List V} {i : Int} {d : PyData} (r : Rps K w H xs vs) (h : atI xs i = some d) : ∃ v, atI vs i = some v ∧ Rp K w H d v := by
  unfold atI at h ⊢
  rw [← r.length]
  cases q : ixN xs.length i with
  | none => rw [q] at h; cases h
  | some j =>
    rw [q] at h
    exact r.get h
theorem bop_ix : BOp K E (rIx K) ixF := by
  intro w H st dx dy x y Q hs rx ry hp
  unfold ixF at hp
  split at hp
  · rename_i e1 e2
    split at hp
    · rename_i v hv
      obtain ⟨a, vs, e3, ha, ra⟩ := dat_lst hs rx e1
      obtain ⟨u, hu, ru⟩ := ra.at hv
      exact .inl ⟨a, vs, _, u, e3, dat_int ry e2, SqL.of ha, hu, Post.now hp hs ru⟩
    · exact hp.elim
  · rename_i e1 e2
    split at hp
    · rename_i v hv
      obtain ⟨a, vs, e3, ha, ra⟩ := dat_tup rx e1
      obtain ⟨u, hu, ru⟩ := ra.at hv
      exact .inr (.inl ⟨a, vs, _, u, e3, dat_int ry e2, ha.sq, hu, Post.now hp hs ru⟩)
    · exact hp.elim
  · rename_i e1 e2
    split at hp
    · rename_i hl
      split at hp
      · rename_i c hc
        exact .inr (.inr ⟨_, _, c, dat_str rx e1, dat_int ry e2, hl, hc, Post.now hp hs (.str _)⟩)
      · exact hp.elim
    · exact hp.elim
  · exact hp.elim
end
section
variable {X : Cx} {E : XK} {a b e : Expr} {ta tb te : TE} {fa fb fe : Env → M D} {pos p2 : Pos}
theorem se_ix {K : W.Frag} (ha : SE X E a ta fa) (hb : SE X E b tb fb) (hK : X.K = K := by rfl) (hs : PlainIx b := by exact fun _ _ => rfl) : SE X E (.Subscript a b pos) (tOp (rIx K) ta tb) (op2 ixF fa fb) := by
  subst hK
  exact ⟨pe_ix ix_seq ha.pe hb.pe hs, rf_op bop_ix ha.rf hb.rf⟩

structure SO (X : Cx) (E : XK) (e : Option Expr) (t : TO) (f : Env → M (Option Int)) : Prop where
  po : PO X e t
  rf : Rf X.K E (fun _ _ a b => a = b) t f
def oNone : Env → M (Option Int) := fun _ => rt none
theorem so_none : SO X E none tNoPart oNone := ⟨po_none, fun w σ H env st Q hs he hp => Post.now hp hs rfl⟩
def partF (d : D) : M (Option Int) := fun st => match dat st d with
  | some (.int i) => .ok (some i) st
  | _ => .bad
def oSome (fe : Env → M D) : Env → M (Option Int) := fun env => bd (fe env) partF
theorem so_some (h : SE X E e te fe) : SO X E (some e) (tPart te) (oSome fe) := by
  refine ⟨po_some h.pe, fun w σ H env st Q s0 e0 hp => ?_⟩
  refine h.rf.step s0 e0 hp fun r1 H1 st1 x v g1 s1 e1 q1 hp => ?_
  unfold partF at hp
  split at hp
  · rename_i e
    exact ⟨_, dat_int q1 e, Post.now hp s1 rfl⟩
  · exact hp.elim
def cutP {α : Type} (xs : List α) (lo hi : Option Int) : List α := (xs.drop (HT.sIx xs.length 0 lo)).take (HT.sIx xs.length xs.length hi - HT.sIx xs.length 0 lo)
theorem Rps.take {K : W.Frag} {w : Wd} {H : Hp} : ∀ {xs : List PyData} {vs : List V} (n : Nat), Rps K w H xs vs → Rps K w H (xs.take n) (vs.take n)
  | _, _, 0, _ => .nil
  | _, _, _ + 1, .nil => .nil
  | _, _, n + 1, .cons r t => .cons r (Rps.take n t)
theorem Rps.drop {K : W.Frag} {w : Wd} {H : Hp} : ∀ {xs : List PyData} {vs : List V} (n : Nat), Rps K w H xs vs → Rps K w H (xs.drop n) (vs.drop n)
  | _, _, 0, r => r
  | _, _, _ + 1, .nil => .nil
  | _, _, n + 1, .cons _ t => Rps.drop n t
theorem Rps.cut {K : W.Frag} {w : Wd} {H : Hp} {xs : List PyData} {vs : List V} {lo hi : Option Int} (r : Rps K w H xs vs) : Rps K w H (cutP xs lo hi) (cutV vs lo hi) := by
  unfold cutP cutV
  rw [r.length]
  exact (r.drop _).take _
def sliceF (lo hi : Option Int) (x : D) : M D := fun st => match dat st x with
  | some (.list xs) => okV (.list (cutP xs lo hi)) st
  | some (.tuple xs) => okV (.tuple (cutP xs lo hi)) st
  | some (.str z) => if z.length ≤ sizeLine then okV (.str (cutS z lo hi)) st else .bad
  | _ => .bad
def rSlP (K : W.Frag) : V → Option Int → Option Int → Hp → VK → Prop := fun x lo hi H Q => rSlL K x lo hi H Q ∨ rSlA K x lo hi H Q ∨ rSlS x lo hi H Q
theorem sl_any : SlR X (rSlP X.K) := SlR.or sl_list (SlR.or sl_tupA sl_str)
variable {lo hi : Option Expr} {tl th : TO} {fl fh : Env → M (Option Int)}
def slF (fe : Env → M D) (fl fh : Env → M (Option Int)) : Env → M D := fun env => bd (fe env) fun x => bd (fl env) fun l => bd (fh env) fun h => sliceF l h x
theorem cutP_all {α : Type} {xs : List α} {lo hi : Option Int} (h : HT.sIx xs.length 0 lo = 0 ∧ HT.sIx xs.length xs.length hi = xs.length) : cutP xs lo hi = xs := by
  unfold cutP
  rw [h.1, h.2]
  simp
theorem se_slice {K : W.Frag} (he : SE X E e te fe) (hl : SO X E lo tl fl) (hh : SO X E hi th fh) (hK : X.K = K := by rfl) : SE X E (.Subscript e (.Slice lo hi none p2) pos) (tSl (rSlP K) te tl th) (slF fe fl fh) := by
  subst hK
  refine ⟨pe_slice sl_any he.pe hl.po hh.po, fun w σ H env st Q s0 e0 hp => ?_⟩
  refine he.rf.step s0 e0 hp fun r1 H1 st1 x v g1 s1 e1 q1 hp => ?_
  refine hl.rf.step s1 e1 hp fun r2 H2 st2 l l' g2 s2 e2 q2 hp => ?_
  refine hh.rf.step s2 e2 hp fun r3 H3 st3 h h' g3 s3 e3 q3 hp => ?_
  subst q2; subst q3
  have q4 := (q1.mono g2).mono g3
  unfold sliceF at hp
  split at hp
  · rename_i e
    obtain ⟨a, vs, e4, ha, ra⟩ := dat_lst s3 q4 e
    exact .inl ⟨a, vs, e4, SqL.of ha, fun p np => hp r3 _ _ (.new np) (s3.new np) (Rp.newLs (s3.notin np) ra.cut np)⟩
  · rename_i e
    obtain ⟨a, vs, e4, ha, ra⟩ := dat_tup q4 e
    refine .inr (.inl ⟨a, vs, e4, ha.sq, fun z => ?_, fun _ p np => hp r3 _ _ (.new np) (s3.new np) (Rp.newTup (s3.notin np) ra.cut np)⟩)
    rw [← ra.length] at z
    rw [cutP_all z] at hp
    exact Post.now hp s3 (.tup ha ra)
  · rename_i e
    split at hp
    · rename_i hz
      exact .inr (.inr ⟨_, dat_str q4 e, hz, Post.now hp s3 (.str _)⟩)
    · exact hp.elim
  · exact hp.elim
def slFz (fe : Env → M D) (fl fh : Env → M (Option Int)) : Env → M (List PyData) := fun env => bd (fe env) fun x => bd (fl env) fun l => bd (fh env) fun h => match x with
  | .frz xs => rt (cutP xs l h)
  | _ => bad
theorem sf_sliceFz {K : W.Frag} (he : SE X E e te fe) (hl : SO X E lo tl fl) (hh : SO X E hi th fh) (hK : X.K = K := by rfl) : SF X E (.Subscript e (.Slice lo hi none p2) pos) (tSl (rSlL K) te tl th) (slFz fe fl fh) := by
  subst hK
  refine ⟨pe_slice sl_list he.pe hl.po hh.po, fun w σ H env st Q s0 e0 hp => ?_⟩
  refine he.rf.stepF s0 e0 hp fun r1 H1 st1 x v g1 s1 e1 q1 hp => ?_
  refine hl.rf.stepF s1 e1 hp fun r2 H2 st2 l l' g2 s2 e2 q2 hp => ?_
  refine hh.rf.stepF s2 e2 hp fun r3 H3 st3 h h' g3 s3 e3 q3 hp => ?_
  subst q2; subst q3
  have q4 := (q1.mono g2).mono g3
  cases x with
  | frz xs =>
    obtain ⟨a, vs, e4, fz, ra⟩ := q4
    exact ⟨a, vs, e4, fz.sq, fun p np => hp r3 H3 p _ (Ge.refl _ _) s3 np ra.cut⟩
  | _ => exact hp.elim
end

def BCall (K : W.Frag) (E : XK) (r : List V → Hp → VK → Prop) (g : List D → M D) : Prop :=
  ∀ w H st ds vs Q, RelSt K w H st → RpDs K w H ds vs → Post K E (RE K) w H (g ds st) Q → r vs H Q
def BCallF (K : W.Frag) (E : XK) (r : List V → Hp → VK → Prop) (g : List D → M (List PyData)) : Prop :=
  ∀ w H st ds vs Q, RelSt K w H st → RpDs K w H ds vs → PostF K E w H (g ds st) Q → r vs H Q
section
variable {X : Cx} {E : XK} {e o : Expr} {es : List Expr} {tr : TA} {fr : Env → M (List D)} {x : Str} {id T : String} {p pos apos : Pos} {r : List V → Hp → VK → Prop} {g : List D → M D} {gf : List D → M (List PyData)}
theorem rf_cb {K : W.Frag} (hB : BCall K E r g) (ha : Rf K E (RA K) tr fr) : Rf K E (RE K) (tCB r tr) (callF g fr) := by
  intro w σ H env st Q s0 e0 hp
  exact ha.step s0 e0 hp fun r1 H1 st1 ds vs g1 s1 e1 q1 hp => hB r1 H1 st1 ds vs Q s1 q1 hp
def callFF (gf : List D → M (List PyData)) (fr : Env → M (List D)) : Env → M (List PyData) := fun env => bd (fr env) gf
theorem rf_cbf {K : W.Frag} (hB : BCallF K E r gf) (ha : Rf K E (RA K) tr fr) : RfF K E (tCB r tr) (callFF gf fr) := by
  intro w σ H env st Q s0 e0 hp
  exact ha.stepF s0 e0 hp fun r1 H1 st1 ds vs g1 s1 e1 q1 hp => hB r1 H1 st1 ds vs Q s1 q1 hp
theorem se_callB (hc : CallR X (.builtin id) r) (hB : BCall X.K E r g) (hm : X.mg x = none) (hv : bootBuiltins x = some (.builtin id)) (ha : SA X E (e :: es) tr fr) (hg : Gl X x := by rfl) (hn : x ≠ "__name__" := by decide) (hdb : (x == ("__debug__" : Str)) = false := by decide)
    (he : starEach (e :: es) X.env = (false, eval e X.env) :: starEach es X.env := by rfl) (hpl : (backTo pos (starEach es X.env)).any (·.1) = false := by rfl) : SE X E (.Call (.Name x p) (e :: es) [] pos) (tCB r tr) (callF g fr) :=
  ⟨pe_callB hc hg hm hv ha.pa hn hdb he hpl, rf_cb hB ha.rf⟩
theorem se_callTy (hc : CallR X (.type T) r) (hB : BCall X.K E r g) (hm : X.mg x = none) (hv : bootBuiltins x = some (.type T)) (ha : SA X E (e :: es) tr fr) (hg : Gl X x := by rfl) (hn : x ≠ "__name__" := by decide) (hdb : (x == ("__debug__" : Str)) = false := by decide)
    (he : starEach (e :: es) X.env = (false, eval e X.env) :: starEach es X.env := by rfl) (hpl : (backTo pos (starEach es X.env)).any (·.1) = false := by rfl) : SE X E (.Call (.Name x p) (e :: es) [] pos) (tCB r tr) (callF g fr) :=
  ⟨pe_callTy hc hg hm hv ha.pa hn hdb he hpl, rf_cb hB ha.rf⟩
theorem sf_callB (hc : CallR X (.builtin id) r) (hB : BCallF X.K E r gf) (hm : X.mg x = none) (hv : bootBuiltins x = some (.builtin id)) (ha : SA X E (e :: es) tr fr) (hg : Gl X x := by rfl) (hn : x ≠ "__name__" := by decide) (hdb : (x == ("__debug__" : Str)) = false := by decide)
    (he : starEach (e :: es) X.env = (false, eval e X.env) :: starEach es X.env := by rfl) (hpl : (backTo pos (starEach es X.env)).any (·.1) = false := by rfl) : SF X E (.Call (.Name x p) (e :: es) [] pos) (tCB r tr) (callFF gf fr) :=
  ⟨pe_callB hc hg hm hv ha.pa hn hdb he hpl, rf_cbf hB ha.rf⟩
theorem sf_callTy (hc : CallR X (.type T) r) (hB : BCallF X.K E r gf) (hm : X.mg x = none) (hv : bootBuiltins x = some (.type T)) (ha : SA X E (e :: es) tr fr) (hg : Gl X x := by rfl) (hn : x ≠ "__name__" := by decide) (hdb : (x == ("__debug__" : Str)) = false := by decide)
    (he : starEach (e :: es) X.env = (false, eval e X.env) :: starEach es X.env := by rfl) (hpl : (backTo pos (starEach es X.env)).any (·.1) = false := by rfl) : SF X E (.Call (.Name x p) (e :: es) [] pos) (tCB r tr) (callFF gf fr) :=
  ⟨pe_callTy hc hg hm hv ha.pa hn hdb he hpl, rf_cbf hB ha.rf⟩
theorem se_bltn {u : Value} {v : V} (hm : X.mg x = none) (hv : bootBuiltins x = some u) (rv : RelV v u) (hg : Gl X x := by rfl) (hn : x ≠ "__name__" := by decide) (hdb : (x == ("__debug__" : Str)) = false := by decide) : SE X E (.Name x pos) (tC v) (cD (.cst v)) :=
  ⟨pe_bltn hg hm hv rv hn hdb, rf_const fun _ _ => rfl⟩
end
section
variable {X : Cx} {K : W.Frag}
theorem kLen (hK : X.K = K := by rfl) : CallR X (.builtin "len") (fun xs H Q => ∃ x n, xs = [x] ∧ LenV K x H n ∧ Q (.int n) H) := by subst hK; exact call_len
theorem kTuple (hK : X.K = K := by rfl) : CallR X (.type "tuple") (fun xs H Q => ∃ p ys, xs = [.ref p] ∧ ((SqL K H p ys ∧ ∀ l, H l = none → Q (.ref l) (upd H l (.tup ys))) ∨ (SqT K H p ys ∧ Q (.ref p) H))) := by subst hK; exact call_tuple_of
theorem kList (hK : X.K = K := by rfl) : CallR X (.type "list") (fun xs H Q => ∃ p ys, xs = [.ref p] ∧ (SqL K H p ys ∨ SqT K H p ys) ∧ ∀ l, H l = none → Q (.ref l) (upd H l (.lst ys))) := by subst hK; exact call_list_of
theorem kIsi (hK : X.K = K := by rfl) : CallR X (.builtin "isinstance") (rIsi K) := by subst hK; exact call_isi
theorem kSum (hc : X.calm = true := by rfl) (hK : X.K = K := by rfl) : CallR X (.builtin "sum") (rSum K) := by subst hK; exact cr_sum hc
end
section
variable {K : W.Frag} {E : XK}
theorem RpDs.one {w : Wd} {H : Hp} {d : D} {vs : List V} (r : RpDs K w H [d] vs) : ∃ v, vs = [v] ∧ RpD K w H d v := by
  cases r with
  | cons r t => cases t; exact ⟨_, rfl, r⟩
theorem RpDs.two {w : Wd} {H : Hp} {d e : D} {vs : List V} (r : RpDs K w H [d, e] vs) : ∃ v u, vs = [v, u] ∧ RpD K w H d v ∧ RpD K w H e u := by
  cases r with
  | cons r t => cases t with
    | cons r2 t => cases t; exact ⟨_, _, rfl, r, r2⟩
def lenF (ds : List D) : M D := fun st => match ds with
  | [d] => (match dat st d with
    | some (.list xs) => okV (.int xs.length) st
    | some (.tuple xs) => okV (.int xs.length) st
    | some (.str z) => if z.length ≤ sizeLine then okV (.int z.length) st else .bad
    | _ => .bad)
  | _ => .bad
theorem bc_len : BCall K E (fun xs H Q => ∃ x n, xs = [x] ∧ LenV K x H n ∧ Q (.int n) H) lenF := by
  intro w H st ds vs Q hs r hp
  unfold lenF at hp
  split at hp
  · obtain ⟨v, e, r1⟩ := r.one
    split at hp
    · rename_i e1
      obtain ⟨a, us, e3, ha, ra⟩ := dat_lst hs r1 e1
      subst e3
      exact ⟨_, us.length, e, .inl ⟨us, SqL.of ha, rfl⟩, by rw [← ra.length]; exact Post.now hp hs (.int _)⟩
    · rename_i e1
      obtain ⟨a, us, e3, ha, ra⟩ := dat_tup r1 e1
      subst e3
      exact ⟨_, us.length, e, .inr ⟨us, ha.sq, rfl⟩, by rw [← ra.length]; exact Post.now hp hs (.int _)⟩
    · rename_i e1
      split at hp
      · rename_i hl
        have e3 := dat_str r1 e1
        subst e3
        exact ⟨_, _, e, ⟨hl, rfl⟩, Post.now hp hs (.int _)⟩
      · exact hp.elim
    · exact hp.elim
  · exact hp.elim
def tupleF (ds : List D) : M D := fun st => match ds with
  | [d] => (match dat st d with
    | some (.list xs) => okV (.tuple xs) st
    | some (.tuple xs) => okV (.tuple xs) st
    | _ => .bad)
  | _ => .bad
theorem bc_tuple : BCall K E (fun xs H Q => ∃ p ys, xs = [.ref p] ∧ ((SqL K H p ys ∧ ∀ l, H l = none → Q (.ref l) (upd H l (.tup ys))) ∨ (SqT K H p ys ∧ Q (.ref p) H))) tupleF := by
  intro w H st ds vs Q hs r hp
  unfold tupleF at hp
  split at hp
  · obtain ⟨v, e, r1⟩ := r.one
    split at hp
    · rename_i e1
      obtain ⟨a, us, e3, ha, ra⟩ := dat_lst hs r1 e1
      subst e3
      exact ⟨a, us, e, .inl ⟨SqL.of ha, fun p np => hp w _ _ (.new np) (hs.new np) (Rp.newTup (hs.notin np) ra np)⟩⟩
    · rename_i e1
      obtain ⟨a, us, e3, ha, ra⟩ := dat_tup r1 e1
      subst e3
      exact ⟨a, us, e, .inr ⟨ha.sq, Post.now hp hs (.tup ha ra)⟩⟩
    · exact hp.elim
  · exact hp.elim
def listF (ds : List D) : M (List PyData) := fun st => match ds with
  | [d] => (match dat st d with
    | some (.list xs) => .ok xs st
    | some (.tuple xs) => .ok xs st
    | _ => .bad)
  | _ => .bad
theorem bc_list : BCallF K E (fun xs H Q => ∃ p ys, xs = [.ref p] ∧ (SqL K H p ys ∨ SqT K H p ys) ∧ ∀ l, H l = none → Q (.ref l) (upd H l (.lst ys))) listF := by
  intro w H st ds vs Q hs r hp
  unfold listF at hp
  split at hp
  · obtain ⟨v, e, r1⟩ := r.one
    split at hp
    · rename_i e1
      obtain ⟨a, us, e3, ha, ra⟩ := dat_lst hs r1 e1
      subst e3
      exact ⟨a, us, e, .inl (SqL.of ha), fun p np => hp w H p us (Ge.refl _ _) hs np ra⟩
    · rename_i e1
      obtain ⟨a, us, e3, ha, ra⟩ := dat_tup r1 e1
      subst e3
      exact ⟨a, us, e, .inr ha.sq, fun p np => hp w H p us (Ge.refl _ _) hs np ra⟩
    · exact hp.elim
  · exact hp.elim
def tyName : PyData → String
  | .none => "NoneType"
  | .bool _ => "bool"
  | .int _ => "int"
  | .str _ => "str"
  | .list _ => "list"
  | .tuple _ => "tuple"
  | .dict _ => "dict"
def isiF (ds : List D) : M D := fun st => match ds with
  | [d, .cst (.ty T)] => (match dat st d with
    | some p => (match kitB (tyName p) T with
      | some b => okV (.bool b) st
      | none => .bad)
    | none => .bad)
  | _ => .bad
theorem TupAt.ty {w : Wd} {H : Hp} {a : Addr} {vs : List V} (h : TupAt K w H a vs) : TyX K H (.ref a) (.type "tuple") := by
  rcases h with ⟨h | ⟨o, h⟩, _⟩ | ⟨o, its, n, h1, h2, _⟩
  · exact .base (.tup h)
  · exact .fTuple h
  · exact .kTuple h1 h2
theorem dat_ty {w : Wd} {H : Hp} {st : Store} {d : D} {v : V} {p : PyData} (hs : RelSt K w H st) (r : RpD K w H d v) (h : dat st d = some p) : TyX K H v (.type (tyName p)) := by
  cases p with
  | list xs => obtain ⟨a, us, e, ha, _⟩ := dat_lst hs r h; subst e; exact .base (.lst ha)
  | tuple xs => obtain ⟨a, us, e, ha, _⟩ := dat_tup r h; subst e; exact ha.ty
  | none =>
    have e := dat_val h (fun _ q => by cases q)
    subst e
    cases r
    exact .base .non
  | bool b =>
    have e := dat_bool r h
    subst e
    exact .base (.bl b)
  | int b =>
    have e := dat_int r h
    subst e
    exact .base (.int b)
  | str b =>
    have e := dat_str r h
    subst e
    exact .base (.str b)
  | dict _ =>
    have e := dat_val h (fun _ q => by cases q)
    subst e
    cases r
theorem bc_isi : BCall K E (rIsi K) isiF := by
  intro w H st ds vs Q hs r hp
  unfold isiF at hp
  split at hp
  · obtain ⟨v, u, e, r1, r2⟩ := r.two
    cases r2
    split at hp
    · rename_i e1
      split at hp
      · rename_i b hb
        exact ⟨v, _, _, _, b, e, .ty _, dat_ty hs r1 e1, kit_ty hb, Post.now hp hs (.bl b)⟩
      · exact hp.elim
    · exact hp.elim
  · exact hp.elim
end
end B
namespace B
open PySem L2
variable [Nm] [Gd]

def iAny (K : W.Frag) (tl : TE) : TI := fun σ H R => tl σ H fun x H1 => (∃ a, x = .ref a ∧ (∃ xs, SqL K H1 a xs) ∧ R (Itl K a) H1) ∨ (∃ a, x = .ref a ∧ (∃ xs, SqT K H1 a xs) ∧ R (Itt K a) H1) ∨ ∃ y, x = .str y ∧ R (Its y) H1
theorem it_list {X : Cx} {tg : Expr} {pins : List (Addr × Obj)} {σ : St} {H : Hp} {s : Shared} {a : Addr} {xs : List V} {R : It → Hp → Prop} {E : Value → Shared → Prop} (I : Inv X pins σ H s) (hq : SqL X.K H a xs) (q : R (Itl X.K a) H) : wpAny (model X.prog X.w) X.A (pyIter (.ref a)) (PIE X pins σ tg R) E s := by
  obtain ⟨its, rv, pl, _⟩ := I.list hq
  exact wpAny_pyIter_list pl.isList (pi_one (tk := s.toks) I _ (turn_list a _) ⟨_, Heap.get?_push_size _ rfl, rfl, rfl⟩ q)
theorem it_tup {X : Cx} {tg : Expr} {pins : List (Addr × Obj)} {σ : St} {H : Hp} {s : Shared} {a : Addr} {xs : List V} {R : It → Hp → Prop} {E : Value → Shared → Prop} (I : Inv X pins σ H s) (hq : SqT X.K H a xs) (q : R (Itt X.K a) H) : wpAny (model X.prog X.w) X.A (pyIter (.ref a)) (PIE X pins σ tg R) E s := by
  obtain ⟨its, rv, pl, _⟩ := I.tuple hq
  exact wpAny_pyIter_tuple (show s.heap.IsTuple a its.toArray from pl) (pi_one (tk := s.toks) I _ (turn_tuple a _) ⟨_, Heap.get?_push_size _ rfl, rfl, rfl⟩ q)
theorem pi_any {X : Cx} {tg l : Expr} {tl : TE} (hl : PE X l tl) : PI X tg l (iAny X.K tl) := by
  refine ⟨fun pins s σ H R I h => thn (hl.run pins s σ H _ I h) fun v s1 ⟨x, H1, I1, r1, q1⟩ => ?_⟩
  rcases q1 with ⟨a, ex, ⟨xs, hq⟩, q⟩ | ⟨a, ex, ⟨xs, hq⟩, q⟩ | ⟨y, ex, q⟩
  · subst ex; cases r1; exact it_list I1 hq q
  · subst ex; cases r1; exact it_tup I1 hq q
  · subst ex
    obtain ⟨t, rfl⟩ := r1
    cases ha : y.cps.all (· < 128)
    · exact wpAny_pyIter_wide ha (pi_one (tk := s1.toks) I1 _ (turn_str _ y t "str_iterator" (.inr rfl)) ⟨_, Heap.get?_push_size _ rfl, rfl, rfl⟩ q)
    · exact wpAny_pyIter_ascii ha (pi_one (tk := s1.toks) I1 _ (turn_str _ y t "str_ascii_iterator" (.inl rfl)) ⟨_, Heap.get?_push_size _ rfl, rfl, rfl⟩ q)
def signs (y : Str) : List PyData := y.cps.toList.map fun c => .str ⟨#[c]⟩
def srcOf (d : D) : M Src := fun st => match d with
  | .val (.tuple xs) => .ok (.fix xs) st
  | .val (.list xs) => .ok (.fix xs) st
  | .val (.str y) => .ok (.fix (signs y)) st
  | .loc n => (match st[n]? with
    | some (.lst _) => .ok (.obj n) st
    | _ => .bad)
  | _ => .bad
section
variable {K : W.Frag}
theorem itok_list {w : Wd} {H : Hp} {a : Addr} {vs : List V} {xs : List PyData} (l : LsAt K w H a vs) (r : Rps K w H xs vs) : ItOk K w H (Itl K a) xs := by
  intro w' H' st' g fk' s'
  have l' := l.mo g
  refine ⟨fun i x hx => ?_, ⟨vs, l'.sq, by rw [r.length]; exact Nat.le_refl _⟩⟩
  obtain ⟨v, hv, rv⟩ := r.get hx
  refine ⟨⟨vs, v, l'.sq, hv⟩, fun u H2 hy => ?_⟩
  obtain ⟨e, hy⟩ := hy
  subst e
  have q := hy vs l'.sq
  rw [hv] at q
  cases q
  exact ⟨Same.refl _, rv.mo g⟩
theorem itok_tup {w : Wd} {H : Hp} {a : Addr} {vs : List V} {xs : List PyData} (l : TupAt K w H a vs) (r : Rps K w H xs vs) : ItOk K w H (Itt K a) xs := by
  intro w' H' st' g fk' s'
  have l' := l.mo g
  refine ⟨fun i x hx => ?_, ⟨vs, l'.sq, by rw [r.length]; exact Nat.le_refl _⟩⟩
  obtain ⟨v, hv, rv⟩ := r.get hx
  refine ⟨⟨vs, v, l'.sq, hv⟩, fun u H2 hy => ?_⟩
  obtain ⟨e, hy⟩ := hy
  subst e
  have q := hy vs l'.sq
  rw [hv] at q
  cases q
  exact ⟨Same.refl _, rv.mo g⟩
theorem itok_str {w : Wd} {H : Hp} {y : Str} : ItOk K w H (Its y) (signs y) := by
  intro w' H' st' g fk' s'
  have hl : (signs y).length = y.cps.size := by simp [signs]
  refine ⟨fun i x hx => ?_, by rw [hl]; exact Nat.le_refl _⟩
  have hi : i < y.cps.size := by rw [← hl]; exact (List.getElem?_eq_some_iff.mp hx).1
  refine ⟨hi, fun u H2 hy => ?_⟩
  obtain ⟨e, c, hc, eu⟩ := hy
  subst e; subst eu
  refine ⟨Same.refl _, ?_⟩
  have : x = .str ⟨#[c]⟩ := by
    simp only [signs, List.getElem?_map, Array.getElem?_toList, hc, Option.map_some, Option.some.injEq] at hx
    exact hx.symm
  rw [this]
  exact .str _
theorem itok_range {w : Wd} {H : Hp} {lo : Int} {n : Nat} : ItOk K w H (Itr lo n) ((List.range n).map fun (i : Nat) => PyData.int (lo + i)) := by
  intro w' H' st' g fk' s'
  refine ⟨fun i x hx => ?_, by simp [Itr]⟩
  have hi : i < n := by
    have := (List.getElem?_eq_some_iff.mp hx).1
    simpa using this
  refine ⟨hi, fun u H2 hy => ?_⟩
  obtain ⟨e, eu⟩ := hy
  subst e; subst eu
  refine ⟨Same.refl _, ?_⟩
  simp only [List.getElem?_map, List.getElem?_range hi, Option.map_some, Option.some.injEq] at hx
  rw [← hx]
  exact .int _
end
section
variable {X : Cx} {E : XK} {a b e tg : Expr} {ta tb te : TE} {fa fb fe : Env → M D} {tr : TA} {fr : Env → M (List D)} {p pos : Pos}
def anyI (fe : Env → M D) : Env → M Src := fun env => bd (fe env) srcOf
theorem si_any {K : W.Frag} (h : SE X E e te fe) (hK : X.K = K := by rfl) : SI X E tg e (iAny K te) (anyI fe) := by
  subst hK
  refine ⟨pi_any h.pe, fun w σ H env st Q s0 e0 hp => ?_⟩
  refine h.rf.step s0 e0 hp fun r1 H1 st1 x v g1 s1 e1 q1 hp => ?_
  unfold srcOf at hp
  split at hp
  · cases q1 with
    | tup l r => exact .inr (.inl ⟨_, rfl, ⟨_, l.sq⟩, Post.now hp s1 (itok_tup l r)⟩)
  · cases q1 with
    | ls l r => exact .inl ⟨_, rfl, ⟨_, l.sq⟩, Post.now hp s1 (itok_list l r)⟩
  · cases q1
    exact .inr (.inr ⟨_, rfl, Post.now hp s1 itok_str⟩)
  · split at hp
    · rename_i e
      obtain ⟨a, ev, ha, vs, hv, _⟩ := s1.at e q1
      exact .inl ⟨a, ev, ⟨vs, SqL.of hv⟩, Post.now hp s1 ⟨a, ha, rfl⟩⟩
    · exact hp.elim
  · exact hp.elim
def rangeSrc (ds : List D) : M Src := fun st => match ds with
  | [.val (.int j)] => if -(2 ^ 62) ≤ j ∧ j < 2 ^ 62 then .ok (.fix ((List.range j.toNat).map fun (i : Nat) => PyData.int (0 + i))) st else .bad
  | _ => .bad
def rngI (fr : Env → M (List D)) : Env → M Src := fun env => bd (fr env) rangeSrc
theorem si_range (hm : X.mg "range" = none) (ha : SA X E [a] tr fr) (hg : Gl X "range" := by rfl) (hs : starEach [a] X.env = [(false, eval a X.env)] := by rfl) : SI X E tg (.Call (.Name "range" p) [a] [] pos) (iRng1 tr) (rngI fr) := by
  refine ⟨pi_range1 hg hm ha.pa hs, fun w σ H env st Q s0 e0 hp => ?_⟩
  refine ha.rf.step s0 e0 hp fun r1 H1 st1 ds vs g1 s1 e1 q1 hp => ?_
  unfold rangeSrc at hp
  split at hp
  · split at hp
    · rename_i hl
      obtain ⟨v, ev, r⟩ := q1.one
      cases r
      exact ⟨_, ev, hl.1, hl.2, Post.now hp s1 itok_range⟩
    · exact hp.elim
  · exact hp.elim
def range2Src (ds : List D) : M Src := fun st => match ds with
  | [.val (.int i), .val (.int j)] => if -(2 ^ 62) ≤ i ∧ i < 2 ^ 62 ∧ -(2 ^ 62) ≤ j ∧ j < 2 ^ 62 then .ok (.fix ((List.range (j - i).toNat).map fun (k : Nat) => PyData.int (i + k))) st else .bad
  | _ => .bad
def rng2I (fr : Env → M (List D)) : Env → M Src := fun env => bd (fr env) range2Src
theorem si_range2 (hm : X.mg "range" = none) (ha : SA X E [a, b] tr fr) (hg : Gl X "range" := by rfl) (hs : starEach [a, b] X.env = [(false, eval a X.env), (false, eval b X.env)] := by rfl) (hs2 : starEach [b] X.env = [(false, eval b X.env)] := by rfl) : SI X E tg (.Call (.Name "range" p) [a, b] [] pos) (iRng2 tr) (rng2I fr) := by
  refine ⟨pi_range2 hg hm ha.pa hs hs2, fun w σ H env st Q s0 e0 hp => ?_⟩
  refine ha.rf.step s0 e0 hp fun r1 H1 st1 ds vs g1 s1 e1 q1 hp => ?_
  unfold range2Src at hp
  split at hp
  · split at hp
    · rename_i hl
      obtain ⟨v, u, ev, r, r'⟩ := q1.two
      cases r; cases r'
      exact ⟨_, _, ev, hl, Post.now hp s1 itok_range⟩
    · exact hp.elim
  · exact hp.elim
end
theorem Ge.write {w : Wd} {H : Hp} {n : Nat} {a : Addr} {u : HO} (ha : w.rho[n]? = some a) (nf : ∀ od v, H a ≠ some (.frz od v)) : Ge w H w (upd H a u) :=
  ⟨⟨[], by simp, rfl, fun _ h => by simp at h⟩, fun b v _ nb h => by rw [upd_ne (fun z => nb (by rw [z]; exact List.mem_of_getElem? ha))]; exact h, fun b v nb h => ⟨v, by rw [upd_ne (fun z => nb (by rw [z]; exact List.mem_of_getElem? ha))]; exact h⟩, fun b od v h => by rw [upd_ne (fun z => nf od v (by rw [← z]; exact h))]; exact h⟩
def isL (d : D) : M Unit := fun st => match dat st d with
  | some (.list _) => .ok () st
  | _ => .bad
section
variable {X : Cx} {E : XK} {o e : Expr} {es : List Expr} {to te : TE} {fo fe : Env → M D} {tr : TA} {fr : Env → M (List D)} {apos cpos : Pos}
def BMt (K : W.Frag) (E : XK) (r : V → List V → Hp → VK → Prop) (g : D → List D → M D) : Prop :=
  ∀ w H st dx ds x vs Q, RelSt K w H st → RpD K w H dx x → RpDs K w H ds vs → Post K E (RE K) w H (g dx ds st) Q → r x vs H Q
def methL (g : D → List D → M D) (fo : Env → M D) (fr : Env → M (List D)) : Env → M D := fun env => bd (fo env) fun x => bd (isL x) fun _ => bd (fr env) fun ds => g x ds
theorem rf_methL {K : W.Frag} {r : V → List V → Hp → VK → Prop} {g : D → List D → M D} (hB : BMt K E r g) (ho : Rf K E (RE K) to fo) (ha : Rf K E (RA K) tr fr) : Rf K E (RE K) (tBM K "list" r to tr) (methL g fo fr) := by
  intro w σ H env st Q s0 e0 hp
  refine ho.step s0 e0 hp fun r1 H1 st1 x v g1 s1 e1 q1 hp => ?_
  have hp2 := hp
  unfold bd isL at hp2
  cases hd : dat st1 x with
  | none => simp only [hd] at hp2; exact hp2.elim
  | some p =>
    cases p with
    | list xs =>
      obtain ⟨a, us, e3, ha', ra⟩ := dat_lst s1 q1 hd
      subst e3
      rw [bd_ok (a := ()) (st' := st1) (by unfold isL; rw [hd])] at hp
      refine ⟨.inl ⟨rfl, us, SqL.of ha'⟩, ?_⟩
      exact ha.step s1 e1 hp fun r2 H2 st2 ds vs g2 s2 e2 q2 hp => hB r2 H2 st2 x ds _ vs Q s2 (q1.mono g2) q2 hp
    | _ => simp only [hd] at hp2; exact hp2.elim
def appF (x : D) (ds : List D) : M D := fun st => match x, ds with
  | .loc n, [.val y] => (match st[n]? with
    | some (.lst xs) => if xs.length < sizeLine then .ok (.val .none) (st.set n (.lst (xs ++ [y]))) else .bad
    | _ => .bad)
  | _, _ => .bad
theorem bm_app {K : W.Frag} : BMt K E rAppend appF := by
  intro w H st dx ds x vs Q hs rx rd hp
  unfold appF at hp
  split at hp
  · split at hp
    · rename_i e
      split at hp
      · rename_i hl
        obtain ⟨a, ev, ha, us, hu, ru⟩ := hs.at e rx
        obtain ⟨v, evs, rv⟩ := rd.one
        refine ⟨a, us, v, ev, evs, hu, by rw [← ru.length]; exact hl, ?_⟩
        obtain ⟨s2, g2⟩ := hs.write (o := .lst _) (u := .lst (us ++ [v])) ha ⟨_, upd_same, (ru.append (.cons rv .nil)).mono (.write ha (by rw [hu]; intro _ _ z; cases z))⟩ (by rw [hu]; intro _ _ z; cases z)
        exact hp w _ _ g2 s2 .non
      · exact hp.elim
    · exact hp.elim
  · exact hp.elim
theorem se_append {K : W.Frag} (ho : SE X E o to fo) (ha : SA X E [e] tr fr) (hK : X.K = K := by rfl) (hbase : attributeBase o "append" X.env (eval o X.env) = eval o X.env := by rfl)
    (hfew : ((backTo cpos (starEach [e] X.env)).all (fun x => !x.1) && (backToKw cpos (keywordEach [] X.env)).all (fun x => x.1.isSome) && decide ([e].length + ([] : List Keyword).length + (if ([] : List Keyword).isEmpty then 0 else 1) < 30)) = true := by rfl)
    (hline : (apos.endLine == cpos.line) = true := by rfl) (hs : starEach [e] X.env = (false, eval e X.env) :: starEach [] X.env := by rfl) (hplain : (backTo cpos (starEach [] X.env)).any (·.1) = false := by rfl) :
    SE X E (.Call (.Attribute o "append" apos) [e] [] cpos) (tBM K "list" rAppend to tr) (methL appF fo fr) := by
  subst hK
  exact ⟨pe_bm PySem.F.plainAttrs_list PySem.F.slot_list_append PySem.F.type_list_append mt_append ho.pe ha.pa hbase hfew hline hs hplain, rf_methL bm_app ho.rf ha.rf⟩
end
def keyOf (st : Store) (d : D) : Option Key := match dat st d with
  | some (.int i) => some (.inl i)
  | some (.str x) => some (.inr x)
  | _ => none
def getP {κ : Type} [DecidableEq κ] (kvs : List (κ × PyData)) (k : κ) : Option PyData := (kvs.find? fun kv => decide (kv.1 = k)).map (·.2)
def putP {κ : Type} [DecidableEq κ] (kvs : List (κ × PyData)) (k : κ) (v : PyData) : List (κ × PyData) :=
  if (kvs.any fun kv => decide (kv.1 = k)) = true then kvs.map (fun kv => if kv.1 = k then (kv.1, v) else kv) else kvs ++ [(k, v)]
section
variable {K : W.Frag} {w : Wd} {H : Hp} {st : Store} {κ : Type} [DecidableEq κ]
theorem keyOf_rel {d : D} {v : V} {k : Key} (r : RpD K w H d v) (h : keyOf st d = some k) : v = kV k := by
  unfold keyOf at h
  split at h
  · rename_i e; cases h; exact dat_int r e
  · rename_i e; cases h; exact dat_str r e
  · cases h
theorem RpK.find {kvs : List (κ × PyData)} {vs : List (κ × V)} (r : RpK K w H kvs vs) (k : κ) : (∀ d, getP kvs k = some d → ∃ v, valV vs k = some v ∧ Rp K w H d v) ∧ (getP kvs k = none → valV vs k = none) := by
  induction r with
  | nil => exact ⟨fun d h => by simp [getP] at h, fun _ => rfl⟩
  | @cons j d ds v vs r s ih =>
    by_cases e : j = k
    · subst e
      refine ⟨fun c h => ?_, fun h => ?_⟩
      · simp [getP] at h; subst h; exact ⟨v, by simp [valV], r⟩
      · simp [getP] at h
    · have e1 : getP ((j, d) :: ds) k = getP ds k := by simp [getP, List.find?_cons, e]
      have e2 : valV ((j, v) :: vs) k = valV vs k := by simp [valV, List.find?_cons, e]
      rw [e1, e2]; exact ih
theorem RpK.any {kvs : List (κ × PyData)} {vs : List (κ × V)} (r : RpK K w H kvs vs) (k : κ) : (kvs.any fun kv => decide (kv.1 = k)) = vs.any fun kv => decide (kv.1 = k) := by
  induction r with
  | nil => rfl
  | cons r s ih => simp only [List.any_cons, ih]
theorem RpK.app {kvs : List (κ × PyData)} {vs : List (κ × V)} (r : RpK K w H kvs vs) {k : κ} {d : PyData} {v : V} (q : Rp K w H d v) : RpK K w H (kvs ++ [(k, d)]) (vs ++ [(k, v)]) := by
  induction r with
  | nil => exact .cons q .nil
  | cons r s ih => exact .cons r ih
theorem RpK.put {kvs : List (κ × PyData)} {vs : List (κ × V)} (r : RpK K w H kvs vs) {k : κ} {d : PyData} {v : V} (q : Rp K w H d v) : RpK K w H (putP kvs k d) (putK vs k v) := by
  unfold putP putK
  rw [r.any k]
  split
  · rename_i hany
    clear hany
    induction r with
    | nil => exact .nil
    | @cons j c cs u us r s ih =>
      simp only [List.map_cons]
      by_cases e : j = k
      · rw [if_pos e, if_pos e]; exact .cons q ih
      · rw [if_neg e, if_neg e]; exact .cons r ih
  · exact r.app q
theorem RpK.length {kvs : List (κ × PyData)} {vs : List (κ × V)} (r : RpK K w H kvs vs) : kvs.length = vs.length := by
  induction r with
  | nil => rfl
  | cons _ _ ih => simp [ih]
end
section
variable {X : Cx} {E : XK} {o i e value : Expr} {td ty tv : TE} {fd fi fv : Env → M D} {pos pos' : Pos}
def dgetF (x y : D) : M D := fun st => match x with
  | .loc n => (match st[n]?, keyOf st y with
    | some (.dk kvs), some k => (match getP kvs k with
      | some d => okV d st
      | none => .bad)
    | _, _ => .bad)
  | .dkv kvs => (match keyOf st y with
    | some k => (match getP kvs k with
      | some d => okV d st
      | none => .bad)
    | none => .bad)
  | _ => .bad
theorem se_dget (hu : X.A.units + 1 < cLine) (ho : SE X E o td fd) (hi : SE X E i ty fi) (hs : NoSl i := by exact fun _ _ => rfl) : SE X E (.Subscript o i pos) (tDGet td ty) (op2 dgetF fd fi) := by
  refine ⟨pe_dget hu ho.pe hi.pe hs, fun w σ H env st Q s0 e0 hp => ?_⟩
  refine ho.rf.step s0 e0 hp fun r1 H1 st1 x v g1 s1 e1 q1 hp => ?_
  refine hi.rf.step s1 e1 hp fun r2 H2 st2 y u g2 s2 e2 q2 hp => ?_
  unfold dgetF at hp
  split at hp
  · split at hp
    · rename_i eo ek
      split at hp
      · rename_i d hd
        obtain ⟨a, ev, ha, vs, hv, rv⟩ := s2.at eo (q1.mono g2)
        obtain ⟨z, hz, rz⟩ := (rv.find _).1 d hd
        refine ⟨a, z, ev, ?_, Post.now hp s2 rz⟩
        rw [keyOf_rel q2 ek, ← hz]
        exact DGet.k hv
      · exact hp.elim
    · exact hp.elim
  · split at hp
    · rename_i k ek
      split at hp
      · rename_i d hd
        obtain ⟨a, vs, ev, ⟨⟨od, hv⟩, _⟩, rv⟩ := q1.mono g2
        obtain ⟨z, hz, rz⟩ := (rv.find _).1 d hd
        refine ⟨a, z, ev, ?_, Post.now hp s2 rz⟩
        rw [keyOf_rel q2 ek, ← hz]
        exact .inl ⟨vs, k, .inr ⟨od, hv⟩, rfl, rfl⟩
      · exact hp.elim
    · exact hp.elim
  · exact hp.elim
def dputS (fd fi fv : Env → M D) : Env → M Fl := fun env => bd (fv env) fun v => bd (fd env) fun x => bd (fi env) fun y => fun st => match x, v with
  | .loc n, .val d => (match st[n]?, keyOf st y with
    | some (.dk kvs), some k => if kvs.length < sizeLine then .ok (.nx env) (st.set n (.dk (putP kvs k d))) else .bad
    | _, _ => .bad)
  | _, _ => .bad
theorem ss_dput (hu : X.A.units + 1 < cLine) (ho : SE X E o td fd) (hi : SE X E i ty fi) (hv : SE X E value tv fv) (hs : swapsWith value (some (.Subscript o i pos')) pos.line X.env = pure false := by rfl) :
    SS X E (.Assign [.Subscript o i pos'] value pos) (sDPut td ty tv) (dputS fd fi fv) := by
  refine ⟨ps_dput hu ho.pe hi.pe hv.pe hs, fun w σ H env st Z s0 e0 hp => ?_⟩
  refine hv.rf.stepS s0 e0 hp fun r1 H1 st1 v vv g1 s1 e1 q1 hp => ?_
  refine ho.rf.stepS s1 e1 hp fun r2 H2 st2 x xv g2 s2 e2 q2 hp => ?_
  refine hi.rf.stepS s2 e2 hp fun r3 H3 st3 y yv g3 s3 e3 q3 hp => ?_
  split at hp
  · split at hp
    · rename_i eo ek
      split at hp
      · rename_i hl
        obtain ⟨a, ev, ha, vs, hv', rv⟩ := s3.at eo (q2.mono g3)
        refine ⟨a, _, ev, by rw [keyOf_rel q3 ek]; exact DPut.k hv' (by rw [← rv.length]; exact hl), ?_⟩
        have q1' : Rp _ r3 H3 _ vv := (q1.mono g2).mono g3
        obtain ⟨s4, g4⟩ := s3.write (o := .dk _) (u := .dK (putK vs _ vv)) ha ⟨_, upd_same, (rv.put q1').mono (.write ha (by rw [hv']; intro _ _ z; cases z))⟩ (by rw [hv']; intro _ _ z; cases z)
        exact hp r3 _ _ g4 s4 (e3.mono g4)
      · exact hp.elim
    · exact hp.elim
  · exact hp.elim
end
end B
namespace B
open PySem L2
variable [Nm] [Gd]

inductive RPs (K : W.Frag) (w : Wd) (H : Hp) : List (D × D) → List (V × V) → Prop where
  | nil : RPs K w H [] []
  | cons {a b : D} {x y : V} {ds : List (D × D)} {vs : List (V × V)} : RpD K w H a x → RpD K w H b y → RPs K w H ds vs → RPs K w H ((a, b) :: ds) ((x, y) :: vs)
theorem RPs.mono {K : W.Frag} {w w' : Wd} {H H' : Hp} (g : Ge w H w' H') : ∀ {ds : List (D × D)} {vs : List (V × V)}, RPs K w H ds vs → RPs K w' H' ds vs
  | _, _, .nil => .nil
  | _, _, .cons a b r => .cons (a.mono g) (b.mono g) (RPs.mono g r)
theorem RPs.mo {K : W.Frag} {w w' : Wd} {H H' : Hp} (g : Mo w H w' H') : ∀ {ds : List (D × D)} {vs : List (V × V)}, RPs K w H ds vs → RPs K w' H' ds vs
  | _, _, .nil => .nil
  | _, _, .cons a b r => .cons (a.mo g) (b.mo g) (RPs.mo g r)
structure SPs (X : Cx) (E : XK) (pos : Pos) (ks : List (Option Expr)) (vs : List Expr) (t : List (TE × TE)) (f : Env → M (List (D × D))) : Prop where
  pp : PPs X pos ks vs t
  rf : Rf X.K E (RPs X.K) (tPairs t) f
section
variable {X : Cx} {E : XK} {pos : Pos} {k v : Expr} {ks : List (Option Expr)} {vs : List Expr} {tk tv : TE} {fk fv : Env → M D} {t : List (TE × TE)} {f : Env → M (List (D × D))}
def pNil : Env → M (List (D × D)) := fun _ => rt []
def pCons (fk fv : Env → M D) (f : Env → M (List (D × D))) : Env → M (List (D × D)) := fun env => bd (fk env) fun a => bd (fv env) fun b => bd (f env) fun r => rt ((a, b) :: r)
theorem sps_nil : SPs X E pos [] [] [] pNil := ⟨pps_nil, fun w σ H env st Q hs he hp => Post.now hp hs .nil⟩
theorem sps_cons (hk : SE X E k tk fk) (hv : SE X E v tv fv) (hr : SPs X E pos ks vs t f) : SPs X E pos (some k :: ks) (v :: vs) ((tk, tv) :: t) (pCons fk fv f) := by
  refine ⟨pps_cons hk.pe hv.pe hr.pp, fun w σ H env st Q s0 e0 hp => ?_⟩
  refine hk.rf.step s0 e0 hp fun r1 H1 st1 x xv g1 s1 e1 q1 hp => ?_
  refine hv.rf.step s1 e1 hp fun r2 H2 st2 y yv g2 s2 e2 q2 hp => ?_
  refine hr.rf.step s2 e2 hp fun r3 H3 st3 l lv g3 s3 e3 q3 hp => ?_
  exact Post.now hp s3 (.cons ((q1.mono g2).mono g3) (q2.mono g3) q3)
end
def kvsOf : List (D × D) → Option (List (Key × PyData))
  | [] => some []
  | (.val (.int i), .val d) :: r => (kvsOf r).map ((Sum.inl i, d) :: ·)
  | (.val (.str x), .val d) :: r => (kvsOf r).map ((Sum.inr x, d) :: ·)
  | _ :: _ => none
def mergeP (kvs more : List (Key × PyData)) : List (Key × PyData) := more.foldl (fun acc kv => putP acc kv.1 kv.2) kvs
theorem RPs.kvs {K : W.Frag} {w : Wd} {H : Hp} : ∀ {ds : List (D × D)} {vs : List (V × V)} {kvs : List (Key × PyData)}, RPs K w H ds vs → kvsOf ds = some kvs → ∃ us : List (Key × V), vs = us.map (fun kv => (kV kv.1, kv.2)) ∧ RpK K w H kvs us
  | _, _, kvs, .nil, e => by
    have : kvs = [] := by simpa [kvsOf] using e.symm
    subst this
    exact ⟨[], rfl, .nil⟩
  | (.val p, .val d) :: r, _, kvs, .cons ha hb t, e => by
    cases p with
    | int i =>
      cases q : kvsOf r with
      | none => simp [kvsOf, q] at e
      | some qs =>
        have : kvs = (Sum.inl i, d) :: qs := by simpa [kvsOf, q] using e.symm
        subst this
        obtain ⟨us, e1, r1⟩ := RPs.kvs t q
        cases ha
        exact ⟨(Sum.inl i, _) :: us, by rw [e1]; rfl, .cons hb r1⟩
    | str i =>
      cases q : kvsOf r with
      | none => simp [kvsOf, q] at e
      | some qs =>
        have : kvs = (Sum.inr i, d) :: qs := by simpa [kvsOf, q] using e.symm
        subst this
        obtain ⟨us, e1, r1⟩ := RPs.kvs t q
        cases ha
        exact ⟨(Sum.inr i, _) :: us, by rw [e1]; rfl, .cons hb r1⟩
    | _ => simp [kvsOf] at e
  | (.val _, .loc _) :: _, _, _, .cons _ _ _, e => by
    rename_i p _ _
    cases p <;> simp [kvsOf] at e
  | (.val _, .cst _) :: _, _, _, .cons _ _ _, e => by
    rename_i p _ _
    cases p <;> simp [kvsOf] at e
  | (.val _, .frz _) :: _, _, _, .cons _ _ _, e => by
    rename_i p _ _
    cases p <;> simp [kvsOf] at e
  | (.val _, .err) :: _, _, _, .cons _ _ _, e => by
    rename_i p _ _
    cases p <;> simp [kvsOf] at e
  | (.val _, .fn _) :: _, _, _, .cons _ _ _, e => by
    rename_i p _ _
    cases p <;> simp [kvsOf] at e
  | (.val _, .pr _ _) :: _, _, _, .cons _ _ _, e => by
    rename_i p _ _
    cases p <;> simp [kvsOf] at e
  | (.val _, .tr _ _ _) :: _, _, _, .cons _ _ _, e => by
    rename_i p _ _
    cases p <;> simp [kvsOf] at e
  | (.val _, .dv _) :: _, _, _, .cons _ _ _, e => by
    rename_i p _ _
    cases p <;> simp [kvsOf] at e
  | (.val _, .clo _ _) :: _, _, _, .cons _ _ _, e => by
    rename_i p _ _
    cases p <;> simp [kvsOf] at e
  | (.val _, .dkv _) :: _, _, _, .cons _ _ _, e => by
    rename_i p _ _
    cases p <;> simp [kvsOf] at e
  | (.err, _) :: _, _, _, .cons _ _ _, e => by simp [kvsOf] at e
  | (.fn _, _) :: _, _, _, .cons _ _ _, e => by simp [kvsOf] at e
  | (.pr _ _, _) :: _, _, _, .cons _ _ _, e => by simp [kvsOf] at e
  | (.tr _ _ _, _) :: _, _, _, .cons _ _ _, e => by simp [kvsOf] at e
  | (.dv _, _) :: _, _, _, .cons _ _ _, e => by simp [kvsOf] at e
  | (.clo _ _, _) :: _, _, _, .cons _ _ _, e => by simp [kvsOf] at e
  | (.dkv _, _) :: _, _, _, .cons _ _ _, e => by simp [kvsOf] at e
  | (.loc _, _) :: _, _, _, .cons _ _ _, e => by simp [kvsOf] at e
  | (.cst _, _) :: _, _, _, .cons _ _ _, e => by simp [kvsOf] at e
  | (.frz _, _) :: _, _, _, .cons _ _ _, e => by simp [kvsOf] at e
theorem RpK.merge {K : W.Frag} {w : Wd} {H : Hp} : ∀ {more : List (Key × PyData)} {us : List (Key × V)} {kvs : List (Key × PyData)} {vs : List (Key × V)}, RpK K w H more us → RpK K w H kvs vs → RpK K w H (mergeP kvs more) (mergeK vs us) := by
  intro more us kvs vs r
  induction r generalizing kvs vs with
  | nil => intro q; exact q
  | cons r s ih => intro q; exact ih (q.put r)
def newDk (ps : List (D × D)) : M D := fun st => match kvsOf ps with
  | some kvs => if kvs.length ≤ 15 then .ok (.loc st.length) (st ++ [.dk (mergeP [] kvs)]) else .bad
  | none => .bad
def dispE (f : Env → M (List (D × D))) : Env → M D := fun env => bd (noX (f env)) newDk
theorem se_disp {X : Cx} {E : XK} {pos : Pos} {ks : List (Option Expr)} {vs : List Expr} {t : List (TE × TE)} {f : Env → M (List (D × D))} (h : SPs X E0 pos ks vs t f) (hall : ks.all (·.isSome) = true := by rfl) (hl : ks.length = vs.length := by rfl) (h0 : ks ≠ [] := by intro z; cases z) (h15 : ks.length ≤ 15 := by decide) :
    SE X E (.Dict ks vs pos) (tDisp t) (dispE f) := by
  refine ⟨pe_disp h.pp hall hl h0 h15, fun w σ H env st Q s0 e0 hp => ?_⟩
  intro p np
  replace hp : Post X.K E (RE X.K) w H (bd (noX (f env)) newDk st) Q := hp
  refine h.rf (w.prot p) σ _ env st _ (s0.prot np) (e0.mo (Mo.prot s0 np)) ?_
  cases hf : f env st with
  | ok ps st' =>
    rw [bd_ok (noX_ok hf)] at hp
    intro w1 H1 us g1 s1 q1
    obtain ⟨w2, mo, s2, g2, hD, er⟩ := unprot s0 np g1 s1
    unfold newDk at hp
    cases hk : kvsOf ps with
    | none => simp only [hk] at hp; exact hp.elim
    | some kvs =>
      simp only [hk] at hp
      split at hp
      · rename_i hlen
        obtain ⟨zs, ez, rz⟩ := q1.kvs hk
        refine ⟨hD, zs, ez, by rw [← rz.length]; exact hlen, ?_⟩
        have nn : (hide H1 p) p = none := hide_same
        have np2 := s2.notin nn
        have gg : Ge w2 (hide H1 p) (w2.add p) (upd (hide H1 p) p (.dK (mergeK [] zs))) := ⟨⟨[p], rfl, rfl, fun q hq => by
          have : q = p := by simpa using hq
          subst this
          exact ⟨np2, nn⟩⟩, fun b v _ nb h => by rw [upd_ne (ne_of_none h nn)]; exact h, fun b v nb h => ⟨v, by rw [upd_ne (ne_of_none h nn)]; exact h⟩, fun b od v h => by rw [upd_ne (ne_of_none h nn)]; exact h⟩
        obtain ⟨s3, g3⟩ := s2.push (o := .dk (mergeP [] kvs)) (u := .dK (mergeK [] zs)) nn ⟨_, upd_same, ((RpK.merge (rz.mo mo) .nil)).mono gg⟩
        have := hp _ _ (.ref p) (g2.trans g3) s3 ⟨p, rfl, by rw [s2.len]; simp⟩
        rw [upd_hide] at this
        exact this
      · exact hp.elim
  | exc e st' => rw [bd_bad (noX_exc hf)] at hp; exact hp.elim
  | bad => rw [bd_bad (noX_bad hf)] at hp; exact hp.elim

def isTupC : PyData → Bool
  | .tuple (_ :: _) => true
  | _ => false
def notTN : PyData → Bool
  | .none => false
  | .tuple _ => false
  | _ => true
def sortOk (xs : List PyData) : Bool := (xs.all fun d => xs.all fun e => PySem.W.alike d e) && (xs.all isTupC || xs.all notTN) && xs.all fun d => decide (d.depth ≤ 64)
def sortP (xs : List PyData) : List PyData := xs.mergeSort (PySem.W.dataLe false id)
def rSortP (K : W.Frag) : List V → Hp → VK → Prop := fun xs H Q => ∃ a ys ds, xs = [.ref a] ∧ SqL K H a ys ∧ DpAll K H ys ds ∧ sortOk ds = true ∧ ∀ p, H p = none → Q (.ref p) (upd H p (.lst (((ds.zip ys).mergeSort (PySem.W.dataLe false (·.1))).map (·.2))))
theorem sortOk_alike {ds : List PyData} (h : sortOk ds = true) : PySem.W.AllAlike ds ∧ PySem.W.Sortable ds ∧ ∀ d ∈ ds, d.depth ≤ 64 := by
  unfold sortOk at h
  simp only [Bool.and_eq_true, Bool.or_eq_true, List.all_eq_true, decide_eq_true_eq] at h
  obtain ⟨⟨h1, h2⟩, h3⟩ := h
  refine ⟨fun d hd e he => h1 d hd e he, ?_, h3⟩
  rcases h2 with h2 | h2
  · refine .inl fun d hd => ?_
    have := h2 d hd
    unfold isTupC at this
    split at this
    · exact ⟨_, _, rfl⟩
    · cases this
  · refine .inr fun d hd => ?_
    have := h2 d hd
    unfold notTN at this
    split at this
    · cases this
    · cases this
    · exact ⟨fun e => by simp_all, fun xs e => by simp_all⟩
theorem each_of_vals : ∀ {ys : List V} {its : List Value} {ds : List PyData}, Vals ys its → ds.length = ys.length → PySem.W.EachIs (fun (v : Value) (b : PyData × V) => RelV b.2 v) its (ds.zip ys)
  | _, _, [], .nil, _ => .nil
  | _, _, d :: ds, .cons r t, h => .cons r (each_of_vals t (by simpa using h))
  | _, _, [], .cons _ _, h => by simp at h
theorem vals_of_each : ∀ {out : List Value} {bs : List (PyData × V)}, PySem.W.EachIs (fun (v : Value) (b : PyData × V) => RelV b.2 v) out bs → Vals (bs.map (·.2)) out
  | _, _, .nil => .nil
  | _, _, .cons r t => .cons r (vals_of_each t)
theorem DpAll.length {K : W.Frag} {H : Hp} : ∀ {vs : List V} {ds : List PyData}, DpAll K H vs ds → ds.length = vs.length
  | _, _, .nil => rfl
  | _, _, .cons _ s => by rw [List.length_cons, List.length_cons, DpAll.length s]
theorem cr_sortP {X : Cx} {K : W.Frag} (hu : X.A.units + 70 < cLine) (hK : X.K = K := by rfl) : CallR X (.builtin "sorted") (rSortP K) := by
  subst hK
  intro pins s σ H vs us Q I r h
  obtain ⟨a, ys, ds, rfl, hs, hd, ok, q⟩ := h
  obtain ⟨its, rv, hl, hz⟩ := I.list hs
  obtain ⟨al, so, dp⟩ := sortOk_alike ok
  have hlen := DpAll.length hd
  obtain ⟨u, rfl, ru⟩ := vals1 r
  cases ru
  obtain ⟨as, rd⟩ := L2.Dp.readsAll I ds ys its hd rv
  have ez : (ds.zip ys).map (·.1) = ds := List.map_fst_zip (by omega)
  have er := PySem.W.readsAll_each (h := s.heap) (fun (b : PyData × V) => b.1) (bs := ds.zip ys) (vs := its) (as := as) (by rw [ez]; exact rd)
  refine PySem.W.sorted_data (R := fun (v : Value) (b : PyData × V) => RelV b.2 v) (enc := fun b => b.1) (bs := ds.zip ys) hl.isList (each_of_vals rv hlen) er (by rw [ez]; exact al) (by rw [ez]; exact so) ?_ (fun b hb => ?_) fun out ho eo => ?_
  · rw [List.length_zip]; omega
  · have : b.1 ∈ ds := by rw [← ez]; exact List.mem_map.mpr ⟨b, hb, rfl⟩
    have := dp _ this
    omega
  · obtain ⟨ep, he'⟩ := PyProof.Rows.sortedAll_at s.heap its out.toArray
    have rel := vals_of_each eo
    have hlen2 : (((ds.zip ys).mergeSort (PySem.W.dataLe false (·.1))).map (·.2)).length ≤ sizeLine := by
      rw [List.length_map, List.length_mergeSort, List.length_zip]; omega
    exact ⟨.ref _, upd H (s.heap.objs.size + 1) (.lst (((ds.zip ys).mergeSort (PySem.W.dataLe false (·.1))).map (·.2))), I.laid (t' := s.toks) (fun _ _ => PyProof.Rows.sortedAll_old) (Nat.le_succ _) ⟨hlen2, out, ep, rel, he'⟩, rfl, q _ (I.hok.fresh (Nat.le_succ _))⟩
section
variable {K : W.Frag} {E : XK}
theorem Rps.zipMem {w : Wd} {H : Hp} {xs : List PyData} {vs : List V} (r : Rps K w H xs vs) : ∀ b ∈ xs.zip vs, Rp K w H b.1 b.2 := by
  induction xs generalizing vs with
  | nil => intro b h; simp at h
  | cons x xs ih =>
    cases r with
    | cons r t =>
      intro b h
      rcases List.mem_cons.mp h with e | h
      · rw [e]; exact r
      · exact ih t b h
theorem Rps.ofMem {w : Wd} {H : Hp} : ∀ {bs : List (PyData × V)}, (∀ b ∈ bs, Rp K w H b.1 b.2) → Rps K w H (bs.map (·.1)) (bs.map (·.2))
  | [], _ => .nil
  | b :: bs, h => .cons (h b List.mem_cons_self) (Rps.ofMem fun c hc => h c (List.mem_cons_of_mem _ hc))
def sortF (ds : List D) : M (List PyData) := fun st => match ds with
  | [d] => (match dat st d with
    | some (.list xs) => if sortOk xs = true then .ok (sortP xs) st else .bad
    | _ => .bad)
  | _ => .bad
theorem bc_sort : BCallF K E (rSortP K) sortF := by
  intro w H st ds vs Q hs r hp
  unfold sortF at hp
  split at hp
  · obtain ⟨v, e, r1⟩ := r.one
    split at hp
    · rename_i xs e1
      split at hp
      · rename_i ok
        obtain ⟨a, us, e3, ha, ra⟩ := dat_lst hs r1 e1
        subst e3
        refine ⟨a, us, xs, e, SqL.of ha, ra.dp, ok, fun p np => ?_⟩
        refine hp w H p _ (Ge.refl _ _) hs np ?_
        have ez : (xs.zip us).map (·.1) = xs := List.map_fst_zip (by rw [ra.length]; exact Nat.le_refl _)
        have em : ((xs.zip us).mergeSort (PySem.W.dataLe false (·.1))).map (·.1) = sortP xs := by
          unfold sortP
          rw [List.map_mergeSort (r := PySem.W.dataLe false fun (b : PyData × V) => b.1) (s := PySem.W.dataLe false id) (f := fun (b : PyData × V) => b.1) (fun _ _ _ _ => rfl), ez]
        rw [← em]
        exact Rps.ofMem fun b hb => ra.zipMem b (List.mem_mergeSort.mp hb)
      · exact hp.elim
    · exact hp.elim
  · exact hp.elim
def rReprP (K : W.Frag) : List V → Hp → VK → Prop := fun xs H Q => ∃ x d, xs = [x] ∧ Dp K H x d ∧ d.showable = true ∧ d.shown.length ≤ sizeLine ∧ d.depth ≤ 64 ∧ Q (.str d.shown) H
mutual
theorem plain_noDict : ∀ d : PyData, d.plain = true → d.hasDict = false
  | .none, _ => rfl
  | .bool _, _ => rfl
  | .int _, _ => rfl
  | .str _, _ => rfl
  | .list xs, h => by simp only [PyData.hasDict]; exact plainAll_noDict xs (by simpa [PyData.plain] using h)
  | .tuple xs, h => by simp only [PyData.hasDict]; exact plainAll_noDict xs (by simpa [PyData.plain] using h)
  | .dict _, h => by simp [PyData.plain] at h
theorem plainAll_noDict : ∀ xs : List PyData, PyData.plainAll xs = true → PyData.hasDictAll xs = false
  | [], _ => rfl
  | x :: xs, h => by
    simp only [PyData.plainAll, Bool.and_eq_true] at h
    simp only [PyData.hasDictAll, plain_noDict x h.1, plainAll_noDict xs h.2, Bool.or_self]
end
theorem cr_reprP {X : Cx} {K : W.Frag} (hu : X.A.units + 70 < cLine) (hG : X.A.guards = some []) (hK : X.K = K := by rfl) : CallR X (.builtin "repr") (rReprP K) := by
  subst hK
  intro pins s σ H vs us Q I r h
  obtain ⟨x, d, rfl, hd, sh, hz, dp, q⟩ := h
  obtain ⟨u, rfl, ru⟩ := vals1 r
  cases hd with
  | non => cases ru; exact PySem.P.repr_of_none ⟨.str _, H, I.tok _, ⟨_, rfl⟩, q⟩
  | bl b =>
    cases ru
    refine PySem.P.repr_of_bool ⟨.str _, H, I.tok _, ⟨_, rfl⟩, ?_⟩
    cases b <;> exact q
  | int i =>
    obtain ⟨t, rfl⟩ := ru
    exact PySem.P.repr_of_int (by simpa [PyData.showable] using sh) ⟨.str _, H, I.tok _, ⟨_, rfl⟩, q⟩
  | str z =>
    obtain ⟨t, rfl⟩ := ru
    exact PySem.P.repr_of_str ⟨.str _, H, I.tok _, ⟨_, rfl⟩, q⟩ hz
  | @lst a xs ds hl ha =>
    cases ru
    obtain ⟨as, rd⟩ := L2.Dp.reads I _ _ _ (.lst hl ha) (show RelV (.ref a) (.ref a) from rfl)
    exact PySem.repr_of_reads' rd sh (fun z => by rw [plain_noDict _ (Dp.plain (.lst hl ha))] at z; cases z) hG (by omega) (fun _ _ e => e) (fun h' u tk hk => ⟨.str _, H, I.kept (t' := tk) hk, ⟨_, rfl⟩, q⟩) hz
  | @tup a xs ds hl ha =>
    cases ru
    obtain ⟨as, rd⟩ := L2.Dp.reads I _ _ _ (.tup hl ha) (show RelV (.ref a) (.ref a) from rfl)
    exact PySem.repr_of_reads' rd sh (fun z => by rw [plain_noDict _ (Dp.plain (.tup hl ha))] at z; cases z) hG (by omega) (fun _ _ e => e) (fun h' u tk hk => ⟨.str _, H, I.kept (t' := tk) hk, ⟨_, rfl⟩, q⟩) hz
def reprF (ds : List D) : M D := fun st => match ds with
  | [d] => (match dat st d with
    | some p => if p.showable = true ∧ p.shown.length ≤ sizeLine ∧ p.depth ≤ 64 then okV (.str p.shown) st else .bad
    | _ => .bad)
  | _ => .bad
theorem bc_repr : BCall K E (rReprP K) reprF := by
  intro w H st ds vs Q hs r hp
  unfold reprF at hp
  split at hp
  · obtain ⟨v, e, r1⟩ := r.one
    split at hp
    · rename_i p e1
      split at hp
      · rename_i hc
        exact ⟨v, p, e, dat_dp hs r1 e1, hc.1, hc.2.1, hc.2.2, Post.now hp hs (.str _)⟩
      · exact hp.elim
    · exact hp.elim
  · exact hp.elim
end
end B
namespace B
open PySem L2
variable [Nm] [Gd]
section
variable {K : W.Frag} {E : XK}
def strsOf : List PyData → Option (List Str)
  | [] => some []
  | .str x :: r => (strsOf r).map (x :: ·)
  | _ :: _ => none
def boolsOf : List PyData → Option (List Bool)
  | [] => some []
  | .bool x :: r => (boolsOf r).map (x :: ·)
  | _ :: _ => none
def intsOf : List PyData → Option (List Int)
  | [] => some []
  | .int x :: r => (intsOf r).map (x :: ·)
  | _ :: _ => none
theorem Rps.bools {w : Wd} {H : Hp} : ∀ {xs : List PyData} {vs : List V} {ys : List Bool}, Rps K w H xs vs → boolsOf xs = some ys → vs = ys.map V.bl
  | _, _, ys, .nil, e => by
    have : ys = [] := by simpa [boolsOf] using e.symm
    subst this; rfl
  | .bool x :: r, _, ys, .cons h t, e => by
    cases q : boolsOf r with
    | none => simp [boolsOf, q] at e
    | some qs =>
      have : ys = x :: qs := by simpa [boolsOf, q] using e.symm
      subst this
      cases h
      rw [Rps.bools t q]; rfl
  | .none :: _, _, _, .cons _ _, e => by simp [boolsOf] at e
  | .str _ :: _, _, _, .cons _ _, e => by simp [boolsOf] at e
  | .int _ :: _, _, _, .cons _ _, e => by simp [boolsOf] at e
  | .list _ :: _, _, _, .cons _ _, e => by simp [boolsOf] at e
  | .tuple _ :: _, _, _, .cons _ _, e => by simp [boolsOf] at e
theorem Rps.ints {w : Wd} {H : Hp} : ∀ {xs : List PyData} {vs : List V} {ys : List Int}, Rps K w H xs vs → intsOf xs = some ys → vs = ys.map V.int
  | _, _, ys, .nil, e => by
    have : ys = [] := by simpa [intsOf] using e.symm
    subst this; rfl
  | .int x :: r, _, ys, .cons h t, e => by
    cases q : intsOf r with
    | none => simp [intsOf, q] at e
    | some qs =>
      have : ys = x :: qs := by simpa [intsOf, q] using e.symm
      subst this
      cases h
      rw [Rps.ints t q]; rfl
  | .none :: _, _, _, .cons _ _, e => by simp [intsOf] at e
  | .str _ :: _, _, _, .cons _ _, e => by simp [intsOf] at e
  | .bool _ :: _, _, _, .cons _ _, e => by simp [intsOf] at e
  | .list _ :: _, _, _, .cons _ _, e => by simp [intsOf] at e
  | .tuple _ :: _, _, _, .cons _ _, e => by simp [intsOf] at e
def allF (ds : List D) : M D := fun st => match ds with
  | [d] => (match dat st d with
    | some (.list xs) => (match boolsOf xs with
      | some bs => okV (.bool (bs.all id)) st
      | none => .bad)
    | _ => .bad)
  | _ => .bad
def sumF (ds : List D) : M D := fun st => match ds with
  | [d] => (match dat st d with
    | some (.list xs) => (match intsOf xs with
      | some bs => okV (.int bs.sum) st
      | none => .bad)
    | _ => .bad)
  | _ => .bad
theorem bc_sum : BCall K E (rSum K) sumF := by
  intro w H st ds vs Q hs r hp
  unfold sumF at hp
  split at hp
  · obtain ⟨v, e, r1⟩ := r.one
    split at hp
    · rename_i xs e1
      split at hp
      · rename_i bs hb
        obtain ⟨a, us, e3, ha, ra⟩ := dat_lst hs r1 e1
        subst e3
        have eu := ra.ints hb
        subst eu
        exact ⟨a, bs, e, SqL.of ha, Post.now hp hs (.int _)⟩
      · exact hp.elim
    · exact hp.elim
  · exact hp.elim
end
def isS (d : D) : M Unit := fun st => match d with
  | .val (.str _) => .ok () st
  | _ => .bad
section
variable {X : Cx} {E : XK} {o e a b : Expr} {to te ta tb : TE} {fo fe fa fb : Env → M D} {apos pos p p1 p2 p3 : Pos} {tr tk : TA} {fr fk : Env → M (List D)}
variable {es : List Expr} {ts : List TE} {fj : Str → Env → M Str}
variable {v1 v2 : Expr} {rest : List Expr}
def rgP (a b : Int) : List PyData := (List.range (b - a).toNat).map fun (i : Nat) => PyData.int (a + i)
theorem rgP_rel {K : W.Frag} {w : Wd} {H : Hp} (a b : Int) : Rps K w H (rgP a b) (rgV a b) := by
  unfold rgP rgV
  induction List.range (b - a).toNat with
  | nil => exact .nil
  | cons i r ih => exact .cons (.int _) ih
def rgB (n : Int) : Bool := decide (-(2 ^ 62) ≤ n ∧ n ≤ 16777216)
theorem rgB_ok {n : Int} (h : rgB n = true) : RgOk 0 n := by
  unfold rgB at h
  simp only [decide_eq_true_eq] at h
  exact ⟨by omega, by omega, by omega, by omega, by omega⟩
def rgF (d : D) : M (List PyData) := fun st => match d with
  | .val (.int n) => if rgB n = true then .ok (rgP 0 n) st else .bad
  | _ => .bad
def rgE (fa : Env → M D) : Env → M (List PyData) := fun env => bd (fa env) rgF
theorem sf_listRg (hm : X.mg "list" = none) (hm2 : X.mg "range" = none) (ha : SE X E a ta fa) (hc : X.calm = true := by rfl) (hg : Gl X "list" := by rfl) (hg2 : Gl X "range" := by rfl) (na : starEach [a] X.env = (false, eval a X.env) :: starEach [] X.env := by rfl)
    (nb : starEach [.Call (.Name "range" p1) [a] [] p2] X.env = (false, eval (.Call (.Name "range" p1) [a] [] p2) X.env) :: starEach [] X.env := by rfl) : SF X E (.Call (.Name "list" p) [.Call (.Name "range" p1) [a] [] p2] [] pos) (tLstRg (tRg1 ta)) (rgE fa) := by
  refine ⟨pe_listRg hc hg hm (prg_1 hg2 hm2 ha.pe na) nb, fun w σ H env st Q s0 e0 hp => ?_⟩
  refine ha.rf.stepF s0 e0 hp fun r1 H1 st1 x v g1 s1 e1 q1 hp => ?_
  unfold rgF at hp
  split at hp
  · split at hp
    · rename_i hl
      cases q1
      exact ⟨_, rfl, rgB_ok hl, fun q nq => hp r1 H1 q _ (Ge.refl _ _) s1 nq (rgP_rel _ _)⟩
    · exact hp.elim
  · exact hp.elim
def revF (d : D) : M (List PyData) := fun st => match dat st d with
  | some (.list xs) => .ok xs.reverse st
  | _ => .bad
theorem Rps.rev {K : W.Frag} {w : Wd} {H : Hp} : ∀ {xs : List PyData} {vs : List V}, Rps K w H xs vs → Rps K w H xs.reverse vs.reverse
  | _, _, .nil => .nil
  | _, _, .cons r t => by
    rw [List.reverse_cons, List.reverse_cons]
    exact (Rps.rev t).append (.cons r .nil)
def revE (fe : Env → M D) : Env → M (List PyData) := fun env => bd (fe env) revF
theorem sf_rev {K : W.Frag} {k : Nat} (he : SE X E e te fe) (hK : X.K = K := by rfl) : SF X E (.Subscript e (.Slice none none (some (.UnaryOp .USub (.Constant (.int 1) k p1) p2)) p3) pos) (tRevL K te) (revE fe) := by
  subst hK
  refine ⟨pe_revL he.pe, fun w σ H env st Q s0 e0 hp => ?_⟩
  refine he.rf.stepF s0 e0 hp fun r1 H1 st1 x v g1 s1 e1 q1 hp => ?_
  unfold revF at hp
  split at hp
  · rename_i xs hx
    obtain ⟨a, us, e3, ha, ra⟩ := dat_lst s1 q1 hx
    exact ⟨a, us, e3, SqL.of ha, fun p np => hp r1 H1 p _ (Ge.refl _ _) s1 np ra.rev⟩
  · exact hp.elim
variable {elt tg iter : Expr} {ifs : List Expr} {scope : Scope} {own : List (Str × Nat)} {is : List Nat} {ti : TI} {g : TG} {tt : TT} {fi : Env → M Src} {fg : D → Env → M Env} {ft : Env → M Bool} {i : Nat} {y : Str} {py spos : Pos}
def obV (ob : Bool) (f : Env → M (List PyData)) : Env → M D := if ob = true then asObj f else asVal f
theorem ss_setLc (ob : Bool) (m : Nat) (hN : X.N.Nodup) (hi : SI X E tg iter ti fi) (ok : BlkOk X.N X.env.scope scope own)
    (hg : ∀ (s : Shared) (H : Hp) (C : Addr) (cl : List (Str × Addr)) (fp : List Addr), SG (X.blk s H scope (PySem.compEnvC scope cl C X.env) fp) E0 is tg g fg) (ht : ∀ (s : Shared) (H : Hp) (C : Addr) (cl : List (Str × Addr)) (fp : List Addr), STs (X.blk s H scope (PySem.compEnvC scope cl C X.env) fp) E0 ifs tt ft)
    (he : ∀ (s : Shared) (H : Hp) (C : Addr) (cl : List (Str × Addr)) (fp : List Addr), SE (X.blk s H scope (PySem.compEnvC scope cl C X.env) fp) E0 elt te fe)
    (hsw : swapsWith (.ListComp elt [⟨tg, iter, ifs, 0⟩] scope pos) (some (.Name y py)) spos.line X.env = pure true) {os : List Nat} (hos : own.map (·.2) = os := by rfl) (his : ∀ i ∈ is, i ∈ os := by decide) (hc : X.calm = true := by rfl) (hy : X.N[i]? = some y := by rfl) (hyl : X.env.scope.names.lookup y = some .local := by rfl) (hs : ∀ x, foldedSetIterable iter X.env x = pure x := by intro _; rfl) :
    SS X E (.Assign [.Name y py] (.ListComp elt [⟨tg, iter, ifs, 0⟩] scope pos) spos) (tAsg (tLc ti g tt te os) (gName i)) (asgS (obV ob (lcS m os fi fg ft fe)) (setV i)) := by
  subst hos
  have rf := rf_lc (m := m) hi.rf (hg {} (fun _ => none) 0 [] []).rf his (ht {} (fun _ => none) 0 [] []).rf (he {} (fun _ => none) 0 [] []).rf
  refine ⟨ps_setLc hc hN hy hyl hsw hi.pi ok (fun s H C cl fp => (hg s H C cl fp).pg) (fun s H C cl fp => (ht s H C cl fp).pt) (fun s H C cl fp => (he s H C cl fp).pe) hs, ?_⟩
  have rs : RfG X.K E [i] (gName i) (setV i) := fun w σ H env st d v Q s0 e0 r hp => hp w H _ (Ge.refl _ _) s0 (e0.set i r) fun vs h => wipe_set (h i (by simp))
  cases ob with
  | true => exact rf_asg (is := [i]) (rf_obj rf) rs
  | false => exact rf_asg (is := [i]) (rf_val rf) rs
end
end B
namespace B
open PySem L2
variable [Nm] [Gd]
def pick {α : Type} (ix : List Nat) (l : List α) : List α := ix.filterMap fun i => l[i]?
def KB (fd : FuncData) (ps ks : List Str) (n m : Nat) (ix : List Nat) : Prop :=
  ∀ (s : Shared) (us ws : List Value), us.length = n → ws.length = m → BindsTo s fd ⟨us, ks.zip ws⟩ (ps.zip (pick ix (us ++ ws)))
theorem Vals.pick {vs : List V} {us : List Value} (r : Vals vs us) : ∀ ix : List Nat, Vals (B.pick ix vs) (B.pick ix us)
  | [] => .nil
  | i :: ix => by
    unfold B.pick
    rw [List.filterMap_cons, List.filterMap_cons]
    cases h : vs[i]? with
    | none => rw [r.none_of h]; exact Vals.pick r ix
    | some v =>
      obtain ⟨u, hu, ru⟩ := r.get h
      rw [hu]
      exact .cons ru (Vals.pick r ix)
theorem RpDs.append {K : W.Frag} {w : Wd} {H : Hp} : ∀ {ds es : List D} {vs us : List V}, RpDs K w H ds vs → RpDs K w H es us → RpDs K w H (ds ++ es) (vs ++ us)
  | _, _, _, _, .nil, s => s
  | _, _, _, _, .cons r t, s => .cons r (RpDs.append t s)
theorem RpDs.get {K : W.Frag} {w : Wd} {H : Hp} : ∀ {ds : List D} {vs : List V} (i : Nat), RpDs K w H ds vs → (∃ d v, ds[i]? = some d ∧ vs[i]? = some v ∧ RpD K w H d v) ∨ (ds[i]? = none ∧ vs[i]? = none)
  | _, _, _, .nil => .inr ⟨rfl, rfl⟩
  | _, _, 0, .cons r _ => .inl ⟨_, _, rfl, rfl, r⟩
  | _, _, i + 1, .cons _ t => by simpa using RpDs.get i t
theorem RpDs.pick {K : W.Frag} {w : Wd} {H : Hp} {ds : List D} {vs : List V} (r : RpDs K w H ds vs) : ∀ ix : List Nat, RpDs K w H (B.pick ix ds) (B.pick ix vs)
  | [] => .nil
  | i :: ix => by
    unfold B.pick
    rw [List.filterMap_cons, List.filterMap_cons]
    rcases r.get i with ⟨d, v, h1, h2, h3⟩ | ⟨h1, h2⟩
    · rw [h1, h2]; exact .cons h3 (RpDs.pick r ix)
    · rw [h1, h2]; exact RpDs.pick r ix
section
variable {X : Cx} {E : XK} {e : Expr} {es : List Expr} {tr tk : TA} {fr fk : Env → M (List D)} {pos p : Pos} {x : Str} {f : Addr} {fd : FuncData} {ps ks : List Str} {k n m N : Nat} {md : List D → M D} {kws : List Keyword} {ix : List Nat} {sp : Sp}
theorem goKw {pins : List (Addr × Obj)} {σ : St} {H : Hp} {s : Shared} {Q : VK} {us ws : List Value} {vs zs : List V} (F : FnG X.prog X.w X.K X.mg X.base k f fd ps sp) (hr : Room k X.A) (hG : X.A.guards = some []) (hb : KB fd ps ks n m ix) (hx : Passes (L2.CX X.prog X.w) X E)
    (I : Inv X pins σ H s) (r : Vals vs us) (rz : Vals zs ws) (hn : vs.length = n) (hm : zs.length = m) (h : sp (pick ix (vs ++ zs)) H Q E) : wpAny (model X.prog X.w) X.A (call (.ref f) us (ks.zip ws)) (EP X pins σ Q) X.xe s := by
  have rr := Vals.pick (r.append rz) ix
  refine wpAny_call (codeAny_mono (F.goes X.A X.stack s H ⟨us, ks.zip ws⟩ (pick ix (us ++ ws)) (pick ix (vs ++ zs)) Q E hr hG I.env0 (hb s us ws (r.length ▸ hn) (rz.length ▸ hm)) rr h) fun r s' hq => ?_)
  have q := CR.after hx I hq
  cases r with
  | error e => exact q
  | ok fl => cases fl with
    | ret u => exact q
    | next => exact False.elim q
    | brk => exact False.elim q
    | cont => exact False.elim q
def tCallKw (n m : Nat) (ix : List Nat) (sp : Sp) (E : XK) (t tk : TA) : TE := fun σ H Q => t σ H fun vs H1 => tk σ H1 fun zs H2 => vs.length = n ∧ zs.length = m ∧ sp (pick ix (vs ++ zs)) H2 Q E
theorem pg_callKw0 (F : FnG X.prog X.w X.K X.mg X.base k f fd ps sp) (hr : Room k X.A) (hG : X.A.guards = some []) (hg : Gl X x) (hm : X.mg x = some (.ref f)) (hk : PySem.W.keepIn X.K (.ref f) = true) (hb : KB fd ps ks 0 m ix) (hx : Passes (L2.CX X.prog X.w) X E)
    (hkw : PK X kws tk) (hall : (backToKw pos (keywordEach kws X.env)).all (·.1.isSome) = true) (hks : (backToKw pos (keywordEach kws X.env)).filterMap (·.1) = ks)
    (hdb : (x == ("__debug__" : Str)) = false) (hpl : ((backTo pos (starEach [] X.env)).any (·.1) || (backToKw pos (keywordEach kws X.env)).any (·.1.isNone)) = false) :
    PE X (.Call (.Name x p) [] kws pos) (tCallKw 0 m ix sp E tNil tk) :=
  ⟨fun pins s σ H Q I h => wpAny_Call_Name_kw (ld_glob I hg hm (PySem.W.callWith_KW0 (h₀ := X.base) I.ok.mod.kin hk hall (thn (hkw.run pos pins s σ H _ I h) fun ws s2 ⟨zs, H2, I2, rz, h1, h2, q2⟩ =>
    ⟨I2.kIn, by rw [hks]; exact goKw (us := []) F hr hG hb hx I2 .nil rz h1 h2 q2⟩) hpl) hdb)⟩
def callKw (ix : List Nat) (md : List D → M D) (fr fk : Env → M (List D)) : Env → M D := fun env => bd (fr env) fun ds => bd (fk env) fun es => md (pick ix (ds ++ es))
theorem rf_callKw {K : W.Frag} (hix : ∀ ds es : List D, ds.length = n → es.length = m → (pick ix (ds ++ es)).length = N) (hn : lenIs n fr) (hm : lenIs m fk) (ha : Rf K E (RA K) tr fr) (hk : Rf K E (RA K) tk fk) :
    Rf K E (RE K) (tCallKw n m ix (spOf K N md) E tr tk) (callKw ix md fr fk) := by
  intro w σ H env st Q s0 e0 hp
  unfold callKw at hp
  refine ha w σ H env st _ s0 e0 ?_
  cases hf : fr env st with
  | ok ds st' =>
    rw [bd_ok hf] at hp
    intro w1 H1 vs g1 s1 q1
    refine hk w1 σ H1 env st' _ s1 (e0.mono g1) ?_
    have hp := hp.mono g1
    cases hf2 : fk env st' with
    | ok es st2 =>
      rw [bd_ok hf2] at hp
      intro w2 H2 us g2 s2 q2
      have q := ((q1.mono g2).append q2).pick ix
      have h1 := hn _ _ _ _ hf
      have h2 := hm _ _ _ _ hf2
      exact ⟨by rw [← q1.length]; exact h1, by rw [← q2.length]; exact h2, by rw [← q.length]; exact hix ds es h1 h2, w2, st2, _, s2, q, hp.mono g2⟩
    | exc e st2 => rw [bd_exc hf2] at hp; exact hp
    | bad => rw [bd_bad hf2] at hp; exact hp
  | exc e st' => rw [bd_exc hf] at hp; exact hp
  | bad => rw [bd_bad hf] at hp; exact hp
theorem se_callKw0 {K : W.Frag} (F : FnG X.prog X.w X.K X.mg X.base k f fd ps (spOf K N md)) (hr : Room k X.A) (hG : X.A.guards = some []) (hmx : X.mg x = some (.ref f)) (hk : PySem.W.keepIn X.K (.ref f) = true) (hb : KB fd ps ks 0 m ix) (hx : Passes (L2.CX X.prog X.w) X E)
    (hkw : SK X E kws tk fk) (hm : lenIs m fk) (hix : ∀ ds es : List D, ds.length = 0 → es.length = m → (pick ix (ds ++ es)).length = N) (hK : X.K = K := by rfl) (hall : (backToKw pos (keywordEach kws X.env)).all (·.1.isSome) = true := by rfl) (hks : (backToKw pos (keywordEach kws X.env)).filterMap (·.1) = ks := by rfl)
    (hg : Gl X x := by rfl) (hdb : (x == ("__debug__" : Str)) = false := by decide) (hpl : ((backTo pos (starEach [] X.env)).any (·.1) || (backToKw pos (keywordEach kws X.env)).any (·.1.isNone)) = false := by rfl) :
    SE X E (.Call (.Name x p) [] kws pos) (tCallKw 0 m ix (spOf K N md) E tNil tk) (callKw ix md aNil fk) := by
  subst hK
  exact ⟨pg_callKw0 F hr hG hg hmx hk hb hx hkw.pk hall hks hdb hpl, rf_callKw hix lenIs_nil hm (sa_nil (X := X)).rf hkw.rf⟩
end
end B
namespace B
open PySem L2
variable [Nm] [Gd]
section
variable {K : W.Frag} {w w' : Wd} {H H' : Hp}
theorem TupAt.sb (g : Sb w H w' H') {a : Addr} {vs : List V} (h : TupAt K w H a vs) : TupAt K w' H' a vs := by
  rcases h with ⟨h | ⟨o, h⟩, n⟩ | h
  · exact .inl ⟨.inl (g _ _ (fun _ z => by cases z) n h).2, (g _ _ (fun _ z => by cases z) n h).1⟩
  · exact .inl ⟨.inr ⟨o, (g _ _ (fun _ z => by cases z) n h).2⟩, (g _ _ (fun _ z => by cases z) n h).1⟩
  · exact .inr h
theorem LsAt.sb (g : Sb w H w' H') {a : Addr} {vs : List V} (h : LsAt K w H a vs) : LsAt K w' H' a vs := let ⟨n, e⟩ := g _ _ (fun _ z => by cases z) h.2 h.1; ⟨e, n⟩
theorem FzAt.sb (g : Sb w H w' H') {a : Addr} {vs : List V} (h : FzAt K w H a vs) : FzAt K w' H' a vs := by
  rcases h with ⟨⟨o, h⟩, n⟩ | h
  · exact .inl ⟨⟨o, (g _ _ (fun _ z => by cases z) n h).2⟩, (g _ _ (fun _ z => by cases z) n h).1⟩
  · exact .inr h
mutual
theorem Rp.sb (g : Sb w H w' H') : ∀ {d : PyData} {v : V}, Rp K w H d v → Rp K w' H' d v
  | _, _, .non => .non
  | _, _, .bl b => .bl b
  | _, _, .int i => .int i
  | _, _, .str x => .str x
  | _, _, .tup h r => .tup (h.sb g) (Rps.sb g r)
  | _, _, .ls h r => .ls (h.sb g) (Rps.sb g r)
theorem Rps.sb (g : Sb w H w' H') : ∀ {ds : List PyData} {vs : List V}, Rps K w H ds vs → Rps K w' H' ds vs
  | _, _, .nil => .nil
  | _, _, .cons r s => .cons (Rp.sb g r) (Rps.sb g s)
end
theorem RpN.sb (g : Sb w H w' H') : ∀ {ds : List (NestedKey × PyData)} {xs : List (NestedKey × Addr × Value)}, RpN K w H ds xs → RpN K w' H' ds xs
  | _, _, .nil => .nil
  | _, _, .cons r d q v s => .cons (r.sb g) d (q.sb g) v (RpN.sb g s)
theorem DnAt.sb (g : Sb w H w' H') {a : Addr} {xs : List (NestedKey × Addr × Value)} (h : DnAt K w H a xs) : DnAt K w' H' a xs := let ⟨⟨od, e⟩, n⟩ := h; let ⟨n, e⟩ := g _ _ (fun _ z => by cases z) n e; ⟨⟨od, e⟩, n⟩
theorem DkAt.sb (g : Sb w H w' H') {a : Addr} {vs : List (Key × V)} (h : DkAt w H a vs) : DkAt w' H' a vs := let ⟨⟨od, e⟩, n⟩ := h; let ⟨n, e⟩ := g _ _ (fun _ z => by cases z) n e; ⟨⟨od, e⟩, n⟩
theorem RpK.sb (g : Sb w H w' H') {κ : Type} : ∀ {ds : List (κ × PyData)} {vs : List (κ × V)}, RpK K w H ds vs → RpK K w' H' ds vs
  | _, _, .nil => .nil
  | _, _, .cons r s => .cons (r.sb g) (RpK.sb g s)
end
def dOk (n : Nat) : D → Bool
  | .loc m => decide (m < n)
  | .pr _ _ => false
  | .tr _ _ _ => false
  | .clo _ _ => false
  | _ => true
def fOk (n : Nat) (fs : List (Str × D)) : Bool := fs.all fun p => dOk n p.2
def s1Ok (n : Nat) : S1 → Bool
  | .v _ => true
  | .l m => decide (m < n)
  | .p _ m => decide (m < n)
  | .dd _ => true
  | .dt _ _ _ => true
def oOk (n : Nat) : O → Bool
  | .ins _ fs => fOk n fs
  | .lr xs => xs.all (s1Ok n)
  | .dr kvs => kvs.all fun p => s1Ok n p.2
  | .dm kvs => kvs.all fun p => s1Ok n p.2
  | _ => true
def stOk (n : Nat) (st : Store) : Bool := st.all (oOk n)
def eOk (n : Nat) : Ex → Bool
  | .own _ fs => fOk n fs
theorem RpD.cut {K : W.Frag} {w w1 : Wd} {H : Hp} {n : Nat} {more : List Addr} (e : w1.rho = w.rho ++ more) (hn : w.rho.length = n) (g : Sb w1 H w H) {d : D} {v : V} (ok : dOk n d = true) (r : RpD K w1 H d v) : RpD K w H d v := by
  cases d with
  | val p => exact Rp.sb g r
  | loc m =>
    obtain ⟨a, ev, ha⟩ := r
    simp only [dOk, decide_eq_true_eq] at ok
    rw [e, List.getElem?_append_left (by omega)] at ha
    exact ⟨a, ev, ha⟩
  | cst u => exact r
  | err => exact r
  | fn _ => exact r
  | pr _ _ => simp [dOk] at ok
  | tr _ _ _ => simp [dOk] at ok
  | dv _ => obtain ⟨a, xs, e, h, r⟩ := r; exact ⟨a, xs, e, h.sb g, RpN.sb g r⟩
  | clo _ _ => simp [dOk] at ok
  | dkv _ => obtain ⟨a, xs, e, h, r⟩ := r; exact ⟨a, xs, e, h.sb g, RpK.sb g r⟩
  | frz xs => obtain ⟨a, vs, ev, fz, r⟩ := r; exact ⟨a, vs, ev, fz.sb g, Rps.sb g r⟩
theorem RpS.cut {K : W.Frag} {w w1 : Wd} {H : Hp} {n : Nat} {more : List Addr} (e : w1.rho = w.rho ++ more) (hn : w.rho.length = n) (g : Sb w1 H w H) {d : S1} {v : V} (ok : s1Ok n d = true) (r : RpS K w1 H d v) : RpS K w H d v := by
  cases d with
  | v p => exact Rp.sb g r
  | l m =>
    obtain ⟨a, ev, ha⟩ := r
    simp only [s1Ok, decide_eq_true_eq] at ok
    rw [e, List.getElem?_append_left (by omega)] at ha
    exact ⟨a, ev, ha⟩
  | p d m =>
    obtain ⟨q, u, b, ev, t, r, ha⟩ := r
    simp only [s1Ok, decide_eq_true_eq] at ok
    rw [e, List.getElem?_append_left (by omega)] at ha
    exact ⟨q, u, b, ev, t.sb g, Rp.sb g r, ha⟩
  | dd kvs => obtain ⟨a, xs, e, h, r⟩ := r; exact ⟨a, xs, e, h.sb g, RpN.sb g r⟩
  | dt x y kvs => obtain ⟨q, u, t, a, xs, e, ht, r1, r2, h, r⟩ := r; exact ⟨q, u, t, a, xs, e, ht.sb g, Rp.sb g r1, Rp.sb g r2, h.sb g, RpN.sb g r⟩
theorem RpSs.cut {K : W.Frag} {w w1 : Wd} {H : Hp} {n : Nat} {more : List Addr} (e : w1.rho = w.rho ++ more) (hn : w.rho.length = n) (g : Sb w1 H w H) : ∀ {ds : List S1} {vs : List V}, ds.all (s1Ok n) = true → RpSs K w1 H ds vs → RpSs K w H ds vs
  | _, _, _, .nil => .nil
  | _, _, ok, .cons r s => by
    simp only [List.all_cons, Bool.and_eq_true] at ok
    exact .cons (r.cut e hn g ok.1) (RpSs.cut e hn g ok.2 s)
theorem RpKS.cut {K : W.Frag} {w w1 : Wd} {H : Hp} {n : Nat} {more : List Addr} (e : w1.rho = w.rho ++ more) (hn : w.rho.length = n) (g : Sb w1 H w H) {κ : Type} : ∀ {ds : List (κ × S1)} {vs : List (κ × V)}, (ds.all fun p => s1Ok n p.2) = true → RpKS K w1 H ds vs → RpKS K w H ds vs
  | _, _, _, .nil => .nil
  | _, _, ok, .cons r s => by
    simp only [List.all_cons, Bool.and_eq_true] at ok
    exact .cons (r.cut e hn g ok.1) (RpKS.cut e hn g ok.2 s)
theorem RpM.cut {K : W.Frag} {w w1 : Wd} {H : Hp} {n : Nat} {more : List Addr} (e : w1.rho = w.rho ++ more) (hn : w.rho.length = n) (g : Sb w1 H w H) : ∀ {ds : List (NestedKey × S1)} {xs : List (NestedKey × Addr × Value)}, (ds.all fun p => s1Ok n p.2) = true → RpM K w1 H ds xs → RpM K w H ds xs
  | _, _, _, .nil => .nil
  | _, _, ok, .cons ek r d q v s => by
    simp only [List.all_cons, Bool.and_eq_true] at ok
    exact .cons ek (r.sb g) d (q.cut e hn g ok.1) v (RpM.cut e hn g ok.2 s)
theorem lookup_mem {fs : List (Str × D)} {x : Str} {d : D} (h : fs.lookup x = some d) : ∃ y, (y, d) ∈ fs := by
  induction fs with
  | nil => simp at h
  | cons p r ih =>
    obtain ⟨k, c⟩ := p
    rw [List.lookup_cons] at h
    split at h
    · cases h; exact ⟨k, List.mem_cons_self⟩
    · obtain ⟨y, hy⟩ := ih h
      exact ⟨y, List.mem_cons_of_mem _ hy⟩
theorem RpF.cut {K : W.Frag} {w w1 : Wd} {H : Hp} {n : Nat} {more : List Addr} (e : w1.rho = w.rho ++ more) (hn : w.rho.length = n) (g : Sb w1 H w H) {fs : List (Str × D)} {gs : List (Str × V)} (ok : fOk n fs = true) (r : RpF K w1 H fs gs) : RpF K w H fs gs := by
  refine ⟨r.1, fun x => ⟨fun d hd => ?_, (r.2 x).2⟩⟩
  obtain ⟨v, e1, r1⟩ := (r.2 x).1 d hd
  obtain ⟨y, hy⟩ := lookup_mem hd
  exact ⟨v, e1, r1.cut e hn g (List.all_eq_true.mp ok _ hy)⟩
theorem RelSt.cut {K : W.Frag} {w w1 : Wd} {H H1 : Hp} {st st1 : Store} (hs : RelSt K w H st) (g : Ge w H w1 H1) (s1 : RelSt K w1 H1 st1) (ok : stOk st.length (st1.take st.length) = true) :
    RelSt K w H1 (st1.take st.length) ∧ Ge w H w H1 ∧ Sb w1 H1 w H1 ∧ ∃ more, w1.rho = w.rho ++ more := by
  obtain ⟨more, e1, e2, hm⟩ := g.pre
  have sb : Sb w1 H1 w H1 := fun a o _ n h => ⟨fun q => n (by
    rw [Wd.bn, e1, e2]
    rcases List.mem_append.mp q with q | q
    · exact List.mem_append_left _ (List.mem_append_left _ q)
    · exact List.mem_append_right _ q), h⟩
  have hlen : st1.length = w.rho.length + more.length := by rw [s1.len, e1, List.length_append]
  refine ⟨⟨?_, hs.nd, fun a h => s1.trk a (by rw [e2]; exact h), hs.nde, fun n o a h1 h2 => ?_, s1.tab, Gd.sb sb s1.inv⟩, ⟨⟨[], by simp, rfl, fun _ h => by simp at h⟩, g.keep, g.there, g.fk⟩, sb, more, e1⟩
  · rw [List.length_take, hs.len]; omega
  · have hn : n < st.length := by rw [hs.len]; exact (List.getElem?_eq_some_iff.mp h2).1
    have h1' : st1[n]? = some o := by rw [List.getElem?_take] at h1; simpa [hn] using h1
    have ob := s1.obj n o a h1' (g.get h2)
    have oo : oOk st.length o = true := List.all_eq_true.mp ok o (List.mem_of_getElem? h1)
    cases o with
    | lst xs => obtain ⟨vs, e, r⟩ := ob; exact ⟨vs, e, r.sb sb⟩
    | dk xs => obtain ⟨vs, e, r⟩ := ob; exact ⟨vs, e, r.sb sb⟩
    | dt xs => obtain ⟨vs, e, r⟩ := ob; exact ⟨vs, e, r.sb sb⟩
    | ins C fs => obtain ⟨dx, vs, e, r⟩ := ob; exact ⟨dx, vs, e, r.cut e1 hs.len.symm sb oo⟩
    | lr xs => obtain ⟨vs, e, r⟩ := ob; exact ⟨vs, e, r.cut e1 hs.len.symm sb oo⟩
    | dr xs => obtain ⟨vs, e, r⟩ := ob; exact ⟨vs, e, r.cut e1 hs.len.symm sb oo⟩
    | dn xs => obtain ⟨vs, e, r⟩ := ob; exact ⟨vs, e, r.sb sb⟩
    | dm xs => obtain ⟨vs, e, r⟩ := ob; exact ⟨vs, e, r.cut e1 hs.len.symm sb oo⟩
    | dz xs => obtain ⟨vs, e, r⟩ := ob; exact ⟨vs, e, r.sb sb⟩
    | dkz xs => obtain ⟨vs, e, r⟩ := ob; exact ⟨vs, e, r.sb sb⟩
def s1Cut (n : Nat) (st1 : Store) : S1 → Option S1
  | .v p => some (.v p)
  | .l k => if k < n then some (.l k) else (match st1[k]? with
    | some (.lst xs) => some (.v (.list xs))
    | some (.dz kvs) => some (.dd kvs)
    | _ => none)
  | .p a k => if k < n then some (.p a k) else none
  | .dd kvs => some (.dd kvs)
  | .dt a b kvs => some (.dt a b kvs)
def fnT (n : Nat) (body : Env → M Fl) (ds : List D) : M D := fun st => match body (ds.map some ++ List.replicate (n - ds.length) none) st with
  | .ok f st1 => if stOk st.length (st1.take st.length) = true then (match f with
    | .rt (.loc k) => if k < st.length then .ok (.loc k) (st1.take st.length) else (match st1[k]? with
      | some (.lst xs) => .ok (.val (.list xs)) (st1.take st.length)
      | some (.dz kvs) => .ok (.dv kvs) (st1.take st.length)
      | some (.dkz kvs) => .ok (.dkv kvs) (st1.take st.length)
      | _ => .bad)
    | .rt (.pr x y) => (match s1Cut st.length st1 x, s1Cut st.length st1 y with
      | some x, some y => .ok (.pr x y) (st1.take st.length)
      | _, _ => .bad)
    | .rt (.tr x y z) => (match s1Cut st.length st1 x, s1Cut st.length st1 y, s1Cut st.length st1 z with
      | some x, some y, some z => .ok (.tr x y z) (st1.take st.length)
      | _, _, _ => .bad)
    | .rt (.clo _ _) => .bad
    | .rt d => .ok d (st1.take st.length)
    | .nx _ => .ok (.val .none) (st1.take st.length)
    | _ => .bad) else .bad
  | .exc e st1 => if stOk st.length (st1.take st.length) = true ∧ eOk st.length e = true then .exc e (st1.take st.length) else .bad
  | .bad => .bad
theorem s1Cut_rel {K : W.Frag} {w w1 : Wd} {H1 : Hp} {st st1 : Store} {more : List Addr} (hl : st.length = w.rho.length) (em : w1.rho = w.rho ++ more) (ee : w1.ext = w.ext) (sb : Sb w1 H1 w H1) (s1 : RelSt K w1 H1 st1) {x y : S1} {v : V} (r : RpS K w1 H1 x v) (e : s1Cut st.length st1 x = some y) : RpS K w H1 y v := by
  cases x with
  | v p => cases e; exact Rp.sb sb r
  | dd kvs => cases e; obtain ⟨a, xs, e, h, r⟩ := r; exact ⟨a, xs, e, h.sb sb, RpN.sb sb r⟩
  | dt a b kvs => cases e; obtain ⟨q, u, t, a, xs, e, ht, r1, r2, h, r⟩ := r; exact ⟨q, u, t, a, xs, e, ht.sb sb, Rp.sb sb r1, Rp.sb sb r2, h.sb sb, RpN.sb sb r⟩
  | p a k =>
    simp only [s1Cut] at e
    split at e
    · rename_i hk
      cases e
      exact RpS.cut em hl.symm sb (by simp [s1Ok, hk]) r
    · cases e
  | l k =>
    simp only [s1Cut] at e
    split at e
    · rename_i hk
      cases e
      exact RpS.cut em hl.symm sb (by simp [s1Ok, hk]) r
    · rename_i hk
      obtain ⟨a, ev, ha⟩ := r
      have nin : a ∉ w.bn := by
        intro z
        rcases List.mem_append.mp z with z | z
        · have hd := s1.nd
          have ha' := ha
          rw [em] at hd ha'
          rw [List.getElem?_append_right (by rw [← hl]; omega)] at ha'
          exact (List.nodup_append.mp hd).2.2 a z a (List.mem_of_getElem? ha') rfl
        · exact s1.nde a (List.mem_of_getElem? ha) (by rw [ee]; exact z)
      split at e
      · rename_i xs hx
        cases e
        obtain ⟨us, hu, ru⟩ := s1.obj k _ a hx ha
        subst ev
        exact .ls ⟨hu, nin⟩ (ru.sb sb)
      · rename_i kvs hx
        cases e
        obtain ⟨us, hu, ru⟩ := s1.obj k _ a hx ha
        exact ⟨a, us, ev, ⟨hu, nin⟩, RpN.sb sb ru⟩
      · cases e
section
variable {P : Program} {w : World} {K : W.Frag} {mg : Str → Option Value} {base : Heap}
theorem doesT {x qual : Str} {st : Stmt} {f : Addr} {fd : FuncData} {N ps : List Str} {k : Nat} {body : Env → M Fl} (F : Fun K x qual st f fd) (S : FnScope N ps (defScope st))
    (h : ∀ (A : Around) (out : List PySem.Env) (s : Shared) (H : Hp) (E : XK), Room k (A.deeper (PyProof.Rows.envOfC qual (defScope st) s.heap.objs.size f fd.code)) → A.guards = some [] → ∃ t, SSs (cxOf (L2.CX P w) P w K mg base N qual (defScope st) f fd.code A out s H E) E (defBody st) t body) :
    FnG P w K mg base (k + 1) f fd ps (spOf K ps.length (fnT N.length body)) := by
  obtain ⟨oc, od, kV, doc, pm, an, cdv, ct, osl, rfl, lk, hcd⟩ := F.ex
  refine fnG_of lk hcd S (fun vs H Q E h => h.1) fun A out s H vs Q E hr hG hsp => ?_
  obtain ⟨t, d⟩ := h A out s H E hr hG
  obtain ⟨_, w, st0, ds, hs, r, hp⟩ := hsp
  refine ⟨t, d.ps, d.rf w _ H _ st0 _ hs (RelEnv.start r) ?_⟩
  unfold fnT at hp
  cases hf : body (ds.map some ++ List.replicate (N.length - ds.length) none) st0 with
  | ok r st' =>
    rw [hf] at hp
    simp only at hp
    split at hp
    · rename_i ok
      cases r with
      | nx env =>
        intro w' H' σ' g s1 _
        obtain ⟨s2, g2, sb, more, em⟩ := hs.cut g s1 ok
        exact hp w H' _ g2 s2 .non
      | rt d =>
        intro w' H' v g s1 q
        obtain ⟨s2, g2, sb, more, em⟩ := hs.cut g s1 ok
        cases d with
        | val p => exact hp w H' _ g2 s2 (Rp.sb sb q)
        | cst u => exact hp w H' _ g2 s2 q
        | err => exact hp w H' _ g2 s2 q
        | fn _ => exact hp w H' _ g2 s2 q
        | dv _ => obtain ⟨a, xs, e, h, r⟩ := q; exact hp w H' _ g2 s2 ⟨a, xs, e, h.sb sb, RpN.sb sb r⟩
        | clo _ _ => exact hp.elim
        | dkv _ => obtain ⟨a, xs, e, h, r⟩ := q; exact hp w H' _ g2 s2 ⟨a, xs, e, h.sb sb, RpK.sb sb r⟩
        | pr x y =>
          simp only at hp
          split at hp
          · rename_i e1 e2
            obtain ⟨a, u, t, ev, ht, r1, r2⟩ := q
            obtain ⟨_, _, ee, _⟩ := g.pre
            exact hp w H' _ g2 s2 ⟨a, u, t, ev, ht.sb sb, s1Cut_rel hs.len em ee sb s1 r1 e1, s1Cut_rel hs.len em ee sb s1 r2 e2⟩
          · exact hp.elim
        | tr x y z =>
          simp only at hp
          split at hp
          · rename_i e1 e2 e3
            obtain ⟨a, u, t, s, ev, ht, r1, r2, r3⟩ := q
            obtain ⟨_, _, ee, _⟩ := g.pre
            exact hp w H' _ g2 s2 ⟨a, u, t, s, ev, ht.sb sb, s1Cut_rel hs.len em ee sb s1 r1 e1, s1Cut_rel hs.len em ee sb s1 r2 e2, s1Cut_rel hs.len em ee sb s1 r3 e3⟩
          · exact hp.elim
        | frz u => obtain ⟨a, vs, ev, fz, r⟩ := q; exact hp w H' _ g2 s2 ⟨a, vs, ev, fz.sb sb, Rps.sb sb r⟩
        | loc n =>
          simp only at hp
          split at hp
          · rename_i hn
            exact hp w H' _ g2 s2 (RpD.cut em hs.len.symm sb (by simp [dOk, hn]) q)
          · rename_i hn
            split at hp
            · rename_i xs hx
              obtain ⟨a, ev, ha, us, hu, ru⟩ := s1.at hx q
              subst ev
              refine hp w H' _ g2 s2 (.ls ⟨hu, fun z => ?_⟩ (ru.sb sb))
              rcases List.mem_append.mp z with z | z
              · have hd := s1.nd
                rw [em] at hd ha
                rw [List.getElem?_append_right (by rw [← hs.len]; omega)] at ha
                exact (List.nodup_append.mp hd).2.2 a z a (List.mem_of_getElem? ha) rfl
              · obtain ⟨_, _, e2, _⟩ := g.pre
                exact s1.nde a (List.mem_of_getElem? ha) (by rw [e2]; exact z)
            · rename_i kvs hx
              obtain ⟨a, ev, ha⟩ := q
              obtain ⟨_, _, ee, _⟩ := g.pre
              have rc : RpS K w H' (.dd kvs) v := s1Cut_rel hs.len em ee sb s1 (x := .l n) ⟨a, ev, ha⟩ (by simp only [s1Cut, if_neg hn, hx])
              exact hp w H' _ g2 s2 rc
            · rename_i kvs hx
              obtain ⟨a, ev, ha, us, ⟨od, hu⟩, ru⟩ := s1.at hx q
              refine hp w H' _ g2 s2 ⟨a, us, ev, ⟨⟨od, hu⟩, fun z => ?_⟩, ru.sb sb⟩
              rcases List.mem_append.mp z with z | z
              · have hd := s1.nd
                rw [em] at hd ha
                rw [List.getElem?_append_right (by rw [← hs.len]; omega)] at ha
                exact (List.nodup_append.mp hd).2.2 a z a (List.mem_of_getElem? ha) rfl
              · obtain ⟨_, _, e2, _⟩ := g.pre
                exact s1.nde a (List.mem_of_getElem? ha) (by rw [e2]; exact z)
            · exact hp.elim
      | bk env => exact hp.elim
      | ct env => exact hp.elim
    · exact hp.elim
  | exc e st' =>
    rw [hf] at hp
    simp only at hp
    split at hp
    · rename_i ok
      intro w' H' c dx g s1 q
      obtain ⟨s2, g2, sb, more, em⟩ := hs.cut g s1 ok.1
      refine hp w H' c dx g2 s2 ?_
      cases e with
      | own C fs =>
        obtain ⟨ec, d, gs, ed, hd, nd, rf⟩ := q
        exact ⟨ec, d, gs, ed, hd, (sb d _ (fun _ z => by cases z) nd hd).1, rf.cut em hs.len.symm sb ok.2⟩
    · exact hp.elim
  | bad => rw [hf] at hp; exact hp.elim
end
end B
namespace B
open PySem L2
variable [Nm] [Gd]
abbrev ltF : D → D → M D := cmpF fun i j => decide (i < j)
abbrev gtF : D → D → M D := cmpF fun i j => decide (j < i)
abbrev geF : D → D → M D := cmpF fun i j => decide (j ≤ i)
theorem unitsOf {k : Nat} {A : Around} (hr : Room k A) : A.units + 150 < cLine := by have := hr.un; omega
theorem un {n c j : Nat} (h : n + 150 < c) (hj : j ≤ 150 := by decide) : n + j < c := by omega
theorem binds1 {K : W.Frag} {x qual y : Str} {st : Stmt} {f : Addr} {fd : FuncData} (F : Fun K x qual st f fd) (s : Shared) (u : Value)
    (h : ∀ (kV doc pm : Value) (an : Option Addr) (cdv ct u : Value), bindArgs (PySem.W.fnOf x qual (defArgs st) (defBody st) (defScope st) .none kV doc pm an cdv ct) ⟨[u], []⟩ = pure [(y, u)] := by intros; rfl) : BindsTo s fd ⟨[u], []⟩ [(y, u)] := by
  obtain ⟨oc, od, kV, doc, pm, an, cdv, ct, osl, rfl, lk, hcd⟩ := F.ex
  exact .of_eq (h kV doc pm an cdv ct u)
def setsN : List Nat → List D → Env → Option Env
  | [], [], env => some env
  | i :: is, d :: ds, env => setsN is ds (env.set i (some d))
  | _, _, _ => none
def parN (is : List Nat) (fr : Env → M (List D)) : Env → M Fl := fun env => bd (fr env) fun ds => match setsN is ds env with
  | some env' => rt (.nx env')
  | none => bad
section
variable {X : Cx} {E : XK} {a b c : Expr} {es ts : List Expr} {tr : TA} {fr : Env → M (List D)} {pos : Pos}
theorem ss_par2 {i j : Nat} {x y : Str} {px py pt : Pos} {kt k2 pt2} (hN : X.N.Nodup) (hij : i ≠ j) (ha : SA X E [a, b] tr fr) (hc : X.calm = true := by rfl) (hi : X.N[i]? = some x := by rfl) (hj : X.N[j]? = some y := by rfl)
    (hx : X.env.scope.names.lookup x = some .local := by rfl) (hy : X.env.scope.names.lookup y = some .local := by rfl) (hw : swappedStores [.Tuple [.Name x px, .Name y py] kt pt] (.Tuple [a, b] k2 pt2) X.env = pure (some [x, y]) := by rfl)
    (hs : swapsWithSole [.Tuple [.Name x px, .Name y py] kt pt] (.Tuple [a, b] k2 pt2) pos.line X.env = pure false := by rfl) :
    SS X E (.Assign [.Tuple [.Name x px, .Name y py] kt pt] (.Tuple [a, b] k2 pt2) pos) (tPar i j tr) (parN [i, j] fr) := by
  refine ⟨ps_par hc hN hi hj hij hx hy ha.pa hw hs, fun w σ H env st Z s0 e0 hp => ?_⟩
  refine ha.rf.stepS s0 e0 hp fun r1 H1 st1 ds vs g1 s1 e1 q1 hp => ?_
  cases q1 with
  | nil => exact hp.elim
  | cons q1 q2 => cases q2 with
    | nil => exact hp.elim
    | cons q2 q3 => cases q3 with
      | nil => exact ⟨_, _, rfl, hp.nxc s1 ((e1.set i q1).set j q2)⟩
      | cons _ _ => exact hp.elim
structure SN (X : Cx) (ts : List Expr) (is : List Nat) (t : TGs) : Prop where
  pg : PGs X ts t
  go : ∀ (vs : List V) (σ : St) (H : Hp) (Q : St → Hp → Prop), vs.length = is.length → Q ((is.zip vs).foldl (fun s p => s.set p.1 (some p.2)) σ) H → t vs σ H Q
theorem sn_nil : SN X [] [] gNil := ⟨pgs_nil, fun vs σ H Q hl q => by
  cases vs with
  | nil => exact ⟨rfl, q⟩
  | cons _ _ => simp at hl⟩
theorem sn_cons {i : Nat} {x : Str} {is : List Nat} {t : TGs} (hN : X.N.Nodup) (h : SN X ts is t) (hi : X.N[i]? = some x := by rfl) (hx : Loc X.env.scope x := by first | exact Or.inl rfl | exact Or.inr rfl) (hf : X.fn x = true ∨ X.env.scope.names.lookup x = some .local := by first | exact .inl rfl | exact .inr rfl)
    (hs : (assignEach (.Name x pos :: ts) X.env).map (·.2) = assign (.Name x pos) X.env :: (assignEach ts X.env).map (·.2) := by rfl) : SN X (.Name x pos :: ts) (i :: is) (gCons (gName i) t) :=
  ⟨pgs_cons (pg_name hN hi hx hf) h.pg hs, fun vs σ H Q hl q => by
    cases vs with
    | nil => simp at hl
    | cons v vs => exact ⟨v, vs, rfl, h.go vs _ H Q (by simpa using hl) q⟩⟩
theorem RelEnv.sets {K : W.Frag} {w : Wd} {H : Hp} : ∀ {is : List Nat} {ds : List D} {vs : List V} {env env' : Env} {σ : St}, RelEnv K w H env σ → RpDs K w H ds vs → setsN is ds env = some env' → vs.length = is.length ∧ RelEnv K w H env' ((is.zip vs).foldl (fun s p => s.set p.1 (some p.2)) σ)
  | [], _, _, env, env', _, he, .nil, e => by
    have : env' = env := by simpa [setsN] using e.symm
    subst this; exact ⟨rfl, he⟩
  | i :: is, _, _, _, _, _, he, .cons r t, e => by
    obtain ⟨h1, h2⟩ := RelEnv.sets (he.set i r) t (by simpa [setsN] using e)
    exact ⟨by simp [h1], h2⟩
  | [], _, _, _, _, _, _, .cons _ _, e => by simp [setsN] at e
  | _ :: _, _, _, _, _, _, _, .nil, e => by simp [setsN] at e
theorem ss_parG {is : List Nat} {t : TGs} {k k2 n : Nat} {p1 p2 : Pos} (ha : SA X E es tr fr) (hg : SN X ts is t) (hn : is.length = n := by rfl) (hc : X.calm = true := by rfl) (hz : n ≤ sizeLine := by decide) (hln : (assignEach ts X.env).length = n := by rfl) (hst : (assignEach ts X.env).findIdx? (·.1) = none := by rfl)
    (hs : swapsWithSole [.Tuple ts k p1] (.Tuple es k2 p2) pos.line X.env = pure false := by rfl) (hw : swappedStores [.Tuple ts k p1] (.Tuple es k2 p2) X.env = pure none := by rfl)
    (h1 : (assignEach [.Tuple ts k p1] X.env).map (·.2) = [assign (.Tuple ts k p1) X.env] := by rfl) :
    SS X E (.Assign [.Tuple ts k p1] (.Tuple es k2 p2) pos) (tAsg (tTup tr) (gTup X.K n t)) (parN is fr) := by
  refine ⟨ps_asg (pe_tup ha.pa) (pg_tup hc hg.pg hln hst) hs hw h1, fun w σ H env st Z s0 e0 hp => ?_⟩
  refine ha.rf.stepS s0 e0 hp fun r1 H1 st1 ds vs g1 s1 e1 q1 hp => ?_
  cases hq : setsN is ds env with
  | none => simp only [hq] at hp; exact hp.elim
  | some env' =>
    simp only [hq] at hp
    obtain ⟨hl, he⟩ := e1.sets q1 hq
    refine ⟨by rw [hl, hn]; exact hz, fun p np => ⟨p, vs, rfl, SqT.of upd_same, hl.trans hn, ?_⟩⟩
    have g2 : Ge r1 H1 r1 (upd H1 p (.tup vs)) := .new np
    exact hg.go vs σ _ _ hl (hp r1 _ _ g2 (s1.new np) (he.mono g2))
end
end B
namespace B
open PySem L2

def wpD {α : Type} (X : Ex → Store → Prop) (r : Res α) (Q : α → Store → Prop) : Prop := match r with
  | .ok a st => Q a st
  | .exc e st => X e st
  | .bad => False
structure wpx {α : Type} (X : Ex → Store → Prop) (r : Res α) (Q : α → Store → Prop) : Prop where
  get : wpD X r Q
def noE : Ex → Store → Prop := fun _ _ => False
theorem wp_D {α : Type} {X : Ex → Store → Prop} {r : Res α} {Q : α → Store → Prop} : wpx X r Q = wpD X r Q := propext ⟨fun h => h.get, fun h => ⟨h⟩⟩

section
variable {α β : Type} {st : Store} {Q : α → Store → Prop} {X : Ex → Store → Prop}
@[simp] theorem wp_ok {a : α} : wpx X (.ok a st) Q = Q a st := wp_D
@[simp] theorem wp_bad : wpx X (.bad : Res α) Q = False := wp_D
@[simp] theorem wp_exc {e : Ex} : wpx X (.exc e st : Res α) Q = X e st := wp_D
@[simp] theorem noE_at {e : Ex} : noE e st = False := propext Iff.rfl
@[simp] theorem wp_rt {a : α} : wpx X (rt a st) Q = Q a st := wp_D
@[simp] theorem wp_badM : wpx X ((bad : M α) st) Q = False := wp_D
@[simp] theorem wp_noX {m : M α} : wpx X (noX m st) Q = wpx noE (m st) Q := by
  simp only [noX]; cases m st <;> simp
@[simp] theorem wp_iteBad {c : Prop} [Decidable c] {r : Res α} : wpx X (if c then r else .bad) Q = (c ∧ wpx X r Q) := by
  by_cases h : c <;> simp [h]
@[simp] theorem wp_iteM {c : Prop} [Decidable c] {m m' : M α} : wpx X ((if c then m else m') st) Q = if c then wpx X (m st) Q else wpx X (m' st) Q := by split <;> rfl
@[simp] theorem wp_iteBadM {c : Prop} [Decidable c] {m : M α} : wpx X ((if c then m else bad) st) Q = (c ∧ wpx X (m st) Q) := by
  by_cases h : c <;> simp [h]
theorem wp_mono {r : Res α} {Q Q' : α → Store → Prop} (h : wpx X r Q) (i : ∀ a s, Q a s → Q' a s) : wpx X r Q' := by
  cases r <;> first | exact ⟨i _ _ h.get⟩ | exact ⟨h.get⟩ | exact h.get.elim
theorem wp_iff {r : Res α} : wpx noE r Q ↔ ∃ a s, r = .ok a s ∧ Q a s := by
  cases r with
  | ok a s => exact ⟨fun h => ⟨a, s, rfl, h.get⟩, fun ⟨_, _, e, h⟩ => by cases e; exact ⟨h⟩⟩
  | exc e s => exact ⟨fun h => h.get.elim, fun ⟨_, _, e, _⟩ => nomatch e⟩
  | bad => exact ⟨fun h => h.get.elim, fun ⟨_, _, e, _⟩ => nomatch e⟩
end

def kM {α β : Type} (X : Ex → Store → Prop) (k : α → M β) (Q : β → Store → Prop) : α → Store → Prop := fun a s => wpx X (k a s) Q
@[simp] theorem kM_at {α β : Type} {X : Ex → Store → Prop} {k : α → M β} {Q : β → Store → Prop} {a : α} {s : Store} : kM X k Q a s = wpx X (k a s) Q := propext Iff.rfl
@[simp] theorem wp_bd {α β : Type} {X : Ex → Store → Prop} {st : Store} {Q : α → Store → Prop} {m : M β} {k : β → M α} : wpx X (bd m k st) Q = wpx X (m st) (kM X k Q) := by
  simp only [bd]; cases m st <;> simp
section
variable {env : Env} {st : Store} {X : Ex → Store → Prop}
@[simp] theorem e_gv {i : Nat} {Q : D → Store → Prop} : wpx X (gv i env st) Q = (match env[i]? with | some (some d) => Q d st | _ => False) := by
  simp only [gv]; rcases env[i]? with _ | _ | d <;> first | rfl | exact wp_D
@[simp] theorem e_cD {d : D} {Q : D → Store → Prop} : wpx X (cD d env st) Q = Q d st := by first | exact propext Iff.rfl | exact wp_D | exact wp_D.trans wp_D.symm
@[simp] theorem e_aNil {Q : List D → Store → Prop} : wpx X (aNil env st) Q = Q [] st := by first | exact propext Iff.rfl | exact wp_D | exact wp_D.trans wp_D.symm
@[simp] theorem e_aCons {f : Env → M D} {g : Env → M (List D)} {Q : List D → Store → Prop} : wpx X (aCons f g env st) Q = wpx X (bd (f env) (fun x => bd (g env) fun xs => rt (x :: xs)) st) Q := by first | exact propext Iff.rfl | exact wp_D | exact wp_D.trans wp_D.symm
@[simp] theorem e_op2 {g : D → D → M D} {f f1 : Env → M D} {Q : D → Store → Prop} : wpx X (op2 g f f1 env st) Q = wpx X (bd (f env) (fun x => bd (f1 env) fun y => g x y) st) Q := by first | exact propext Iff.rfl | exact wp_D | exact wp_D.trans wp_D.symm
@[simp] theorem e_callF {m : List D → M D} {f : Env → M (List D)} {Q : D → Store → Prop} : wpx X (callF m f env st) Q = wpx X (bd (f env) m st) Q := by first | exact propext Iff.rfl | exact wp_D | exact wp_D.trans wp_D.symm
@[simp] theorem e_callFF {m : List D → M (List PyData)} {f : Env → M (List D)} {Q : List PyData → Store → Prop} : wpx X (callFF m f env st) Q = wpx X (bd (f env) m st) Q := by first | exact propext Iff.rfl | exact wp_D | exact wp_D.trans wp_D.symm
@[simp] theorem e_callKw {ix : List Nat} {m : List D → M D} {f g : Env → M (List D)} {Q : D → Store → Prop} : wpx X (callKw ix m f g env st) Q = wpx X (bd (f env) (fun x => bd (g env) fun y => m (pick ix (x ++ y))) st) Q := by first | exact propext Iff.rfl | exact wp_D | exact wp_D.trans wp_D.symm
@[simp] theorem e_asVal {f : Env → M (List PyData)} {Q : D → Store → Prop} : wpx X (asVal f env st) Q = wpx X (bd (f env) (fun xs => rt (.val (.list xs))) st) Q := by first | exact propext Iff.rfl | exact wp_D | exact wp_D.trans wp_D.symm
@[simp] theorem e_asObj {f : Env → M (List PyData)} {Q : D → Store → Prop} : wpx X (asObj f env st) Q = wpx X (bd (f env) newL st) Q := by first | exact propext Iff.rfl | exact wp_D | exact wp_D.trans wp_D.symm
@[simp] theorem e_tupE {f : Env → M (List D)} {Q : D → Store → Prop} : wpx X (tupE f env st) Q = wpx X (bd (f env) tupD st) Q := by first | exact propext Iff.rfl | exact wp_D | exact wp_D.trans wp_D.symm
@[simp] theorem e_lstE {f : Env → M (List D)} {Q : List PyData → Store → Prop} : wpx X (lstE f env st) Q = wpx X (bd (f env) lstD st) Q := by first | exact propext Iff.rfl | exact wp_D | exact wp_D.trans wp_D.symm
@[simp] theorem e_tst {f : Env → M D} {Q : Bool → Store → Prop} : wpx X (tst f env st) Q = wpx X (bd (f env) boolOf st) Q := by first | exact propext Iff.rfl | exact wp_D | exact wp_D.trans wp_D.symm
@[simp] theorem e_truT {f : Env → M D} {Q : Bool → Store → Prop} : wpx X (truT f env st) Q = wpx X (bd (f env) tru st) Q := by first | exact propext Iff.rfl | exact wp_D | exact wp_D.trans wp_D.symm
@[simp] theorem e_andT {f g : Env → M Bool} {Q : Bool → Store → Prop} : wpx X (andT f g env st) Q = wpx X (bd (f env) (fun b => if b = true then g env else rt false) st) Q := by first | exact propext Iff.rfl | exact wp_D | exact wp_D.trans wp_D.symm
@[simp] theorem e_orT {f g : Env → M Bool} {Q : Bool → Store → Prop} : wpx X (orT f g env st) Q = wpx X (bd (f env) (fun b => if b = true then rt true else g env) st) Q := by first | exact propext Iff.rfl | exact wp_D | exact wp_D.trans wp_D.symm
@[simp] theorem e_notT {f : Env → M Bool} {Q : Bool → Store → Prop} : wpx X (notT f env st) Q = wpx X (bd (f env) (fun b => rt (!b)) st) Q := by first | exact propext Iff.rfl | exact wp_D | exact wp_D.trans wp_D.symm
@[simp] theorem e_ifV {f : Env → M Bool} {g h : Env → M D} {Q : D → Store → Prop} : wpx X (ifV f g h env st) Q = wpx X (bd (f env) (fun b => if b = true then g env else h env) st) Q := by first | exact propext Iff.rfl | exact wp_D | exact wp_D.trans wp_D.symm
@[simp] theorem e_negE {f : Env → M D} {Q : D → Store → Prop} : wpx X (negE f env st) Q = wpx X (bd (f env) negF st) Q := by first | exact propext Iff.rfl | exact wp_D | exact wp_D.trans wp_D.symm
@[simp] theorem e_seqS {f g : Env → M Fl} {Q : Fl → Store → Prop} : wpx X (seqS f g env st) Q = wpx X (bd (f env) (fun r => match r with | .nx e => g e | r => rt r) st) Q := by first | exact propext Iff.rfl | exact wp_D | exact wp_D.trans wp_D.symm
@[simp] theorem e_killS {is : List Nat} {f : Env → M Fl} {Q : Fl → Store → Prop} : wpx X (killS is f env st) Q = wpx X (bd (f env) (fun r => match r with | .nx e => rt (.nx (kill is e)) | r => rt r) st) Q := by first | exact propext Iff.rfl | exact wp_D | exact wp_D.trans wp_D.symm
@[simp] theorem e_dropS {f : Env → M D} {Q : Fl → Store → Prop} : wpx X (dropS f env st) Q = wpx X (bd (f env) (fun _ => rt (.nx env)) st) Q := by first | exact propext Iff.rfl | exact wp_D | exact wp_D.trans wp_D.symm
@[simp] theorem e_retS {f : Env → M D} {Q : Fl → Store → Prop} : wpx X (retS f env st) Q = wpx X (bd (f env) (fun d => rt (.rt d)) st) Q := by first | exact propext Iff.rfl | exact wp_D | exact wp_D.trans wp_D.symm
@[simp] theorem e_ifS {t : Env → M Bool} {f g : Env → M Fl} {Q : Fl → Store → Prop} : wpx X (ifS t f g env st) Q = wpx X (bd (t env) (fun b => if b = true then f env else g env) st) Q := by first | exact propext Iff.rfl | exact wp_D | exact wp_D.trans wp_D.symm
@[simp] theorem e_asgS {f : Env → M D} {g : D → Env → M Env} {Q : Fl → Store → Prop} : wpx X (asgS f g env st) Q = wpx X (bd (f env) (fun d => bd (g d env) fun e => rt (.nx e)) st) Q := by first | exact propext Iff.rfl | exact wp_D | exact wp_D.trans wp_D.symm
@[simp] theorem e_parN {is : List Nat} {f : Env → M (List D)} {Q : Fl → Store → Prop} : wpx X (parN is f env st) Q = wpx X (bd (f env) (fun ds => match setsN is ds env with | some e => rt (.nx e) | none => bad) st) Q := by first | exact propext Iff.rfl | exact wp_D | exact wp_D.trans wp_D.symm
@[simp] theorem e_anyI {f : Env → M D} {Q : Src → Store → Prop} : wpx X (anyI f env st) Q = wpx X (bd (f env) srcOf st) Q := by first | exact propext Iff.rfl | exact wp_D | exact wp_D.trans wp_D.symm
@[simp] theorem e_rngI {f : Env → M (List D)} {Q : Src → Store → Prop} : wpx X (rngI f env st) Q = wpx X (bd (f env) rangeSrc st) Q := by first | exact propext Iff.rfl | exact wp_D | exact wp_D.trans wp_D.symm
@[simp] theorem e_rng2I {f : Env → M (List D)} {Q : Src → Store → Prop} : wpx X (rng2I f env st) Q = wpx X (bd (f env) range2Src st) Q := by first | exact propext Iff.rfl | exact wp_D | exact wp_D.trans wp_D.symm
@[simp] theorem e_oSome {f : Env → M D} {Q : Option Int → Store → Prop} : wpx X (oSome f env st) Q = wpx X (bd (f env) partF st) Q := by first | exact propext Iff.rfl | exact wp_D | exact wp_D.trans wp_D.symm
@[simp] theorem e_slF {f : Env → M D} {fl fh : Env → M (Option Int)} {Q : D → Store → Prop} : wpx X (slF f fl fh env st) Q = wpx X (bd (f env) (fun x => bd (fl env) fun l => bd (fh env) fun h => sliceF l h x) st) Q := by first | exact propext Iff.rfl | exact wp_D | exact wp_D.trans wp_D.symm
@[simp] theorem e_slFz {f : Env → M D} {fl fh : Env → M (Option Int)} {Q : List PyData → Store → Prop} : wpx X (slFz f fl fh env st) Q = wpx X (bd (f env) (fun x => bd (fl env) fun l => bd (fh env) fun h => match x with | .frz xs => rt (cutP xs l h) | _ => bad) st) Q := by first | exact propext Iff.rfl | exact wp_D | exact wp_D.trans wp_D.symm
@[simp] theorem e_methL {g : D → List D → M D} {fo : Env → M D} {fr : Env → M (List D)} {Q : D → Store → Prop} : wpx X (methL g fo fr env st) Q = wpx X (bd (fo env) (fun x => bd (isL x) fun _ => bd (fr env) fun ds => g x ds) st) Q := by first | exact propext Iff.rfl | exact wp_D | exact wp_D.trans wp_D.symm
@[simp] theorem e_rgE {f : Env → M D} {Q : List PyData → Store → Prop} : wpx X (rgE f env st) Q = wpx X (bd (f env) rgF st) Q := by first | exact propext Iff.rfl | exact wp_D | exact wp_D.trans wp_D.symm
@[simp] theorem e_revE {f : Env → M D} {Q : List PyData → Store → Prop} : wpx X (revE f env st) Q = wpx X (bd (f env) revF st) Q := by first | exact propext Iff.rfl | exact wp_D | exact wp_D.trans wp_D.symm
@[simp] theorem e_dispE {f : Env → M (List (D × D))} {Q : D → Store → Prop} : wpx X (dispE f env st) Q = wpx X (bd (noX (f env)) newDk st) Q := by first | exact propext Iff.rfl | exact wp_D | exact wp_D.trans wp_D.symm
@[simp] theorem e_pCons {fk fv : Env → M D} {f : Env → M (List (D × D))} {Q : List (D × D) → Store → Prop} : wpx X (pCons fk fv f env st) Q = wpx X (bd (fk env) (fun a => bd (fv env) fun b => bd (f env) fun r => rt ((a, b) :: r)) st) Q := by first | exact propext Iff.rfl | exact wp_D | exact wp_D.trans wp_D.symm
@[simp] theorem e_newL {xs : List PyData} {Q : D → Store → Prop} : wpx X (newL xs st) Q = Q (.loc st.length) (st ++ [.lst xs]) := by first | exact propext Iff.rfl | exact wp_D | exact wp_D.trans wp_D.symm
@[simp] theorem e_boolOf {b : Bool} {Q : Bool → Store → Prop} : wpx X (boolOf (.val (.bool b)) st) Q = Q b st := by first | exact propext Iff.rfl | exact wp_D | exact wp_D.trans wp_D.symm
@[simp] theorem e_yesT {Q : Bool → Store → Prop} : wpx X (yesT env st) Q = Q true st := by first | exact propext Iff.rfl | exact wp_D | exact wp_D.trans wp_D.symm
@[simp] theorem e_nxS {Q : Fl → Store → Prop} : wpx X (nxS env st) Q = Q (.nx env) st := by first | exact propext Iff.rfl | exact wp_D | exact wp_D.trans wp_D.symm
@[simp] theorem e_ctS {Q : Fl → Store → Prop} : wpx X (ctS env st) Q = Q (.ct env) st := by first | exact propext Iff.rfl | exact wp_D | exact wp_D.trans wp_D.symm
@[simp] theorem e_setV {i : Nat} {d : D} {Q : Env → Store → Prop} : wpx X (setV i d env st) Q = Q (env.set i (some d)) st := by first | exact propext Iff.rfl | exact wp_D | exact wp_D.trans wp_D.symm
@[simp] theorem e_setsNil {Q : Env → Store → Prop} : wpx X (setsNil [] env st) Q = Q env st := by first | exact propext Iff.rfl | exact wp_D | exact wp_D.trans wp_D.symm
@[simp] theorem e_setsCons {f : D → Env → M Env} {g : List PyData → Env → M Env} {d : PyData} {r : List PyData} {Q : Env → Store → Prop} : wpx X (setsCons f g (d :: r) env st) Q = wpx X (bd (f (.val d) env) (fun e => g r e) st) Q := by first | exact propext Iff.rfl | exact wp_D | exact wp_D.trans wp_D.symm
@[simp] theorem e_setT {n : Nat} {g : List PyData → Env → M Env} {ps : List PyData} {Q : Env → Store → Prop} : wpx X (setT n g (.val (.tuple ps)) env st) Q = (ps.length = n ∧ wpx X (g ps env st) Q) := by
  simp only [setT]; by_cases h : ps.length = n <;> simp [h]
@[simp] theorem e_fnOf {n : Nat} {b : Env → M Fl} {ds : List D} {Q : D → Store → Prop} : wpx X (fnOf n b ds st) Q = wpx X (bd (b (ds.map some ++ List.replicate (n - ds.length) none)) (fun f => match f with | .rt d => rt d | .nx _ => rt (.val .none) | _ => bad) st) Q := by first | exact propext Iff.rfl | exact wp_D | exact wp_D.trans wp_D.symm
def outT (n : Nat) (st1 : Store) (Q : D → Store → Prop) : D → Prop
  | .loc k => if k < n then Q (.loc k) (st1.take n) else (match st1[k]? with | some (.lst xs) => Q (.val (.list xs)) (st1.take n) | some (.dz kvs) => Q (.dv kvs) (st1.take n) | some (.dkz kvs) => Q (.dkv kvs) (st1.take n) | _ => False)
  | .pr x y => (match s1Cut n st1 x, s1Cut n st1 y with | some x, some y => Q (.pr x y) (st1.take n) | _, _ => False)
  | .tr x y z => (match s1Cut n st1 x, s1Cut n st1 y, s1Cut n st1 z with | some x, some y, some z => Q (.tr x y z) (st1.take n) | _, _, _ => False)
  | .clo _ _ => False
  | d => Q d (st1.take n)
@[simp] theorem outT_val {n : Nat} {s : Store} {Q : D → Store → Prop} {p : PyData} : outT n s Q (.val p) = Q (.val p) (s.take n) := by first | exact propext Iff.rfl | exact wp_D | exact wp_D.trans wp_D.symm
@[simp] theorem outT_loc {n k : Nat} {s : Store} {Q : D → Store → Prop} : outT n s Q (.loc k) = if k < n then Q (.loc k) (s.take n) else (match s[k]? with | some (.lst xs) => Q (.val (.list xs)) (s.take n) | some (.dz kvs) => Q (.dv kvs) (s.take n) | some (.dkz kvs) => Q (.dkv kvs) (s.take n) | _ => False) := by first | exact propext Iff.rfl | exact wp_D | exact wp_D.trans wp_D.symm
def kT (n : Nat) (Q : D → Store → Prop) : Fl → Store → Prop := fun f s => stOk n (s.take n) = true ∧ match f with | .rt d => outT n s Q d | .nx _ => Q (.val .none) (s.take n) | _ => False
@[simp] theorem kT_rt {n : Nat} {Q : D → Store → Prop} {d : D} {s : Store} : kT n Q (.rt d) s = (stOk n (s.take n) = true ∧ outT n s Q d) := by first | exact propext Iff.rfl | exact wp_D | exact wp_D.trans wp_D.symm
def xT (n : Nat) (X : Ex → Store → Prop) : Ex → Store → Prop := fun e s => (stOk n (s.take n) = true ∧ eOk n e = true) ∧ X e (s.take n)
@[simp] theorem xT_no {n : Nat} : xT n noE = noE := by
  funext e s; simp [xT, noE]
@[simp] theorem e_fnT {n : Nat} {b : Env → M Fl} {ds : List D} {Q : D → Store → Prop} : wpx X (fnT n b ds st) Q = wpx (xT st.length X) (b (ds.map some ++ List.replicate (n - ds.length) none) st) (kT st.length Q) := by
  simp only [fnT]
  cases b (ds.map some ++ List.replicate (n - ds.length) none) st with
  | ok f s =>
    simp only [wp_ok, kT]
    by_cases h : stOk st.length (s.take st.length) = true
    · simp only [h, if_pos, true_and]
      cases f with
      | rt d =>
        cases d with
        | loc k =>
          simp only [outT]
          by_cases hk : k < st.length
          · simp only [hk, if_pos]; exact wp_D
          · simp only [hk, if_false]
            cases s[k]? with
            | none => exact wp_D
            | some o => cases o <;> exact wp_D
        | pr x y =>
          simp only [outT]
          cases s1Cut st.length s x with
          | none => exact wp_D
          | some _ => cases s1Cut st.length s y <;> exact wp_D
        | tr x y z =>
          simp only [outT]
          cases s1Cut st.length s x with
          | none => exact wp_D
          | some _ => cases s1Cut st.length s y with
            | none => exact wp_D
            | some _ => cases s1Cut st.length s z <;> exact wp_D
        | _ => exact wp_D
      | _ => exact wp_D
    · simp [h]
  | exc e s =>
    simp only [wp_exc, xT]
    by_cases h : stOk st.length (s.take st.length) = true ∧ eOk st.length e = true
    · simp [h]
    · simp [h]
  | bad => simp
def kL (J : Env → Store → Prop) (Q : Fl → Store → Prop) : Fl → Store → Prop := fun f s => match f with | .nx e => J e s | .ct e => J e s | .bk e => Q (.nx e) s | .rt d => Q (.rt d) s
@[simp] theorem kL_nx {J : Env → Store → Prop} {Q : Fl → Store → Prop} {e : Env} {s : Store} : kL J Q (.nx e) s = J e s := by first | exact propext Iff.rfl | exact wp_D | exact wp_D.trans wp_D.symm
@[simp] theorem kL_ct {J : Env → Store → Prop} {Q : Fl → Store → Prop} {e : Env} {s : Store} : kL J Q (.ct e) s = J e s := by first | exact propext Iff.rfl | exact wp_D | exact wp_D.trans wp_D.symm
@[simp] theorem kL_bk {J : Env → Store → Prop} {Q : Fl → Store → Prop} {e : Env} {s : Store} : kL J Q (.bk e) s = Q (.nx e) s := by first | exact propext Iff.rfl | exact wp_D | exact wp_D.trans wp_D.symm
@[simp] theorem kL_rt {J : Env → Store → Prop} {Q : Fl → Store → Prop} {d : D} {s : Store} : kL J Q (.rt d) s = Q (.rt d) s := by first | exact propext Iff.rfl | exact wp_D | exact wp_D.trans wp_D.symm
theorem wp_forF {body : PyData → Env → M Fl} {Q : Fl → Store → Prop} (I : Nat → Env → Store → Prop) : ∀ (xs : List PyData) (env : Env) (st : Store), I 0 env st →
    (∀ i x env st, xs[i]? = some x → I i env st → wpx X (body x env st) (kL (I (i + 1)) Q)) →
    (∀ env st, I xs.length env st → Q (.nx env) st) → wpx X (forF body xs env st) Q := by
  intro xs
  induction xs generalizing I with
  | nil => intro env st h0 _ hd; exact ⟨hd env st h0⟩
  | cons x r ih =>
    intro env st h0 hs hd
    simp only [forF, wp_bd]
    refine wp_mono (hs 0 x env st rfl h0) fun f s hf => ?_
    cases f with
    | nx e => exact ih (fun i => I (i + 1)) e s hf (fun i y env st hy => hs (i + 1) y env st (by simpa using hy)) fun env st h => hd env st h
    | ct e => exact ih (fun i => I (i + 1)) e s hf (fun i y env st hy => hs (i + 1) y env st (by simpa using hy)) fun env st h => hd env st h
    | bk e => exact ⟨hf⟩
    | rt d => exact ⟨hf⟩
@[simp] theorem e_forS {m : Nat} {fi : Env → M Src} {g : D → Env → M Env} {fb : Env → M Fl} {Q : Fl → Store → Prop} : wpx X (forS m fi g fb env st) Q = wpx X (bd (fi env) (fun s => match s with
    | .fix xs => forF (fun x env => bd (g (.val x) env) fb) xs env
    | .obj n => forO (fun x env => bd (g (.val x) env) fb) n m 0 env) st) Q := by first | exact propext Iff.rfl | exact wp_D | exact wp_D.trans wp_D.symm
theorem wp_lcF {g : D → Env → M Env} {inner : Env → List PyData → M (List PyData)} {env : Env} (I : Nat → List PyData → Store → Prop) : ∀ (xs acc : List PyData) (st : Store), I 0 acc st →
    (∀ i x acc st, xs[i]? = some x → I i acc st → wpx noE (g (.val x) env st) fun e s => wpx noE (inner e acc s) fun acc' s' => I (i + 1) acc' s') → wpx noE (lcF g inner env xs acc st) (I xs.length) := by
  intro xs
  induction xs generalizing I with
  | nil => intro acc st h _; exact ⟨h⟩
  | cons x r ih =>
    intro acc st h hs
    simp only [lcF, wp_bd, wp_noX]
    refine wp_mono (hs 0 x acc st rfl h) fun e s hf => ?_
    show wpx noE (bd (inner e acc) (fun acc' => lcF g inner env r acc') s) _
    rw [wp_bd]
    refine wp_mono hf fun acc' s' h' => ?_
    exact ih (fun i => I (i + 1)) acc' s' h' fun i y a t hy => hs (i + 1) y a t (by simpa using hy)
@[simp] theorem e_lcIn {ft : Env → M Bool} {fe : Env → M D} {acc : List PyData} {Q : List PyData → Store → Prop} : wpx noE (lcIn ft fe env acc st) Q = wpx noE (bd (ft env) (fun b => if b = true then bd (fe env) (fun d => match d with
    | .val y => if acc.length < sizeLine then rt (acc ++ [y]) else bad
    | _ => bad) else rt acc) st) Q := by
  simp only [lcIn, wp_bd, wp_noX]
  refine congrArg (wpx noE _) (funext fun b => funext fun s => ?_)
  cases b
  · rfl
  · simp only [kM, if_pos, wp_bd, wp_noX]; try rfl
@[simp] theorem e_lcS {m : Nat} {own : List Nat} {fi : Env → M Src} {g : D → Env → M Env} {ft : Env → M Bool} {fe : Env → M D} {Q : List PyData → Store → Prop} : wpx X (lcS m own fi g ft fe env st) Q = wpx X (bd (fi env) (fun src => match src with
    | .fix xs => noX (lcF g (lcIn ft fe) (kill own env) xs [])
    | .obj n => noX (lcO g (lcIn ft fe) n (kill own env) m 0 [])) st) Q := by
  simp only [lcS, wp_bd, lcL]
  refine congrArg (wpx X _) (funext fun r => funext fun s => ?_)
  cases r <;> simp only [kM, wp_noX]
@[simp] theorem e_srcT {xs : List PyData} {Q : Src → Store → Prop} : wpx X (srcOf (.val (.tuple xs)) st) Q = Q (.fix xs) st := by first | exact propext Iff.rfl | exact wp_D | exact wp_D.trans wp_D.symm
@[simp] theorem e_srcL {xs : List PyData} {Q : Src → Store → Prop} : wpx X (srcOf (.val (.list xs)) st) Q = Q (.fix xs) st := by first | exact propext Iff.rfl | exact wp_D | exact wp_D.trans wp_D.symm
theorem e_srcO {n : Nat} {Q : Src → Store → Prop} : wpx X (srcOf (.loc n) st) Q = (match st[n]? with | some (.lst _) => Q (.obj n) st | _ => False) := by
  simp only [srcOf]; cases st[n]? with
  | none => first | rfl | exact wp_D
  | some o => cases o <;> first | rfl | exact wp_D

def rgOk (j : Int) : Prop := -(2 ^ 62) ≤ j ∧ j < 2 ^ 62
theorem rgOk.of {j : Int} (h0 : -1000 ≤ j) (h1 : j ≤ 16777216) : rgOk j := ⟨Int.le_trans (by decide) h0, Int.lt_of_le_of_lt h1 (by decide)⟩
@[simp] theorem e_rangeSrc {j : Int} {Q : Src → Store → Prop} : wpx X (rangeSrc [.val (.int j)] st) Q = (rgOk j ∧ Q (.fix ((List.range j.toNat).map fun (i : Nat) => PyData.int (0 + i))) st) := by
  simp only [rangeSrc, wp_iteBad, wp_ok, rgOk]
@[simp] theorem e_range2Src {i j : Int} {Q : Src → Store → Prop} : wpx X (range2Src [.val (.int i), .val (.int j)] st) Q = ((rgOk i ∧ rgOk j) ∧ Q (.fix ((List.range (j - i).toNat).map fun (k : Nat) => PyData.int (i + k))) st) := by
  simp only [range2Src, wp_iteBad, wp_ok, rgOk, and_assoc]
@[simp] theorem e_oNone {Q : Option Int → Store → Prop} : wpx X (oNone env st) Q = Q none st := by first | exact propext Iff.rfl | exact wp_D | exact wp_D.trans wp_D.symm

@[simp] theorem e_partF {i : Int} {Q : Option Int → Store → Prop} : wpx X (partF (.val (.int i)) st) Q = Q (some i) st := by first | exact propext Iff.rfl | exact wp_D | exact wp_D.trans wp_D.symm



@[simp] theorem e_isL {n : Nat} {Q : Unit → Store → Prop} : wpx X (isL (.loc n) st) Q = (match st[n]? with | some (.lst _) => Q () st | _ => False) := by
  simp only [isL, dat]; cases st[n]? with
  | none => first | rfl | exact wp_D
  | some o => cases o <;> first | rfl | exact wp_D
@[simp] theorem e_appF {n : Nat} {y : PyData} {Q : D → Store → Prop} : wpx X (appF (.loc n) [.val y] st) Q = (match st[n]? with | some (.lst xs) => xs.length < sizeLine ∧ Q (.val .none) (st.set n (.lst (xs ++ [y]))) | _ => False) := by
  simp only [appF]; cases st[n]? with
  | none => first | rfl | exact wp_D
  | some o => cases o <;> simp
@[simp] theorem e_rgF {n : Int} {Q : List PyData → Store → Prop} : wpx X (rgF (.val (.int n)) st) Q = (rgB n = true ∧ Q (rgP 0 n) st) := by simp only [rgF, wp_iteBad, wp_ok]

@[simp] theorem e_obT {f : Env → M (List PyData)} : obV true f = asObj f := rfl
@[simp] theorem e_obF {f : Env → M (List PyData)} : obV false f = asVal f := rfl

@[simp] theorem e_pNil {Q : List (D × D) → Store → Prop} : wpx X (pNil env st) Q = Q [] st := by first | exact propext Iff.rfl | exact wp_D | exact wp_D.trans wp_D.symm

@[simp] theorem e_dputS {fd fi fv : Env → M D} {Q : Fl → Store → Prop} : wpx X (dputS fd fi fv env st) Q = wpx X (bd (fv env) (fun v => bd (fd env) fun x => bd (fi env) fun y => fun st => match x, v with
    | .loc n, .val d => (match st[n]?, keyOf st y with
      | some (.dk kvs), some k => if kvs.length < sizeLine then .ok (.nx env) (st.set n (.dk (putP kvs k d))) else .bad
      | _, _ => .bad)
    | _, _ => .bad) st) Q := by first | exact propext Iff.rfl | exact wp_D | exact wp_D.trans wp_D.symm
end
section
variable {st : Store} {Q : D → Store → Prop} {X : Ex → Store → Prop}
@[simp] theorem datV {p : PyData} : dat st (.val p) = some p := rfl
@[simp] theorem f_addI {i j : Int} : wpx X (addF (.val (.int i)) (.val (.int j)) st) Q = Q (.val (.int (i + j))) st := by first | exact propext Iff.rfl | exact wp_D | exact wp_D.trans wp_D.symm
@[simp] theorem f_addL {i j : List PyData} : wpx X (addF (.val (.list i)) (.val (.list j)) st) Q = (i.length + j.length ≤ sizeLine ∧ Q (.val (.list (i ++ j))) st) := by simp only [addF, datV, wp_iteBad, wp_ok]
@[simp] theorem f_sub {i j : Int} : wpx X (subF (.val (.int i)) (.val (.int j)) st) Q = Q (.val (.int (i - j))) st := by first | exact propext Iff.rfl | exact wp_D | exact wp_D.trans wp_D.symm
@[simp] theorem f_mulI {i j : Int} : wpx X (mulF (.val (.int i)) (.val (.int j)) st) Q = (((-(2 ^ 64) < i ∧ i < 2 ^ 64) ∨ (-(2 ^ 64) < j ∧ j < 2 ^ 64)) ∧ Q (.val (.int (i * j))) st) := by simp only [mulF, datV, wp_iteBad, wp_ok]
@[simp] theorem f_mod {i j : Int} : wpx X (modF (.val (.int i)) (.val (.int j)) st) Q = (0 < j ∧ Q (.val (.int (i % j))) st) := by simp only [modF, datV, wp_iteBad, wp_ok]
@[simp] theorem f_fdiv {i j : Int} : wpx X (fdivF (.val (.int i)) (.val (.int j)) st) Q = ((0 < j ∧ j < 1073741824) ∧ Q (.val (.int (i / j))) st) := by simp only [fdivF, datV, wp_iteBad, wp_ok]
@[simp] theorem f_pow {i j : Int} : wpx X (powF (.val (.int i)) (.val (.int j)) st) Q = ((0 ≤ j ∧ j ≤ 1000000 ∧ i.natAbs < 2 ^ 64) ∧ Q (.val (.int (i ^ j.toNat))) st) := by simp only [powF, datV, wp_iteBad, wp_ok]
@[simp] theorem f_neg {i : Int} : wpx X (negF (.val (.int i)) st) Q = Q (.val (.int (-i))) st := by first | exact propext Iff.rfl | exact wp_D | exact wp_D.trans wp_D.symm
@[simp] theorem f_cmp {c : Int → Int → Bool} {i j : Int} : wpx X (cmpF c (.val (.int i)) (.val (.int j)) st) Q = Q (.val (.bool (c i j))) st := by first | exact propext Iff.rfl | exact wp_D | exact wp_D.trans wp_D.symm
@[simp] theorem f_eq {d e : PyData} : wpx X (eqF (.val d) (.val e) st) Q = (min d.depth e.depth ≤ 64 ∧ Q (.val (.bool (PyData.eqv d e))) st) := by simp only [eqF, datV, wp_iteBad, wp_ok]
@[simp] theorem f_ne {d e : PyData} : wpx X (neF (.val d) (.val e) st) Q = (min d.depth e.depth ≤ 64 ∧ Q (.val (.bool (!PyData.eqv d e))) st) := by simp only [neF, datV, wp_iteBad, wp_ok]
@[simp] theorem f_inT {n : Bool} {d : PyData} {xs : List PyData} : wpx X (inF n (.val d) (.val (.tuple xs)) st) Q = (min (PyData.depthAll xs) d.depth ≤ 64 ∧ Q (.val (.bool (n != inAny d xs))) st) := by simp only [inF, datV, wp_iteBad, wp_ok]
@[simp] theorem f_ixL {xs : List PyData} {i : Int} : wpx X (ixF (.val (.list xs)) (.val (.int i)) st) Q = (match atI xs i with | some v => Q (.val v) st | none => False) := by
  simp only [ixF, datV]; cases atI xs i <;> first | rfl | exact wp_D
@[simp] theorem f_ixT {xs : List PyData} {i : Int} : wpx X (ixF (.val (.tuple xs)) (.val (.int i)) st) Q = (match atI xs i with | some v => Q (.val v) st | none => False) := by
  simp only [ixF, datV]; cases atI xs i <;> first | rfl | exact wp_D
@[simp] theorem f_slT {xs : List PyData} {lo hi : Option Int} : wpx X (sliceF lo hi (.val (.tuple xs)) st) Q = Q (.val (.tuple (cutP xs lo hi))) st := by first | exact propext Iff.rfl | exact wp_D | exact wp_D.trans wp_D.symm
@[simp] theorem f_lenL {xs : List PyData} : wpx X (lenF [.val (.list xs)] st) Q = Q (.val (.int xs.length)) st := by first | exact propext Iff.rfl | exact wp_D | exact wp_D.trans wp_D.symm
@[simp] theorem f_lenT {xs : List PyData} : wpx X (lenF [.val (.tuple xs)] st) Q = Q (.val (.int xs.length)) st := by first | exact propext Iff.rfl | exact wp_D | exact wp_D.trans wp_D.symm
@[simp] theorem f_tupL {xs : List PyData} : wpx X (tupleF [.val (.list xs)] st) Q = Q (.val (.tuple xs)) st := by first | exact propext Iff.rfl | exact wp_D | exact wp_D.trans wp_D.symm
@[simp] theorem f_lstL {xs : List PyData} {Q : List PyData → Store → Prop} : wpx X (listF [.val (.list xs)] st) Q = Q xs st := by first | exact propext Iff.rfl | exact wp_D | exact wp_D.trans wp_D.symm
@[simp] theorem f_lstT {xs : List PyData} {Q : List PyData → Store → Prop} : wpx X (listF [.val (.tuple xs)] st) Q = Q xs st := by first | exact propext Iff.rfl | exact wp_D | exact wp_D.trans wp_D.symm
@[simp] theorem f_revL {xs : List PyData} {Q : List PyData → Store → Prop} : wpx X (revF (.val (.list xs)) st) Q = Q xs.reverse st := by first | exact propext Iff.rfl | exact wp_D | exact wp_D.trans wp_D.symm
@[simp] theorem f_isi {d : PyData} {T : String} : wpx X (isiF [.val d, .cst (.ty T)] st) Q = (match kitB (tyName d) T with | some b => Q (.val (.bool b)) st | none => False) := by
  simp only [isiF, datV]; cases kitB (tyName d) T <;> first | rfl | exact wp_D
@[simp] theorem f_sort {xs : List PyData} {Q : List PyData → Store → Prop} : wpx X (sortF [.val (.list xs)] st) Q = (sortOk xs = true ∧ Q (sortP xs) st) := by simp only [sortF, datV, wp_iteBad, wp_ok]
@[simp] theorem f_repr {p : PyData} : wpx X (reprF [.val p] st) Q = ((p.showable = true ∧ p.shown.length ≤ sizeLine ∧ p.depth ≤ 64) ∧ Q (.val (.str p.shown)) st) := by simp only [reprF, datV, wp_iteBad, wp_ok]
@[simp] theorem f_tupD {ds : List D} : wpx X (tupD ds st) Q = (match vals ds with | some ps => ps.length ≤ sizeLine ∧ Q (.val (.tuple ps)) st | none => False) := by
  simp only [tupD]; cases vals ds with
  | none => first | rfl | exact wp_D
  | some ps => simp only [wp_iteM, wp_rt, wp_badM]; by_cases h : ps.length ≤ sizeLine <;> simp [h]
@[simp] theorem f_lstD {ds : List D} {Q : List PyData → Store → Prop} : wpx X (lstD ds st) Q = (match vals ds with | some ps => ps.length ≤ sizeLine ∧ Q ps st | none => False) := by
  simp only [lstD]; cases vals ds with
  | none => first | rfl | exact wp_D
  | some ps => simp only [wp_iteM, wp_rt, wp_badM]; by_cases h : ps.length ≤ sizeLine <;> simp [h]
@[simp] theorem vals_nil : vals [] = some [] := rfl
@[simp] theorem vals_cons {p : PyData} {r : List D} : vals (.val p :: r) = (vals r).map (p :: ·) := rfl
@[simp] theorem strsOf_nil : strsOf [] = some [] := rfl
@[simp] theorem strsOf_cons {x : Str} {r : List PyData} : strsOf (.str x :: r) = (strsOf r).map (x :: ·) := rfl
@[simp] theorem f_truB {b : Bool} {Q : Bool → Store → Prop} : wpx X (tru (.val (.bool b)) st) Q = Q b st := by first | exact propext Iff.rfl | exact wp_D | exact wp_D.trans wp_D.symm
@[simp] theorem kill_nil {env : Env} : kill [] env = env := rfl
@[simp] theorem kill_cons {i : Nat} {is : List Nat} {env : Env} : kill (i :: is) env = kill is (env.set i none) := rfl
@[simp] theorem setsN_nil {env : Env} : setsN [] [] env = some env := rfl
@[simp] theorem setsN_cons {i : Nat} {is : List Nat} {d : D} {ds : List D} {env : Env} : setsN (i :: is) (d :: ds) env = setsN is ds (env.set i (some d)) := rfl
end
end B
namespace B
open PySem L2

@[simp] theorem ofString_inj {a b : String} : (Str.ofString a = Str.ofString b) = (a = b) := by
  refine propext ⟨fun h => ?_, fun h => by rw [h]⟩
  have h1 := congrArg TL.tl h
  rw [TL.tl_ofString, TL.tl_ofString] at h1
  have h2 : a.toList = b.toList := (List.map_inj_right fun x y hxy => Char.toNat_inj.mp hxy).mp h1
  exact String.toList_inj.mp h2
@[simp] theorem dget_feed {X : Ex → Store → Prop} {n : Nat} {k : Str} {st : Store} {Q : D → Store → Prop} : wpx X (dgetF (.loc n) (.val (.str k)) st) Q = (match st[n]? with | some (.dk kvs) => (match getP kvs (.inr k) with | some d => Q (.val d) st | none => False) | _ => False) := by
  simp only [dgetF, keyOf, datV]
  cases st[n]? with
  | none => first | rfl | exact wp_D
  | some o => cases o with
    | dk kvs => simp only []; cases getP kvs (.inr k) <;> first | rfl | exact wp_D
    | _ => first | rfl | exact wp_D
@[simp] theorem getP_nil {k : Key} : getP ([] : List (Key × PyData)) k = none := rfl
@[simp] theorem getP_cons {k k' : Key} {d : PyData} {r : List (Key × PyData)} : getP ((k', d) :: r) k = if k' = k then some d else getP r k := by
  simp only [getP, List.find?_cons]
  by_cases h : k' = k <;> simp [h]
@[simp] theorem keyOf_str {st : Store} {x : Str} : keyOf st (.val (.str x)) = some (.inr x) := rfl
@[simp] theorem keyOf_int {st : Store} {i : Int} : keyOf st (.val (.int i)) = some (.inl i) := rfl

def Sm (m : Nat) (x : Str) : Prop := x.length ≤ m ∧ ∀ c ∈ x.cps.toList, c < 1114112
theorem Sm.mono {m n : Nat} {x : Str} (h : Sm m x) (hm : m ≤ n) : Sm n x := ⟨Nat.le_trans h.1 hm, h.2⟩
theorem Sm.lit {m : Nat} {x : Str} (h : (decide (x.length ≤ m) && x.cps.toList.all fun c => decide (c < 1114112)) = true) : Sm m x := by
  rw [Bool.and_eq_true, List.all_eq_true] at h
  exact ⟨of_decide_eq_true h.1, fun c hc => of_decide_eq_true (h.2 c hc)⟩
theorem log2_of_lt {n k : Nat} (hk : 0 < k) (h : n < 2 ^ k) : n.log2 < k := by
  by_cases h0 : n = 0
  · subst h0; exact hk
  · exact (Nat.log2_lt h0).mpr h
theorem Sm.int {i : Int} {k : Nat} (hk : 0 < k) (h : i.natAbs < 2 ^ k) : Sm (k + 1) ((toString i : String) : Str) := by
  refine ⟨?_, fun c hc => ?_⟩
  · rw [show (((toString i : String) : Str)).length = (toString i).length from ofString_length _]
    exact int_text_length_le hk (log2_of_lt hk h)
  · by_cases hlt : c < 1114112
    · exact hlt
    · exact absurd hc (PyProof.Rows.int_text_free' c ⟨by omega, by omega⟩ i)
theorem Sm.sum {m : Nat} : ∀ {ys : List Str}, (∀ y ∈ ys, Sm m y) → (ys.map (·.length)).sum ≤ ys.length * m
  | [], _ => by simp
  | y :: r, h => by
    have h1 := Sm.sum (ys := r) fun z hz => h z (List.mem_cons_of_mem _ hz)
    have h2 := (h y (List.mem_cons_self ..)).1
    simp only [List.map_cons, List.sum_cons, List.length_cons, Nat.succ_mul]
    omega
structure Sz (n k : Nat) (p : PyData) : Prop where
  sh : p.showable = true
  len : p.shown.length ≤ n
  dp : p.depth ≤ k
theorem Sz.mono {n k n' k' : Nat} {p : PyData} (h : Sz n k p) (hn : n ≤ n') (hk : k ≤ k') : Sz n' k' p := ⟨h.sh, Nat.le_trans h.len hn, Nat.le_trans h.dp hk⟩
theorem Sz.fits {n k : Nat} {p : PyData} (h : Sz n k p) (hn : n ≤ 16777216) (hk : k ≤ 64) : p.showable = true ∧ p.shown.length ≤ sizeLine ∧ p.depth ≤ 64 := ⟨h.sh, by rw [sizeLine_eq]; exact Nat.le_trans h.len hn, Nat.le_trans h.dp hk⟩
theorem Sz.int {i : Int} {k : Nat} (hk : 0 < k) (hk2 : k ≤ 1920) (h : i.natAbs < 2 ^ k) : Sz (k + 1) 0 (.int i) := by
  refine ⟨?_, ?_, Nat.le_refl _⟩
  · simp only [PyData.showable, decide_eq_true_eq]
    exact Nat.lt_of_lt_of_le (log2_of_lt hk h) hk2
  · rw [PyData.shown_int]; exact (Sm.int hk h).1
theorem Sz.str {x : Str} {m : Nat} (h : Sm m x) : Sz (10 * m + 2) 0 (.str x) := by
  refine ⟨rfl, ?_, Nat.le_refl _⟩
  rw [PyData.shown_str]
  have h1 := StrLaws.reprText_len x (fun c hc => Nat.lt_trans (h.2 c hc) (by decide))
  have h2 := h.1
  omega
theorem Sz.all {n k : Nat} : ∀ {xs : List PyData}, (∀ x ∈ xs, Sz n k x) → PyData.showableAll xs = true ∧ ((PyData.shownAll xs).map (·.length)).sum ≤ xs.length * n ∧ PyData.depthAll xs ≤ k
  | [], _ => ⟨rfl, by simp [PyData.shownAll], Nat.zero_le _⟩
  | x :: r, h => by
    obtain ⟨h1, h2, h3⟩ := Sz.all (xs := r) fun z hz => h z (List.mem_cons_of_mem _ hz)
    have hx := h x (List.mem_cons_self ..)
    refine ⟨by simp only [PyData.showableAll, hx.sh, h1, Bool.and_self], ?_, ?_⟩
    · simp only [PyData.shownAll, List.map_cons, List.sum_cons, List.length_cons, Nat.succ_mul]
      have := hx.len
      omega
    · simp only [PyData.depthAll]
      exact Nat.max_le.mpr ⟨hx.dp, h3⟩
theorem Sz.tuple {n k m : Nat} {xs : List PyData} (h : ∀ x ∈ xs, Sz n k x) (hm : xs.length ≤ m) : Sz (m * (n + 2) + 3) (k + 1) (.tuple xs) := by
  obtain ⟨h1, h2, h3⟩ := Sz.all h
  refine ⟨by simp only [PyData.showable, h1], ?_, by simp only [PyData.depth]; omega⟩
  simp only [PyData.shown]
  have h4 := PySem.tupleText_len_le (PyData.shownAll xs)
  rw [PyData.shownAll_length] at h4
  have h5 : xs.length * (n + 2) ≤ m * (n + 2) := Nat.mul_le_mul_right _ hm
  rw [Nat.mul_add] at h5
  omega
theorem Sz.list {n k m : Nat} {xs : List PyData} (h : ∀ x ∈ xs, Sz n k x) (hm : xs.length ≤ m) : Sz (m * (n + 2) + 3) (k + 1) (.list xs) := by
  obtain ⟨h1, h2, h3⟩ := Sz.all h
  refine ⟨by simp only [PyData.showable, h1], ?_, by simp only [PyData.depth]; omega⟩
  simp only [PyData.shown]
  have h4 := PySem.listText_len_le (PyData.shownAll xs)
  rw [PyData.shownAll_length] at h4
  have h5 : xs.length * (n + 2) ≤ m * (n + 2) := Nat.mul_le_mul_right _ hm
  rw [Nat.mul_add] at h5
  omega

def plO : O → Bool
  | .ins _ _ => false
  | .lr _ => false
  | .dr _ => false
  | .dm _ => false
  | _ => true
def Pl (st : Store) : Prop := ∀ o ∈ st, plO o = true
theorem Pl.ok {st : Store} (h : Pl st) (n : Nat) : stOk n st = true := by
  refine List.all_eq_true.mpr fun o ho => ?_
  have := h o ho
  cases o with
  | lst _ => rfl
  | dk _ => rfl
  | dt _ => rfl
  | dn _ => rfl
  | dz _ => rfl
  | dkz _ => rfl

  | _ => cases this
theorem Pl.take {st : Store} (h : Pl st) (n : Nat) : Pl (st.take n) := fun o ho => h o (List.mem_of_mem_take ho)
theorem Pl.nil : Pl [] := fun _ h => nomatch h
theorem Pl.lst {st : Store} (h : Pl st) (xs : List PyData) : Pl (st ++ [.lst xs]) := fun o ho => by
  rcases List.mem_append.mp ho with ho | ho
  · exact h o ho
  · rw [List.mem_singleton.mp ho]; rfl
theorem Pl.cons_dk {st : Store} (h : Pl st) (kvs : List (Key × PyData)) : Pl (.dk kvs :: st) := fun o ho => by
  rcases List.mem_cons.mp ho with rfl | ho
  · rfl
  · exact h o ho
theorem lc_map {g : D → Env → M Env} {ft : Env → M Bool} {fe : Env → M D} {env : Env} {Q : List PyData → Store → Prop} {st : Store} {xs : List PyData} (f : PyData → PyData)
    (h : ∀ x ∈ xs, wpx noE (g (.val x) env st) fun e s => wpx noE (ft e s) fun b s => b = true ∧ wpx noE (fe e s) fun d s => d = .val (f x) ∧ s = st) (hl : xs.length ≤ sizeLine) (hq : Q (xs.map f) st) : wpx noE (lcF g (lcIn ft fe) env xs [] st) Q := by
  refine wp_mono (wp_lcF (I := fun i acc s => acc = (xs.take i).map f ∧ s = st) xs [] st ⟨by simp, rfl⟩ ?_) ?_
  · rintro i x acc s hx ⟨rfl, rfl⟩
    refine wp_mono (h x (List.mem_of_getElem? hx)) fun e s hs => ?_
    simp only [e_lcIn, wp_bd]
    refine wp_mono hs fun b s hs => ?_
    obtain ⟨rfl, hs⟩ := hs
    simp only [kM_at, if_pos, wp_bd]
    refine wp_mono hs fun d s hs => ?_
    obtain ⟨rfl, rfl⟩ := hs
    simp only [kM_at, wp_iteBadM, wp_rt]
    have hi : i < xs.length := by
      rcases Nat.lt_or_ge i xs.length with h' | h'
      · exact h'
      · rw [List.getElem?_eq_none h'] at hx; cases hx
    refine ⟨by rw [List.length_map, List.length_take]; omega, ?_, trivial⟩
    rw [List.take_succ, hx]; simp
  · rintro acc s ⟨rfl, rfl⟩
    rw [List.take_length]; exact hq
theorem wp_end {r : Res D} (h : wpx noE r fun d _ => d = .val (.bool true)) : ∃ st, r = .ok (.val (.bool true)) st := by
  obtain ⟨a, s, e, rfl⟩ := wp_iff.mp h
  exact ⟨s, e⟩
theorem of_wp {r : Res D} {d : D} {st : Store} (h : wpx noE r fun a s => a = d ∧ s = st) : r = .ok d st := by
  obtain ⟨a, s, e, rfl, rfl⟩ := wp_iff.mp h
  exact e
end B
namespace B
open PySem L2
@[simp] theorem kit_int_int : kitB "int" "int" = some true := by decide +kernel
@[simp] theorem kit_int_tuple : kitB "int" "tuple" = some false := by decide +kernel
@[simp] theorem kit_tuple_int : kitB "tuple" "int" = some false := by decide +kernel
@[simp] theorem kit_tuple_tuple : kitB "tuple" "tuple" = some true := by decide +kernel
@[simp] theorem ty_none : tyName .none = "NoneType" := rfl
@[simp] theorem ty_bool {b : Bool} : tyName (.bool b) = "bool" := rfl
@[simp] theorem ty_int {b : Int} : tyName (.int b) = "int" := rfl
@[simp] theorem ty_str {b : Str} : tyName (.str b) = "str" := rfl
@[simp] theorem ty_list {b : List PyData} : tyName (.list b) = "list" := rfl
@[simp] theorem ty_tuple {b : List PyData} : tyName (.tuple b) = "tuple" := rfl
@[simp] theorem ty_dict {b : List (PyData × PyData)} : tyName (.dict b) = "dict" := rfl
@[simp] theorem sizeL : sizeLine = 16777216 := sizeLine_eq
theorem atI_get {α : Type} {xs : List α} {i : Int} (h0 : 0 ≤ i) (h1 : i < xs.length) : atI xs i = xs[i.toNat]? := by
  simp [atI, ixN, h0, h1]
@[simp] theorem atI_0 {α : Type} {a : α} {r : List α} : atI (a :: r) 0 = some a := by
  rw [atI_get (by decide) (by simp)]; rfl
@[simp] theorem atI_1 {α : Type} {a b : α} {r : List α} : atI (a :: b :: r) 1 = some b := by
  rw [atI_get (by decide) (by simp; omega)]; rfl
@[simp] theorem atI_2 {α : Type} {a b c : α} {r : List α} : atI (a :: b :: c :: r) 2 = some c := by
  rw [atI_get (by decide) (by simp; omega)]; rfl
@[simp] theorem atI_3 {α : Type} {a b c d : α} {r : List α} : atI (a :: b :: c :: d :: r) 3 = some d := by
  rw [atI_get (by decide) (by simp; omega)]; rfl
theorem atI_some {α : Type} {xs : List α} {i : Int} (h0 : 0 ≤ i) (h1 : i < xs.length) : ∃ x ∈ xs, atI xs i = some x := by
  have h : i.toNat < xs.length := by omega
  exact ⟨xs[i.toNat], List.getElem_mem h, by rw [atI_get h0 h1, List.getElem?_eq_getElem h]⟩
theorem emod_pos {x m : Int} (h : 0 < m) : 0 ≤ x % m := Int.emod_nonneg _ (by omega)
@[simp] theorem len_empty : Str.empty.length = 0 := rfl
@[simp] theorem eqv_str {a b : Str} : PyData.eqv (.str a) (.str b) = decide (a = b) := by
  simp only [PyData.eqv]; by_cases h : a = b <;> simp [h]
@[simp] theorem eqv_int {a b : Int} : PyData.eqv (.int a) (.int b) = decide (a = b) := by
  simp only [PyData.eqv]; by_cases h : a = b <;> simp [h]
@[simp] theorem o_len {X : Ex → Store → Prop} {st : Store} {n : Nat}  {Q : D → Store → Prop} : wpx X (lenF [.loc n] st) Q = (match st[n]? with | some (.lst xs) => Q (.val (.int xs.length)) st | _ => False) := by
  simp only [lenF, dat]
  cases st[n]? with
  | none => first | rfl | exact wp_D
  | some o => cases o <;> first | rfl | simp
@[simp] theorem o_tup {X : Ex → Store → Prop} {st : Store} {n : Nat}  {Q : D → Store → Prop} : wpx X (tupleF [.loc n] st) Q = (match st[n]? with | some (.lst xs) => Q (.val (.tuple xs)) st | _ => False) := by
  simp only [tupleF, dat]
  cases st[n]? with
  | none => first | rfl | exact wp_D
  | some o => cases o <;> first | rfl | simp
@[simp] theorem o_in {X : Ex → Store → Prop} {st : Store} {n : Nat} {e : PyData} {b : Bool} {Q : D → Store → Prop} : wpx X (inF b (.val e) (.loc n) st) Q = (match st[n]? with | some (.lst xs) => min (PyData.depthAll xs) e.depth ≤ 64 ∧ Q (.val (.bool (b != inAny e xs))) st | _ => False) := by
  simp only [inF, dat]
  cases st[n]? with
  | none => first | rfl | exact wp_D
  | some o => cases o <;> first | rfl | simp
end B
namespace B
open PySem L2
end B
namespace B
open PySem PySem.W PySem.Calls PyProof.Rows L2
section
variable {P : Program} {w : World} {K : W.Frag} {mg : Str → Option Value} {base : Heap} {A : Around} {E : Value → Shared → Prop} {h : Heap} {g : Array GenState} {d : Drawn} {t : Nat} {os : OsState}
end

section
variable [Nm] [Gd]
variable {X : Cx} {E : XK}
end
end B
namespace B
open PySem PySem.W PySem.Calls PyProof.Rows L2 LamX
section
variable {X : Cx} {pins : List (Addr × Obj)} {σ : L2.St} {H : Hp} {s : Shared}
end
section
variable [Nm] [Gd]
variable {X : Cx}
end
end B
namespace B
open PySem PySem.W PySem.Calls PyProof.Rows L2 LamX
def notErr : D → Bool
  | .err => false
  | _ => true
def errFree (st : Store) : Bool := st.all fun o => match o with
  | .ins _ fs => fs.all fun p => notErr p.2
  | _ => true
section
variable [nm : Nm] [gd : Gd]
variable {X : Cx}
end
end B
namespace B
open PySem PySem.W PySem.Calls PyProof.Rows L2 LamX
section
variable [nm : Nm] [gd : Gd]
variable {X : Cx} {E : XK}
end
end B
namespace B
open PySem L2
def clsDef (s : Stmt) (k : Nat) : Stmt := match s with
  | .ClassDef _ _ _ body _ _ _ _ _ _ _ => body.getD k (.Pass ⟨0, 0, 0, 0⟩)
  | _ => .Pass ⟨0, 0, 0, 0⟩
variable [Nm] [Gd]
section
variable {X : Cx} {E : XK} {a b c e o i value : Expr} {ta tb tc : TE} {fa fb fc : Env → M D} {pos p1 p2 p3 : Pos}
def splF (x y : D) : M (List PyData) := fun st => match x, y with
  | .val (.str a), .val (.str b) => if (b.length == 0) = false ∧ a.length + 2 ≤ sizeLine then .ok ((Txt.split a b).map PyData.str) st else .bad
  | _, _ => .bad
variable {apos cpos : Pos}
end
def intG (ds : List D) : M D := fun st => match ds with
  | [.val (.int i)] => .ok (.val (.int i)) st
  | [.val (.bool b)] => .ok (.val (.int (if b then 1 else 0))) st
  | [.val (.str a)] => (match PySem.intText? a with
    | some n => if a.length ≤ 640 then .ok (.val (.int n)) st else .bad
    | none => .bad)
  | _ => .bad
section
variable {K : W.Frag} {E : XK}
theorem bc_intG : BCall K E (fun xs H Q => ((∃ i, xs = [.int i] ∧ Q (.int i) H) ∨ ∃ k, xs = [.bl k] ∧ Q (.int (if k then 1 else 0)) H) ∨ ∃ a n, xs = [.str a] ∧ PySem.intText? a = some n ∧ a.length ≤ 640 ∧ Q (.int n) H) intG := by
  intro w H st ds vs Q hs r hp
  unfold intG at hp
  split at hp
  · obtain ⟨v, rfl, r1⟩ := r.one
    cases r1
    exact .inl (.inl ⟨_, rfl, Post.now hp hs (.int _)⟩)
  · obtain ⟨v, rfl, r1⟩ := r.one
    cases r1
    exact .inl (.inr ⟨_, rfl, Post.now hp hs (.int _)⟩)
  · obtain ⟨v, rfl, r1⟩ := r.one
    cases r1
    split at hp
    · rename_i n hn
      split at hp
      · rename_i hl
        exact .inr ⟨_, n, rfl, hn, hl, Post.now hp hs (.int _)⟩
      · exact hp.elim
    · exact hp.elim
  · exact hp.elim
end
def repS (x : Str) (n : Int) : Str := ⟨(List.replicate n.toNat x.cps.toList).flatten.toArray⟩
def rRepS : R2 := fun x y H Q => ∃ (a : Str) (n : Int), x = .str a ∧ y = .int n ∧ (-(2 ^ 40) ≤ n ∧ n ≤ 16777216 ∧ a.length ≤ 16777216 ∧ a.length * n.toNat ≤ 16777216) ∧ Q (.str (repS a n)) H
theorem fold_cat : ∀ (l : List (Array Nat)) (acc : Array Nat), (l.foldl (· ++ ·) acc).toList = acc.toList ++ (l.map (·.toList)).flatten
  | [], acc => by simp
  | x :: r, acc => by
    rw [List.foldl_cons, fold_cat r]
    simp
theorem repS_fold (x : Str) (n : Int) : (⟨(List.replicate n.toNat x.cps).foldl (· ++ ·) #[]⟩ : Str) = repS x n := by
  unfold repS
  congr 1
  apply Array.ext'
  rw [fold_cat]
  simp
theorem repS_one (x : Str) : repS x 1 = x := by
  unfold repS
  show (⟨([x.cps.toList] : List (List Nat)).flatten.toArray⟩ : Str) = x
  simp
theorem repS_nil (x : Str) (n : Int) (h : x.length = 0) : repS x n = x := by
  have e : x.cps.toList = [] := by
    have : x.cps.size = 0 := h
    exact Array.toList_eq_nil_iff.mpr (Array.size_eq_zero_iff.mp this)
  have e2 : x.cps = #[] := Array.toList_eq_nil_iff.mp e
  unfold repS
  rw [e]
  have : (List.replicate n.toNat ([] : List Nat)).flatten = [] := by simp
  rw [this]
  cases x
  simp at e2
  rw [e2]
theorem op_repS {X : Cx} : OpR X (binaryOp .Mult) rRepS := by
  intro pins s σ H x y v u Q I rx ry h
  obtain ⟨a, n, rfl, rfl, ⟨h1, h2, h3, h4⟩, q⟩ := h
  obtain ⟨t, rfl⟩ := rx
  obtain ⟨t2, rfl⟩ := ry
  have big : (2 : Int) ^ 40 = 1099511627776 := by decide
  have big2 : (2 : Int) ^ 63 = 9223372036854775808 := by decide
  rw [big] at h1
  refine PySem.P.mul_str ?_ (fun hn _ => ?_) (fun hn _ => ?_) ?_
  · rw [decide_eq_false (by rw [big2]; omega), decide_eq_false (by rw [big2]; omega)]; rfl
  · intro hc
    have hq : (2 ^ 63 - 1 : Int) / 16777216 ≤ (2 ^ 63 - 1) / n := by
      apply Int.le_ediv_of_mul_le (by omega)
      have : (2 ^ 63 - 1 : Int) / 16777216 = 549755813887 := by decide
      rw [this]
      have : (549755813887 : Int) * n ≤ 549755813887 * 16777216 := Int.mul_le_mul_of_nonneg_left (by omega) (by omega)
      have e : (549755813887 : Int) * 16777216 ≤ 2 ^ 63 - 1 := by decide
      omega
    have : (2 ^ 63 - 1 : Int) / 16777216 = 549755813887 := by decide
    rw [this] at hq
    omega
  · show decide (a.length * n.toNat > sizeLine) = false
    rw [sizeLine_eq]
    exact decide_eq_false (by omega)
  · by_cases hn : n < 1
    · rw [if_pos hn]
      have e : repS a n = Str.empty := by
        unfold repS
        have : n.toNat = 0 := by omega
        rw [this]
        rfl
      rw [e] at q
      exact ⟨by decide, .str Str.empty, H, I.tok _, ⟨_, rfl⟩, q⟩
    · rw [if_neg hn]
      by_cases h5 : (n == 1 || a.length == 0) = true
      · rw [if_pos h5]
        have e : repS a n = a := by
          rcases Bool.or_eq_true_iff.mp h5 with z | z
          · rw [eq_of_beq z, repS_one]
          · exact repS_nil a n (eq_of_beq z)
        rw [e] at q
        exact ⟨.str a, H, I, ⟨_, rfl⟩, q⟩
      · rw [if_neg h5, repS_fold]
        have hl : (repS a n).length = n.toNat * a.length := by
          show (repS a n).cps.size = _
          unfold repS
          simp [Str.length]
        exact ⟨by rw [hl, Nat.mul_comm]; exact h4, .str (repS a n), H, I.tok _, ⟨_, rfl⟩, q⟩
end B
namespace B
open PySem L2 PySem.Calls PyProof.Rows
variable [Nm] [Gd]
def mulG (x y : D) : M D := fun st => match x, y with
  | .val (.str a), .val (.int n) => if -(2 ^ 40) ≤ n ∧ n ≤ 16777216 ∧ a.length ≤ 16777216 ∧ a.length * n.toNat ≤ 16777216 then .ok (.val (.str (repS a n))) st else .bad
  | x, y => mulF x y st
def rMulG (K : W.Frag) : R2 := fun x y H Q => rMulA K x y H Q ∨ rRepS x y H Q
theorem op_mulG {X : Cx} {K : W.Frag} (hK : X.K = K := by rfl) : OpR X (binaryOp .Mult) (rMulG K) := OpR.or (op_mulA hK) op_repS
theorem bop_mulG {K : W.Frag} {E : XK} : BOp K E (rMulG K) mulG := by
  intro w H st dx dy x y Q hs rx ry hp
  unfold mulG at hp
  split at hp
  · split at hp
    · rename_i hl
      cases rx
      cases ry
      exact .inr ⟨_, _, rfl, rfl, hl, Post.now hp hs (.str _)⟩
    · exact hp.elim
  · exact .inl (bop_mul w H st dx dy x y Q hs rx ry hp)
theorem Paired.pick {α β : Type} {R : α → β → Prop} {l : List Nat} {xs : List α} {ys : List β} (hl : xs.length = ys.length) (r : ∀ (i : Nat) x y, xs[i]? = some x → ys[i]? = some y → R x y) : ∀ x ∈ List.zip (l.filterMap (xs[·]?)) (l.filterMap (ys[·]?)), R x.1 x.2 := by
  induction l with
  | nil => simp
  | cons i l ih =>
    by_cases hi : i < xs.length
    · have e1 : xs[i]? = some xs[i] := List.getElem?_eq_getElem hi
      have e2 : ys[i]? = some (ys[i]'(hl ▸ hi)) := List.getElem?_eq_getElem (hl ▸ hi)
      simp only [List.filterMap_cons, e1, e2, List.zip_cons_cons, List.mem_cons]
      rintro x (rfl | hx)
      · exact r i _ _ e1 e2
      · exact ih x hx
    · have e1 : xs[i]? = none := List.getElem?_eq_none (by omega)
      have e2 : ys[i]? = none := List.getElem?_eq_none (by omega)
      simp only [List.filterMap_cons, e1, e2]
      exact ih
theorem pick_len {α β : Type} {l : List Nat} {xs : List α} {ys : List β} (hl : xs.length = ys.length) : (l.filterMap (xs[·]?)).length = (l.filterMap (ys[·]?)).length := by
  induction l with
  | nil => rfl
  | cons i l ih =>
    by_cases hi : i < xs.length
    · simp only [List.filterMap_cons, List.getElem?_eq_getElem hi, List.getElem?_eq_getElem (hl ▸ hi : i < ys.length), List.length_cons, ih]
    · simp only [List.filterMap_cons, List.getElem?_eq_none (Nat.le_of_not_lt hi), List.getElem?_eq_none (by omega : ys.length ≤ i), ih]
theorem Vals.of_zip : ∀ {xs : List V} {us : List Value}, xs.length = us.length → (∀ x ∈ xs.zip us, L2.RelV x.1 x.2) → Vals xs us
  | [], [], _, _ => .nil
  | x :: xs, u :: us, h, r => .cons (r (x, u) (by simp)) (Vals.of_zip (by simpa using h) fun y hy => r y (by simp [hy]))
  | [], _ :: _, h, _ => by simp at h
  | _ :: _, [], h, _ => by simp at h
theorem Vals.get : ∀ {xs : List V} {us : List Value}, Vals xs us → ∀ (i : Nat) x u, xs[i]? = some x → us[i]? = some u → L2.RelV x u
  | _, _, .nil, i, x, u, h, _ => by simp at h
  | _, _, .cons r s, 0, x, u, h1, h2 => by simp at h1 h2; subst h1; subst h2; exact r
  | _, _, .cons r s, i + 1, x, u, h1, h2 => Vals.get s i x u (by simpa using h1) (by simpa using h2)
theorem Rps.of_zip {K : W.Frag} {w : Wd} {H : Hp} : ∀ {xs : List PyData} {us : List V}, xs.length = us.length → (∀ x ∈ xs.zip us, Rp K w H x.1 x.2) → Rps K w H xs us
  | [], [], _, _ => .nil
  | x :: xs, u :: us, h, r => .cons (r (x, u) (by simp)) (Rps.of_zip (by simpa using h) fun y hy => r y (by simp [hy]))
  | [], _ :: _, h, _ => by simp at h
  | _ :: _, [], h, _ => by simp at h
theorem Rps.pick {K : W.Frag} {w : Wd} {H : Hp} {xs : List PyData} {us : List V} (r : Rps K w H xs us) (l : List Nat) : Rps K w H (l.filterMap (xs[·]?)) (l.filterMap (us[·]?)) :=
  Rps.of_zip (pick_len r.length) (Paired.pick r.length fun i x y h1 h2 => by
    obtain ⟨v, e, rv⟩ := r.get h1
    rw [h2] at e
    cases e
    exact rv)
section
variable {X : Cx} {E : XK} {e : Expr} {te : TE} {fe : Env → M D} {lo hi : Option Expr} {stp : Expr} {tl th ts : TO} {fl fh fs : Env → M (Option Int)} {pos p2 : Pos}
end
section
variable {X : Cx} {E : XK} {o i value : Expr} {td ty tv : TE} {fd fi fv : Env → M D} {pos pos' : Pos}
theorem Rps.set {K : W.Frag} {w : Wd} {H : Hp} : ∀ {xs : List PyData} {vs : List V} (j : Nat) {d : PyData} {v : V}, Rps K w H xs vs → Rp K w H d v → Rps K w H (xs.set j d) (vs.set j v)
  | _, _, _, _, _, .nil, _ => .nil
  | _, _, 0, _, _, .cons _ t, r => .cons r t
  | _, _, j + 1, _, _, .cons q t, r => .cons q (Rps.set j t r)
end
def enumP (xs : List PyData) : List PyData := (List.range xs.length).map fun (i : Nat) => PyData.tuple [.int (i : Nat), xs.getD i .none]
theorem enumP_get {xs : List PyData} {i : Nat} {x : PyData} (h : (enumP xs)[i]? = some x) : ∃ d, xs[i]? = some d ∧ x = .tuple [.int i, d] := by
  unfold enumP at h
  rw [List.getElem?_map] at h
  by_cases hi : i < xs.length
  · rw [List.getElem?_range hi] at h
    simp only [Option.map_some, Option.some.injEq] at h
    refine ⟨xs[i], List.getElem?_eq_getElem hi, ?_⟩
    rw [← h, List.getD_eq_getElem?_getD, List.getElem?_eq_getElem hi]
    rfl
  · rw [List.getElem?_eq_none (by simpa using hi)] at h
    cases h
section
variable {X : Cx} {E : XK} {a : Expr} {ta : TE} {fa : Env → M D} {pos pos' : Pos}
end
theorem RpDs.at' {K : W.Frag} {w : Wd} {H : Hp} : ∀ {ds : List D} {vs : List V}, RpDs K w H ds vs → ∀ {i : Nat} {d : D}, ds[i]? = some d → ∃ v, vs[i]? = some v ∧ RpD K w H d v
  | _, _, .nil, _, _, e => by simp at e
  | _, _, .cons r t, 0, d, e => by
    simp at e
    subst e
    exact ⟨_, rfl, r⟩
  | _, _, .cons r t, i + 1, d, e => by
    obtain ⟨v, hv, q⟩ := RpDs.at' t (i := i) (by simpa using e)
    exact ⟨v, by simpa using hv, q⟩
end B
namespace B
open PySem L2
section
variable {env : Env} {st : Store} {X : Ex → Store → Prop}
@[simp] theorem f_intGI {i : Int} {Q : D → Store → Prop} : wpx X (intG [.val (.int i)] st) Q = Q (.val (.int i)) st := by first | exact propext Iff.rfl | exact wp_D | exact wp_D.trans wp_D.symm
@[simp] theorem f_mulGI {i j : Int} {Q : D → Store → Prop} : wpx X (mulG (.val (.int i)) (.val (.int j)) st) Q = (((-(2 ^ 64) < i ∧ i < 2 ^ 64) ∨ (-(2 ^ 64) < j ∧ j < 2 ^ 64)) ∧ Q (.val (.int (i * j))) st) := f_mulI
end
end B
namespace B
open PySem L2
theorem eqv_nil (cs : List Int) : PyData.eqv (.list (cs.map .int)) (.list []) = decide (cs = []) := by
  cases cs <;> simp [PyData.eqv, PyData.eqvAll]
theorem atI_mod {cs : List Int} (h : cs ≠ []) (a : Int) : ∃ v, atI (cs.map PyData.int) (a % (cs.length : Int)) = some (.int v) := by
  have hl : 0 < cs.length := List.length_pos_iff.mpr h
  have h1 : 0 ≤ a % (cs.length : Int) := Int.emod_nonneg _ (by omega)
  have h2 : a % (cs.length : Int) < cs.length := Int.emod_lt_of_pos _ (by omega)
  rw [atI_get h1 (by rw [List.length_map]; exact h2)]
  have h3 : (a % (cs.length : Int)).toNat < cs.length := by omega
  exact ⟨cs[(a % (cs.length : Int)).toNat], by rw [List.getElem?_map, List.getElem?_eq_getElem h3]; rfl⟩
def NameOk (p : PyData) : Prop := ∃ x, p = .str x ∧ Sm 8 x
def Num (i : Int) : Prop := i.natAbs < 2 ^ 200
def HandOk (p : PyData) : Prop := ∃ x i, p = .tuple [.str x, .int i] ∧ Sm 8 x ∧ Num i
theorem sortOk_strs {xs : List PyData} (h : ∀ x ∈ xs, ∃ a, x = PyData.str a) : sortOk xs = true := by
  simp only [sortOk, Bool.and_eq_true, List.all_eq_true, Bool.or_eq_true]
  refine ⟨⟨fun d hd e he => ?_, .inr fun d hd => ?_⟩, fun d hd => ?_⟩
  · obtain ⟨a, rfl⟩ := h d hd
    obtain ⟨b, rfl⟩ := h e he
    rfl
  · obtain ⟨a, rfl⟩ := h d hd
    rfl
  · obtain ⟨a, rfl⟩ := h d hd
    simp [PyData.depth]
theorem mem_sortP {xs : List PyData} {x : PyData} : x ∈ sortP xs ↔ x ∈ xs := (List.mergeSort_perm xs _).mem_iff
theorem len_sortP {xs : List PyData} : (sortP xs).length = xs.length := (List.mergeSort_perm xs _).length_eq
def nameB : PyData → Bool
  | .str x => decide (x.length ≤ 8) && x.cps.toList.all fun c => decide (c < 1114112)
  | _ => false
def numB (i : Int) : Bool := decide (i.natAbs < 2 ^ 200)
def wayB : PyData → Bool
  | .int i => numB i
  | .tuple [.str a] => decide (a = "back")
  | .tuple [.str a, x] => decide (a = "fail") && nameB x
  | _ => false
def handB : PyData → Bool
  | .tuple [x, .int i] => nameB x && numB i
  | _ => false
def rowB : PyData → Bool
  | .tuple [.tuple cs, .tuple ws, .tuple hs] => cs.all nameB && ws.all wayB && hs.all handB && decide (cs.length ≤ 10 ∧ ws.length ≤ 14 ∧ hs.length ≤ 4)
  | _ => false
def funB : PyData → Bool
  | .tuple [x, .tuple rs] => nameB x && rs.all rowB && decide (rs.length ≤ 12)
  | _ => false
theorem name_of {p : PyData} (h : nameB p = true) : NameOk p := by
  cases p with
  | str x => exact ⟨x, rfl, Sm.lit h⟩
  | _ => cases h
theorem num_of {i : Int} (h : numB i = true) : Num i := by
  unfold numB at h; show i.natAbs < 2 ^ 200; exact of_decide_eq_true h
theorem hand_of {p : PyData} (h : handB p = true) : HandOk p := by
  unfold handB at h
  split at h
  · rw [Bool.and_eq_true] at h
    obtain ⟨x, rfl, hx⟩ := name_of h.1
    exact ⟨x, _, rfl, hx, num_of h.2⟩
  · cases h
end B
namespace B
open PySem L2
section
variable {st : Store} {X : Ex → Store → Prop} {Q : D → Store → Prop}
end
@[simp] theorem dep_nil {d : PyData} : (min d.depth (PyData.list []).depth ≤ 64) = True := eq_true (Nat.le_trans (Nat.min_le_right _ _) (by simp [PyData.depth, PyData.depthAll]))
@[simp] theorem eqv_nils {xs : List PyData} : PyData.eqv (.list xs) (.list []) = xs.isEmpty := by
  cases xs <;> simp [PyData.eqv, PyData.eqvAll]
section
variable {X : Ex → Store → Prop} {st : Store} {Q : D → Store → Prop} {n : Bool}
end
def nmB (x : Str) : Bool := decide (1 ≤ x.length ∧ x.length ≤ 8) && x.cps.toList.all fun c => decide (97 ≤ c ∧ c ≤ 122)
end B
namespace B
open PySem L2
theorem Pl.err {st : Store} (h : Pl st) : errFree st = true := by
  unfold errFree
  rw [List.all_eq_true]
  intro o ho
  cases o with
  | ins C fs => exact absurd (h _ ho) (by simp [plO])
  | _ => rfl
theorem Sz.two {a b k : Nat} {p q : PyData} (h : Sz a k p) (h' : Sz b k q) : Sz (a + b + 7) (k + 1) (.tuple [p, q]) := by
  refine ⟨by simp only [PyData.showable, PyData.showableAll, h.sh, h'.sh, Bool.and_self], ?_, by have := h.dp; have := h'.dp; simp only [PyData.depth, PyData.depthAll]; omega⟩
  simp only [PyData.shown, PyData.shownAll]
  have h4 := PySem.tupleText_len_le (PyData.shownAll [p, q])
  rw [PyData.shownAll_length] at h4
  simp only [PyData.shownAll, List.map_cons, List.map_nil, List.sum_cons, List.sum_nil, List.length_cons, List.length_nil] at h4
  have := h.len
  have := h'.len
  omega
def Wt (ws : List Str) : Nat := (ws.map (·.length)).sum + ws.length
theorem Wt.app (a b : List Str) : Wt (a ++ b) = Wt a + Wt b := by simp [Wt]; omega
theorem Wt.drop (a : List Str) (n : Nat) : Wt (a.drop n) ≤ Wt a := by
  have := Wt.app (a.take n) (a.drop n)
  rw [List.take_append_drop] at this
  omega
theorem Wt.take (a : List Str) (n : Nat) : Wt (a.take n) ≤ Wt a := by
  have := Wt.app (a.take n) (a.drop n)
  rw [List.take_append_drop] at this
  omega
theorem Wt.cut (a : List Str) (lo hi : Option Int) : Wt (cutP a lo hi) ≤ Wt a := Nat.le_trans (Wt.take _ _) (Wt.drop _ _)
theorem Wt.set : ∀ (a : List Str) (n : Nat) (x : Str), Wt (a.set n x) ≤ Wt a + x.length
  | [], n, x => by simp [Wt]
  | y :: r, 0, x => by simp [Wt]; omega
  | y :: r, n + 1, x => by
    have := Wt.set r n x
    simp [Wt] at this ⊢
    omega
theorem Wt.split (x : Str) : Wt (Txt.split x " ") ≤ x.length + 1 := PyProof.Rows.split_weight x " " (by decide +kernel)
theorem Wt.all {ws : List Str} {n : Nat} (h : ∀ w ∈ ws, w.length ≤ n) : Wt ws ≤ ws.length * (n + 1) := by
  induction ws with
  | nil => simp [Wt]
  | cons a r ih =>
    have h1 := ih fun w hw => h w (List.mem_cons_of_mem _ hw)
    have h2 := h a (List.mem_cons_self ..)
    simp [Wt, Nat.succ_mul, Nat.add_mul] at h1 ⊢
    omega
theorem Wt.fits {ws : List Str} (h : Wt ws ≤ 16777216) : (ws.map (·.length)).sum + ws.length * (Str.ofString " ").length ≤ 16777216 := by
  have : (Str.ofString " ").length = 1 := by decide +kernel
  rw [this]
  unfold Wt at h
  omega
end B
namespace B
open PySem L2
variable [Nm] [Gd]
section
variable {X : Cx} {E : XK} {elt tg iter tg1 iter1 : Expr} {ifs ifs1 : List Expr} {scope : Scope} {own : List (Str × Nat)} {is is1 : List Nat} {pos : Pos} {ti ti1 : TI} {g g1 : TG} {tt tt1 : TT} {te : TE} {fi fi1 : B.Env → M Src} {fg fg1 : D → B.Env → M B.Env} {ft ft1 : B.Env → M Bool} {fe : B.Env → M D}
end
section
variable {X : Cx} {E : XK} {o e : Expr} {to te : TE} {fo fe : B.Env → M D} {apos cpos : Pos}
variable {tr : TA} {fr : B.Env → M (List D)}
end
end B
namespace B
open PySem L2
section
variable [Nm] [Gd]
variable {X : Cx} {E : XK} {k i nn : Nat} {x : Str} {p pos : Pos} {e : Expr} {es : List Expr} {tr : TA} {fr : B.Env → M (List D)}
def HeldP (X : Cx) (nn : Nat) (n : Str) (m : List D → M D) : Prop := ∃ (k : Nat) (fd : FuncData) (ps : List Str), FnG X.prog X.w X.K X.mg X.base k (Nm.cl n) fd ps (spOf X.K nn m) ∧ Room k X.A ∧ PySem.W.keepIn X.K (.ref (Nm.cl n)) = true ∧ Binds X.K fd ps []
theorem HeldP.of {n : Str} {m : List D → M D} {f : Addr} {fd : FuncData} {ps : List Str} (hf : Nm.cl n = f) (F : FnG X.prog X.w X.K X.mg X.base k f fd ps (spOf X.K nn m)) (hr : Room k X.A) (hk : PySem.W.keepIn X.K (.ref f) = true) (hb : Binds X.K fd ps []) : HeldP X nn n m := by
  subst hf
  exact ⟨k, fd, ps, F, hr, hk, hb⟩
end
section
variable {env : B.Env} {st : Store} {X : Ex → Store → Prop}
end
end B
namespace B
open PySem L2 PySem.Spec PyProof.Rows
theorem meets_enum1B {v : Value} {o : Obj} {H : Heap → Prop} (B : Begins v o H) :
    Meets (Builtin.«enumerate.__new__» ⟨[.type "enumerate", v], []⟩) (fun _ R s => H s.heap ∧
      R (.ok (.ret (.ref (s.heap.push o).objs.size))) { s with heap := (s.heap.push o).push { cls := .type "enumerate", data := .fields #[.none, .bool false, .ref s.heap.objs.size, rawInt 0, .none, .none] } }) :=
  .of_wp fun prog w A R s h => by
    obtain ⟨hp, g, d, tk, os⟩ := s; obtain ⟨h1, h⟩ := h
    have hsub := sub_enumerate
    have q1 : ∀ {A' : Around} {E : Value → Shared → Prop} {Q : Value → Shared → Prop}, Q (.ref hp.objs.size) ⟨hp.push o, g, d, tk, os⟩ → wpAny (model prog w) A' (pyIter v) Q E ⟨hp, g, d, tk, os⟩ :=
      fun q => B.iter prog w _ _ ⟨hp, g, d, tk, os⟩ _ h1 q
    wp_walk using q1
    refine wpAny_stack_any fun st => wpAny_pure ?_
    split
    · rename_i c _ _ _ _ _
      cases (c == Value.type "enumerate")
      · wp_walk using q1
        exact ⟨_, rfl, h⟩
      · wp_walk using q1
        exact ⟨_, rfl, h⟩
    · wp_walk using q1
      exact ⟨_, rfl, h⟩
theorem enum1_begins {prog : Program} {w : World} {A : Around} {E : Value → Shared → Prop} {s : Shared} {v : Value} {o : Obj} {H : Heap → Prop} {Q : Value → Shared → Prop} (B : Begins v o H) (h1 : H s.heap)
    (h : ∀ h', IsEnum h' (s.heap.objs.size + 1) s.heap.objs.size 0 .none → h'.get? s.heap.objs.size = some o → h'.objs.size = s.heap.objs.size + 2 →
      (∀ b o, s.heap.get? b = some o → h'.get? b = some o) → Q (.ref (s.heap.objs.size + 1)) { s with heap := h' }) :
    wpAny (model prog w) A (call (.type "enumerate") [v]) Q E s := by
  refine callType_new F.called_enumerate (by decide) (F.typeCall_enumerate_1 _) (F.newCall_enumerate_1 _) (fun obj => F.args_object_init_2 obj _) F.entry_enumerate_new
    (meets_enum1B B) ⟨h1, ?_⟩
  have hz : (s.heap.push o).objs.size = s.heap.objs.size + 1 := Heap.size_push ..
  show _ ∧ _
  rw [hz]
  have he : IsEnum ((s.heap.push o).push { cls := .type "enumerate", data := .fields #[.none, .bool false, .ref s.heap.objs.size, rawInt 0, .none, .none] }) (s.heap.objs.size + 1) s.heap.objs.size 0 .none := by
    have := Heap.get?_push_size (s.heap.push o) (o := { cls := .type "enumerate", data := .fields #[.none, .bool false, .ref s.heap.objs.size, rawInt 0, .none, .none] }) rfl
    rw [hz] at this; exact this
  refine ⟨⟨_, he, rfl⟩, h _ he (Heap.get?_push_of_some _ (Heap.get?_push_size _ B.free)) (by rw [Heap.size_push, hz]) fun b o x => Heap.get?_push_of_some _ (Heap.get?_push_of_some _ x)⟩
def IteT (K : PySem.W.Frag) (a : Addr) : It :=
  ⟨fun i H => ∃ (xs : List V) (x : V), SqT K H a xs ∧ xs[i]? = some x, fun i H v H' => ∃ T x, v = .ref T ∧ H T = none ∧ H' = upd H T (.tup [.int (i : Nat), x]) ∧ ∀ xs, SqT K H a xs → xs[i]? = some x, fun i H => ∃ xs : List V, SqT K H a xs ∧ xs.length ≤ i⟩
theorem iter_ne {h : Heap} {it a : Addr} {i : Nat} {items : Array Value} (hi : h.IsTupleIter it a i) (ht : h.IsTuple a items) : a ≠ it := by
  rintro rfl
  obtain ⟨o, e, c, _⟩ := hi
  obtain ⟨o', e', c', _⟩ := ht
  rw [e] at e'
  cases e'
  rw [c] at c'
  injection c' with q
  exact absurd q (by decide)
theorem enum_ne {h : Heap} {e it a : Addr} {i : Int} {old : Value} {items : Array Value} (hi : IsEnum h e it i old) (ht : h.IsTuple a items) : e ≠ a := by
  rintro rfl
  obtain ⟨o', e', c', _⟩ := ht
  have hi : h.get? e = some _ := hi
  rw [hi] at e'
  cases e'
  injection c' with q
  exact absurd q (by decide)
theorem enum_endT {prog : Program} {w : World} {A : Around} {E : Value → Shared → Prop} {s : Shared} {e it a : Addr} {i : Nat} {c : Int} {items : Array Value} {old : Value} {Q : Option Value → Shared → Prop} (hh : A.in1.handled = none)
    (he : IsEnum s.heap e it c old) (hit : s.heap.IsTupleIter it a i) (ht : s.heap.IsTuple a items) (hge : items.size ≤ i)
    (hQ : ∀ h', Heap.ExtBut it s.heap h' → Q none { s with heap := h' }) : wpAny (model prog w) A (pyNext (.ref e)) Q E s := by
  have hT : s.TypeIs (.ref e) "enumerate" := ⟨_, he, rfl⟩
  unfold pyNext
  refine wpAny_bind (wpAny_attempt (wpAny_callSpecial?_slot (name := Str.ofString "__next__") hT F.slot_enumerate_next
    (wpAny_call_entry F.slot_enumerate_next hT F.entry_enumerate_next ?_ (F.args_enumerate_next_1 _))))
  show wpAny _ _ (field (.ref e) 2 >>= _) _ _ _
  refine wpAny_bind (wpAny_field he rfl (x := .ref it) rfl ?_)
  refine wpAny_bind (wpAny_nextOf_tuple_end hh hit ht (by simpa using hge) fun h' x he' hx' => ?_)
  obtain ⟨o, ho, hc⟩ := hx'
  refine wpAny_bind (wpAny_isInstance (T := "StopIteration") (b := true) ⟨o, ho, hc⟩ isSubtype_stop ?_)
  exact wpAny_pure (hQ _ he')
theorem turn_enumT {P : Program} {w : World} {K : PySem.W.Frag} {elts : List Expr} {kk : Nat} {tpos : Pos} (a e it : Addr) :
    Turn P w K (.Tuple elts kk tpos) (IteT K a) [e, it] e (fun i h => (∃ old, IsEnum h e it ((i : Nat) : Int) old) ∧ h.IsTupleIter it a i ∧ e ≠ it) where
  mem := by simp
  obj := fun i h st b hb => by
    obtain ⟨⟨old, he⟩, ⟨o, ho, hc, hd⟩, _⟩ := st
    have e' : b = e ∨ b = it := by simpa using hb
    rcases e' with z | z
    · rw [z]; exact ⟨_, he, fun v q => nomatch q⟩
    · rw [z]; exact ⟨o, ho, fun v q => by rw [hd] at q; cases q⟩
  keep := fun i h h' st k => let ⟨⟨old, he⟩, hi, hne⟩ := st; ⟨⟨old, k e (by simp) _ he⟩, hi.at fun o q => k it (by simp) o q, hne⟩
  item := by
    intro X hP hw hK hc i pins s σ H E I hf st hg
    subst hP hw hK
    obtain ⟨⟨old, he⟩, hit, hne⟩ := st
    obtain ⟨xs, x, hq, hx⟩ := hg
    obtain ⟨its, rv, p, hz⟩ := I.tuple hq
    obtain ⟨u, hu, ru⟩ := rv.get hx
    have hel : e < s.heap.objs.size := Heap.lt_size he
    have hil : it < s.heap.objs.size := by obtain ⟨_, q, _⟩ := hit; exact Heap.lt_size q
    have pt : s.heap.IsTuple a its.toArray := p
    have hlt : i < its.toArray.size := by
      have := (List.getElem?_eq_some_iff.mp hu).1
      simpa using this
    refine wpAny_pyNext_enum_itemD (Draws.tuple (A := X.A.in1) (I.ok.hd hc) it a (iter_ne hit pt) its.toArray) he ⟨hit, pt⟩ hlt hne (by simp [hne, enum_ne he pt]) fun x' h' tk hP ho hst' hT hsz hk => ?_
    have ex : x' = u := by
      have hP : its.toArray[i]? = some x' := hP
      simp only [List.getElem?_toArray] at hP
      rw [hu] at hP
      exact (Option.some.inj hP).symm
    subst ex
    refine ⟨_, rfl, wpAny_letOwnedTupleGo_enum (s := { s with heap := h', toks := tk + 1 }) ho fun h'' he' sb => ?_⟩
    have hT2 : h''.get? s.heap.objs.size = some { cls := .type "tuple", data := .seq #[.int i tk, x'] } := (sb.2 _ (Nat.ne_of_gt hel)).trans hT
    have new : ObjOk X.prog X.w (upd H s.heap.objs.size (.tup [.int (i : Nat), x])) h'' s.heap.objs.size (.tup [.int (i : Nat), x]) :=
      ⟨by show 2 ≤ sizeLine; decide, [.int i tk, x'], .cons ⟨_, rfl⟩ (.cons ru .nil), ⟨_, hT2, rfl, _, rfl⟩⟩
    have I1 : Inv X pins σ (upd H s.heap.objs.size (.tup [.int (i : Nat), x])) { s with heap := h'', toks := tk + 1 } :=
      I.turnedNew (ch := [e, it]) (fun b ob hb q => (sb.2 b (fun z => hb (by simp [z]))).trans (hk b ob (fun z => hb (by simp [z])) (fun z => hb (by simp [z])) q)) hf (Nat.le_refl _) new
    refine ⟨.ref s.heap.objs.size, _, I1, rfl, ⟨_, x, rfl, I.hok.fresh (Nat.le_refl _), rfl, fun ys hy => by rw [I.tuple_inj hy hq]; exact hx⟩, ⟨⟨x', ?_⟩, hst'.1.at fun o q => (sb.2 it (Ne.symm hne)).trans q, hne⟩, fun b hb => ?_⟩
    · have e1 : ((i + 1 : Nat) : Int) = (i : Int) + 1 := by omega
      rw [e1]; exact he'
    · have hb' : b < s.heap.objs.size := by
        have e' : b = e ∨ b = it := by simpa using hb
        rcases e' with z | z
        · rw [z]; exact hel
        · rw [z]; exact hil
      rw [upd_ne (Nat.ne_of_lt hb')]
      exact (hf b hb).1
  done := by
    intro X hP hw hK hc i pins s σ H E I hf st hg
    subst hP hw hK
    obtain ⟨⟨old, he⟩, hit, hne⟩ := st
    obtain ⟨xs, hq, hx⟩ := hg
    obtain ⟨its, rv, p, hz⟩ := I.tuple hq
    obtain ⟨f0, f1, f2, f3, f4, f5⟩ := hf it (by simp)
    have hl := rv.length
    have pt : s.heap.IsTuple a its.toArray := p
    exact enum_endT (I.ok.hd hc) he hit pt (by simp; omega) fun h' eb => ⟨rfl, I.turned (t' := s.toks) (fun b o hb q => eb b o hb q) f0 f1 f3 f4 f5⟩
  self := fun A i s Q E st h => let ⟨⟨_, he⟩, _⟩ := st; wpAny_pyIter_enum he h
def iEnumA (K : PySem.W.Frag) (ta : TA) : TI := fun σ H R => ta σ H fun vs H1 => (∃ a xs, vs = [.ref a] ∧ SqL K H1 a xs ∧ R (Ite K a) H1) ∨ ∃ a xs, vs = [.ref a] ∧ SqT K H1 a xs ∧ R (IteT K a) H1
theorem pi_enumA {X : Cx} {e : Expr} {ta : TA} {p pos tpos : Pos} {elts : List Expr} {kk : Nat} (hg : Gl X "enumerate") (hm : X.mg "enumerate" = none) (ha : PA X [e] ta) (hs : starEach [e] X.env = [(false, eval e X.env)] := by rfl) :
    PI X (.Tuple elts kk tpos) (.Call (.Name "enumerate" p) [e] [] pos) (iEnumA X.K ta) := by
  refine ⟨fun pins s σ H R I h => ?_⟩
  refine Call_ (ld_blt I hg hm boot_enumerate (PyProof.Rows.callWith_type1 (thn (ha.run pos pins s σ H _ I h) fun us s1 ⟨vs, H1, I1, r1, q1⟩ => ?_) hs rfl))
  have fin : ∀ b, b ∈ [s1.heap.objs.size + 1, s1.heap.objs.size] → s1.heap.objs.size ≤ b := fun b hb => by
    have e' : b = s1.heap.objs.size + 1 ∨ b = s1.heap.objs.size := by simpa using hb
    rcases e' with z | z
    · rw [z]; exact Nat.le_add_right _ _
    · rw [z]; exact Nat.le_refl _
  rcases q1 with ⟨a, xs, ex, hq, q⟩ | ⟨a, xs, ex, hq, q⟩
  · subst ex
    cases r1 with
    | cons r rr =>
      cases rr
      cases r
      obtain ⟨its, rv, p', hz⟩ := I1.list hq
      refine call_enumerate_list p'.isList fun h' he hit hsz hk => wpAny_pyIter_enum he ?_
      have I2 : Inv X pins σ H1 { s1 with heap := h' } := I1.kept (t' := s1.toks) hk
      exact ⟨s1.heap.objs.size + 1, [s1.heap.objs.size + 1, s1.heap.objs.size], _, _, H1, rfl, I2, turn_enum a (s1.heap.objs.size + 1) s1.heap.objs.size, ⟨⟨.none, he⟩, hit, Nat.succ_ne_self _⟩, fun b hb => I1.fpOk (fin b hb) (I1.hok.fresh (fin b hb)), q⟩
  · subst ex
    cases r1 with
    | cons r rr =>
      cases rr
      cases r
      obtain ⟨its, rv, p', hz⟩ := I1.tuple hq
      have pt : s1.heap.IsTuple a its.toArray := p'
      refine enum1_begins (begins_tuple a its.toArray) pt fun h' he hit hsz hk => wpAny_pyIter_enum he ?_
      have I2 : Inv X pins σ H1 { s1 with heap := h' } := I1.kept (t' := s1.toks) hk
      exact ⟨s1.heap.objs.size + 1, [s1.heap.objs.size + 1, s1.heap.objs.size], _, _, H1, rfl, I2, turn_enumT a (s1.heap.objs.size + 1) s1.heap.objs.size, ⟨⟨.none, he⟩, ⟨_, hit, rfl, rfl⟩, Nat.succ_ne_self _⟩, fun b hb => I1.fpOk (fin b hb) (I1.hok.fresh (fin b hb)), q⟩
def enumFA (ds : List D) : M Src := fun st => match ds with
  | [.val (.list xs)] => .ok (.fix (enumP xs)) st
  | [.val (.tuple xs)] => .ok (.fix (enumP xs)) st
  | _ => .bad
def enumA (fr : B.Env → M (List D)) : B.Env → M Src := fun env => bd (fr env) enumFA
theorem si_enumA [Nm] [Gd] {X : Cx} {E : XK} {K : W.Frag} {e : Expr} {tr : TA} {fr : B.Env → M (List D)} {elts : List Expr} {kk : Nat} {tpos p pos : Pos} (hm : X.mg "enumerate" = none) (ha : SA X E [e] tr fr) (hK : X.K = K := by rfl) (hg : Gl X "enumerate" := by rfl) (hs : starEach [e] X.env = [(false, eval e X.env)] := by rfl) :
    SI X E (.Tuple elts kk tpos) (.Call (.Name "enumerate" p) [e] [] pos) (iEnumA K tr) (enumA fr) := by
  subst hK
  refine ⟨pi_enumA hg hm ha.pa hs, fun w σ H env st Q s0 e0 hp => ?_⟩
  refine ha.rf.step s0 e0 hp fun w1 H1 st1 ds vs g1 s1 e1 q1 hp => ?_
  unfold enumFA at hp
  split at hp
  · rename_i xs
    obtain ⟨v, rfl, r1⟩ := q1.one
    cases r1 with
    | @ls a us _ hl rr =>
      refine .inl ⟨a, us, rfl, hl.sq, Post.now hp s1 fun w2 H2 st2 mo fk2 s2 => ⟨fun i x hx => ?_, ?_⟩⟩
      · obtain ⟨d, hd, rfl⟩ := enumP_get hx
        obtain ⟨u, hu, ru⟩ := (Rps.mo mo rr).get hd
        refine ⟨⟨us, u, (hl.mo mo).sq, hu⟩, ?_⟩
        rintro v H3 ⟨T, y, rfl, hT, rfl, hy⟩
        have ey : y = u := by
          have := hy us (hl.mo mo).sq
          rw [hu] at this
          exact (Option.some.inj this).symm
        subst ey
        exact ⟨Same.new hT, Rp.newTup (s2.notin hT) (.cons (.int _) (.cons ru .nil)) hT⟩
      · refine ⟨us, (hl.mo mo).sq, ?_⟩
        simp only [enumP, List.length_map, List.length_range]
        rw [rr.length]
        exact Nat.le_refl _
  · rename_i xs
    obtain ⟨v, rfl, r1⟩ := q1.one
    cases r1 with
    | @tup a us _ hl rr =>
      refine .inr ⟨a, us, rfl, hl.sq, Post.now hp s1 fun w2 H2 st2 mo fk2 s2 => ⟨fun i x hx => ?_, ?_⟩⟩
      · obtain ⟨d, hd, rfl⟩ := enumP_get hx
        obtain ⟨u, hu, ru⟩ := (Rps.mo mo rr).get hd
        refine ⟨⟨us, u, (hl.mo mo).sq, hu⟩, ?_⟩
        rintro v H3 ⟨T, y, rfl, hT, rfl, hy⟩
        have ey : y = u := by
          have := hy us (hl.mo mo).sq
          rw [hu] at this
          exact (Option.some.inj this).symm
        subst ey
        exact ⟨Same.new hT, Rp.newTup (s2.notin hT) (.cons (.int _) (.cons ru .nil)) hT⟩
      · refine ⟨us, (hl.mo mo).sq, ?_⟩
        simp only [enumP, List.length_map, List.length_range]
        rw [rr.length]
        exact Nat.le_refl _
  · exact hp.elim
section
variable {env : B.Env} {st : Store} {X : Ex → Store → Prop}
@[simp] theorem e_enumA {fr : B.Env → M (List D)} {Q : Src → Store → Prop} : wpx X (enumA fr env st) Q = wpx X (bd (fr env) enumFA st) Q := by first | exact propext Iff.rfl | exact wp_D | exact wp_D.trans wp_D.symm
@[simp] theorem f_enumAL {xs : List PyData} {Q : Src → Store → Prop} : wpx X (enumFA [.val (.list xs)] st) Q = Q (.fix (enumP xs)) st := by first | exact propext Iff.rfl | exact wp_D | exact wp_D.trans wp_D.symm
end
end B
namespace B
open PySem L2
mutual
def wt : PyData → Nat
  | .none => 4
  | .bool _ => 5
  | .int _ => 211
  | .str x => 10 * x.length + 2
  | .list xs => wtAll xs + 3
  | .tuple xs => wtAll xs + 3
  | .dict _ => 0
def wtAll : List PyData → Nat
  | [] => 0
  | x :: r => wt x + 2 + wtAll r
end
mutual
def okD : PyData → Bool
  | .none => true
  | .bool _ => true
  | .int i => decide (i.natAbs < 2 ^ 210)
  | .str x => x.cps.toList.all fun c => decide (c < 1114112)
  | .list xs => okAll xs
  | .tuple xs => okAll xs
  | .dict _ => false
def okAll : List PyData → Bool
  | [] => true
  | x :: r => okD x && okAll r
end
mutual
theorem sz_of : ∀ {p : PyData}, okD p = true → Sz (wt p) p.depth p
  | .none, _ => ⟨by decide +kernel, by decide +kernel, Nat.le_refl _⟩
  | .bool true, _ => ⟨by decide +kernel, by decide +kernel, Nat.le_refl _⟩
  | .bool false, _ => ⟨by decide +kernel, by decide +kernel, Nat.le_refl _⟩
  | .int i, h => by
    simp only [okD, decide_eq_true_eq] at h
    exact (Sz.int (k := 210) (by decide) (by decide) h).mono (by simp [wt]) (Nat.zero_le _)
  | .str x, h => by
    simp only [okD, List.all_eq_true, decide_eq_true_eq] at h
    exact (Sz.str (m := x.length) ⟨Nat.le_refl _, h⟩).mono (by simp [wt]) (Nat.zero_le _)
  | .list xs, h => by
    simp only [okD] at h
    obtain ⟨h1, h2, h3⟩ := szAll_of h
    refine ⟨by simp only [PyData.showable, h1], ?_, Nat.le_refl _⟩
    simp only [PyData.shown, wt]
    have h4 := PySem.listText_len_le (PyData.shownAll xs)
    rw [PyData.shownAll_length] at h4
    omega
  | .tuple xs, h => by
    simp only [okD] at h
    obtain ⟨h1, h2, h3⟩ := szAll_of h
    refine ⟨by simp only [PyData.showable, h1], ?_, Nat.le_refl _⟩
    simp only [PyData.shown, wt]
    have h4 := PySem.tupleText_len_le (PyData.shownAll xs)
    rw [PyData.shownAll_length] at h4
    omega
  | .dict _, h => by simp [okD] at h
theorem szAll_of : ∀ {xs : List PyData}, okAll xs = true → PyData.showableAll xs = true ∧ ((PyData.shownAll xs).map (·.length)).sum + 2 * xs.length ≤ wtAll xs ∧ True
  | [], _ => ⟨rfl, by simp [PyData.shownAll, wtAll], trivial⟩
  | x :: r, h => by
    simp only [okAll, Bool.and_eq_true] at h
    obtain ⟨h1, h2, h3⟩ := szAll_of h.2
    have hx := sz_of h.1
    refine ⟨by simp only [PyData.showableAll, hx.sh, h1, Bool.and_self], ?_, trivial⟩
    simp only [PyData.shownAll, List.map_cons, List.sum_cons, List.length_cons, wtAll]
    have := hx.len
    omega
end
theorem okAll_iff : ∀ {xs : List PyData}, okAll xs = true ↔ ∀ x ∈ xs, okD x = true
  | [] => by simp [okAll]
  | x :: r => by simp [okAll, okAll_iff (xs := r)]
theorem wt_mem : ∀ {xs : List PyData} {x : PyData}, x ∈ xs → wt x + 2 ≤ wtAll xs
  | y :: r, x, h => by
    simp only [wtAll]
    rcases List.mem_cons.mp h with rfl | h
    · omega
    · have := wt_mem h; omega
theorem wtAll_len : ∀ (xs : List PyData), 2 * xs.length ≤ wtAll xs
  | [] => by simp
  | x :: r => by have := wtAll_len r; simp only [List.length_cons, wtAll]; omega
theorem wtAll_le {n : Nat} : ∀ {xs : List PyData}, (∀ x ∈ xs, wt x ≤ n) → wtAll xs ≤ xs.length * (n + 2)
  | [], _ => by simp [wtAll]
  | x :: r, h => by
    have h1 := wtAll_le (xs := r) fun y hy => h y (List.mem_cons_of_mem _ hy)
    have h2 := h x (List.mem_cons_self ..)
    simp only [wtAll, List.length_cons, Nat.succ_mul]
    omega
def Lit (n k : Nat) (p : PyData) : Prop := okD p = true ∧ wt p ≤ n ∧ p.depth ≤ k
def litB (n k : Nat) (p : PyData) : Bool := okD p && decide (wt p ≤ n ∧ p.depth ≤ k)
theorem Lit.of {n k : Nat} {p : PyData} (h : litB n k p = true) : Lit n k p := by
  simp only [litB, Bool.and_eq_true, decide_eq_true_eq] at h; exact h
theorem Lit.sz {n k : Nat} {p : PyData} (h : Lit n k p) : Sz n k p := (sz_of h.1).mono h.2.1 h.2.2
theorem okD_str {m : Nat} {x : Str} (h : Sm m x) : okD (.str x) = true := by
  simp only [okD, List.all_eq_true, decide_eq_true_eq]; exact h.2
theorem okD_int {i : Int} (h : i.natAbs < 2 ^ 210) : okD (.int i) = true := by
  simp only [okD, decide_eq_true_eq]; exact h
theorem okD_t {xs : List PyData} : okD (.tuple xs) = okAll xs := by simp only [okD]
theorem okD_l {xs : List PyData} : okD (.list xs) = okAll xs := by simp only [okD]
theorem okAll_n : okAll [] = true := by simp only [okAll]
theorem okAll_c {x : PyData} {r : List PyData} : okAll (x :: r) = (okD x && okAll r) := by simp only [okAll]
theorem okD_n : okD .none = true := by simp only [okD]
theorem okD_b {b : Bool} : okD (.bool b) = true := by simp only [okD]
theorem Lit.mono {n k n' k' : Nat} {p : PyData} (h : Lit n k p) (hn : n ≤ n') (hk : k ≤ k') : Lit n' k' p := ⟨h.1, Nat.le_trans h.2.1 hn, Nat.le_trans h.2.2 hk⟩
theorem Lit.nil {k : Nat} : okAll [] = true ∧ wtAll [] ≤ 0 ∧ PyData.depthAll [] ≤ k := ⟨rfl, by simp [wtAll], Nat.zero_le _⟩
theorem Lit.none {k : Nat} : Lit 4 k .none := ⟨okD_n, by simp [wt], Nat.zero_le _⟩
theorem Lit.bool {k : Nat} {b : Bool} : Lit 5 k (.bool b) := ⟨okD_b, by simp [wt], Nat.zero_le _⟩
theorem Lit.int {k : Nat} {i : Int} (h : i.natAbs < 2 ^ 210) : Lit 211 k (.int i) := ⟨okD_int h, by simp [wt], Nat.zero_le _⟩
theorem Lit.str {m k : Nat} {x : Str} (h : Sm m x) : Lit (10 * m + 2) k (.str x) := ⟨okD_str h, by have := h.1; simp only [wt]; omega, Nat.zero_le _⟩
theorem Lit.tuple {n k : Nat} {xs : List PyData} (h : okAll xs = true) (hw : wtAll xs ≤ n) (hd : PyData.depthAll xs ≤ k) : Lit (n + 3) (k + 1) (.tuple xs) := ⟨by rw [okD_t]; exact h, by simp only [wt]; omega, by simp only [PyData.depth]; omega⟩
theorem Lit.list {n k : Nat} {xs : List PyData} (h : okAll xs = true) (hw : wtAll xs ≤ n) (hd : PyData.depthAll xs ≤ k) : Lit (n + 3) (k + 1) (.list xs) := ⟨by rw [okD_l]; exact h, by simp only [wt]; omega, by simp only [PyData.depth]; omega⟩
theorem depthAll_le {k : Nat} : ∀ {xs : List PyData}, PyData.depthAll xs ≤ k ↔ ∀ x ∈ xs, x.depth ≤ k
  | [] => by simp [PyData.depthAll]
  | x :: r => by simp [PyData.depthAll, Nat.max_le, depthAll_le (xs := r)]
theorem Lit.tup {n k m : Nat} {xs : List PyData} (h : ∀ x ∈ xs, Lit n k x) (hm : xs.length ≤ m) : Lit (m * (n + 2) + 3) (k + 1) (.tuple xs) :=
  Lit.tuple (okAll_iff.mpr fun x hx => (h x hx).1) (Nat.le_trans (wtAll_le fun x hx => (h x hx).2.1) (Nat.mul_le_mul_right _ hm)) (depthAll_le.mpr fun x hx => (h x hx).2.2)
theorem Lit.lst {n k m : Nat} {xs : List PyData} (h : ∀ x ∈ xs, Lit n k x) (hm : xs.length ≤ m) : Lit (m * (n + 2) + 3) (k + 1) (.list xs) :=
  Lit.list (okAll_iff.mpr fun x hx => (h x hx).1) (Nat.le_trans (wtAll_le fun x hx => (h x hx).2.1) (Nat.mul_le_mul_right _ hm)) (depthAll_le.mpr fun x hx => (h x hx).2.2)
theorem Lit.txt {n k : Nat} {x : Str} (h : Lit n k (.str x)) : x.length ≤ n := by have := h.2.1; simp only [wt] at this; omega
theorem Lit.mem {n k : Nat} {xs : List PyData} {x : PyData} (h : Lit n k (.tuple xs)) (hx : x ∈ xs) : Lit n (k - 1) x := by
  refine ⟨okAll_iff.mp (by rw [← okD_t]; exact h.1) x hx, ?_, ?_⟩
  · have h1 := h.2.1; have h2 := wt_mem hx; simp only [wt] at h1; omega
  · have h1 := h.2.2; simp only [PyData.depth] at h1; have := depthAll_le.mp (Nat.le_refl (PyData.depthAll xs)) x hx; omega
theorem Lit.len {n k : Nat} {xs : List PyData} (h : Lit n k (.tuple xs)) : xs.length ≤ n := by have h1 := h.2.1; have := wtAll_len xs; simp only [wt] at h1; omega
theorem Sm.cutS {m : Nat} {x : Str} (h : Sm m x) (lo hi : Option Int) : Sm m (cutS x lo hi) := by
  refine ⟨Nat.le_trans (cutS_length x lo hi) h.1, fun c hc => h.2 c ?_⟩
  unfold L2.cutS at hc
  rw [List.toList_toArray] at hc
  exact List.mem_of_mem_drop (List.mem_of_mem_take hc)
theorem Lit.sm {n k : Nat} {x : Str} (h : Lit n k (.str x)) : Sm x.length x := by
  have := h.1
  simp only [okD, List.all_eq_true, decide_eq_true_eq] at this
  exact ⟨Nat.le_refl _, this⟩
end B
namespace B
open PySem L2
section
variable [Nm] [Gd]
variable {X : Cx} {E : XK} {e : Expr} {ta : TE} {fa : Env → M D} {pos : Pos}
end
variable {X : Ex → Store → Prop} {env : Env} {st : Store}
end B
namespace B
open PySem L2
section
variable [Nm] [Gd]
variable {X : Cx} {K : W.Frag} {E : XK}
end
variable {X : Ex → Store → Prop} {st : Store} {Q : D → Store → Prop}
end B
namespace B
open PySem PySem.Spec PyProof.Rows L2 HT
section
variable {prog : Program} {w : World} {A : Around} {E : Value → Shared → Prop} {s : Shared}
end
section
variable [Nm] [Gd]
variable {X : Cx} {K : W.Frag} {E : XK} {e : Expr} {te : TE} {fe : Env → M D}
end
variable {X : Ex → Store → Prop} {st : Store} {env : Env} {Q : D → Store → Prop}
end B
namespace B
open PySem L2
def Asc (x : Str) : Prop := ∀ c ∈ x.cps.toList, c < 128
def ascB (x : Str) : Bool := x.cps.toList.all fun c => decide (c < 128)
theorem asc_iff {x : Str} : ascB x = true ↔ Asc x := by
  unfold ascB Asc
  rw [List.all_eq_true]
  exact ⟨fun h c hc => of_decide_eq_true (h c hc), fun h c hc => decide_eq_true (h c hc)⟩
theorem Asc.cut {x : Str} (h : Asc x) (lo hi : Option Int) : Asc (cutS x lo hi) := by
  intro c hc
  unfold L2.cutS at hc
  rw [List.toList_toArray] at hc
  exact h c (List.mem_of_mem_drop (List.mem_of_mem_take hc))
mutual
def okA (L : Nat) : PyData → Bool
  | .none => true
  | .bool _ => true
  | .int i => decide (i.natAbs ≤ L)
  | .str x => ascB x
  | .list xs => okAs L xs
  | .tuple xs => okAs L xs
  | .dict _ => false
def okAs (L : Nat) : List PyData → Bool
  | [] => true
  | x :: r => okA L x && okAs L r
end
mutual
theorem okA_D {L : Nat} (hL : L < 2 ^ 210) : ∀ {p : PyData}, okA L p = true → okD p = true
  | .none, _ => okD_n
  | .bool _, _ => okD_b
  | .int i, h => by
    simp only [okA, decide_eq_true_eq] at h
    exact okD_int (Nat.lt_of_le_of_lt h hL)
  | .str x, h => by
    simp only [okA] at h
    simp only [okD, List.all_eq_true, decide_eq_true_eq]
    exact fun c hc => Nat.lt_trans (asc_iff.mp h c hc) (by decide)
  | .list xs, h => by rw [okD_l]; simp only [okA] at h; exact okAs_D hL h
  | .tuple xs, h => by rw [okD_t]; simp only [okA] at h; exact okAs_D hL h
  | .dict _, h => by simp [okA] at h
theorem okAs_D {L : Nat} (hL : L < 2 ^ 210) : ∀ {xs : List PyData}, okAs L xs = true → okAll xs = true
  | [], _ => okAll_n
  | x :: r, h => by
    simp only [okAs, Bool.and_eq_true] at h
    rw [okAll_c, okA_D hL h.1, okAs_D hL h.2]; rfl
end
mutual
theorem okA_mono {L L' : Nat} (hL : L ≤ L') : ∀ {p : PyData}, okA L p = true → okA L' p = true
  | .none, _ => by simp only [okA]
  | .bool _, _ => by simp only [okA]
  | .int i, h => by simp only [okA, decide_eq_true_eq] at h ⊢; omega
  | .str x, h => by simp only [okA] at h ⊢; exact h
  | .list xs, h => by simp only [okA] at h ⊢; exact okAs_mono hL h
  | .tuple xs, h => by simp only [okA] at h ⊢; exact okAs_mono hL h
  | .dict _, h => by simp [okA] at h
theorem okAs_mono {L L' : Nat} (hL : L ≤ L') : ∀ {xs : List PyData}, okAs L xs = true → okAs L' xs = true
  | [], _ => by simp only [okAs]
  | x :: r, h => by
    simp only [okAs, Bool.and_eq_true] at h ⊢
    exact ⟨okA_mono hL h.1, okAs_mono hL h.2⟩
end
structure Sa (L W k : Nat) (p : PyData) : Prop where
  ok : okA L p = true
  w : wt p ≤ W
  d : p.depth ≤ k
theorem Sa.mono {L W k L' W' k' : Nat} {p : PyData} (h : Sa L W k p) (hL : L ≤ L') (hW : W ≤ W') (hk : k ≤ k') : Sa L' W' k' p := ⟨okA_mono hL h.ok, Nat.le_trans h.w hW, Nat.le_trans h.d hk⟩
def saB (L W k : Nat) (p : PyData) : Bool := okA L p && decide (wt p ≤ W ∧ p.depth ≤ k)
theorem Sa.of {L W k : Nat} {p : PyData} (h : saB L W k p = true) : Sa L W k p := by
  simp only [saB, Bool.and_eq_true, decide_eq_true_eq] at h; exact ⟨h.1, h.2.1, h.2.2⟩
theorem Sa.lit {L W k : Nat} {p : PyData} (h : Sa L W k p) (hL : L < 2 ^ 210) : Lit W k p := ⟨okA_D hL h.ok, h.w, h.d⟩
end B
namespace B
open PySem L2
theorem Lit.two {a b k : Nat} {p q : PyData} (h : Lit a k p) (h' : Lit b k q) : Lit (a + b + 7) (k + 1) (.tuple [p, q]) :=
  ⟨by simp only [okD_t, okAll_c, okAll_n, h.1, h'.1, Bool.and_self], by have h1 := h.2.1; have h2 := h'.2.1; simp only [wt, wtAll]; omega, by have h1 := h.2.2; have h2 := h'.2.2; simp only [PyData.depth, PyData.depthAll]; omega⟩
end B
namespace B
open PySem L2
def namP : PyData → Bool
  | .str x => nmB x
  | _ => false
def numP : PyData → Bool
  | .int n => decide (0 ≤ n)
  | _ => false
def Tx (p : PyData) : Prop := ∀ x, p = .str x → x.length ≤ 16777216
def spotP : PyData → Bool
  | .tuple [a, b] => namP a && numP b
  | _ => false
def Sml (p : PyData) : Prop := Lit 4000000 60 p
theorem Sml.mem {xs : List PyData} {x : PyData} (h : Sml (.tuple xs)) (hx : x ∈ xs) : Sml x := (Lit.mem h hx).mono (Nat.le_refl _) (by decide)
theorem Sml.len {xs : List PyData} (h : Sml (.tuple xs)) : xs.length ≤ 16777216 := Nat.le_trans (Lit.len h) (by decide)
theorem Sml.tx {p : PyData} (h : Sml p) : Tx p := by rintro x rfl; exact Nat.le_trans (Lit.txt h) (by decide)
theorem Sml.dep {p : PyData} (h : Sml p) : p.depth ≤ 64 := Nat.le_trans h.2.2 (by decide)
end B
namespace B
open PySem L2
section
variable [Nm] [Gd]
variable {X : Cx} {K : W.Frag} {E : XK} {e o v : Expr} {es : List Expr} {te to tv : TE} {tr : TA} {fe fo fv : Env → M D} {fr : Env → M (List D)} {pos apos pos' : Pos}
def fldF (C f : Str) (d : D) : M D := fun st => match d with
  | .loc n => (match st[n]? with
    | some (.ins C' fs) => if C' = C then (match fs.lookup f with
      | some x => .ok x st
      | none => .bad) else .bad
    | _ => .bad)
  | _ => .bad
def fldE (C f : Str) (fe : Env → M D) : Env → M D := fun env => bd (fe env) (fldF C f)
theorem se_fld {C f : Str} (he : SE X E e te fe) (c : Cls X.K (Nm.cl C)) (n : NoAttr X.K (Nm.cl C) f) (hb : attributeBase e f X.env (eval e X.env) = eval e X.env := by rfl) :
    SE X E (.Attribute e f pos) (tFld X.K te f) (fldE C f fe) := by
  refine ⟨pe_fld he.pe hb, fun w σ H env st Q s0 e0 hp => ?_⟩
  refine he.rf.step s0 e0 hp fun r1 H1 st1 x u g1 s1 e1 q1 hq => ?_
  clear hp
  cases x with
  | loc m =>
    simp only [fldF] at hq
    cases hm : st1[m]? with
    | none => simp only [hm] at hq; exact hq.elim
    | some ob =>
      cases ob with
      | ins C' fs =>
        simp only [hm] at hq
        by_cases eC : C' = C
        · simp only [eC, if_true] at hq
          subst eC
          obtain ⟨a, rfl, ha, dx, gs, hx, rf⟩ := s1.at hm q1
          cases hl : fs.lookup f with
          | none => rw [hl] at hq; exact hq.elim
          | some d =>
            rw [hl] at hq
            obtain ⟨y, hy, ry⟩ := (rf.2 f).1 d hl
            exact ⟨a, _, dx, gs, y, rfl, hx, c, n, hy, Post.now hq s1 ry⟩
        · simp only [eC, if_false] at hq
          exact hq.elim
      | _ => simp only [hm] at hq; exact hq.elim
  | _ => exact hq.elim
def putD (f : Str) (x : D) : List (Str × D) → List (Str × D)
  | [] => [(f, x)]
  | (g, y) :: r => if g = f then (g, x) :: r else (g, y) :: putD f x r
theorem look_cons (g k : Str) (y : D) (r : List (Str × D)) : List.lookup g ((k, y) :: r) = if g = k then some y else List.lookup g r := by
  rw [List.lookup_cons]
  by_cases h : g = k
  · have hb : (g == k) = true := beq_iff_eq.mpr h
    rw [hb, if_pos h]
  · have hb : (g == k) = false := beq_eq_false_iff_ne.mpr h
    rw [hb, if_neg h]
theorem lookup_putD (f g : Str) (x : D) : ∀ fs : List (Str × D), (putD f x fs).lookup g = if g = f then some x else fs.lookup g
  | [] => by simp only [putD, look_cons]
  | (k, y) :: r => by
    simp only [putD]
    by_cases hk : k = f
    · subst hk
      rw [if_pos rfl, look_cons, look_cons]
      by_cases h : g = k <;> simp [h]
    · rw [if_neg hk, look_cons, look_cons, lookup_putD f g x r]
      by_cases h : g = k
      · subst h; simp [hk]
      · simp [h]
theorem keys_put {K : W.Frag} (f : Str) (x : D) (u : V) : ∀ {fs : List (Str × D)} {gs : List (Str × V)}, fs.map (·.1) = gs.map (·.1) → (putD f x fs).map (·.1) = (putF f u gs).map (·.1)
  | [], [], _ => rfl
  | (k, y) :: r, (k', y') :: r', h => by
    simp only [List.map_cons, List.cons.injEq] at h
    obtain ⟨rfl, h⟩ := h
    simp only [putD, putF]
    by_cases hk : k = f
    · subst hk; simp [h]
    · simp [hk, keys_put (K := K) f x u h]
  | [], _ :: _, h => by simp at h
  | _ :: _, [], h => by simp at h
theorem RpF.put {w : Wd} {H : Hp} {fs : List (Str × D)} {gs : List (Str × V)} (h : RpF K w H fs gs) (f : Str) {x : D} {u : V} (r : RpD K w H x u) : RpF K w H (putD f x fs) (putF f u gs) := by
  refine ⟨keys_put (K := K) f x u h.1, fun g => ?_⟩
  rw [lookup_putD, lookup_putF]
  by_cases e : g = f
  · simp only [e, if_true]
    exact ⟨fun d hd => by cases hd; exact ⟨u, rfl, r⟩, fun z => by cases z⟩
  · simp only [e, if_false]
    exact h.2 g
def fputS (C f : Str) (fo fv : Env → M D) : Env → M Fl := fun env => bd (fv env) fun y => bd (fo env) fun x => fun st => match x with
  | .loc n => (match st[n]? with
    | some (.ins C' fs) => if C' = C ∧ fs.length < 1000 then .ok (.nx env) (st.set n (.ins C (putD f y fs))) else .bad
    | _ => .bad)
  | _ => .bad
theorem ss_fput {C f : Str} (ho : SE X E o to fo) (hv : SE X E v tv fv) (c : Cls X.K (Nm.cl C)) (n : NoAttr X.K (Nm.cl C) f) (hs : swapsWith v (some (.Attribute o f pos')) pos.line X.env = pure false := by rfl) :
    SS X E (.Assign [.Attribute o f pos'] v pos) (sFld X.K to tv f) (fputS C f fo fv) := by
  refine ⟨ps_fld ho.pe hv.pe hs, fun w σ H env st Z s0 e0 hp => ?_⟩
  refine hv.rf.stepS s0 e0 hp fun r1 H1 st1 y u g1 s1 e1 q1 hp => ?_
  refine ho.rf.stepS s1 e1 hp fun r2 H2 st2 x t g2 s2 e2 q2 hp => ?_
  cases x with
  | loc m =>
    cases hm : st2[m]? with
    | none => simp only [hm] at hp; exact hp.elim
    | some ob =>
      cases ob with
      | ins C' fs =>
        simp only [hm] at hp
        split at hp
        · rename_i eC
          obtain ⟨rfl, hl⟩ := eC
          obtain ⟨a, rfl, ha, dx, gs, hx, rf⟩ := s2.at hm q2
          have hlen : gs.length = fs.length := by have := congrArg List.length rf.1; simpa using this.symm
          refine ⟨a, _, dx, gs, rfl, hx, c, n, by omega, ?_⟩
          obtain ⟨s3, g3⟩ := s2.write (o := .ins C' (putD f y fs)) (u := .ins (Nm.cl C') dx (putF f u gs)) ha ⟨dx, _, upd_same, ((rf.put f (q1.mono g2)).mono (.write ha (by rw [hx]; intro _ _ z; cases z)))⟩ (by rw [hx]; intro _ _ z; cases z)
          exact hp r2 _ _ g3 s3 (e2.mono g3)
        · exact hp.elim
      | _ => simp only [hm] at hp; exact hp.elim
  | _ => exact hp.elim
def isInsF (C m : Str) (d : D) : M Unit := fun st => match d with
  | .loc n => (match st[n]? with
    | some (.ins C' fs) => if C' = C ∧ fs.lookup m = none then .ok () st else .bad
    | _ => .bad)
  | _ => .bad
def methF (C m : Str) (md : List D → M D) (fo : Env → M D) (fr : Env → M (List D)) : Env → M D := fun env => bd (fo env) fun x => bd (isInsF C m x) fun _ => bd (fr env) fun ds => md (x :: ds)
theorem isIns_ok {C m : Str} {x : D} {st : Store} {w : Wd} {H : Hp} {u : V} {r : Res Unit} (e : isInsF C m x st = r) (hs : RelSt K w H st) (q : RpD K w H x u) :
    r = .bad ∨ (r = .ok () st ∧ ∃ a dx gs, u = .ref a ∧ H a = some (.ins (Nm.cl C) dx gs) ∧ gs.lookup m = none) := by
  subst e
  cases x with
  | loc n =>
    simp only [isInsF]
    cases hm : st[n]? with
    | none => exact .inl rfl
    | some ob =>
      cases ob with
      | ins C' fs =>
        by_cases eC : C' = C ∧ fs.lookup m = none
        · simp only [eC, and_self, if_true]
          obtain ⟨rfl, hl⟩ := eC
          obtain ⟨a, rfl, ha, dx, gs, hx, rf⟩ := hs.at hm q
          exact .inr ⟨trivial, a, dx, gs, rfl, hx, (rf.2 m).2 hl⟩
        · simp only [eC, if_false]
          exact .inl trivial
      | _ => exact .inl rfl
  | _ => exact .inl rfl
theorem pg_meth {C f : Addr} {m : Str} {k : Nat} {fd : FuncData} {ps : List Str} {sp : Sp} {pl : Sem Bool} (he : PE X o to) (c : Cls X.K C) (hm : Meth X.K C m f) (F : FnG X.prog X.w X.K X.mg X.base k f fd ps sp) (hr : Room k X.A) (hG : X.A.guards = some []) (hb : Binds X.K fd ps []) (hx : Passes (L2.CX X.prog X.w) X E) (ha : PA X (e :: es) tr)
    (hst : starEach (e :: es) X.env = (false, eval e X.env) :: starEach es X.env) (hpl : (backTo pos (starEach es X.env)).any (·.1) = false)
    (ht : eval (.Call (.Attribute o m apos) (e :: es) [] pos) X.env = (eval o X.env >>= fun ov => standAt apos.atName >>= fun _ => holding [ov] (getMethod ov m pl) >>= fun p => callWith pos p.1 p.2 (backTo pos (starEach (e :: es) X.env)) (backToKw pos (keywordEach [] X.env)))) :
    PE X (.Call (.Attribute o m apos) (e :: es) [] pos) (tMeth C m sp [] E to tr) := by
  refine ⟨fun pins s σ H Q I h => PySem.W.methodCall_KW (pl := pl) (thn (he.run pins s σ H _ I h) fun u s1 ⟨x, H1, I1, rx, a, dx, fs, ex, ea, l, q⟩ => ?_) ht⟩
  cases ex
  cases rx
  refine getmeth_ok I1 ea c hm l (PySem.W.callWith_K (first := [.ref a]) (h₀ := X.base) I.ok.mod.kin hm.kp (thn (ha.run pos pins s1 σ H1 _ I1 q) fun us s2 ⟨vs, H2, I2, r, q2⟩ => ⟨I2.kIn, ?_⟩) hst hpl)
  replace q2 : sp (V.ref a :: (vs ++ [])) H2 Q E := q2
  rw [List.append_nil] at q2
  exact goFn (vs := V.ref a :: vs) F hr hG hb hx I2 (.cons rfl r) q2
theorem rf_meth {C m : Str} {md : List D → M D} {n : Nat} (hn : lenIs n fr) (ho : Rf K E (RE K) to fo) (ha : Rf K E (RA K) tr fr) : Rf K E (RE K) (tMeth (Nm.cl C) m (spOf K (n + 1) md) [] E to tr) (methF C m md fo fr) := by
  intro w σ H env st Q s0 e0 hp
  refine ho.step s0 e0 hp fun r1 H1 st1 x u g1 s1 e1 q1 hq => ?_
  clear hp
  rcases isIns_ok (C := C) (m := m) rfl s1 q1 with e | ⟨e, a, dx, gs, rfl, hx, hl⟩
  · rw [bd_bad e] at hq; exact hq.elim
  · rw [bd_ok e] at hq
    refine ⟨a, dx, gs, rfl, hx, hl, ?_⟩
    have hlen := hn env st1
    cases hf : fr env st1 with
    | ok ds st2 =>
      rw [bd_ok hf] at hq
      refine ha r1 σ H1 env st1 _ s1 e1 ?_
      rw [hf]
      intro r2 H2 vs g2 s2 q2
      rw [List.append_nil]
      refine ⟨by have := RpDs.length q2; rw [List.length_cons, ← this, hlen ds st2 hf], r2, st2, x :: ds, s2, .cons (q1.mono g2) q2, hq.mono g2⟩
    | exc e st2 => rw [bd_exc hf] at hq; exact ha r1 σ H1 env st1 _ s1 e1 (by rw [hf]; exact hq)
    | bad => rw [bd_bad hf] at hq; exact hq.elim
theorem se_meth {C m : Str} {f : Addr} {k n : Nat} {fd : FuncData} {ps : List Str} {md : List D → M D} {pl : Sem Bool} (F : FnG X.prog X.w X.K X.mg X.base k f fd ps (spOf X.K (n + 1) md)) (hr : Room k X.A) (hG : X.A.guards = some []) (hm : Meth X.K (Nm.cl C) m f) (c : Cls X.K (Nm.cl C)) (hb : Binds X.K fd ps []) (hx : Passes (L2.CX X.prog X.w) X E)
    (ho : SE X E o to fo) (ha : SA X E (e :: es) tr fr) (hn : lenIs n fr) (hst : starEach (e :: es) X.env = (false, eval e X.env) :: starEach es X.env := by rfl) (hpl : (backTo pos (starEach es X.env)).any (·.1) = false := by rfl)
    (ht : eval (.Call (.Attribute o m apos) (e :: es) [] pos) X.env = (eval o X.env >>= fun ov => standAt apos.atName >>= fun _ => holding [ov] (getMethod ov m pl) >>= fun p => callWith pos p.1 p.2 (backTo pos (starEach (e :: es) X.env)) (backToKw pos (keywordEach [] X.env))) := by rfl) :
    SE X E (.Call (.Attribute o m apos) (e :: es) [] pos) (tMeth (Nm.cl C) m (spOf X.K (n + 1) md) [] E to tr) (methF C m md fo fr) :=
  ⟨pg_meth ho.pe c hm F hr hG hb hx ha.pa hst hpl ht, rf_meth hn ho.rf ha.rf⟩
def mkF (C : Str) (dd : List D) (mi : List D → M D) (fr : Env → M (List D)) : Env → M D := fun env => bd (fr env) fun ds => fun st => match mi (.loc st.length :: (ds ++ dd)) (st ++ [.ins C []]) with
  | .ok (.val .none) st' => .ok (.loc st.length) st'
  | .exc e st' => .exc e st'
  | _ => .bad
theorem goMake {C f : Addr} {k : Nat} {fd : FuncData} {ps : List Str} {sp : Sp} {dvs : List V} {dus : List Value} {pins : List (Addr × Obj)} {σ : St} {H : Hp} {s : Shared} {Q : VK} {us : List Value} {vs : List V} (M : Mk X.K C f) (F : FnG X.prog X.w X.K X.mg X.base k f fd ps sp) (hr : Room (k + 1) X.A) (hG : X.A.guards = some []) (hb : Binds X.K fd ps dus) (hd : Vals dvs dus)
    (hx : Passes (L2.CX X.prog X.w) X E) (I : Inv X pins σ H s) (r : Vals vs us)
    (h : ∀ x dx, H x = none → H dx = none → dx ≠ x → sp (.ref x :: (vs ++ dvs)) (upd (upd H dx (.own x)) x (.ins C dx [])) (fun y H2 => y = .non ∧ Q (.ref x) H2) E) :
    wpAny (model X.prog X.w) X.A (call (.ref C) us) (EP X pins σ Q) X.xe s := by
  have q0 := h (s.heap.objs.size + 1) s.heap.objs.size (I.hok.fresh (Nat.le_succ _)) (I.hok.fresh (Nat.le_refl _)) (Nat.ne_of_lt (Nat.lt_succ_self _))
  have J := Inv.made (C := C) I
  have rr : Vals (V.ref (s.heap.objs.size + 1) :: (vs ++ dvs)) (Value.ref (s.heap.objs.size + 1) :: (us ++ dus)) := .cons rfl (r.append hd)
  have lz : (Value.ref (s.heap.objs.size + 1) :: us ++ dus).length = ps.length := (rr.length.symm.trans (F.size _ _ _ _ q0))
  refine wpAny_call (make_map (f := f) I.kIn M.makes M.init (beq_iff_eq.mp M.fn) (codeAny_mono (F.goes _ X.stack _ _ ⟨Value.ref (s.heap.objs.size + 1) :: us, []⟩ (Value.ref (s.heap.objs.size + 1) :: (us ++ dus)) _ _ E (hr.make C us []) ?g
    (J.env0.make C us []) (hb _ (Value.ref (s.heap.objs.size + 1) :: us) J.kIn lz) rr q0) fun r s' hq => ?_))
  case g => first | exact hG | (simp [Around.under, hG]) | (unfold Around.under; simp [hG])
  have z := CR.after hx J hq
  cases r with
  | error e => exact z
  | ok fl =>
    cases fl with
    | ret u =>
      obtain ⟨v, H', I3, rv, ev, q3⟩ := z
      subst ev
      exact ⟨rv, ⟨V.ref _, H', I3, rfl, q3⟩⟩
    | next => exact z.elim
    | brk => exact z.elim
    | cont => exact z.elim
theorem RpDs.app {w : Wd} {H : Hp} : ∀ {ds es : List D} {vs us : List V}, RpDs K w H ds vs → RpDs K w H es us → RpDs K w H (ds ++ es) (vs ++ us)
  | _, _, _, _, .nil, s => s
  | _, _, _, _, .cons r t, s => .cons r (RpDs.app t s)
theorem rf_make {C : Str} {mi : List D → M D} {n : Nat} {dd : List D} {dvs : List V} (hn : lenIs n fr) (hd : ∀ w H, RpDs K w H dd dvs) (ha : Rf K E (RA K) tr fr) : Rf K E (RE K) (tMake (Nm.cl C) (spOf K (n + dd.length + 1) mi) dvs E tr) (mkF C dd mi fr) := by
  intro w σ H env st Q s0 e0 hp
  have hlen := hn env st
  unfold mkF at hp
  cases hf : fr env st with
  | ok ds st1 =>
    rw [bd_ok hf] at hp
    refine ha w σ H env st _ s0 e0 ?_
    rw [hf]
    intro r1 H1 vs g1 s1 q1 x dx hx hdx hne
    replace hp := hp.mono g1
    have hl := hlen ds st1 hf
    have s2 := s1.new (o := HO.own x) hdx
    have g2 : Ge r1 H1 r1 (upd H1 dx (.own x)) := .new hdx
    have hx2 : upd H1 dx (HO.own x) x = none := by rw [upd_ne (Ne.symm hne)]; exact hx
    obtain ⟨s3, g3⟩ := s2.push (p := x) (o := .ins C []) (u := .ins (Nm.cl C) dx []) hx2 ⟨dx, [], upd_same, rfl, fun y => ⟨fun d e => (by cases e), fun _ => rfl⟩⟩
    have hat : (r1.add x).rho[st1.length]? = some x := by
      rw [s1.len]; simp
    have g13 := g2.trans g3
    refine ⟨?_, r1.add x, st1 ++ [.ins C []], .loc st1.length :: (ds ++ dd), s3, .cons ⟨x, rfl, hat⟩ (RpDs.app (q1.mono g13) (hd _ _)), ?_⟩
    · have h1 := RpDs.length q1
      have h2 := RpDs.length (hd w H)
      simp only [List.length_cons, List.length_append]; omega
    · cases hm : mi (.loc st1.length :: (ds ++ dd)) (st1 ++ [.ins C []]) with
      | ok d st' =>
        rw [hm] at hp
        cases d with
        | val p =>
          cases p with
          | none =>
            intro w' H' b g' s' rb
            cases rb
            exact ⟨rfl, hp w' H' (.ref x) (g13.trans g') s' ⟨x, rfl, g'.get hat⟩⟩
          | _ => exact hp.elim
        | _ => exact hp.elim
      | exc e st' =>
        rw [hm] at hp
        exact fun w' H' c dx' g' s' rx => hp w' H' c dx' (g13.trans g') s' rx
      | bad => rw [hm] at hp; exact hp.elim
  | exc e st1 => rw [bd_exc hf] at hp; exact ha w σ H env st _ s0 e0 (by rw [hf]; exact hp)
  | bad => rw [bd_bad hf] at hp; exact hp.elim
theorem se_make {C x : Str} {f : Addr} {k n : Nat} {fd : FuncData} {ps : List Str} {mi : List D → M D} {dd : List D} {dvs : List V} {dus : List Value} {p : Pos} (M : Mk X.K (Nm.cl C) f) (F : FnG X.prog X.w X.K X.mg X.base k f fd ps (spOf X.K (n + dd.length + 1) mi)) (hr : Room (k + 1) X.A) (hG : X.A.guards = some []) (hm : X.mg x = some (.ref (Nm.cl C))) (hb : Binds X.K fd ps dus) (hd : Vals dvs dus) (hdd : ∀ w H, RpDs X.K w H dd dvs)
    (hx : Passes (L2.CX X.prog X.w) X E) (ha : SA X E (e :: es) tr fr) (hn : lenIs n fr) (hg : Gl X x := by rfl) (hdb : (x == ("__debug__" : Str)) = false := by decide) (he : starEach (e :: es) X.env = (false, eval e X.env) :: starEach es X.env := by rfl) (hpl : (backTo pos (starEach es X.env)).any (·.1) = false := by rfl) :
    SE X E (.Call (.Name x p) (e :: es) [] pos) (tMake (Nm.cl C) (spOf X.K (n + dd.length + 1) mi) dvs E tr) (mkF C dd mi fr) := by
  refine ⟨⟨fun pins s σ H Q I h => wpAny_Call_Name_kw (ld_glob I hg hm ?_ hdb)⟩, rf_make hn hdd ha.rf⟩
  exact PySem.W.callWith_K (h₀ := X.base) I.ok.mod.kin M.kp (thn (ha.pa.run pos pins s σ H _ I h) fun us s1 ⟨vs, H1, I1, r, q⟩ => ⟨I1.kIn, goMake M F hr hG hb hd hx I1 r q⟩) he hpl
end
end B
namespace B
open PySem L2
variable [Nm] [Gd]
def PostK (K : W.Frag) (p : Addr) (w : Wd) (H : Hp) (r : Res (List (Key × PyData))) (Nx : Hp → Prop) : Prop :=
  match r with
  | .ok acc st' => ∀ w' H' vs, Ge w H w' H' → RelSt K w' H' st' → H' p = none → RpK K w' H' acc vs → Nx (upd H' p (.dK vs))
  | _ => False
theorem PostK.mono {K : W.Frag} {p : Addr} {w w' : Wd} {H H' : Hp} {r : Res (List (Key × PyData))} {Nx : Hp → Prop} (g : Ge w H w' H') (h : PostK K p w H r Nx) : PostK K p w' H' r Nx := by
  cases r with
  | ok acc st => exact fun w2 H2 vs g2 => h w2 H2 vs (g.trans g2)
  | exc e st => exact h
  | bad => exact h
theorem Ge.grown {K : W.Frag} {w : Wd} {H : Hp} {st : Store} {p : Addr} {u : HO} (hs : RelSt K w H st) (hp : H p = none) : Ge w H (w.add p) (upd H p u) :=
  ⟨⟨[p], rfl, rfl, fun q hq => by rw [List.mem_singleton.mp hq]; exact ⟨hs.notin hp, hp⟩⟩, fun b v _ nb h => by rw [upd_ne (ne_of_none h hp)]; exact h, fun b v nb h => ⟨v, by rw [upd_ne (ne_of_none h hp)]; exact h⟩, fun b od v h => by rw [upd_ne (ne_of_none h hp)]; exact h⟩
end B
namespace B
open PySem L2
section
variable [Nm] [Gd]
variable {X : Cx} {K : W.Frag} {E : XK} {a b e o kx vx tg iter : Expr} {ifs : List Expr} {te to : TE} {tr : TA} {fe fo : Env → M D} {fr : Env → M (List D)} {pos apos cpos : Pos} {scope : Scope} {own : List (Str × Nat)} {is : List Nat} {ti : TI} {g : TG} {tt : TT} {tk tv : TE} {fi : Env → M Src} {fg : D → Env → M Env} {ft : Env → M Bool} {fk fv : Env → M D}
def popF (x : D) : M D := fun st => match x with
  | .loc n => (match st[n]? with
    | some (.lst xs) => (match xs[xs.length - 1]? with
      | some y => .ok (.val y) (st.set n (.lst xs.dropLast))
      | none => .bad)
    | _ => .bad)
  | _ => .bad
theorem Rps.dropLast {w : Wd} {H : Hp} {xs : List PyData} {us : List V} (r : Rps K w H xs us) : Rps K w H xs.dropLast us.dropLast := by
  have h := r.length
  rw [List.dropLast_eq_take, List.dropLast_eq_take, h]
  exact r.take _
def sOf : D → Option S1
  | .val p => some (.v p)
  | .loc n => some (.l n)
  | .dv kvs => some (.dd kvs)
  | _ => none
def S1.d : S1 → D
  | .v q => .val q
  | .l n => .loc n
  | .p a n => .pr (.v a) (.l n)
  | .dd kvs => .dv kvs
  | .dt a b kvs => .tr (.v a) (.v b) (.dd kvs)
theorem RpS.d {w : Wd} {H : Hp} {s : S1} {u : V} (r : RpS K w H s u) : RpD K w H s.d u := by
  cases s with
  | v p => exact r
  | l n => exact r
  | p d n => obtain ⟨q, u, b, e, t, r, h⟩ := r; exact ⟨q, u, _, e, t, r, b, rfl, h⟩
  | dd kvs => exact r
  | dt d e kvs => obtain ⟨q, u, t, a, xs, e, ht, r1, r2, h, r⟩ := r; exact ⟨q, u, t, _, e, ht, r1, r2, a, xs, rfl, h, r⟩
def prD (ds : List D) : M D := match ds with
  | [x, y] => (match sOf x, sOf y with
    | some a, some b => rt (.pr a b)
    | _, _ => bad)
  | _ => bad
def isBF (neg : Bool) (x y : D) : M D := fun st => match x, y with
  | .val (.bool a), .val (.bool b) => okV (.bool (neg != decide (a = b))) st
  | _, _ => .bad
def pairsOf : List PyData → Option (List (Key × PyData))
  | [] => some []
  | .tuple [.str k, y] :: r => (pairsOf r).map ((.inr k, y) :: ·)
  | .tuple [.int k, y] :: r => (pairsOf r).map ((.inl k, y) :: ·)
  | _ :: _ => none
theorem pairsOf_rel {w : Wd} {H : Hp} : ∀ {xs : List PyData} {kvs : List (Key × PyData)} {us : List V}, pairsOf xs = some kvs → Rps K w H xs us →
    ∃ (ps : List Addr) (zs : List (Key × V)), us = ps.map V.ref ∧ Paired (fun p kv => SqT K H p [kV kv.1, kv.2]) ps zs ∧ RpK K w H kvs zs
  | [], kvs, us, e, r => by
    cases r
    cases e
    exact ⟨[], [], rfl, .nil, .nil⟩
  | x :: xs, kvs, us, e, r => by
    cases r with
    | @cons d ds u us r1 r2 =>
      unfold pairsOf at e
      split at e
      · cases ‹_ :: _ = []›
      · rename_i k y r' hx
        cases hx
        obtain ⟨kr, hk, rfl⟩ := Option.map_eq_some_iff.mp e
        obtain ⟨ps, zs, rfl, hp, hz⟩ := pairsOf_rel hk r2
        cases r1 with
        | tup ht rr =>
          cases rr with
          | cons ra rb =>
            cases rb with
            | cons rb rc =>
              cases rc
              cases ra
              exact ⟨_ :: ps, (.inr k, _) :: zs, rfl, .cons ht.sq hp, .cons rb hz⟩
      · rename_i k y r' hx
        cases hx
        obtain ⟨kr, hk, rfl⟩ := Option.map_eq_some_iff.mp e
        obtain ⟨ps, zs, rfl, hp, hz⟩ := pairsOf_rel hk r2
        cases r1 with
        | tup ht rr =>
          cases rr with
          | cons ra rb =>
            cases rb with
            | cons rb rc =>
              cases rc
              cases ra
              exact ⟨_ :: ps, (.inl k, _) :: zs, rfl, .cons ht.sq hp, .cons rb hz⟩
      · cases e
def dictG (ds : List D) : M D := fun st => match ds with
  | [d] => (match dat st d with
    | some (.list xs) => (match pairsOf xs with
      | some kvs => .ok (.loc st.length) (st ++ [.dk (mergeP [] kvs)])
      | none => .bad)
    | _ => .bad)
  | _ => .bad
theorem bc_dict : BCall K E (fun xs H Q => ∃ (a : Addr) (ps : List Addr) (kvs : List (Key × V)), xs = [.ref a] ∧ SqL K H a (ps.map V.ref) ∧ Paired (fun p kv => SqT K H p [kV kv.1, kv.2]) ps kvs ∧ ∀ p, H p = none → Q (.ref p) (upd H p (.dK (mergeK [] kvs)))) dictG := by
  intro w H st ds vs Q hs r hp
  unfold dictG at hp
  split at hp
  · rename_i d
    cases hd : dat st d with
    | none => rw [hd] at hp; exact hp.elim
    | some q =>
      cases q with
      | list xs =>
        rw [hd] at hp
        simp only at hp
        cases hk : pairsOf xs with
        | none => rw [hk] at hp; exact hp.elim
        | some kvs =>
          rw [hk] at hp
          obtain ⟨v, ev, r1⟩ := r.one
          obtain ⟨c, us, e3, ha, ru⟩ := dat_lst hs r1 hd
          subst e3
          obtain ⟨ps, zs, rfl, hps, rz⟩ := pairsOf_rel hk ru
          refine ⟨c, ps, zs, ev, SqL.of ha, hps, fun p np => ?_⟩
          obtain ⟨s2, g2⟩ := hs.push (p := p) (o := .dk (mergeP [] kvs)) (u := .dK (mergeK [] zs)) np ⟨_, upd_same, (RpK.merge rz .nil).mono (Ge.grown hs np)⟩
          exact hp _ _ _ g2 s2 ⟨p, rfl, by rw [hs.len]; simp⟩
      | _ => rw [hd] at hp; exact hp.elim
  · exact hp.elim
end
variable {X : Ex → Store → Prop} {env : Env} {st : Store}
@[simp] theorem e_fldE {C f : Str} {fe : Env → M D} {Q : D → Store → Prop} : wpx X (fldE C f fe env st) Q = wpx X (bd (fe env) (fldF C f) st) Q := propext Iff.rfl
@[simp] theorem o_fldF {C f : Str} {n : Nat} {Q : D → Store → Prop} : wpx X (fldF C f (.loc n) st) Q = (match st[n]? with
    | some (.ins C' fs) => C' = C ∧ (match fs.lookup f with | some x => Q x st | none => False)
    | _ => False) := by
  simp only [fldF]
  cases st[n]? with
  | none => simp
  | some o =>
    cases o with
    | ins C' fs =>
      by_cases h : C' = C
      · simp only [h, if_true, true_and]
        cases fs.lookup f <;> simp
      · simp [h]
    | _ => simp
@[simp] theorem e_fputS {C f : Str} {fo fv : Env → M D} {Q : Fl → Store → Prop} : wpx X (fputS C f fo fv env st) Q = wpx X (bd (fv env) (fun y => bd (fo env) fun x => fun st => match x with
  | .loc n => (match st[n]? with
    | some (.ins C' fs) => if C' = C ∧ fs.length < 1000 then .ok (.nx env) (st.set n (.ins C (putD f y fs))) else .bad
    | _ => .bad)
  | _ => .bad) st) Q := propext Iff.rfl
@[simp] theorem e_methF {C m : Str} {md : List D → M D} {fo : Env → M D} {fr : Env → M (List D)} {Q : D → Store → Prop} : wpx X (methF C m md fo fr env st) Q = wpx X (bd (fo env) (fun x => bd (isInsF C m x) fun _ => bd (fr env) fun ds => md (x :: ds)) st) Q := propext Iff.rfl
@[simp] theorem o_isInsF {C m : Str} {n : Nat} {Q : Unit → Store → Prop} : wpx X (isInsF C m (.loc n) st) Q = (match st[n]? with
    | some (.ins C' fs) => (C' = C ∧ fs.lookup m = none) ∧ Q () st
    | _ => False) := by
  simp only [isInsF]
  cases st[n]? with
  | none => simp
  | some o =>
    cases o with
    | ins C' fs =>
      by_cases h : C' = C ∧ fs.lookup m = none
      · simp only [h, and_self, if_true, true_and, wp_ok]
      · simp only [h, if_false, false_and, wp_bad]
    | _ => simp
@[simp] theorem e_mkF {C : Str} {dd : List D} {mi : List D → M D} {fr : Env → M (List D)} {Q : D → Store → Prop} : wpx X (mkF C dd mi fr env st) Q = wpx X (bd (fr env) (fun ds => fun st => match mi (.loc st.length :: (ds ++ dd)) (st ++ [.ins C []]) with
  | .ok (.val .none) st' => .ok (.loc st.length) st'
  | .exc e st' => .exc e st'
  | _ => .bad) st) Q := propext Iff.rfl
end B
namespace B
open PySem L2
def FunV (K : W.Frag) (x qual : Str) (st : Stmt) (f : Addr) (fd : FuncData) : Prop :=
  ∃ (oc : Value) (od : Option Addr) (dV kV doc pm : Value) (an : Option Addr) (cdv ct : Value) (osl : Array (Option Value)),
    fd = PySem.W.fnOf x qual (defArgs st) (defBody st) (defScope st) dV kV doc pm an cdv ct ∧ K.lookup f = some ⟨oc, od, .func fd, osl⟩ ∧ PySem.W.codeIn K cdv qual = true
abbrev FunW (K : W.Frag) (x qual : Str) (st : Stmt) (dvs : List V) (f : Addr) (fd : FuncData) : Prop := FunD K x qual (defArgs st) (defBody st) (defScope st) dvs [] f fd
theorem FunW.v {K : W.Frag} {x qual : Str} {st : Stmt} {dvs : List V} {f : Addr} {fd : FuncData} (F : FunW K x qual st dvs f fd) : FunV K x qual st f fd := by
  obtain ⟨oc, od, dV, kV, doc, pm, an, cdv, ct, osl, e, lk, hcd, _, _⟩ := F.ex
  exact ⟨oc, od, dV, kV, doc, pm, an, cdv, ct, osl, e, lk, hcd⟩
section
variable [Nm] [Gd]
variable {P : Program} {w : World} {K : W.Frag} {mg : Str → Option Value} {base : Heap}
theorem doesV {x qual : Str} {st : Stmt} {f : Addr} {fd : FuncData} {N ps : List Str} {k : Nat} {body : Env → M Fl} (F : FunV K x qual st f fd) (S : FnScope N ps (defScope st))
    (h : ∀ (A : Around) (out : List PySem.Env) (s : Shared) (H : Hp) (E : XK), Room k (A.deeper (PyProof.Rows.envOfC qual (defScope st) s.heap.objs.size f fd.code)) → A.guards = some [] → ∃ t, SSs (cxOf (L2.CX P w) P w K mg base N qual (defScope st) f fd.code A out s H E) E (defBody st) t body) :
    FnG P w K mg base (k + 1) f fd ps (spOf K ps.length (fnOf N.length body)) := by
  obtain ⟨oc, od, dV, kV, doc, pm, an, cdv, ct, osl, rfl, lk, hcd⟩ := F
  refine fnG_of lk hcd S (fun vs H Q E h => h.1) fun A out s H vs Q E hr hG hsp => ?_
  obtain ⟨t, d⟩ := h A out s H E hr hG
  obtain ⟨_, w, st0, ds, hs, r, hp⟩ := hsp
  refine ⟨t, d.ps, d.rf w _ H _ st0 _ hs (RelEnv.start r) ?_⟩
  unfold fnOf at hp
  cases hf : body (ds.map some ++ List.replicate (N.length - ds.length) none) st0 with
  | ok r st' =>
    rw [bd_ok hf] at hp
    cases r with
    | nx env => exact fun w' H' σ' g s1 _ => hp w' H' _ g s1 .non
    | rt d => exact hp
    | bk env => exact hp.elim
    | ct env => exact hp.elim
  | exc e st' => rw [bd_exc hf] at hp; exact hp
  | bad => rw [bd_bad hf] at hp; exact hp
end
end B
namespace B
open PySem L2
section
variable {X : Ex → Store → Prop} {env : Env} {st : Store}
end
def kvP (f : PyData) : Key × PyData := match f with
  | .tuple [.str n, l] => (.inr n, l)
  | _ => (.inl 0, .none)
def tabOf (fs : List PyData) : List (Key × PyData) := mergeP [] (fs.map kvP)
def isFn (f : PyData) : Prop := ∃ n rs, f = .tuple [.str n, .tuple rs]
theorem pairs_fs : ∀ {fs : List PyData}, (∀ f ∈ fs, isFn f) → pairsOf fs = some (fs.map kvP)
  | [], _ => rfl
  | f :: r, h => by
    obtain ⟨n, rs, rfl⟩ := h f (List.mem_cons_self ..)
    simp only [pairsOf, pairs_fs fun g hg => h g (List.mem_cons_of_mem _ hg), List.map_cons, kvP, Option.map_some]
def rowsOf (fs : List PyData) (n : Str) : Option (List PyData) := match getP (tabOf fs) (.inr n) with
  | some (.tuple rs) => some rs
  | _ => none
def lineOf (fs : List PyData) : PyData → Option PyData
  | .tuple [.str n, .int i] => (rowsOf fs n).bind fun rs => atI rs i
  | _ => none
structure RowP (fs : List PyData) (sz : Nat) (r : PyData) : Prop where
  ex : ∃ cs ws hs, r = .tuple [.tuple cs, .tuple ws, .tuple hs] ∧ (cs ≠ [] ∧ ws ≠ []) ∧ (∀ c ∈ cs, ∃ x, c = .str x ∧ (x = Str.ofString "" ∨ ∃ rs, rowsOf fs x = some rs ∧ rs ≠ [])) ∧
    (∀ w ∈ ws, (∃ i : Nat, i < sz ∧ w = .int i) ∨ w = .tuple [.str "back"] ∨ ∃ k, w = .tuple [.str "fail", .str k]) ∧ (∀ h ∈ hs, ∃ (k : Str) (i : Nat), i < sz ∧ h = .tuple [.str k, .int i]) ∧
    cs.length ≤ 100 ∧ ws.length ≤ 100 ∧ hs.length ≤ 100
structure PrgP (fs : List PyData) : Prop where
  fn : ∀ f ∈ fs, isFn f
  ne : fs ≠ []
  le : fs.length ≤ 8
  rows : ∀ n rs, rowsOf fs n = some rs → rs ≠ [] ∧ rs.length ≤ 40 ∧ ∀ r ∈ rs, RowP fs rs.length r
  first : ∀ n l r, fs = .tuple [.str n, l] :: r → ∃ rs, rowsOf fs n = some rs
def FrmP (fs : List PyData) (p : PyData) : Prop := ∃ (n : Str) (i : Nat) (rs : List PyData), p = .tuple [.str n, .int i] ∧ rowsOf fs n = some rs ∧ i < rs.length
theorem FrmP.line {fs : List PyData} {p : PyData} (h : PrgP fs) (hp : FrmP fs p) : ∃ (n : Str) (i : Nat) (rs : List PyData) (r : PyData), (p = .tuple [.str n, .int (i : Int)] ∧ rowsOf fs n = some rs ∧ i < rs.length) ∧ atI rs (i : Int) = some r ∧ r ∈ rs ∧ RowP fs rs.length r ∧ lineOf fs p = some r := by
  obtain ⟨n, i, rs, rfl, hr, hi⟩ := hp
  obtain ⟨r, hm, e⟩ := atI_some (xs := rs) (i := (i : Int)) (by omega) (by omega)
  exact ⟨n, i, rs, r, ⟨rfl, hr, hi⟩, e, hm, (h.rows n rs hr).2.2 r hm, by simp only [lineOf, hr, Option.bind_some, e]⟩
theorem rows_get {fs : List PyData} {n : Str} {rs : List PyData} (h : rowsOf fs n = some rs) : getP (tabOf fs) (.inr n) = some (.tuple rs) := by
  unfold rowsOf at h
  split at h
  · rename_i e; cases h; exact e
  · cases h
def hLine (kind : Str) : List PyData → Option Int
  | [] => none
  | .tuple [.str k, .int i] :: r => if k = kind ∨ k = Str.ofString "" then some i else hLine kind r
  | _ :: r => hLine kind r
section
variable {α : Type} {st l : List α} {x : α}
end
end B
namespace B
open PySem L2
section
variable {X : Ex → Store → Prop} {env : Env} {st : Store}
@[simp] theorem dep0_s {x : Str} : (PyData.str x).depth = 0 := rfl
@[simp] theorem dep0_i {x : Int} : (PyData.int x).depth = 0 := rfl
@[simp] theorem dep0_b {x : Bool} : (PyData.bool x).depth = 0 := rfl
@[simp] theorem dep0_n : PyData.none.depth = 0 := rfl
end
end B
namespace B
open PySem L2 PySem.Spec PyProof.Rows
theorem tuple_mul_same (l : Addr) (items : Array Value) (n : Nat) (dd : Option Addr) (sl : Array (Option Value)) (x : Int) (u : Tok) (c0 : (decide (x < -(2 ^ 63)) || decide (x ≥ 2 ^ 63)) = false) (c1 : (items.isEmpty || x == 1) = true) :
    Meets (Builtin.«tuple.__mul__» ⟨[.ref l, .int x u], []⟩) (fun _ R s => s.heap.get? l = some { cls := .type "tuple", dict := dd, data := .seq items n, slots := sl } ∧ R (.ok (.ret (Value.ref l))) s) :=
  .of_wp fun prog w A R s h => by
    obtain ⟨hp, g, d, tk, os⟩ := s
    obtain ⟨hl, h⟩ := h
    have f1 := AutoSeq1.idx_int
    wp_walk using wpAny_loadPart' hl
    repeat (first
      | (refine wpAny_ite_false (decide_eq_false (by rw [c0]; exact Bool.false_ne_true)) ?_; wp_walk using wpAny_loadPart' hl)
      | (refine wpAny_ite_true (decide_eq_true c1) ?_; wp_walk using wpAny_loadPart' hl))
    exact ⟨_, rfl, h⟩
theorem tuple_mul_none (l : Addr) (items : Array Value) (n : Nat) (dd : Option Addr) (sl : Array (Option Value)) (x : Int) (u : Tok) (c0 : (decide (x < -(2 ^ 63)) || decide (x ≥ 2 ^ 63)) = false) (c1 : (items.isEmpty || x == 1) = false) (c2 : (decide (x ≤ 0) || items.isEmpty) = true) :
    Meets (Builtin.«tuple.__mul__» ⟨[.ref l, .int x u], []⟩) (fun _ R s => s.heap.get? l = some { cls := .type "tuple", dict := dd, data := .seq items n, slots := sl } ∧
      R (.ok (.ret (Value.ref s.heap.objs.size))) { s with heap := s.heap.push { cls := Value.type "tuple", data := Data.seq #[] }, toks := s.toks }) :=
  .of_wp fun prog w A R s h => by
    obtain ⟨hp, g, d, tk, os⟩ := s
    obtain ⟨hl, h⟩ := h
    have f1 := AutoSeq1.idx_int
    wp_walk using wpAny_loadPart' hl
    repeat (first
      | (refine wpAny_ite_false (decide_eq_false (by rw [c0]; exact Bool.false_ne_true)) ?_; wp_walk using wpAny_loadPart' hl)
      | (refine wpAny_ite_false (decide_eq_false (by rw [c1]; exact Bool.false_ne_true)) ?_; wp_walk using wpAny_loadPart' hl)
      | (refine wpAny_ite_true (decide_eq_true c2) ?_; wp_walk using wpAny_loadPart' hl))
    exact ⟨_, rfl, h⟩
def rRepO (K : W.Frag) : R2 := fun x y H Q => ∃ l k xs, x = .ref l ∧ y = .int k ∧ SqT K H l xs ∧ -(2 ^ 62) ≤ k ∧ k ≤ 1 ∧ ((xs = [] ∨ k = 1) → Q (.ref l) H) ∧ (xs ≠ [] → k ≤ 0 → ∀ p, H p = none → Q (.ref p) (upd H p (.tup [])))
theorem op_repO {X : Cx} {K : W.Frag} (hK : X.K = K := by rfl) : OpR X (binaryOp .Mult) (rRepO K) := by
  subst hK
  intro pins s σ H x y v u Q I rx ry h
  obtain ⟨l, k, xs, rfl, rfl, hT, h1, h2, q1, q2⟩ := h
  cases rx
  obtain ⟨t, rfl⟩ := ry
  obtain ⟨its, r, ⟨⟨cls, dd, data, sl⟩, ho, hc, n, hd⟩, hs⟩ := I.tuple hT
  simp only at hc hd
  subst hc hd
  have c0 : (decide (k < -(2 ^ 63)) || decide (k ≥ 2 ^ 63)) = false := by
    rw [decide_eq_false (by omega), decide_eq_false (by omega)] <;> rfl
  have go : (its.toArray.isEmpty || k == 1) = true → xs = [] ∨ k = 1 := fun h => by
    rw [Bool.or_eq_true] at h
    rcases h with h | h
    · left
      cases its with
      | nil => exact List.eq_nil_of_length_eq_zero r.length
      | cons a b => cases h
    · exact .inr (by simpa using h)
  by_cases c1 : (its.toArray.isEmpty || k == 1) = true
  · refine wpAny_binaryOp_repeat_ref (T := "tuple") (U := "int") (by decide) ⟨_, ho, rfl⟩ (fun s' => typeIs_int s' k t) noFill_tuple_mul F.fills_int_mul F.slot_int_rmul repeat_tuple F.slot_int_index.lookup
      (call_meets F.slot_int_rmul (typeIs_int s k t) F.entry_int_rmul (F.args_int_rmul_2 _ _) (int_rmul_tuple k t l its.toArray n dd sl)
        ⟨ho, rfl, ⟨_, ho, rfl⟩, call_meets F.slot_tuple_mul ⟨_, ho, rfl⟩ F.entry_tuple_mul (F.args_tuple_mul_2 _ _) (tuple_mul_same l its.toArray n dd sl k t c0 c1) ⟨ho, ?_⟩⟩)
    exact ⟨.ref l, H, I, rfl, q1 (go c1)⟩
  · have c1' : (its.toArray.isEmpty || k == 1) = false := by simpa using c1
    have hne : xs ≠ [] := fun e => by
      have : its = [] := List.eq_nil_of_length_eq_zero (by rw [← r.length, e]; rfl)
      subst this
      simp at c1'
    have hk1 : k ≠ 1 := fun e => by subst e; simp at c1'
    have c2 : (decide (k ≤ 0) || its.toArray.isEmpty) = true := by rw [decide_eq_true (by omega)]; rfl
    refine wpAny_binaryOp_repeat_ref (T := "tuple") (U := "int") (by decide) ⟨_, ho, rfl⟩ (fun s' => typeIs_int s' k t) noFill_tuple_mul F.fills_int_mul F.slot_int_rmul repeat_tuple F.slot_int_index.lookup
      (call_meets F.slot_int_rmul (typeIs_int s k t) F.entry_int_rmul (F.args_int_rmul_2 _ _) (int_rmul_tuple k t l its.toArray n dd sl)
        ⟨ho, rfl, ⟨_, ho, rfl⟩, call_meets F.slot_tuple_mul ⟨_, ho, rfl⟩ F.entry_tuple_mul (F.args_tuple_mul_2 _ _) (tuple_mul_none l its.toArray n dd sl k t c0 c1' c2) ⟨ho, ?_⟩⟩)
    refine ⟨.ref s.heap.objs.size, _, I.laid (t' := s.toks) (o := .tup []) (fun b ob q => Heap.get?_push_of_some _ q) (Nat.le_refl _) ?_, rfl, q2 hne (by omega) _ (I.hok.fresh (Nat.le_refl _))⟩
    exact ⟨by simp, _, .nil, IsTup.new _ _⟩
section
variable [Nm] [Gd]
def mulH (x y : D) : M D := fun st => match dat st x, dat st y with
  | some (.tuple a), some (.int j) => if -(2 ^ 62) ≤ j ∧ j ≤ 1 then okV (.tuple (List.replicate j.toNat a).flatten) st else mulG x y st
  | _, _ => mulG x y st
def rMulH (K : W.Frag) : R2 := fun x y H Q => rRepO K x y H Q ∨ rMulG K x y H Q
theorem op_mulH {X : Cx} {K : W.Frag} (hK : X.K = K := by rfl) : OpR X (binaryOp .Mult) (rMulH K) := OpR.or (op_repO hK) (op_mulG hK)
theorem bop_mulH {K : W.Frag} {E : XK} : BOp K E (rMulH K) mulH := by
  intro w H st dx dy x y Q hs rx ry hp
  unfold mulH at hp
  split at hp
  · rename_i e1 e2
    split at hp
    · rename_i hc
      obtain ⟨a, vs, e3, ha, ra⟩ := dat_tup rx e1
      refine .inl ⟨a, _, vs, e3, dat_int ry e2, ha.sq, hc.1, hc.2, fun h => ?_, fun hn h p np => ?_⟩
      · rename_i xs j
        have e : (List.replicate j.toNat xs).flatten = xs := by
          rcases h with h | h
          · subst h
            cases ra
            simp
          · subst h
            show [xs].flatten = xs
            simp
        rw [e] at hp
        exact Post.now hp hs (.tup ha ra)
      · rename_i xs j
        have e : (List.replicate j.toNat xs).flatten = [] := by
          have : j.toNat = 0 := by omega
          rw [this]; rfl
        rw [e] at hp
        exact hp w _ _ (.new np) (hs.new np) (Rp.newTup (hs.notin np) .nil np)
    · exact .inr (bop_mulG w H st dx dy x y Q hs rx ry hp)
  · exact .inr (bop_mulG w H st dx dy x y Q hs rx ry hp)
end
section
variable {X : Ex → Store → Prop} {st : Store} {Q : D → Store → Prop}
@[simp] theorem f_mulHI {i j : Int} : wpx X (mulH (.val (.int i)) (.val (.int j)) st) Q = wpx X (mulG (.val (.int i)) (.val (.int j)) st) Q := rfl
@[simp] theorem f_mulHS {i : Str} {j : Int} : wpx X (mulH (.val (.str i)) (.val (.int j)) st) Q = wpx X (mulG (.val (.str i)) (.val (.int j)) st) Q := rfl
@[simp] theorem f_mulHL {i : List PyData} {j : Int} : wpx X (mulH (.val (.list i)) (.val (.int j)) st) Q = wpx X (mulG (.val (.list i)) (.val (.int j)) st) Q := rfl
end
end B
namespace B
open PySem L2
theorem intsOf_map : ∀ xs : List Int, intsOf (xs.map .int) = some xs
  | [] => rfl
  | x :: r => by simp [intsOf, intsOf_map r]
theorem f_sumI {X : Ex → Store → Prop} {st : Store} {xs : List PyData} {ys : List Int} (h : xs = ys.map .int) {Q : D → Store → Prop} : wpx X (sumF [.val (.list xs)] st) Q = Q (.val (.int ys.sum)) st := by
  subst h
  simp only [sumF, dat, datV, intsOf_map]
  exact wp_D
end B
namespace GS
open PySem PySem.Spec PyProof.Rows L2
section
variable {P : Program} {w : World} {A : Around} {E : Value → Shared → Prop}
end
abbrev Row := NestedKey × Value
def rws (w : World) (L : List Row) : List (Int × Value) := L.map fun p => (p.1.hash w, p.2)
def hss (w : World) (L : List Row) : List Int := L.map fun p => p.1.hash w
theorem rws_len {w : World} {L : List Row} : (rws w L).length = L.length := List.length_map ..
theorem hss_len {w : World} {L : List Row} : (hss w L).length = L.length := List.length_map ..
structure SetG (w : World) (h : Heap) (a : Addr) (L : List Row) (es : Array (Int × Value)) (ep : Nat) (t : SetTable) : Prop where
  ob : ∃ o, h.get? a = some o ∧ o.ExactSet ∧ o.data = .set es ep t
  rows : es.toList = rws w L
  tab : TabOk t (hss w L)
  nd : (L.map (·.1)).Nodup
  key : ∀ p ∈ L, NestedIs h p.1 p.2 ∧ p.1.depth ≤ 8
  led : w.params.followText "set-order" = true ∨ t.led = true
  room : L.length * 5 < t.mask * 3
  few : L.length < 64
section
variable {P : Program} {w : World} {A : Around} {E : Value → Shared → Prop} {h : Heap} {a : Addr} {L : List Row} {es : Array (Int × Value)} {ep : Nat} {t : SetTable}
theorem SetG.size (R : SetG w h a L es ep t) : es.size = L.length := by rw [← Array.length_toList, R.rows, rws_len]
theorem SetG.fits (R : SetG w h a L es ep t) : t.fits es.size = true := by
  have h1 : t.place.size = es.size := by rw [R.tab.sz, hss_len, R.size]
  have h2 : es.size ≤ t.mask := by rw [R.size]; have := R.room; omega
  simp only [SetTable.fits, SetTable.fill, R.tab.dm, h1, beq_self_eq_true, Bool.true_and, decide_eq_true_eq]
  exact h2
theorem SetG.at (R : SetG w h a L es ep t) {i : Nat} {p : Row} (e : L[i]? = some p) : es[i]? = some (p.1.hash w, p.2) := by
  rw [← Array.getElem?_toList, R.rows, rws, List.getElem?_map, e, Option.map_some]
theorem SetG.odd (R : SetG w h a L es ep t) : t.gaveWay = false := by
  simp only [SetTable.gaveWay, mask_odd R.tab.mok]; rfl
structure HasTo (ks : List Row) (i : Nat) (L : List Row) : Prop where
  sub : ∀ p ∈ L, p ∈ ks.take i
  all : ∀ p ∈ ks.take i, p.1 ∈ L.map (·.1)
  len : L.length ≤ i
structure Has (ks L : List Row) : Prop where
  sub : ∀ p ∈ L, p ∈ ks
  all : ∀ p ∈ ks, p.1 ∈ L.map (·.1)
theorem HasTo.has {ks L : List Row} (g : HasTo ks ks.length L) : Has ks L := ⟨fun p hp => by have := g.sub p hp; rwa [List.take_length] at this, fun p hp => g.all p (by rw [List.take_length]; exact hp)⟩
theorem SetG.keep {h h' : Heap} (R : SetG w h a L es ep t) (ha : ∀ o, h.get? a = some o → h'.get? a = some o) (hk : ∀ p ∈ L, NestedIs h' p.1 p.2 ∧ p.1.depth ≤ 8) : SetG w h' a L es ep t := by
  obtain ⟨o, ho, r⟩ := R.ob
  exact ⟨⟨o, ha o ho, r⟩, R.rows, R.tab, R.nd, hk, R.led, R.room, R.few⟩
end
end GS
namespace GS
open PySem PySem.Spec PyProof.Rows L2
section
variable {P : Program} {w : World} {A : Around} {E : Value → Shared → Prop}
set_option maxHeartbeats 8000000 in
set_option maxHeartbeats 8000000 in
end
end GS
namespace GS
open PySem PySem.Spec PyProof.Rows L2 PySem.W
mutual
/-- data as a key: no bools, no lists -/
def nk : PyData → Option NestedKey
  | .none => some .none
  | .int i => some (.num i)
  | .str x => some (.text x)
  | .tuple xs => (nks xs).map .tup
  | .bool _ => none
  | .list _ => none
  | .dict _ => none
def nks : List PyData → Option (List NestedKey)
  | [] => some []
  | x :: r => (nk x).bind fun k => (nks r).map (k :: ·)
end
theorem nks_cons {x : PyData} {r : List PyData} {ks : List NestedKey} (h : nks (x :: r) = some ks) : ∃ k l, nk x = some k ∧ nks r = some l ∧ ks = k :: l := by
  simp only [nks, Option.bind_eq_some_iff, Option.map_eq_some_iff] at h
  obtain ⟨k, h1, l, h2, rfl⟩ := h
  exact ⟨k, l, h1, h2, rfl⟩
mutual
theorem nk_data : ∀ {d : PyData} {k : NestedKey}, nk d = some k → k.data = d
  | .none, _, h => by cases h; rfl
  | .int i, _, h => by cases h; rfl
  | .str x, _, h => by cases h; rfl
  | .tuple xs, k, h => by
    simp only [nk, Option.map_eq_some_iff] at h
    obtain ⟨l, h1, rfl⟩ := h
    rw [NestedKey.data, nks_data h1]
  | .bool _, _, h => by simp [nk] at h
  | .list _, _, h => by simp [nk] at h
  | .dict _, _, h => by simp [nk] at h
theorem nks_data : ∀ {ds : List PyData} {ks : List NestedKey}, nks ds = some ks → NestedKey.datas ks = ds
  | [], _, h => by cases h; rfl
  | x :: r, _, h => by
    obtain ⟨k, l, h1, h2, rfl⟩ := nks_cons h
    rw [NestedKey.datas, nk_data h1, nks_data h2]
end
section
variable {X : Cx} {pins : List (Addr × Obj)} {σ : L2.St} {H : Hp} {s : Shared}
mutual
theorem nested_of (I : Inv X pins σ H s) : ∀ (d : PyData) (v : V) (u : Value) (k : NestedKey), Dp X.K H v d → RelV v u → nk d = some k → NestedIs s.heap k u ∧ Reads s.heap u d []
  | .none, _, _, _, .non, r, e => by cases e; cases r; exact ⟨.none, .none⟩
  | .int i, _, _, _, .int _, r, e => by cases e; obtain ⟨t, rfl⟩ := r; exact ⟨.int i t, .int i t⟩
  | .str x, _, _, _, .str _, r, e => by cases e; obtain ⟨t, rfl⟩ := r; exact ⟨.text x t, .str x t⟩
  | .tuple ds, _, _, k, .tup hS ha, r, e => by
    simp only [nk, Option.map_eq_some_iff] at e
    obtain ⟨ks, e, rfl⟩ := e
    cases r
    obtain ⟨its, rv, ⟨o, ho, hc, n, hd⟩, _⟩ := I.tuple hS
    obtain ⟨h1, h2⟩ := nested_all I ds _ its ks ha rv e
    exact ⟨.tup ho hc hd (by simpa using h1), .tuple ho hc hd (by simpa using h2)⟩
  | .bool _, _, _, _, _, _, e => by simp [nk] at e
  | .list _, _, _, _, _, _, e => by simp [nk] at e
  | .dict _, _, _, _, _, _, e => by simp [nk] at e
theorem nested_all (I : Inv X pins σ H s) : ∀ (ds : List PyData) (vs : List V) (us : List Value) (ks : List NestedKey), DpAll X.K H vs ds → Vals vs us → nks ds = some ks → NestedAll s.heap ks us ∧ ReadsAll s.heap us ds []
  | [], _, _, _, .nil, .nil, e => by cases e; exact ⟨.nil, .nil⟩
  | d :: ds, _, _, _, .cons h1 h2, .cons r1 r2, e => by
    obtain ⟨k, l, e1, e2, rfl⟩ := nks_cons e
    obtain ⟨a1, a2⟩ := nested_of I d _ _ k h1 r1 e1
    obtain ⟨b1, b2⟩ := nested_all I ds _ _ l h2 r2 e2
    exact ⟨.cons a1 b1, .cons (as := []) a2 b2⟩
end
end
abbrev Bit := PyData × V
inductive RowsOf (h : Heap) : List Bit → List Row → Prop
  | nil : RowsOf h [] []
  | cons {b : Bit} {r : Row} {L : List Bit} {R : List Row} : nk b.1 = some r.1 → RelV b.2 r.2 ∧ Reads h r.2 b.1 [] → RowsOf h L R → RowsOf h (b :: L) (r :: R)
theorem RowsOf.len {h : Heap} : ∀ {L : List Bit} {R : List Row}, RowsOf h L R → L.length = R.length
  | _, _, .nil => rfl
  | _, _, .cons _ _ t => by rw [List.length_cons, List.length_cons, RowsOf.len t]
theorem RowsOf.mem {h : Heap} : ∀ {L : List Bit} {R : List Row} {r : Row}, RowsOf h L R → r ∈ R → ∃ b ∈ L, nk b.1 = some r.1 ∧ RelV b.2 r.2 ∧ Reads h r.2 b.1 []
  | _, _, _, .nil, h => by cases h
  | _, _, _, .cons h1 h2 t, h => by
    rcases List.mem_cons.mp h with rfl | h
    · exact ⟨_, List.mem_cons_self .., h1, h2⟩
    · obtain ⟨b, hb, e⟩ := RowsOf.mem t h
      exact ⟨b, List.mem_cons_of_mem _ hb, e⟩
theorem RowsOf.pick {h : Heap} {L : List Bit} {R : List Row} (g : RowsOf h L R) : ∀ (R' : List Row), (∀ r ∈ R', r ∈ R) → ∃ L', RowsOf h L' R' ∧ ∀ b ∈ L', b ∈ L
  | [], _ => ⟨[], .nil, fun _ hb => by cases hb⟩
  | r :: R', hs => by
    obtain ⟨b, hb, h1, h2⟩ := g.mem (hs r (List.mem_cons_self ..))
    obtain ⟨L', t, hL⟩ := RowsOf.pick g R' fun q hq => hs q (List.mem_cons_of_mem _ hq)
    exact ⟨b :: L', .cons h1 h2 t, fun c hc => by
      rcases List.mem_cons.mp hc with rfl | hc
      · exact hb
      · exact hL c hc⟩
theorem RowsOf.keep {h h' : Heap} (hk : ∀ b o, h.get? b = some o → h'.get? b = some o) : ∀ {L : List Bit} {R : List Row}, RowsOf h L R → RowsOf h' L R
  | _, _, .nil => .nil
  | _, _, .cons h1 h2 t => .cons h1 ⟨h2.1, PyProof.Rows.Reads.keeps hk h2.2⟩ (RowsOf.keep hk t)
section
variable [B.Nm] [B.Gd] {P : Program} {w : World} {A : Around} {E : Value → Shared → Prop} {a : Addr} {L : List Row} {es : Array (Int × Value)} {ep : Nat} {t : SetTable}
end
section
variable {X : Cx} {pins : List (Addr × Obj)} {σ : L2.St} {H : Hp} {s : Shared}
theorem rows_of (I : Inv X pins σ H s) : ∀ {ds : List PyData} {xs : List V} {us : List Value}, DpAll X.K H xs ds → Vals xs us → (∀ d ∈ ds, (nk d).isSome = true) → ∃ R : List Row, RowsOf s.heap (ds.zip xs) R ∧ R.map (·.2) = us ∧ (∀ r ∈ R, NestedIs s.heap r.1 r.2 ∧ ∃ d ∈ ds, ∃ b, nk d = some r.1 ∧ Dp X.K H b d ∧ RelV b r.2)
  | [], _, _, .nil, .nil, _ => ⟨[], .nil, rfl, fun _ h => by cases h⟩
  | d :: ds, _, _, .cons h1 h2, .cons (b := u) r1 r2, hk => by
    obtain ⟨k, ek⟩ := Option.isSome_iff_exists.mp (hk d (List.mem_cons_self ..))
    obtain ⟨R, g1, g2, g3⟩ := rows_of I h2 r2 fun e he => hk e (List.mem_cons_of_mem _ he)
    obtain ⟨a1, a2⟩ := nested_of I d _ u k h1 r1 ek
    refine ⟨(k, u) :: R, .cons ek ⟨r1, a2⟩ g1, by rw [List.map_cons, g2], fun r hr => ?_⟩
    rcases List.mem_cons.mp hr with rfl | hr
    · exact ⟨a1, d, List.mem_cons_self .., _, ek, h1, r1⟩
    · obtain ⟨z1, e, he, z2⟩ := g3 r hr
      exact ⟨z1, e, List.mem_cons_of_mem _ he, z2⟩
end
end GS
namespace GS
open PySem PySem.Spec PyProof.Rows L2 PySem.W
section
variable [B.Nm] [B.Gd]
end
end GS
namespace B
open PySem L2
section
variable [Nm] [Gd]
variable {X : Cx} {E : XK} {a : Expr} {ta : TE} {fa : Env → M D} {p p2 q pos : Pos}
end
section
variable {X : Ex → Store → Prop} {env : Env} {st : Store}
end
end B
namespace MaxD
open PySem PySem.Spec PyProof.Rows L2
section
variable {prog : Program} {w : World} {A : Around} {R : Result → Shared → Prop} {I S : Addr} {fp wr : List Addr} {n : Nat} {P : Nat → Value → Prop} {St : Nat → Heap → Prop} {kw : List (Str × Value)}
end
end MaxD
namespace B
open PySem L2
section
variable [Nm] [Gd] {X : Cx} {E : XK} {e : Expr} {es : List Expr} {tr tk : TA} {fr fk : Env → M (List D)} {kws : List Keyword} {p pos : Pos}
end
section
variable {X : Ex → Store → Prop} {env : Env} {st : Store}
end
end B
namespace B
open PySem L2
section
variable [Nm] [Gd] {X : Cx} {E : XK} {e : Expr} {es : List Expr} {te : TE} {tr : TA} {fe : Env → M D} {fr : Env → M (List D)} {p : Pos}
end
section
variable {X : Ex → Store → Prop} {env : Env} {st : Store}
end
end B
namespace B
open PySem L2 PySem.Spec PyProof.Rows
section
variable [Nm] [Gd] {X : Cx} {E : XK} {o e : Expr} {to : TE} {tr : TA} {fo : Env → M D} {fr : Env → M (List D)} {apos cpos : Pos}
end
section
variable {X : Ex → Store → Prop} {st : Store} {Q : D → Store → Prop}
end
end B
namespace B
open PySem L2 PySem.Spec PyProof.Rows
section
variable [Nm] [Gd]
end
section
variable {X : Ex → Store → Prop} {st : Store} {Q : D → Store → Prop}
end
end B
namespace B
open PySem L2
section
variable {R : Env → Store → Prop} {Q : Fl → Store → Prop} {e : Env} {s : Store} {d : D}
end
end B
namespace B
open PySem L2
section
variable [Nm] [Gd]
section
variable {X : Cx} {E : XK} {o e : Expr} {to te : TE} {fo fe : B.Env → M D} {apos cpos : Pos}
end
section
variable {X : Cx} {E : XK} {a b c tg : Expr} {tr : TA} {fr : B.Env → M (List D)} {p pos : Pos}
end
end
variable {X : Ex → Store → Prop} {st : Store}
end B
namespace B
open PySem L2
section
variable [Nm] [Gd]
def s1Of : D → Option S1
  | .val p => some (.v p)
  | .loc n => some (.l n)
  | .dv kvs => some (.dd kvs)
  | _ => none
def dOf : S1 → D
  | .v p => .val p
  | .l n => .loc n
  | .p a n => .pr (.v a) (.l n)
  | .dd kvs => .dv kvs
  | .dt a b kvs => .tr (.v a) (.v b) (.dd kvs)
theorem s1Of_rel {K : W.Frag} {w : Wd} {H : Hp} {d : D} {s : S1} {v : V} (r : RpD K w H d v) (h : s1Of d = some s) : RpS K w H s v := by
  cases d with
  | val p => cases h; exact r
  | loc n => cases h; exact r
  | dv _ => cases h; exact r
  | _ => cases h
theorem dOf_rel {K : W.Frag} {w : Wd} {H : Hp} {s : S1} {v : V} (r : RpS K w H s v) : RpD K w H (dOf s) v := by
  cases s with
  | v p => exact r
  | l n => exact r
  | p d n => obtain ⟨q, u, b, e, t, r, h⟩ := r; exact ⟨q, u, _, e, t, r, b, rfl, h⟩
  | dd kvs => exact r
  | dt d e kvs => obtain ⟨q, u, t, a, xs, e, ht, r1, r2, h, r⟩ := r; exact ⟨q, u, t, _, e, ht, r1, r2, a, xs, rfl, h, r⟩
def getA {κ α : Type} [DecidableEq κ] (kvs : List (κ × α)) (k : κ) : Option α := (kvs.find? fun kv => decide (kv.1 = k)).map (·.2)
def putA {κ α : Type} [DecidableEq κ] (kvs : List (κ × α)) (k : κ) (v : α) : List (κ × α) :=
  if (kvs.any fun kv => decide (kv.1 = k)) = true then kvs.map (fun kv => if kv.1 = k then (kv.1, v) else kv) else kvs ++ [(k, v)]
section
variable {K : W.Frag} {w : Wd} {H : Hp} {st : Store} {κ : Type} [DecidableEq κ]
theorem RpKS.find {kvs : List (κ × S1)} {vs : List (κ × V)} (r : RpKS K w H kvs vs) (k : κ) : (∀ d, getA kvs k = some d → ∃ v, valV vs k = some v ∧ RpS K w H d v) ∧ (getA kvs k = none → valV vs k = none) := by
  induction r with
  | nil => exact ⟨fun d h => by simp [getA] at h, fun _ => rfl⟩
  | @cons j d ds v vs r s ih =>
    by_cases e : j = k
    · subst e
      refine ⟨fun c h => ?_, fun h => ?_⟩
      · simp [getA] at h; subst h; exact ⟨v, by simp [valV], r⟩
      · simp [getA] at h
    · have e1 : getA ((j, d) :: ds) k = getA ds k := by simp [getA, List.find?_cons, e]
      have e2 : valV ((j, v) :: vs) k = valV vs k := by simp [valV, List.find?_cons, e]
      rw [e1, e2]; exact ih
theorem RpKS.any {kvs : List (κ × S1)} {vs : List (κ × V)} (r : RpKS K w H kvs vs) (k : κ) : (kvs.any fun kv => decide (kv.1 = k)) = vs.any fun kv => decide (kv.1 = k) := by
  induction r with
  | nil => rfl
  | cons r s ih => simp only [List.any_cons, ih]
theorem RpKS.app {kvs : List (κ × S1)} {vs : List (κ × V)} (r : RpKS K w H kvs vs) {k : κ} {d : S1} {v : V} (q : RpS K w H d v) : RpKS K w H (kvs ++ [(k, d)]) (vs ++ [(k, v)]) := by
  induction r with
  | nil => exact .cons q .nil
  | cons r s ih => exact .cons r ih
theorem RpKS.put {kvs : List (κ × S1)} {vs : List (κ × V)} (r : RpKS K w H kvs vs) {k : κ} {d : S1} {v : V} (q : RpS K w H d v) : RpKS K w H (putA kvs k d) (putK vs k v) := by
  unfold putA putK
  rw [r.any k]
  split
  · rename_i hany
    clear hany
    induction r with
    | nil => exact .nil
    | @cons j c cs u us r s ih =>
      simp only [List.map_cons]
      by_cases e : j = k
      · rw [if_pos e, if_pos e]; exact .cons q ih
      · rw [if_neg e, if_neg e]; exact .cons r ih
  · exact r.app q
theorem RpKS.length {kvs : List (κ × S1)} {vs : List (κ × V)} (r : RpKS K w H kvs vs) : kvs.length = vs.length := by
  induction r with
  | nil => rfl
  | cons _ _ ih => simp [ih]
end
section
variable {X : Cx} {E : XK} {o i e value : Expr} {td ty tv : TE} {fd fi fv : B.Env → M D} {pos pos' : Pos}
def kvsR : List (D × D) → Option (List (Key × S1))
  | [] => some []
  | (.val (.str i), d) :: r => match s1Of d, kvsR r with
    | some s, some l => some ((.inr i, s) :: l)
    | _, _ => none
  | _ :: _ => none
theorem RPs.kvsR {K : W.Frag} {w : Wd} {H : Hp} : ∀ {ps : List (D × D)} {kvs : List (Key × S1)} {us : List (V × V)}, RPs K w H ps us → B.kvsR ps = some kvs → ∃ zs : List (Key × V), us = zs.map (fun kv => (kV kv.1, kv.2)) ∧ RpKS K w H kvs zs
  | [], kvs, _, .nil, e => by cases e; exact ⟨[], rfl, .nil⟩
  | (a, d) :: r, kvs, _, .cons ha hb t, e => by
    cases a with
    | val p =>
      cases p with
      | str i =>
        simp only [B.kvsR] at e
        cases e1 : s1Of d with
        | none => rw [e1] at e; cases e
        | some s =>
          cases e2 : B.kvsR r with
          | none => rw [e1, e2] at e; cases e
          | some l =>
            rw [e1, e2] at e
            cases e
            obtain ⟨us, e3, r1⟩ := RPs.kvsR t e2
            cases ha
            exact ⟨(Sum.inr i, _) :: us, by rw [e3]; rfl, .cons (s1Of_rel hb e1) r1⟩
      | _ => simp [B.kvsR] at e
    | _ => simp [B.kvsR] at e
theorem RpKS.merge {K : W.Frag} {w : Wd} {H : Hp} : ∀ {more : List (Key × S1)} {us : List (Key × V)} {kvs : List (Key × S1)} {vs : List (Key × V)}, RpKS K w H more us → RpKS K w H kvs vs → RpKS K w H (more.foldl (fun l p => putA l p.1 p.2) kvs) (mergeK vs us) := by
  intro more us kvs vs r
  induction r generalizing kvs vs with
  | nil => intro q; exact q
  | cons r s ih => intro q; exact ih (q.put r)
end
end
section
variable {X : Ex → Store → Prop} {st : Store} {env : B.Env}
@[simp] theorem getA_nil {κ α : Type} [DecidableEq κ] {k : κ} : getA ([] : List (κ × α)) k = none := rfl
@[simp] theorem getA_cons {κ α : Type} [DecidableEq κ] {k k' : κ} {d : α} {r : List (κ × α)} : getA ((k', d) :: r) k = if k' = k then some d else getA r k := by
  simp only [getA, List.find?_cons]
  by_cases h : k' = k <;> simp [h]
@[simp] theorem dOf_v {p : PyData} : dOf (.v p) = .val p := rfl
@[simp] theorem dOf_l {n : Nat} : dOf (.l n) = .loc n := rfl
@[simp] theorem s1Of_v {p : PyData} : s1Of (.val p) = some (.v p) := rfl
@[simp] theorem s1Of_l {n : Nat} : s1Of (.loc n) = some (.l n) := rfl
@[simp] theorem kvsR_nil : kvsR [] = some [] := rfl
@[simp] theorem putA_nil {κ α : Type} [DecidableEq κ] {k : κ} {v : α} : putA ([] : List (κ × α)) k v = [(k, v)] := rfl
end
end B
namespace B
open PySem L2
section
variable [Nm] [Gd]
variable {X : Cx} {E : XK} {es : List Expr} {tr : TA} {fr : B.Env → M (List D)} {p pos pos2 : Pos}
end
section
variable {X : Ex → Store → Prop} {st : Store} {env : B.Env}
end
end B
namespace GS
open PySem PySem.Spec PyProof.Rows L2 PySem.W
def SO (w : World) (a : Addr) (vs : List V) : HO := .ext fun h => ∃ L es ep t, SetG w h a L es ep t ∧ (∀ r ∈ L, ∃ x u, r = (NestedKey.text x, Value.str x u)) ∧ ∀ x, V.str x ∈ vs ↔ NestedKey.text x ∈ L.map (·.1)
section
variable {X : Cx} {pins : List (Addr × Obj)} {σ : L2.St} {H : Hp} {s : Shared} {E : Value → Shared → Prop} {D : Addr}
end
theorem turns {Y : Cx} {pins : List (Addr × Obj)} {σ : L2.St} {H0 : Hp} {s0 : Shared} {J : It} {g : TG} {t : B.TN} {p it : Addr} {vs : List Nat} {fp : List Addr} {tn : Nat → Heap → Prop} {tg : Expr} {Fin : Hp → Prop} {Z G : Shared → Prop} {E : Value → Shared → Prop} {Body : Shared → (Shared → Prop) → Prop}
    (T : Turn Y.prog Y.w Y.K tg J fp it tn) (hc : Y.calm = true) (hxe : Y.xe = fun _ _ => False) (pg : PG Y tg g) (hl : B.LcLoop J g t p vs σ H0 Fin) (I0 : Inv Y pins (wipe σ vs) H0 s0) (st0 : tn 0 s0.heap) (hf : ∀ b ∈ fp, FpOk Y pins H0 b)
    (hb : ∀ pins' σ2 H2 s2 Nx (K : Shared → Prop), Inv Y pins' σ2 H2 s2 → t p σ2 H2 Nx → (∀ σ3 H3 s3, Inv Y pins' σ3 H3 s3 → σ3.length = σ2.length → (∀ (j : Nat) v, (wipe σ2 vs)[j]? = some (some v) → σ3[j]? = some (some v)) → Nx H3 → K s3) → Body s2 K)
    (hz : ∀ H s, Inv Y pins (wipe σ vs) H s → Fin H → Z s)
    (loop : ∀ (I : Nat → Shared → Prop), (∀ n s, I n s → wpAny (model Y.prog Y.w) Y.A (pyNext (.ref it)) (fun r s1 => match r with
      | none => Z s1
      | some v => wpAny (model Y.prog Y.w) Y.A (letOwnedTupleGo tg (.ref it) v) (fun _ s2 => wpAny (model Y.prog Y.w) Y.A (assign tg Y.env v) (fun _ s3 => Body s3 fun s' => ∃ m, m < n ∧ I m s') E s2) E s1) E s) → ∀ n s, I n s → G s) : G s0 := by
  obtain ⟨W, ⟨m0, w0⟩, tr⟩ := hl
  have ff : ∀ {H : Hp}, (∀ b ∈ fp, H b = none) → ∀ b ∈ fp, FpOk Y pins H b := fun h b hb => ⟨h b hb, (hf b hb).2⟩
  refine loop (fun n s => ∃ i H, (Inv Y pins (wipe σ vs) H s ∧ W i n H) ∧ tn i s.heap ∧ ∀ b ∈ fp, H b = none) ?_ m0 s0 ⟨0, H0, ⟨I0, w0⟩, st0, fun b hb => (hf b hb).1⟩
  rintro n s ⟨i, H, ⟨I1, ww⟩, st1, nn⟩
  rcases tr i n H ww with ⟨a1, a2⟩ | ⟨a1, Nx, a2, a3⟩
  · refine thnF (T.done Y rfl rfl rfl hc i pins s _ H (fun _ _ => False) I1 (ff nn) st1 a1) ?_
    rintro r s' ⟨rfl, I2⟩
    exact hz H s' I2 a2
  · refine thnF (T.item Y rfl rfl rfl hc i pins s _ H (fun _ _ => False) I1 (ff nn) st1 a1) ?_
    rintro r s' ⟨u, rfl, h2⟩
    refine thnF h2 ?_
    rintro _ s2 ⟨x, H2, I2, r2, y2, st2, n2⟩
    have run := pg.run _ s2 _ H2 x u _ (I2.pinned (ff n2) (T.obj _ _ st2)) r2 (a3 x H2 y2)
    rw [hxe] at run
    refine thnF run ?_
    rintro _ s3 ⟨σ3, H3, I3, e3, q3⟩
    refine hb _ σ3 H3 s3 Nx _ I3 q3 ?_
    intro σ4 H4 s4 I4 l4 k4 nx
    obtain ⟨m, hm, w4⟩ := a2 H4 nx
    have pin : ∀ b ∈ fp, ∀ o, s2.heap.get? b = some o → s4.heap.get? b = some o ∧ H4 b = none := fun b hb o e => by
      have z := I4.pin (b, o) (List.mem_append_right _ (List.mem_append_right _ (mem_pinsAt hb e)))
      exact ⟨z.1, z.2.1⟩
    have kept : tn (i + 1) s4.heap := T.keep _ _ _ st2 fun b hb o e => (pin b hb o e).1
    refine ⟨m, hm, i + 1, H4, ⟨I4.unpinned.weak ?_ fun j v e => k4 j v (by rw [e3]; exact e), w4⟩, kept, fun b hb => ?_⟩
    · rw [l4, ← wipe_length σ3 vs, e3]
    · obtain ⟨o, e, _⟩ := T.obj _ _ st2 b hb
      exact (pin b hb o e).2
end GS
namespace GS
open PySem PySem.Spec PyProof.Rows L2 PySem.W
abbrev tst (f : List Expr) (en : PySem.Env) : Sem Bool := forIn f true fun q y => if y = true then do let z ← isTrue q en (eval q en); pure (ForInStep.yield z) else pure (ForInStep.yield y)
abbrev sc2 (elt t0 i0 t1 i1 : Expr) (f0 f1 : List Expr) (sc : Scope) (pos : Pos) : Expr := .SetComp elt [⟨t0, i0, f0, 0⟩, ⟨t1, i1, f1, 0⟩] sc pos
section
variable (elt t0 i0 t1 i1 : Expr) (f0 f1 : List Expr) (sc : Scope) (pos : Pos) (jt acc : Value) (en : PySem.Env)
theorem one_out : compTurn (sc2 elt t0 i0 t1 i1 f0 f1 sc pos) 0 jt acc en = (do
      standAt i0.pos
      match ← pyNext jt with
      | none => pure (.done .next)
      | some y =>
        letOwnedTupleGo t0 jt y
        assign t0 en y
        let mut z := true
        for q in f0 do
          if z then z ← isTrue q en (eval q en)
        if z then
          let u ← eval i1 en
          standAt i1.pos
          let u ← foldedSetIterable i1 en u
          let _ ← runOwn (.compStart (sc2 elt t0 i0 t1 i1 f0 f1 sc pos) 1 (← holding [u] (pyIter u)) acc en) en
        again (.compLoop (sc2 elt t0 i0 t1 i1 f0 f1 sc pos) 0 jt acc en)) := by rfl
theorem one_in : compTurn (sc2 elt t0 i0 t1 i1 f0 f1 sc pos) 1 jt acc en = (do
      standAt i1.pos
      match ← pyNext jt with
      | none => pure (.done .next)
      | some y =>
        letOwnedTupleGo t1 jt y
        assign t1 en y
        let mut z := true
        for q in f1 do
          if z then z ← isTrue q en (eval q en)
        if z then
          (do let u ← eval elt en; standAt elt.pos; let _ ← call (.builtin "set.add") [acc, u])
        again (.compLoop (sc2 elt t0 i0 t1 i1 f0 f1 sc pos) 1 jt acc en)) := by rfl
end
section
variable {P : Program} {w : World} {A : Around} {R : Result → Shared → Prop} {s : Shared} {elt t0 i0 t1 i1 : Expr} {f0 f1 : List Expr} {sc : Scope} {pos : Pos} {jt acc : Value} {en : PySem.Env}
theorem loop_out (hs : ∀ x, foldedSetIterable i1 en x = pure x) (I : Nat → Shared → Prop)
    (turn : ∀ n s, I n s → wpAny (model P w) A (pyNext jt) (fun r s1 => match r with
      | none => R (.ok .next) s1
      | some v => wpAny (model P w) A (letOwnedTupleGo t0 jt v) (fun _ s2 => wpAny (model P w) A (assign t0 en v) (fun _ s3 =>
          wpAny (model P w) A (tst f0 en) (fun z s4 => if z = true then wpAny (model P w) A (eval i1 en) (fun x s5 => wpAny (model P w) A (pyIter x) (fun kt s6 =>
              codeAny (model P w) A (.compStart (sc2 elt t0 i0 t1 i1 f0 f1 sc pos) 1 kt acc en) (fun r s' => match r with
                | .ok _ => ∃ m, m < n ∧ I m s'
                | .error _ => False) s6) (notedBy (model P w) A en fun e s' => R (.error e) s') s5) (notedBy (model P w) A en fun e s' => R (.error e) s') s4
            else ∃ m, m < n ∧ I m s4) (notedBy (model P w) A en fun e s' => R (.error e) s') s3) (notedBy (model P w) A en fun e s' => R (.error e) s') s2) (notedBy (model P w) A en fun e s' => R (.error e) s') s1) (notedBy (model P w) A en fun e s' => R (.error e) s') s)
    (n : Nat) (s : Shared) (h : I n s) : codeAny (model P w) A (.compLoop (sc2 elt t0 i0 t1 i1 f0 f1 sc pos) 0 jt acc en) R s := by
  refine codeAny_loop rfl I ?_ n h
  intro n s hI
  show wpAny _ A ((compTurn (sc2 elt t0 i0 t1 i1 f0 f1 sc pos) 0 jt acc en).onRaise _) _ _ s
  refine wpAny_noted ?_
  rw [one_out]
  refine wpAny_bind (wpAny_standAt (wpAny_bind (wpAny_mono (turn n s hI) ?_ fun _ _ z => z)))
  intro r s1 h1
  rcases r with _ | v
  · exact wpAny_pure h1
  refine wpAny_bind (wpAny_mono h1 (fun _ s2 h2 => wpAny_bind (wpAny_mono h2 (fun _ s3 h3 => wpAny_bind (wpAny_mono h3 ?_ fun _ _ z => z)) fun _ _ z => z)) fun _ _ z => z)
  intro z s4 h4
  cases z
  · exact wpAny_pure ⟨rfl, h4⟩
  refine wpAny_bind (wpAny_mono h4 (fun x s5 h5 => wpAny_bind (wpAny_standAt (wpAny_bind (wpAny_of_eq (hs x) (wpAny_bind (wpAny_holding (wpAny_mono h5 ?_ fun _ _ z => z))))))) fun _ _ z => z)
  intro kt s6 h6
  refine wpAny_bind (wpAny_runOwn ?_)
  rw [Around.mark_none]
  refine codeAny_mono h6 ?_
  intro r s' hr
  cases r with
  | error e => exact hr.elim
  | ok f =>
    first
      | exact wpAny_pure ⟨rfl, hr⟩
      | exact wpAny_bind (wpAny_pure (wpAny_pure ⟨rfl, hr⟩))
theorem loop_in (I : Nat → Shared → Prop)
    (turn : ∀ n s, I n s → wpAny (model P w) A (pyNext jt) (fun r s1 => match r with
      | none => R (.ok .next) s1
      | some v => wpAny (model P w) A (letOwnedTupleGo t1 jt v) (fun _ s2 => wpAny (model P w) A (assign t1 en v) (fun _ s3 =>
          wpAny (model P w) A (tst f1 en) (fun z s4 => if z = true then wpAny (model P w) A (eval elt en) (fun x s5 => wpAny (model P w) A (call (.builtin "set.add") [acc, x]) (fun _ s6 =>
              ∃ m, m < n ∧ I m s6) (notedBy (model P w) A en fun e s' => R (.error e) s') s5) (notedBy (model P w) A en fun e s' => R (.error e) s') s4
            else ∃ m, m < n ∧ I m s4) (notedBy (model P w) A en fun e s' => R (.error e) s') s3) (notedBy (model P w) A en fun e s' => R (.error e) s') s2) (notedBy (model P w) A en fun e s' => R (.error e) s') s1) (notedBy (model P w) A en fun e s' => R (.error e) s') s)
    (n : Nat) (s : Shared) (h : I n s) : codeAny (model P w) A (.compLoop (sc2 elt t0 i0 t1 i1 f0 f1 sc pos) 1 jt acc en) R s := by
  refine codeAny_loop rfl I ?_ n h
  intro n s hI
  show wpAny _ A ((compTurn (sc2 elt t0 i0 t1 i1 f0 f1 sc pos) 1 jt acc en).onRaise _) _ _ s
  refine wpAny_noted ?_
  rw [one_in]
  refine wpAny_bind (wpAny_standAt (wpAny_bind (wpAny_mono (turn n s hI) ?_ fun _ _ z => z)))
  intro r s1 h1
  rcases r with _ | v
  · exact wpAny_pure h1
  refine wpAny_bind (wpAny_mono h1 (fun _ s2 h2 => wpAny_bind (wpAny_mono h2 (fun _ s3 h3 => wpAny_bind (wpAny_mono h3 ?_ fun _ _ z => z)) fun _ _ z => z)) fun _ _ z => z)
  intro z s4 h4
  cases z
  · exact wpAny_pure ⟨rfl, h4⟩
  refine wpAny_bind (wpAny_bind (wpAny_mono h4 ?_ fun _ _ z => z))
  intro x s5 h5
  refine wpAny_bind (wpAny_standAt (wpAny_bind (wpAny_mono h5 ?_ fun _ _ z => z)))
  intro _ s6 h6
  exact wpAny_pure (wpAny_pure ⟨rfl, h6⟩)
theorem start_in (h0 : codeAny (model P w) A (.compLoop (sc2 elt t0 i0 t1 i1 f0 f1 sc pos) 1 jt acc en) R s)
    (h1 : wpAny (model P w) A (pyIter jt) (fun kt s' => codeAny (model P w) A (.compLoop (sc2 elt t0 i0 t1 i1 f0 f1 sc pos) 1 kt acc en) R s') (notedBy (model P w) A en fun x s' => R (.error x) s') s) :
    codeAny (model P w) A (.compStart (sc2 elt t0 i0 t1 i1 f0 f1 sc pos) 1 jt acc en) R s := by
  refine codeAny_of_tree ?_
  show wpAny _ _ ((compStart (sc2 elt t0 i0 t1 i1 f0 f1 sc pos) 1 jt acc en).onRaise _) _ _ s
  refine wpAny_notedAt ?_
  unfold compStart
  show wpAny _ _ (ask >>= _) _ _ s
  refine wpAny_bind (wpAny_askSetting (wpAny_ite ?_))
  split
  · first
      | exact wpAny_pure ⟨rfl, h0⟩
      | exact wpAny_bind (wpAny_pure (wpAny_pure ⟨rfl, h0⟩))
  · refine wpAny_bind (wpAny_rule ?_)
    first
      | exact wpAny_bind (wpAny_standAt (wpAny_bind (wpAny_mono h1 (fun kt s' k => wpAny_pure ⟨rfl, k⟩) fun _ _ z => z)))
      | (show wpAny _ _ (standAt i1.pos >>= _) _ _ s; exact wpAny_bind (wpAny_standAt (wpAny_bind (wpAny_mono h1 (fun kt s' k => wpAny_pure ⟨rfl, k⟩) fun _ _ z => z))))
end
end GS
namespace GS
open PySem PySem.Spec PyProof.Rows L2 PySem.W
section
variable {X : Cx} {elt tg iter tg1 iter1 : Expr} {ifs ifs1 : List Expr} {scope : Scope} {own : List (Str × Nat)} {vs1 : List Nat} {pos : Pos} {wi wi1 : TI} {g g1 : TG} {tt tt1 : TT} {te : TE}
end
end GS
namespace GS
open PySem PySem.Spec PyProof.Rows L2 PySem.W
section
variable [B.Nm] [B.Gd]
end
end GS
namespace B
open PySem L2
variable [Nm] [Gd]
theorem unprotU {K : W.Frag} {w w' : Wd} {H H' : Hp} {st st' : Store} {p : Addr} {o : HO} (hs : RelSt K w H st) (hp : H p = none) (g : Ge (w.prot p) (upd H p o) w' H') (s : RelSt K w' H' st') (o1 : NoT o := by intro _ z; cases z) (o2 : ∀ q, o ≠ LamX.CodeO p q) :
    ∃ w2, Mo w' H' w2 (hide H' p) ∧ RelSt K w2 (hide H' p) st' ∧ Ge w H w2 (hide H' p) ∧ H' p = some o ∧ w2.rho = w'.rho := by
  have np := hs.notin hp
  obtain ⟨more, e1, e2, hm⟩ := g.pre
  have e2' : w'.ext = p :: w.ext := e2
  have e1' : w'.rho = w.rho ++ more := e1
  have npr : p ∉ w'.rho := fun q => s.nde p q (by rw [e2']; exact List.mem_cons_self)
  have mo : Mo w' H' ⟨w'.rho, w.ext⟩ (hide H' p) := ⟨fun a u _ n h => by
    have ne : a ≠ p := fun z => n (List.mem_append_right _ (by rw [e2', z]; exact List.mem_cons_self))
    refine ⟨fun q => ?_, by rw [hide_ne ne]; exact h⟩
    rcases List.mem_append.mp q with q | q
    · exact n (List.mem_append_left _ q)
    · exact n (List.mem_append_right _ (by rw [e2']; exact List.mem_cons_of_mem _ q)), fun _ _ h => h⟩
  have hpo : H' p = some o := g.keep p o o1 (fun q => np (List.mem_append_left _ q)) upd_same
  have tb : LamX.Tabs Nm.tb (hide H' p) := fun t ht => by
    obtain ⟨ps, h1, h2, h3⟩ := s.tab t ht
    refine ⟨ps, by rw [hide_ne (fun z => by rw [z, hpo] at h1; exact o1 _ (Option.some.inj h1))]; exact h1, h2, fun pos cv hc => ?_⟩
    obtain ⟨c, e1, e2⟩ := h3 pos cv hc
    exact ⟨c, e1, by rw [hide_ne (fun z => by rw [z, hpo] at e2; exact o2 _ (Option.some.inj e2))]; exact e2⟩
  refine ⟨⟨w'.rho, w.ext⟩, mo, ⟨s.len, s.nd, fun a h => ?_, fun a h q => s.nde a h (by rw [e2']; exact List.mem_cons_of_mem _ q), fun n q a h1 h2 => ?_, tb, Gd.sb mo.sub s.inv⟩, ⟨⟨more, e1', rfl, fun q hq => ?_⟩, fun a u t n h => ?_, fun a u n h => ?_, fun a od u h => ?_⟩, hpo, rfl⟩
  · obtain ⟨u, e, x⟩ := s.trk a (by rw [e2']; exact List.mem_cons_of_mem _ h)
    exact ⟨u, by rw [hide_ne (fun z => np (by rw [← z]; exact List.mem_append_right _ h))]; exact e, x⟩
  · have ne : a ≠ p := fun z => npr (by rw [← z]; exact List.mem_of_getElem? h2)
    exact (s.obj n q a h1 h2).mo mo (hide_ne ne)
  · obtain ⟨n1, n2⟩ := hm q hq
    have ne : q ≠ p := fun z => by rw [z, upd_same] at n2; cases n2
    rw [upd_ne ne] at n2
    refine ⟨fun z => n1 ?_, n2⟩
    rcases List.mem_append.mp z with z | z
    · exact List.mem_append_left _ z
    · exact List.mem_append_right _ (List.mem_cons_of_mem _ z)
  · have ne : a ≠ p := ne_of_none h hp
    rw [hide_ne ne]
    exact g.keep a u t n (by rw [upd_ne ne]; exact h)
  · have ne : a ≠ p := ne_of_none h hp
    rw [hide_ne ne]
    exact g.there a u n (by rw [upd_ne ne]; exact h)
  · have ne : a ≠ p := ne_of_none h hp
    rw [hide_ne ne]
    exact g.fk a od u (by rw [upd_ne ne]; exact h)

def PostU (K : W.Frag) (wd : World) (p : Addr) (w : Wd) (H : Hp) (r : Res (List PyData)) (Nx : Hp → Prop) : Prop :=
  match r with
  | .ok acc st' => ∀ w' H' vs, Ge w H w' H' → RelSt K w' H' st' → H' p = none → Rps K w' H' acc vs → Nx (upd H' p (GS.SO wd p vs))
  | _ => False
theorem PostU.mono {K : W.Frag} {wd : World} {p : Addr} {w w' : Wd} {H H' : Hp} {r : Res (List PyData)} {Nx : Hp → Prop} (g : Ge w H w' H') (h : PostU K wd p w H r Nx) : PostU K wd p w' H' r Nx := by
  cases r with
  | ok acc st => exact fun w2 H2 vs g2 => h w2 H2 vs (g.trans g2)
  | exc e st => exact h
  | bad => exact h
section
variable {X : Cx} {E : XK} {elt tg iter tg1 iter1 : Expr} {ifs ifs1 : List Expr} {scope : Scope} {own : List (Str × Nat)} {is is1 : List Nat} {p pos pos1 : Pos} {ti ti1 : TI} {g g1 : TG} {tt tt1 : TT} {te : TE} {fi fi1 : Env → M Src} {fg fg1 : D → Env → M Env} {ft ft1 : Env → M Bool} {fe : Env → M D} {wd : World}
end
end B
namespace B
open PySem L2
section
variable {env : Env} {st : Store} {X : Ex → Store → Prop}
end
end B
namespace B
open PySem L2 StX
section
variable [Nm] [Gd]
theorem RpDs.cut {K : W.Frag} {w : Wd} {H : Hp} : ∀ (n : Nat) {ds : List D} {vs : List V}, RpDs K w H ds vs → RpDs K w H (ds.take n) (vs.take n) ∧ RpDs K w H (ds.drop n) (vs.drop n)
  | 0, _, _, r => ⟨.nil, r⟩
  | n + 1, _, _, .nil => ⟨.nil, .nil⟩
  | n + 1, _, _, .cons r t => ⟨.cons r (RpDs.cut n t).1, (RpDs.cut n t).2⟩
variable {P : Program} {w : World} {K : W.Frag} {mg : Str → Option Value} {base : Heap}
end
section
variable [Nm] [Gd] {X : Cx} {E : XK} {e : Expr} {es : List Expr} {tr : TA} {fr : Env → M (List D)} {pos p : Pos} {x : Str} {f : Addr} {k n : Nat} {m : List D → M D} {sp : Sp}
end
section
variable {X : Ex → Store → Prop} {st : Store}
end
end B
namespace B
open PySem L2
section
variable [Nm] [Gd] {X : Cx} {E : XK} {o e f : Expr} {to te tf : TE} {fo fe ff : Env → M D} {apos cpos : Pos}
end
section
variable {X : Ex → Store → Prop} {env : Env} {st : Store}
end
end B
namespace B
open PySem L2
section
variable [Nm] [Gd] {K : W.Frag} {E : XK}
end
section
variable {X : Ex → Store → Prop} {st : Store}
end
end B
namespace B
open PySem L2
def frzS (n : Nat) (st1 : Store) : S1 → Option PyData
  | .v p => some p
  | .l m => if n ≤ m then (match st1[m]? with
    | some (.lst ys) => some (.list ys)
    | _ => none) else none
  | .p _ _ => none
  | .dd _ => none
  | .dt _ _ _ => none
def frzSs (n : Nat) (st1 : Store) : List S1 → Option (List PyData)
  | [] => some []
  | x :: r => (frzS n st1 x).bind fun p => (frzSs n st1 r).map (p :: ·)
def frzO (n : Nat) (st1 : Store) : O → Option O
  | .lr xs => (match frzSs n st1 xs with
    | some ps => some (.lst ps)
    | none => if xs.all (s1Ok n) = true then some (.lr xs) else none)
  | o => if oOk n o = true then some o else none
def frzSt (n : Nat) (st1 : Store) : Store → Option Store
  | [] => some []
  | o :: r => (frzO n st1 o).bind fun p => (frzSt n st1 r).map (p :: ·)
def cutE (n : Nat) (env : Env) : Env := env.map fun
  | some d => if dOk n d = true then some d else none
  | none => none
def cutS (f : Env → M Fl) : Env → M Fl := fun env st => match f env st with
  | .ok fl st1 => (match frzSt st.length st1 (st1.take st.length) with
    | some st2 => (match fl with
      | .nx env' => .ok (.nx (cutE st.length env')) st2
      | _ => .bad)
    | none => .bad)
  | _ => .bad
section
variable [Nm] [Gd]
variable {X : Cx} {E : XK}
section
variable {o e : Expr} {to : TE} {tr : TA} {fo : Env → M D} {fr : Env → M (List D)} {apos cpos : Pos}
end
end
end B
namespace B
open PySem L2
section
variable {X : Ex → Store → Prop} {st : Store} {env : Env}
end
end B
namespace B
open PySem L2
section
variable [Nm] [Gd] {K : W.Frag} {E : XK}
end
section
variable {X : Ex → Store → Prop} {st : Store}
end
end B
namespace B
open PySem L2
section
variable [Nm] [Gd]
def prtR (st : Store) : D → Option (List S1)
  | .loc n => match st[n]? with
    | some (.lst xs) => some (xs.map S1.v)
    | some (.lr xs) => some xs
    | _ => none
  | _ => none
theorem Rps.toS {K : W.Frag} {w : Wd} {H : Hp} : ∀ {xs : List PyData} {vs : List V}, Rps K w H xs vs → RpSs K w H (xs.map S1.v) vs
  | _, _, .nil => .nil
  | _, _, .cons r s => .cons r (Rps.toS s)
theorem RpSs.length {K : W.Frag} {w : Wd} {H : Hp} : ∀ {xs : List S1} {vs : List V}, RpSs K w H xs vs → xs.length = vs.length
  | _, _, .nil => rfl
  | _, _, .cons _ s => congrArg (· + 1) (RpSs.length s)
theorem RpSs.empty {K : W.Frag} {w : Wd} {H : Hp} : ∀ {xs : List S1} {vs : List V}, RpSs K w H xs vs → (!vs.isEmpty) = (!xs.isEmpty)
  | _, _, .nil => rfl
  | _, _, .cons _ _ => rfl
theorem RpSs.app {K : W.Frag} {w : Wd} {H : Hp} : ∀ {xs : List S1} {vs : List V}, RpSs K w H xs vs → ∀ {ys : List S1} {us : List V}, RpSs K w H ys us → RpSs K w H (xs ++ ys) (vs ++ us)
  | _, _, .nil, _, _, t => t
  | _, _, .cons r s, _, _, t => .cons r (RpSs.app s t)
theorem RpSs.get {K : W.Frag} {w : Wd} {H : Hp} : ∀ {ds : List S1} {vs : List V} {i : Nat} {d : S1}, RpSs K w H ds vs → ds[i]? = some d → ∃ v, vs[i]? = some v ∧ RpS K w H d v
  | _, _, _, _, .nil, e => by simp at e
  | _, _, 0, _, .cons r _, e => by simp at e; subst e; exact ⟨_, rfl, r⟩
  | _, _, i + 1, d, .cons _ t, e => by
    obtain ⟨u, h1, h2⟩ := RpSs.get (i := i) (d := d) t (by simpa using e)
    exact ⟨u, by simpa using h1, h2⟩
theorem RpSs.at {K : W.Frag} {w : Wd} {H : Hp} {xs : List S1} {vs : List V} {i : Int} {d : S1} (r : RpSs K w H xs vs) (h : atI xs i = some d) : ∃ v, atI vs i = some v ∧ RpS K w H d v := by
  unfold atI at h ⊢
  rw [← r.length]
  cases q : ixN xs.length i with
  | none => rw [q] at h; cases h
  | some j =>
    rw [q] at h
    exact r.get h
theorem prtR_rel {K : W.Frag} {w : Wd} {H : Hp} {st : Store} {d : D} {v : V} {ss : List S1} (hs : RelSt K w H st) (r : RpD K w H d v) (e : prtR st d = some ss) : ∃ a vs, v = .ref a ∧ H a = some (.lst vs) ∧ RpSs K w H ss vs := by
  unfold prtR at e
  split at e
  · split at e
    · rename_i q
      cases e
      obtain ⟨a, ev, ha, vs, hv, rv⟩ := hs.at q r
      exact ⟨a, vs, ev, hv, rv.toS⟩
    · rename_i q
      cases e
      obtain ⟨a, ev, ha, vs, hv, rv⟩ := hs.at q r
      exact ⟨a, vs, ev, hv, rv⟩
    · cases e
  · cases e
def ixRF (x y : D) : M D := fun st => match prtR st x, dat st y with
  | some ss, some (.int i) => (match atI ss i with
    | some s => .ok s.d st
    | none => .bad)
  | _, _ => .bad
theorem bop_ixR {K : W.Frag} {E : XK} : BOp K E (rIx K) ixRF := by
  intro w H st dx dy x y Q hs rx ry hp
  unfold ixRF at hp
  split at hp
  · rename_i e1 e2
    split at hp
    · rename_i v hv
      obtain ⟨a, vs, e3, ha, ra⟩ := prtR_rel hs rx e1
      obtain ⟨u, hu, ru⟩ := ra.at hv
      exact .inl ⟨a, vs, _, u, e3, dat_int ry e2, SqL.of ha, hu, Post.now hp hs ru.d⟩
    · exact hp.elim
  · exact hp.elim
def lenRF (ds : List D) : M D := fun st => match ds with
  | [d] => (match prtR st d with
    | some ss => okV (.int ss.length) st
    | none => .bad)
  | _ => .bad
def sQ : D → Option S1
  | .val p => some (.v p)
  | .loc n => some (.l n)
  | .pr (.v a) (.l n) => some (.p a n)
  | .dv kvs => some (.dd kvs)
  | .tr (.v a) (.v b) (.dd kvs) => some (.dt a b kvs)
  | _ => none
theorem sQ_rel {K : W.Frag} {w : Wd} {H : Hp} {d : D} {s : S1} {v : V} (r : RpD K w H d v) (h : sQ d = some s) : RpS K w H s v := by
  unfold sQ at h
  split at h
  · cases h; exact r
  · cases h; exact r
  · cases h
    obtain ⟨q, u, t, e, ht, r1, b, eb, hb⟩ := r
    subst eb
    exact ⟨q, u, b, e, ht, r1, hb⟩
  · cases h; exact r
  · cases h
    obtain ⟨q, u, t, s, e, ht, r1, r2, a, xs, es, ha, rk⟩ := r
    subst es
    exact ⟨q, u, t, a, xs, e, ht, r1, r2, ha, rk⟩
  · cases h
def appQ (x : D) (ds : List D) : M D := fun st => match x, ds with
  | .loc n, [d] => (match prtR st (.loc n), sQ d with
    | some xs, some s => if xs.length < sizeLine then .ok (.val .none) (st.set n (.lr (xs ++ [s]))) else .bad
    | _, _ => .bad)
  | _, _ => .bad
theorem bm_appQ {K : W.Frag} {E : XK} : BMt K E rAppend appQ := by
  intro w H st dx ds x vs Q hs rx rd hp
  unfold appQ at hp
  split at hp
  · rename_i n d
    split at hp
    · rename_i xs s e1 e2
      split at hp
      · rename_i hl
        obtain ⟨a', us, ev, hu, ru⟩ := prtR_rel hs rx e1
        obtain ⟨a, ev2, ha⟩ := (show ∃ a, x = .ref a ∧ w.rho[n]? = some a from rx)
        rw [ev] at ev2
        cases ev2
        obtain ⟨v, evs, rv⟩ := rd.one
        refine ⟨a', us, v, ev, evs, hu, by rw [← ru.length]; exact hl, ?_⟩
        obtain ⟨s2, g2⟩ := hs.write (o := .lr _) (u := .lst (us ++ [v])) ha ⟨_, upd_same, (ru.app (.cons (sQ_rel rv e2) .nil)).mono (.write ha (by rw [hu]; intro _ _ z; cases z))⟩ (by rw [hu]; intro _ _ z; cases z)
        exact hp w _ _ g2 s2 .non
      · exact hp.elim
    · exact hp.elim
  · exact hp.elim
def isLR (d : D) : M Unit := fun st => match prtR st d with
  | some _ => .ok () st
  | none => .bad
def methR (g : D → List D → M D) (fo : Env → M D) (fr : Env → M (List D)) : Env → M D := fun env => bd (fo env) fun x => bd (isLR x) fun _ => bd (fr env) fun ds => g x ds
theorem rf_methR {K : W.Frag} {E : XK} {to : TE} {fo : Env → M D} {tr : TA} {fr : Env → M (List D)} {r : V → List V → Hp → VK → Prop} {g : D → List D → M D} (hB : BMt K E r g) (ho : Rf K E (RE K) to fo) (ha : Rf K E (RA K) tr fr) : Rf K E (RE K) (tBM K "list" r to tr) (methR g fo fr) := by
  intro w σ H env st Q s0 e0 hp
  refine ho.step s0 e0 hp fun r1 H1 st1 x v g1 s1 e1 q1 hp => ?_
  cases hd : prtR st1 x with
  | none =>
    rw [bd_bad (by unfold isLR; rw [hd])] at hp
    exact hp.elim
  | some xs =>
    obtain ⟨a, us, e3, ha', ra⟩ := prtR_rel s1 q1 hd
    subst e3
    rw [bd_ok (a := ()) (st' := st1) (by unfold isLR; rw [hd])] at hp
    refine ⟨.inl ⟨rfl, us, SqL.of ha'⟩, ?_⟩
    exact ha.step s1 e1 hp fun r2 H2 st2 ds vs g2 s2 e2 q2 hp => hB r2 H2 st2 x ds _ vs Q s2 (q1.mono g2) q2 hp
section
variable {X : Cx} {E : XK} {o e a b : Expr} {es : List Expr} {to ta tb : TE} {tr : TA} {fo fa fb : Env → M D} {fr : Env → M (List D)} {apos cpos pos p p2 : Pos}
theorem se_ixR {K : W.Frag} (ha : SE X E a ta fa) (hb : SE X E b tb fb) (hK : X.K = K := by rfl) (hs : PlainIx b := by exact fun _ _ => rfl) : SE X E (.Subscript a b pos) (tOp (rIx K) ta tb) (op2 ixRF fa fb) := by
  subst hK
  exact ⟨pe_ix ix_seq ha.pe hb.pe hs, rf_op bop_ixR ha.rf hb.rf⟩
theorem se_appQ {K : W.Frag} (ho : SE X E o to fo) (ha : SA X E [e] tr fr) (hK : X.K = K := by rfl) (hbase : attributeBase o "append" X.env (eval o X.env) = eval o X.env := by rfl)
    (hfew : ((backTo cpos (starEach [e] X.env)).all (fun x => !x.1) && (backToKw cpos (keywordEach [] X.env)).all (fun x => x.1.isSome) && decide ([e].length + ([] : List Keyword).length + (if ([] : List Keyword).isEmpty then 0 else 1) < 30)) = true := by rfl)
    (hline : (apos.endLine == cpos.line) = true := by rfl) (hs : starEach [e] X.env = (false, eval e X.env) :: starEach [] X.env := by rfl) (hplain : (backTo cpos (starEach [] X.env)).any (·.1) = false := by rfl) :
    SE X E (.Call (.Attribute o "append" apos) [e] [] cpos) (tBM K "list" rAppend to tr) (methR appQ fo fr) := by
  subst hK
  exact ⟨pe_bm PySem.F.plainAttrs_list PySem.F.slot_list_append PySem.F.type_list_append mt_append ho.pe ha.pa hbase hfew hline hs hplain, rf_methR bm_appQ ho.rf ha.rf⟩
end
end
end B
namespace B
open PySem L2
section
variable [Nm] [Gd]
abbrev SrcD := Store → Nat → Option (Option D)
def ItD (K : W.Frag) (w : Wd) (H : Hp) (s : SrcD) (J : It) : Prop := ∀ (w' : Wd) (H' : Hp) (st' : Store), (∀ (n : Nat) (a : Addr), w.rho[n]? = some a → w'.rho[n]? = some a) → RelSt K w' H' st' → ∀ i : Nat,
  (s st' i = some none → J.stop i H') ∧ ∀ d, s st' i = some (some d) → J.go i H' ∧ ∀ v H2, J.yld i H' v H2 → Same H' H2 ∧ RpD K w' H2 d v
structure SIx (X : Cx) (E : XK) (tg iter : Expr) (t : TI) (f : Env → M SrcD) : Prop where
  pi : PI X tg iter t
  rf : Rf X.K E (ItD X.K) t f
def lcX (g : D → Env → M Env) (inner : Env → List PyData → M (List PyData)) (s : SrcD) (env : Env) : Nat → Nat → List PyData → M (List PyData)
  | 0, _, _ => bad
  | m + 1, i, acc => fun st => match s st i with
    | none => .bad
    | some none => .ok acc st
    | some (some x) => bd (noX (g x env)) (fun env' => bd (inner env' acc) fun acc' => lcX g inner s env m (i + 1) acc') st
theorem lcX_loop {K : W.Frag} {m0 : Nat} {J : It} {tg : TG} {t : TN} {is vs0 : List Nat} {g : D → Env → M Env} {inner : Env → List PyData → M (List PyData)} (hg : RfG K E0 is tg g) (hi : RfN K t inner) (his : ∀ i ∈ is, i ∈ vs0)
    {w : Wd} {σ : St} {H : Hp} {env : Env} {st : Store} {s : SrcD} {acc : List PyData} {vs : List V} {p : Addr} {Fin : Hp → Prop} (hs : RelSt K w H st) (he : RelEnv K w H env σ) (hn : H p = none) (hq : Rps K w H acc vs) (hJ : ItD K w H s J)
    (hp : PostN K p w H (lcX g inner s (kill vs0 env) m0 0 acc st) Fin) : LcLoop J tg t p vs0 σ (upd H p (.lst vs)) Fin := by
  have turn : ∀ (w2 : Wd) (H2 : Hp) (st2 : Store) (acc2 : List PyData) (vs2 : List V) (x : D) (v : V) (H3 : Hp) (rest : List PyData → M (List PyData)) (Nx : Hp → Prop), Ge w H w2 H2 → RelSt K w2 H2 st2 → H2 p = none → Rps K w2 H2 acc2 vs2 →
      Same (upd H2 p (.lst vs2)) H3 → RpD K (w2.prot p) H3 x v → PostN K p w2 H2 (bd (noX (g x (kill vs0 env))) (fun env' => bd (inner env' acc2) rest) st2) Fin →
      (∀ w4 H4 st4 acc4 vs4, Ge w H w4 H4 → RelSt K w4 H4 st4 → H4 p = none → Rps K w4 H4 acc4 vs4 → PostN K p w4 H4 (rest acc4 st4) Fin → Nx (upd H4 p (.lst vs4))) →
      tg v (wipe σ vs0) H3 fun σ2 H2 => wipe σ2 vs0 = wipe σ vs0 ∧ t p σ2 H2 Nx := by
    intro w2 H2 st2 acc2 vs2 x v H3 rest Nx g2 s2 n2 q2 sm rx hp2 hN
    have e2 : RelEnv K w2 H2 (kill vs0 env) (wipe σ vs0) := (he.mono g2).wiped
    have s2p := s2.prot (o := .lst vs2) n2
    have g3 : Ge (w2.prot p) (upd H2 p (.lst vs2)) (w2.prot p) H3 := .same sm
    refine hg (w2.prot p) (wipe σ vs0) H3 (kill vs0 env) st2 x v _ (s2p.same sm) ((e2.mo (Mo.prot s2 n2)).mono g3) rx ?_
    cases hf : g x (kill vs0 env) st2 with
    | ok env' st' =>
      rw [bd_ok (noX_ok hf)] at hp2
      intro w4 H4 σ4 g4 s4 e4 ww
      refine ⟨(ww vs0 his).trans ?_, ?_⟩
      · have : ∀ (l : List Nat) (τ : St), wipe (wipe τ l) l = wipe τ l := fun l τ => by
          apply List.ext_getElem?
          intro i
          by_cases hi : i ∈ l
          · have key : ∀ (l : List Nat) (τ : St), i ∈ l → (wipe τ l)[i]? = if i < τ.length then some none else none := by
              intro l
              induction l with
              | nil => intro τ h; simp at h
              | cons y l ih =>
                intro τ h
                unfold wipe
                by_cases hy : i = y
                · subst hy
                  by_cases hl : i < τ.length
                  · rw [List.getElem?_set_self (by rw [wipe_length]; exact hl), if_pos hl]
                  · rw [if_neg hl, List.getElem?_eq_none (by rw [List.length_set, wipe_length]; omega)]
                · rw [List.getElem?_set_ne (Ne.symm hy)]
                  exact ih τ (by
                    rcases List.mem_cons.mp h with e | e
                    · exact absurd e hy
                    · exact e)
            rw [key l _ hi, key l _ hi, wipe_length]
          · rw [wipe_out hi]
        exact this vs0 σ
      · obtain ⟨w5, mo5, s5, g5, hD5, er5⟩ := unprot s2 n2 (g3.trans g4) s4
        have hh : upd (hide H4 p) p (.lst vs2) = H4 := by rw [upd_hide, upd_self hD5]
        rw [← hh]
        refine hi p w5 σ4 (hide H4 p) env' st' acc2 vs2 Nx s5 (e4.mo mo5) hide_same (q2.mono g5) ?_
        have hp5 := hp2.mono g5
        cases hr : inner env' acc2 st' with
        | ok acc6 st6 =>
          rw [bd_ok hr] at hp5
          exact fun w6 H6 vs6 g6 s6 n6 q6 => hN w6 H6 st6 acc6 vs6 (g2.trans (g5.trans g6)) s6 n6 q6 (hp5.mono g6)
        | exc e st6 => rw [bd_exc hr] at hp5; exact hp5.elim
        | bad => rw [bd_bad hr] at hp5; exact hp5.elim
    | exc e st' => rw [bd_bad (noX_exc hf)] at hp2; exact hp2.elim
    | bad => rw [bd_bad (noX_bad hf)] at hp2; exact hp2.elim
  let W : Nat → Nat → Hp → Prop := fun i m H' => ∃ w2 H2 st2 acc2 vs2, H' = upd H2 p (.lst vs2) ∧ Ge w H w2 H2 ∧ RelSt K w2 H2 st2 ∧ H2 p = none ∧ Rps K w2 H2 acc2 vs2 ∧ PostN K p w2 H2 (lcX g inner s (kill vs0 env) m i acc2 st2) Fin
  refine ⟨W, ⟨m0, w, H, st, acc, vs, rfl, Ge.refl _ _, hs, hn, hq, hp⟩, ?_⟩
  rintro i m H' ⟨w2, H2, st2, acc2, vs2, rfl, g2, s2, n2, q2, hp2⟩
  cases m with
  | zero => exact (show False from hp2).elim
  | succ m =>
    unfold lcX at hp2
    obtain ⟨hstop, hgo⟩ := hJ (w2.prot p) (upd H2 p (.lst vs2)) st2 (fun n a h => g2.get h) (s2.prot n2) i
    cases hx : s st2 i with
    | none => simp only [hx] at hp2; exact (show False from hp2).elim
    | some x =>
      cases x with
      | none =>
        left
        simp only [hx] at hp2
        exact ⟨hstop hx, hp2 w2 H2 vs2 (Ge.refl _ _) s2 n2 q2⟩
      | some x =>
        right
        simp only [hx] at hp2
        obtain ⟨go, yld⟩ := hgo x hx
        refine ⟨go, fun H' => W (i + 1) m H', fun H' h => ⟨m, Nat.lt_succ_self _, h⟩, fun v' H3 hy => ?_⟩
        obtain ⟨sm, rx⟩ := yld v' H3 hy
        exact turn w2 H2 st2 acc2 vs2 x v' H3 _ _ g2 s2 n2 q2 sm rx hp2 fun w4 H4 st4 acc4 vs4 g4 s4 n4 q4 hp4 => ⟨w4, H4, st4, acc4, vs4, rfl, g4, s4, n4, q4, hp4⟩
def lcSX (m : Nat) (own : List Nat) (fi : Env → M SrcD) (g : D → Env → M Env) (ft : Env → M Bool) (fe : Env → M D) : Env → M (List PyData) := fun env => bd (fi env) fun s => noX (lcX g (lcIn ft fe) s (kill own env) m 0 [])
theorem rf_lcX {K : W.Frag} {E : XK} {m : Nat} {own is : List Nat} {ti : TI} {tg : TG} {tt : TT} {te : TE} {fi : Env → M SrcD} {g : D → Env → M Env} {ft : Env → M Bool} {fe : Env → M D} (hi : Rf K E (ItD K) ti fi) (hg : RfG K E0 is tg g) (his : ∀ i ∈ is, i ∈ own)
    (ht : Rf K E0 RB tt ft) (he : Rf K E0 (RE K) te fe) : RfF K E (tLc ti tg tt te own) (lcSX m own fi g ft fe) := by
  intro w σ H env st Q s0 e0 hp
  unfold lcSX at hp
  refine hi w σ H env st _ s0 e0 ?_
  cases hf : fi env st with
  | ok s st' =>
    rw [bd_ok hf] at hp
    intro w1 H1 J g1 s1 q1 p np
    refine lcX_loop (m0 := m) hg (rfn_in ht he) his s1 (e0.mono g1) np .nil q1 (Fin := fun H' => Q (.ref p) H') ?_
    have hp := hp.mono g1
    cases hr : lcX g (lcIn ft fe) s (kill own env) m 0 [] st' with
    | ok acc st2 =>
      rw [noX_ok hr] at hp
      exact fun w2 H2 vs g2 s2 n2 q2 => hp w2 H2 p vs g2 s2 n2 q2
    | exc e st2 => rw [noX_exc hr] at hp; exact hp.elim
    | bad => rw [noX_bad hr] at hp; exact hp.elim
  | exc e st' => rw [bd_exc hf] at hp; exact hp
  | bad => rw [bd_bad hf] at hp; exact hp
section
variable {X : Cx} {E : XK} {elt tg iter a b e : Expr} {ifs : List Expr} {scope : Scope} {own : List (Str × Nat)} {is : List Nat} {pos p tpos : Pos} {ti : TI} {g : TG} {tt : TT} {te : TE} {fi : Env → M SrcD} {fg : D → Env → M Env} {ft : Env → M Bool} {fe : Env → M D} {tr : TA} {fr : Env → M (List D)} {elts : List Expr} {kk : Nat}
theorem sf_lcX (m : Nat) (hN : X.N.Nodup) (hi : SIx X E tg iter ti fi) (ok : BlkOk X.N X.env.scope scope own)
    (hg : ∀ (s : Shared) (H : Hp) (C : Addr) (cl : List (Str × Addr)) (fp : List Addr), SG (X.blk s H scope (PySem.compEnvC scope cl C X.env) fp) E0 is tg g fg) (ht : ∀ (s : Shared) (H : Hp) (C : Addr) (cl : List (Str × Addr)) (fp : List Addr), STs (X.blk s H scope (PySem.compEnvC scope cl C X.env) fp) E0 ifs tt ft)
    (he : ∀ (s : Shared) (H : Hp) (C : Addr) (cl : List (Str × Addr)) (fp : List Addr), SE (X.blk s H scope (PySem.compEnvC scope cl C X.env) fp) E0 elt te fe) {os : List Nat} (hos : own.map (·.2) = os := by rfl) (his : ∀ i ∈ is, i ∈ os := by decide) (hc : X.calm = true := by rfl) (hs : ∀ x, foldedSetIterable iter X.env x = pure x := by intro _; rfl) :
    SF X E (.ListComp elt [⟨tg, iter, ifs, 0⟩] scope pos) (tLc ti g tt te os) (lcSX m os fi fg ft fe) := by
  subst hos
  exact ⟨pe_lc hc hN hi.pi ok (fun s H C cl fp => (hg s H C cl fp).pg) (fun s H C cl fp => (ht s H C cl fp).pt) (fun s H C cl fp => (he s H C cl fp).pe) hs,
    rf_lcX hi.rf (hg {} (fun _ => none) 0 [] []).rf his (ht {} (fun _ => none) 0 [] []).rf (he {} (fun _ => none) 0 [] []).rf⟩
def lrAt (n : Nat) : SrcD := fun st i => match prtR st (.loc n) with
  | some xs => some (xs[i]?.map S1.d)
  | none => none
def lrSrc (d : D) : M SrcD := fun st => match d with
  | .loc n => (match prtR st (.loc n) with
    | some _ => .ok (lrAt n) st
    | none => .bad)
  | _ => .bad
def lrI (f : Env → M D) : Env → M SrcD := fun env => bd (f env) lrSrc
theorem si_lr {K : W.Frag} {te : TE} {fe : Env → M D} (h : SE X E e te fe) (hK : X.K = K := by rfl) : SIx X E tg e (iAny K te) (lrI fe) := by
  subst hK
  refine ⟨pi_any h.pe, fun w σ H env st Q s0 e0 hp => ?_⟩
  refine h.rf.step s0 e0 hp fun r1 H1 st1 x v g1 s1 e1 q1 hp => ?_
  unfold lrSrc at hp
  split at hp
  · rename_i n
    split at hp
    · rename_i ss hss
      obtain ⟨a, vs, ev, hv, rv⟩ := prtR_rel s1 q1 hss
      obtain ⟨a', ev', ha⟩ := (show ∃ a, v = .ref a ∧ r1.rho[n]? = some a from q1)
      rw [ev] at ev'
      cases ev'
      refine .inl ⟨a, ev, ⟨vs, SqL.of hv⟩, Post.now hp s1 fun w' H' st' gt s' i => ?_⟩
      have rn : RpD X.K w' H' (.loc n) (.ref a) := ⟨a, rfl, gt n a ha⟩
      unfold lrAt
      cases hq : prtR st' (.loc n) with
      | none => exact ⟨fun z => (by cases z), fun d z => (by cases z)⟩
      | some xs =>
        obtain ⟨a2, us, e2, hu, ru⟩ := prtR_rel s' rn hq
        cases e2
        refine ⟨fun z => ⟨us, SqL.of hu, ?_⟩, fun d z => ?_⟩
        · simp only [Option.some.injEq, Option.map_eq_none_iff] at z
          rw [← ru.length]
          exact List.getElem?_eq_none_iff.mp z
        · simp only [Option.some.injEq, Option.map_eq_some_iff] at z
          obtain ⟨x, hx, rfl⟩ := z
          obtain ⟨u, hu2, rx⟩ := ru.get hx
          refine ⟨⟨us, u, SqL.of hu, hu2⟩, ?_⟩
          rintro v2 H2 ⟨rfl, hy⟩
          have e4 : v2 = u := by
            have q := hy us (SqL.of hu)
            rw [hu2] at q
            exact (Option.some.inj q).symm
          subst e4
          exact ⟨Same.refl _, rx.d⟩
    · exact hp.elim
  · exact hp.elim
end
end
section
variable {X : Ex → Store → Prop} {st : Store} {env : B.Env}
@[simp] theorem prtR_loc {n : Nat} : prtR st (.loc n) = (match st[n]? with | some (.lst xs) => some (xs.map S1.v) | some (.lr xs) => some xs | _ => none) := rfl
@[simp] theorem e_methR {g : D → List D → M D} {fo : Env → M D} {fr : Env → M (List D)} {Q : D → Store → Prop} : wpx X (methR g fo fr env st) Q = wpx X (bd (fo env) (fun x => bd (isLR x) fun _ => bd (fr env) fun ds => g x ds) st) Q := by first | exact propext Iff.rfl | exact wp_D | exact wp_D.trans wp_D.symm
theorem f_isLR {n : Nat} {ss : List S1} {Q : Unit → Store → Prop} (h : prtR st (.loc n) = some ss) : wpx X (isLR (.loc n) st) Q = Q () st := by
  simp only [isLR, h, wp_ok]
theorem f_ixR {n : Nat} {i : Int} {ss : List S1} {s : S1} {Q : D → Store → Prop} (h : prtR st (.loc n) = some ss) (hi : atI ss i = some s) : wpx X (ixRF (.loc n) (.val (.int i)) st) Q = Q s.d st := by
  simp only [ixRF, h, dat, hi, wp_ok]
theorem f_appQ {n : Nat} {d : D} {s : S1} {ss : List S1} {Q : D → Store → Prop} (h : prtR st (.loc n) = some ss) (hd : sQ d = some s) (hl : ss.length < sizeLine) : wpx X (appQ (.loc n) [d] st) Q = Q (.val .none) (st.set n (.lr (ss ++ [s]))) := by
  simp only [appQ, h, hd, hl, if_true, wp_ok]
@[simp] theorem e_lrI {f : Env → M D} {Q : SrcD → Store → Prop} : wpx X (lrI f env st) Q = wpx X (bd (f env) lrSrc st) Q := by first | exact propext Iff.rfl | exact wp_D | exact wp_D.trans wp_D.symm
theorem f_lrSrc {n : Nat} {ss : List S1} {Q : SrcD → Store → Prop} (h : prtR st (.loc n) = some ss) : wpx X (lrSrc (.loc n) st) Q = Q (lrAt n) st := by
  simp only [lrSrc, h, wp_ok]
@[simp] theorem e_lcSX {m : Nat} {own : List Nat} {fi : Env → M SrcD} {g : D → Env → M Env} {ft : Env → M Bool} {fe : Env → M D} {Q : List PyData → Store → Prop} : wpx X (lcSX m own fi g ft fe env st) Q = wpx X (bd (fi env) (fun s => noX (lcX g (lcIn ft fe) s (kill own env) m 0 [])) st) Q := by first | exact propext Iff.rfl | exact wp_D | exact wp_D.trans wp_D.symm
theorem lcX_map {g : D → Env → M Env} {fe : Env → M D} {s : SrcD} {ds : List D} {f : Nat → PyData} {Q : List PyData → Store → Prop} (hs : ∀ i, s st i = some ds[i]?)
    (h : ∀ i d, ds[i]? = some d → wpx noE (g d env st) fun e s' => wpx noE (fe e s') fun y s2 => y = .val (f i) ∧ s2 = st) (hl : ds.length ≤ sizeLine)
    (hq : Q ((List.range ds.length).map f) st) : ∀ {m : Nat} , ds.length < m → wpx noE (lcX g (lcIn yesT fe) s env m 0 [] st) Q := by
  have key : ∀ (m i : Nat), i ≤ ds.length → ds.length < m + i → wpx noE (lcX g (lcIn yesT fe) s env m i ((List.range i).map f) st) Q := by
    intro m
    induction m with
    | zero => intro i h1 h2; omega
    | succ m ih =>
      intro i h1 h2
      unfold lcX
      by_cases hi : i < ds.length
      · have e1 : ds[i]? = some ds[i] := by simp [hi]
        rw [hs i, e1]
        simp only [wp_bd, wp_noX]
        refine wp_mono (h i _ e1) fun e s' hh => ?_
        show wpx noE (bd (lcIn yesT fe e _) (fun acc' => lcX g (lcIn yesT fe) s env m (i + 1) acc') s') Q
        have hlt : ((List.range i).map f).length < sizeLine := by rw [List.length_map, List.length_range]; omega
        have he := of_wp hh
        have : lcIn yesT fe e ((List.range i).map f) s' = .ok ((List.range i).map f ++ [f i]) st := by
          simp only [lcIn, yesT, bd, noX, he, rt, if_true, hlt]
        rw [bd_ok this]
        have := ih (i + 1) hi (by omega)
        rw [List.range_succ, List.map_append] at this
        exact this
      · have e1 : ds[i]? = none := by simp; omega
        rw [hs i, e1]
        have : i = ds.length := by omega
        subst this
        simp only [wp_ok]
        exact hq
  intro m hm
  exact key m 0 (Nat.zero_le _) (by omega)
end
end B
namespace B
open PySem L2 PySem.Spec PyProof.Rows
mutual
theorem nk_of_data : ∀ k : NestedKey, GS.nk k.data = some k
  | .none => rfl
  | .num _ => rfl
  | .text _ => rfl
  | .tup ks => by simp only [NestedKey.data, GS.nk, nks_of_data ks]; rfl
theorem nks_of_data : ∀ ks : List NestedKey, GS.nks (NestedKey.datas ks) = some ks
  | [] => rfl
  | k :: ks => by simp only [NestedKey.datas, GS.nks, nk_of_data k, nks_of_data ks]; rfl
end
def KeysN (K : W.Frag) (H : Hp) (xs : List (NestedKey × Addr × Value)) : Prop := ∀ e ∈ xs, Dp K H (.ref e.2.1) e.1.data ∧ e.1.depth ≤ 8
section
variable {X : Cx} {pins : List (Addr × Obj)} {σ : L2.St} {H : Hp} {s : Shared} {a : Addr} {xs : List (NestedKey × Addr × Value)}
theorem nest_of (I : Inv X pins σ H s) {k : NestedKey} {b : Addr} (d : Dp X.K H (.ref b) k.data) : NestedIs s.heap k (.ref b) :=
  (GS.nested_of I k.data (.ref b) (.ref b) k d rfl (nk_of_data k)).1
theorem dn_rd (I : Inv X pins σ H s) (e : H a = some (rawN X.w a xs)) (hk : KeysN X.K H xs) : (a == sysModules) = false ∧ xs.length ≤ sizeLine ∧ s.heap.DictOfH (nestedKind X.prog X.w) a xs := by
  obtain ⟨⟨h1, h2, h3, o, es, ep, ho, hx, hd, he⟩, _, _⟩ := (show ObjOk X.prog X.w H s.heap a (rawN X.w a xs) from I.hok a _ e)
  exact ⟨h1, h2, o, es, ep, ho, hx, hd, he, fun x hx => ⟨nest_of I (hk x hx).1, (hk x hx).2⟩, h3⟩
def tDGetN (K : W.Frag) (wl : World) (td ty : TE) : TE := fun σ H Q => td σ H fun x H1 => ty σ H1 fun y H2 => ∃ a xs b k p v, x = V.ref a ∧ H2 a = some (rawN wl a xs) ∧ KeysN K H2 xs ∧ y = V.ref b ∧ Dp K H2 (.ref b) k.data ∧ k.depth ≤ 8 ∧ atKey xs k = some p ∧ RelV v p.2 ∧ Q v H2
theorem pe_dgetN {K : W.Frag} {wl : World} {o i : Expr} {pos : Pos} {td ty : TE} (hu : X.A.units + 9 < cLine) (hw : X.w = wl) (ho : PE X o td) (hi : PE X i ty) (hs : NoSl i) (hK : X.K = K := by rfl) : PE X (.Subscript o i pos) (tDGetN K wl td ty) := by
  subst hw hK
  refine ⟨fun pins s σ H Q I h => ?_⟩
  refine subD_of PySem.F.slot_dict_getitem.lookup hs (thn (ho.run pins s σ H _ I h) fun u s1 ⟨x, H1, I1, rx, q1⟩ => thn (hi.run pins s1 σ H1 _ I1 q1) fun iv s2 ⟨y, H2, I2, ry, a, xs, b, k, p, v, ex, e, hk, ey, dp, hd, hp, rv, q2⟩ => ?_)
  subst ex ey
  obtain rfl : u = Value.ref a := rx
  obtain rfl : iv = Value.ref b := ry
  obtain ⟨h1, h2, dd⟩ := dn_rd I2 e hk
  exact ⟨dd.typeIs, wpAny_getItem_heap (knd := nestedKind X.prog X.w) (by show X.A.units + 1 + 8 < cLine; omega) ⟨nest_of I2 dp, hd⟩ dd hp ⟨v, H2, I2.tok _, rv, q2⟩⟩
def sDPutN (K : W.Frag) (wl : World) (td ty tv : TE) : TS := fun D σ H => tv σ H fun v H1 => td σ H1 fun x H2 => ty σ H2 fun y H3 => ∃ a xs b k, x = V.ref a ∧ H3 a = some (rawN wl a xs) ∧ KeysN K H3 xs ∧ y = V.ref b ∧ Dp K H3 (.ref b) k.data ∧ k.depth ≤ 8 ∧ xs.length < sizeLine ∧
  ∀ u, RelV v u → D.nx σ (upd H3 a (rawN wl a (storedH xs k b u)))
theorem storedH_len {xs : List (NestedKey × Addr × Value)} {k : NestedKey} {b : Addr} {u : Value} : (storedH xs k b u).length ≤ xs.length + 1 := by
  unfold storedH
  split
  · rw [List.length_map]; omega
  · simp
theorem ps_dputN {K : W.Frag} {wl : World} {o i value : Expr} {pos pos' : Pos} {td ty tv : TE} (hu : X.A.units + 9 < cLine) (hw : X.w = wl) (ho : PE X o td) (hi : PE X i ty) (hv : PE X value tv) (hs : swapsWith value (some (.Subscript o i pos')) pos.line X.env = pure false) (hK : X.K = K := by rfl) :
    PS X (.Assign [.Subscript o i pos'] value pos) (sDPutN K wl td ty tv) := by
  subst hw hK
  refine ⟨fun pins s σ H D I h => ?_⟩
  refine wpAny_Assign_Subscript (thn (hv.run pins s σ H _ I h) fun r s1 ⟨v, H1, I1, rv, q1⟩ => thn (ho.run pins s1 σ H1 _ I1 q1) fun u s2 ⟨x, H2, I2, rx, q2⟩ => thn (hi.run pins s2 σ H2 _ I2 q2) fun iv s3 ⟨y, H3, I3, ry, a, xs, b, k, ex, e, hk, ey, dp, hd, hl, q3⟩ => ?_) hs
  subst ex ey
  obtain rfl : u = Value.ref a := rx
  obtain rfl : iv = Value.ref b := ry
  obtain ⟨h1, h2, dd⟩ := dn_rd I3 e hk
  refine wpAny_setItem_heap (knd := nestedKind X.prog X.w) (hsz := h2) (by show X.A.units + 1 + 8 < cLine; omega) ⟨nest_of I3 dp, hd⟩ dd fun h' dd' hs' => ⟨σ, _, ?_, q3 r rv⟩
  obtain ⟨q, es, ep, hq, hx, h3, h4, _, h5⟩ := dd'
  refine d_write I3 (by rw [e]; exact True.intro) hs' ⟨q, hq⟩ ⟨⟨h1, by have := storedH_len (xs := xs) (k := k) (b := b) (u := r); omega, h5, q, es, ep, hq, hx, h3, h4⟩, ⟨q, hq⟩, fun h1' h2' ⟨z1, z2, z3, z4, z5, z6, z7, z8⟩ hst => ⟨z1, z2, z3, z4, z5, z6, hst _ z7, z8⟩⟩
def tDNewN (wl : World) : TE := fun _ H Q => ∀ p, H p = none → Q (.ref p) (upd H p (rawN wl p []))
theorem pe_dnewN {wl : World} {pos : Pos} : PE X (.Dict [] [] pos) (tDNewN wl) := ⟨fun pins s σ H Q I h =>
  wpAny_Dict_empty ⟨.ref s.heap.objs.size, _, I.laid (a := s.heap.objs.size) (o := rawN wl s.heap.objs.size []) (t' := s.toks) (fun _ _ q => Heap.get?_push_of_some _ q) (Nat.le_refl _)
    ⟨⟨beq_eq_false_iff_ne.mpr (Ne.symm (Nat.ne_of_lt I.big)), Nat.zero_le _, List.nodup_nil, _, #[], 0, Heap.get?_push_size _ rfl, ⟨rfl, rfl, rfl⟩, rfl, rfl⟩, ⟨_, Heap.get?_push_size _ rfl⟩, fun h1' h2' ⟨z1, z2, z3, z4, z5, z6, z7, z8⟩ hst => ⟨z1, z2, z3, z4, z5, z6, hst _ z7, z8⟩⟩,
    rfl, h _ (I.hok.fresh (Nat.le_refl _))⟩⟩
end
section
variable [Nm] [Gd]
def keyN : D → Option NestedKey
  | .val (.tuple ds) => (match GS.nk (.tuple ds) with
    | some k => if k.depth ≤ 8 then some k else none
    | none => none)
  | _ => none
theorem keyN_rel {K : W.Frag} {w : Wd} {H : Hp} {d : D} {v : V} {k : NestedKey} (r : RpD K w H d v) (e : keyN d = some k) : ∃ b, v = .ref b ∧ Rp K w H k.data (.ref b) ∧ k.depth ≤ 8 := by
  unfold keyN at e
  split at e
  · split at e
    · rename_i ds _ k' hk
      split at e
      · rename_i hd
        cases e
        have r : Rp K w H (.tuple ds) v := r
        rw [← GS.nk_data hk] at r
        have hk2 := GS.nk_data hk
        cases hv : v with
        | ref b => rw [hv] at r; exact ⟨b, rfl, r, hd⟩
        | _ =>
          rw [hk2] at r
          cases r
          cases hv
      · cases e
    · cases e
  · cases e
def valN (kvs : List (NestedKey × PyData)) (k : NestedKey) : Option PyData := (kvs.find? fun p => decide (p.1 = k)).map (·.2)
def putN (kvs : List (NestedKey × PyData)) (k : NestedKey) (d : PyData) : List (NestedKey × PyData) :=
  if (valN kvs k).isSome = true then kvs.map (fun p => if p.1 = k then (p.1, d) else p) else kvs ++ [(k, d)]
theorem RpN.keys {K : W.Frag} {w : Wd} {H : Hp} {kvs : List (NestedKey × PyData)} {xs : List (NestedKey × Addr × Value)} (r : RpN K w H kvs xs) : KeysN K H xs := by
  induction r with
  | nil => intro e he; cases he
  | cons r1 hd _ _ _ ih =>
    intro e he
    rcases List.mem_cons.mp he with rfl | he
    · exact ⟨r1.dp, hd⟩
    · exact ih e he
theorem RpN.length {K : W.Frag} {w : Wd} {H : Hp} {kvs : List (NestedKey × PyData)} {xs : List (NestedKey × Addr × Value)} (r : RpN K w H kvs xs) : kvs.length = xs.length := by
  induction r with
  | nil => rfl
  | cons _ _ _ _ _ ih => simp [ih]
theorem RpN.find {K : W.Frag} {w : Wd} {H : Hp} {kvs : List (NestedKey × PyData)} {xs : List (NestedKey × Addr × Value)} (r : RpN K w H kvs xs) (k : NestedKey) :
    (∀ d, valN kvs k = some d → ∃ p v, atKey xs k = some p ∧ Rp K w H d v ∧ RelV v p.2) ∧ (valN kvs k = none → atKey xs k = none) := by
  induction r with
  | nil => exact ⟨fun d h => (by cases h), fun _ => rfl⟩
  | @cons j d b v u ds xs r1 hd r2 rv _ ih =>
    by_cases e : j = k
    · refine ⟨fun d' h => ⟨(b, u), v, ?_, ?_, rv⟩, fun h => ?_⟩
      · simp [atKey, e]
      · simp [valN, e] at h; subst h; exact r2
      · simp [valN, e] at h
    · have e1 : valN ((j, d) :: ds) k = valN ds k := by simp [valN, e]
      have e2 : atKey ((j, b, u) :: xs) k = atKey xs k := by simp [atKey, e]
      rw [e1, e2]
      exact ih
theorem RpN.app {K : W.Frag} {w : Wd} {H : Hp} {kvs : List (NestedKey × PyData)} {xs : List (NestedKey × Addr × Value)} (r : RpN K w H kvs xs) {k : NestedKey} {d : PyData} {b : Addr} {v : V} {u : Value} (h1 : Rp K w H k.data (.ref b)) (h2 : k.depth ≤ 8) (h3 : Rp K w H d v) (h4 : RelV v u) :
    RpN K w H (kvs ++ [(k, d)]) (xs ++ [(k, b, u)]) := by
  induction r with
  | nil => exact .cons h1 h2 h3 h4 .nil
  | cons r1 hd r2 rv _ ih => exact .cons r1 hd r2 rv ih
theorem RpN.put {K : W.Frag} {w : Wd} {H : Hp} {kvs : List (NestedKey × PyData)} {xs : List (NestedKey × Addr × Value)} (r : RpN K w H kvs xs) {k : NestedKey} {d : PyData} {b : Addr} {v : V} {u : Value} (h1 : Rp K w H k.data (.ref b)) (h2 : k.depth ≤ 8) (h3 : Rp K w H d v) (h4 : RelV v u) :
    RpN K w H (putN kvs k d) (storedH xs k b u) := by
  have e : (valN kvs k).isSome = (atKey xs k).isSome := by
    cases hv : valN kvs k with
    | none => rw [(r.find k).2 hv]; rfl
    | some d' => obtain ⟨p, _, hp, _⟩ := (r.find k).1 d' hv; rw [hp]; rfl
  unfold putN storedH
  rw [e]
  by_cases q : (atKey xs k).isSome = true
  · rw [if_pos q, if_pos q]
    clear q e
    induction r with
    | nil => exact .nil
    | @cons j d' b' v' u' ds xs r1 hd r2 rv _ ih =>
      simp only [List.map_cons, putAt]
      by_cases e : j = k
      · rw [if_pos e, if_pos e]; exact .cons r1 hd h3 h4 ih
      · rw [if_neg e, if_neg e]; exact .cons r1 hd r2 rv ih
  · rw [if_neg q, if_neg q]; exact r.app h1 h2 h3 h4
def inN (neg : Bool) (x y : D) : M D := fun st => match y with
  | .loc n => (match st[n]?, keyN x with
    | some (.dn kvs), some k => okV (.bool (neg != (valN kvs k).isSome)) st
    | _, _ => .bad)
  | _ => .bad
section
variable {X : Cx} {E : XK} {o i e value : Expr} {td ty tv : TE} {fd fi fv : B.Env → M D} {pos pos' : Pos}
def dgetN (x y : D) : M D := fun st => match x with
  | .loc n => (match st[n]?, keyN y with
    | some (.dn kvs), some k => (match valN kvs k with
      | some d => .ok (.val d) st
      | none => .bad)
    | _, _ => .bad)
  | _ => .bad
theorem se_dgetN {K : W.Frag} (hu : X.A.units + 9 < cLine) (ho : SE X E o td fd) (hi : SE X E i ty fi) (hw : X.w = Nm.wl := by rfl) (hs : NoSl i := by exact fun _ _ => rfl) (hK : X.K = K := by rfl) : SE X E (.Subscript o i pos) (tDGetN K Nm.wl td ty) (op2 dgetN fd fi) := by
  subst hK
  refine ⟨pe_dgetN hu hw ho.pe hi.pe hs, fun w σ H env st Q s0 e0 hp => ?_⟩
  refine ho.rf.step s0 e0 hp fun r1 H1 st1 x v g1 s1 e1 q1 hp => ?_
  refine hi.rf.step s1 e1 hp fun r2 H2 st2 y u g2 s2 e2 q2 hp => ?_
  unfold dgetN at hp
  split at hp
  · split at hp
    · rename_i kvs k eo ek
      split at hp
      · rename_i d hd
        obtain ⟨a, ev, ha, xs, hv, rv⟩ := s2.at eo (q1.mono g2)
        obtain ⟨b, eb, rb, hdp⟩ := keyN_rel q2 ek
        obtain ⟨p, z, hp', rz, rel⟩ := (rv.find k).1 d hd
        exact ⟨a, xs, b, k, p, z, ev, hv, rv.keys, eb, rb.dp, hdp, hp', rel, Post.now hp s2 rz⟩
      · exact hp.elim
    · exact hp.elim
  · exact hp.elim
def dputN (fd fi fv : B.Env → M D) : B.Env → M Fl := fun env => bd (fv env) fun v => bd (fd env) fun x => bd (fi env) fun y => fun st => match x, v with
  | .loc n, .val d => (match st[n]?, keyN y with
    | some (.dn kvs), some k => if kvs.length < sizeLine then .ok (.nx env) (st.set n (.dn (putN kvs k d))) else .bad
    | _, _ => .bad)
  | _, _ => .bad
theorem ss_dputN {K : W.Frag} (hu : X.A.units + 9 < cLine) (ho : SE X E o td fd) (hi : SE X E i ty fi) (hv : SE X E value tv fv) (hw : X.w = Nm.wl := by rfl) (hs : swapsWith value (some (.Subscript o i pos')) pos.line X.env = pure false := by rfl) (hK : X.K = K := by rfl) :
    SS X E (.Assign [.Subscript o i pos'] value pos) (sDPutN K Nm.wl td ty tv) (dputN fd fi fv) := by
  subst hK
  refine ⟨ps_dputN hu hw ho.pe hi.pe hv.pe hs, fun w σ H env st Z s0 e0 hp => ?_⟩
  refine hv.rf.stepS s0 e0 hp fun r1 H1 st1 v vv g1 s1 e1 q1 hp => ?_
  refine ho.rf.stepS s1 e1 hp fun r2 H2 st2 x xv g2 s2 e2 q2 hp => ?_
  refine hi.rf.stepS s2 e2 hp fun r3 H3 st3 y yv g3 s3 e3 q3 hp => ?_
  cases x with
  | loc n =>
    cases v with
    | val d =>
      have q2' := q2.mono g3
      cases eo : st3[n]? with
      | none => simp only [eo] at hp; exact hp.elim
      | some ob =>
        cases ob with
        | dn kvs =>
          cases ek : keyN y with
          | none => simp only [eo, ek] at hp; exact hp.elim
          | some k =>
            simp only [eo, ek] at hp
            split at hp
            · rename_i hl
              obtain ⟨a, ev, ha, xs, hxv, rv⟩ := s3.at eo q2'
              obtain ⟨b, eb, rb, hdp⟩ := keyN_rel q3 ek
              refine ⟨a, xs, b, k, ev, hxv, rv.keys, eb, rb.dp, hdp, by rw [← rv.length]; exact hl, fun u ru => ?_⟩
              have q1' : Rp _ r3 H3 d vv := (q1.mono g2).mono g3
              obtain ⟨s4, g4⟩ := s3.write (o := .dn (putN kvs k d)) (u := rawN Nm.wl a (storedH xs k b u)) ha ⟨_, upd_same, (rv.put rb hdp q1' ru).mono (.write ha (by rw [hxv]; intro _ _ z; cases z))⟩ (by rw [hxv]; intro _ _ z; cases z)
              exact hp r3 _ _ g4 s4 (e3.mono g4)
            · exact hp.elim
        | _ => simp only [eo] at hp; exact hp.elim
    | _ => exact hp.elim
  | _ => exact hp.elim
def dNewN : B.Env → M D := fun _ st => .ok (.loc st.length) (st ++ [.dn []])
theorem se_dNewN : SE X E (.Dict [] [] pos) (tDNewN Nm.wl) dNewN := by
  refine ⟨pe_dnewN, fun w σ H env st Q s0 e0 hp p np => ?_⟩
  obtain ⟨s3, g3⟩ := s0.push (o := .dn []) (u := rawN Nm.wl p []) np ⟨_, upd_same, .nil⟩
  exact hp _ _ (.ref p) g3 s3 ⟨p, rfl, by rw [s0.len]; simp⟩
end
end
end B
namespace B
open PySem L2
section
variable [Nm] [Gd]
theorem RpSs.take {K : W.Frag} {w : Wd} {H : Hp} : ∀ {xs : List S1} {vs : List V} (n : Nat), RpSs K w H xs vs → RpSs K w H (xs.take n) (vs.take n)
  | _, _, 0, _ => .nil
  | _, _, _ + 1, .nil => .nil
  | _, _, n + 1, .cons r s => .cons r (RpSs.take n s)
theorem RpSs.dropLast {K : W.Frag} {w : Wd} {H : Hp} {xs : List S1} {vs : List V} (r : RpSs K w H xs vs) : RpSs K w H xs.dropLast vs.dropLast := by
  have h := r.length
  rw [List.dropLast_eq_take, List.dropLast_eq_take, h]
  exact r.take _
def popRF (x : D) : M D := fun st => match x with
  | .loc m => (match prtR st (.loc m) with
    | some xs => (match xs[xs.length - 1]? with
      | some s => .ok s.d (st.set m (.lr xs.dropLast))
      | none => .bad)
    | none => .bad)
  | _ => .bad
def sQs : List D → Option (List S1)
  | [] => some []
  | d :: r => (sQ d).bind fun s => (sQs r).map (s :: ·)
theorem sQs_rel {K : W.Frag} {w : Wd} {H : Hp} : ∀ {ds : List D} {vs : List V} {ss : List S1}, RpDs K w H ds vs → sQs ds = some ss → RpSs K w H ss vs
  | [], _, _, .nil, e => by cases e; exact .nil
  | d :: r, _, _, .cons h t, e => by
    simp only [sQs, Option.bind_eq_some_iff, Option.map_eq_some_iff] at e
    obtain ⟨s, h1, l, h2, rfl⟩ := e
    exact .cons (sQ_rel h h1) (sQs_rel t h2)
def newLrF (ds : List D) : M D := fun st => match sQs ds with
  | some ss => if ss.length ≤ sizeLine then .ok (.loc st.length) (st ++ [.lr ss]) else .bad
  | none => .bad
def newLr (fr : Env → M (List D)) : Env → M D := fun env => bd (fr env) newLrF
section
variable {X : Cx} {E : XK} {o e : Expr} {es : List Expr} {to : TE} {tr : TA} {fo : Env → M D} {fr : Env → M (List D)} {apos cpos pos : Pos}
theorem se_newLr (h : SA X E es tr fr) : SE X E (.List es pos) (tLst tr) (newLr fr) := by
  refine ⟨pe_lst h.pa, fun w σ H env st Q s0 e0 hp => ?_⟩
  refine h.rf.step s0 e0 hp fun r1 H1 st1 ds vs g1 s1 e1 q1 hq => ?_
  clear hp
  unfold newLrF at hq
  split at hq
  · rename_i ss hss
    split at hq
    · rename_i hl
      have rs := sQs_rel q1 hss
      refine ⟨by rw [← rs.length]; exact hl, fun p np => ?_⟩
      obtain ⟨s3, g3⟩ := s1.push (o := .lr ss) (u := .lst vs) np ⟨_, upd_same, rs.mono (Ge.grown s1 np)⟩
      exact hq _ _ (.ref p) g3 s3 ⟨p, rfl, by rw [s1.len]; simp⟩
    · exact hq.elim
  · exact hq.elim
end
section
variable {X : Cx} {E : XK} {elt tg iter tg1 iter1 : Expr} {ifs ifs1 : List Expr} {scope : Scope} {own : List (Str × Nat)} {is is1 : List Nat} {pos : Pos} {ti ti1 : TI} {g g1 : TG} {tt tt1 : TT} {te : TE} {fi : Env → M SrcD} {fi1 : Env → M Src} {fg fg1 : D → Env → M Env} {ft ft1 : Env → M Bool} {fe : Env → M D}
end
end
theorem funW_mk0 {K : W.Frag} {x qual : Str} {st : Stmt} {f : Addr} {oc : Value} {od an : Option Addr} {osl : Array (Option Value)} {kV doc pm cdv ct : Value}
    (l : K.lookup f = some ⟨oc, od, .func (PySem.W.fnOf x qual (defArgs st) (defBody st) (defScope st) .none kV doc pm an cdv ct), osl⟩) (c : PySem.W.codeIn K cdv qual = true) (k : PySem.W.keepIn K (.ref f) = true) :
    FunW K x qual st [] f (PySem.W.fnOf x qual (defArgs st) (defBody st) (defScope st) .none kV doc pm an cdv ct) :=
  ⟨⟨oc, od, .none, kV, doc, pm, an, cdv, ct, osl, rfl, l, c, .inl ⟨rfl, rfl⟩, .inl rfl⟩, k⟩
section
variable {X : Ex → Store → Prop} {st : Store} {env : B.Env}
theorem f_dgetN {n : Nat} {d : D} {kvs : List (NestedKey × PyData)} {k : NestedKey} {p : PyData} {Q : D → Store → Prop} (h : st[n]? = some (.dn kvs)) (hk : keyN d = some k) (hv : valN kvs k = some p) : wpx X (dgetN (.loc n) d st) Q = Q (.val p) st := by
  simp only [dgetN, h, hk, hv, wp_ok]
@[simp] theorem e_dputN {fd fi fv : B.Env → M D} {Q : Fl → Store → Prop} : wpx X (dputN fd fi fv env st) Q = wpx X (bd (fv env) (fun v => bd (fd env) fun x => bd (fi env) fun y => fun st => match x, v with
    | .loc n, .val d => (match st[n]?, keyN y with
      | some (.dn kvs), some k => if kvs.length < sizeLine then .ok (.nx env) (st.set n (.dn (putN kvs k d))) else .bad
      | _, _ => .bad)
    | _, _ => .bad) st) Q := by first | exact propext Iff.rfl | exact wp_D | exact wp_D.trans wp_D.symm
@[simp] theorem e_dNewN {Q : D → Store → Prop} : wpx X (dNewN env st) Q = Q (.loc st.length) (st ++ [.dn []]) := by first | exact propext Iff.rfl | exact wp_ok
@[simp] theorem e_newLr {fr : B.Env → M (List D)} {Q : D → Store → Prop} : wpx X (newLr fr env st) Q = wpx X (bd (fr env) newLrF st) Q := by first | exact propext Iff.rfl | exact wp_D | exact wp_D.trans wp_D.symm
theorem f_newLr {ds : List D} {ss : List S1} {Q : D → Store → Prop} (h : sQs ds = some ss) (hl : ss.length ≤ sizeLine) : wpx X (newLrF ds st) Q = Q (.loc st.length) (st ++ [.lr ss]) := by
  simp only [newLrF, h, hl, if_true, wp_ok]
end
end B
namespace B
open PySem L2 PySem.Spec PyProof.Rows
theorem vals_pt : ∀ {vs : List V} {us : List Value}, vs.length = us.length → (∀ (j : Nat) (v : V), vs[j]? = some v → ∃ u, us[j]? = some u ∧ RelV v u) → Vals vs us
  | [], [], _, _ => .nil
  | [], _ :: _, h, _ => by cases h
  | _ :: _, [], h, _ => by cases h
  | v :: vs, u :: us, h, f => by
    obtain ⟨u', e, r⟩ := f 0 v rfl
    cases e
    exact .cons r (vals_pt (Nat.succ.inj h) fun j w hw => f (j + 1) w hw)
def tLockX (te : TE) : TE := fun σ H Q => te σ H fun x H1 => ∃ d u, x = V.ref d ∧ H1 d = some u ∧ Mut (some u) ∧ ∀ od, Q x (upd H1 d (.frz od u))
theorem pe_lockX {X : Cx} {e : Expr} {te : TE} (h : PE X e te) : PE X e (tLockX te) := by
  refine ⟨fun pins s σ H Q I hq => ?_⟩
  refine thn (h.run pins s σ H _ I hq) fun u s1 ⟨x, H1, I1, rx, d, o, ex, hd, mu, q⟩ => ?_
  obtain ⟨od, I2⟩ := I1.lock hd mu
  exact ⟨x, _, I2, rx, q od⟩
section
variable {X : Cx} {pins : List (Addr × Obj)} {σ : L2.St} {H : Hp} {s : Shared} {a : Addr} {xs : List (NestedKey × Addr × Value)}
theorem dn_rdR (I : Inv X pins σ H s) (e : Rd H a (rawN X.w a xs)) (hk : KeysN X.K H xs) : (a == sysModules) = false ∧ xs.length ≤ sizeLine ∧ s.heap.DictOfH (nestedKind X.prog X.w) a xs := by
  obtain ⟨⟨h1, h2, h3, o, es, ep, ho, hx, hd, he⟩, _, _⟩ := (show ObjOk X.prog X.w H s.heap a (rawN X.w a xs) from rd_of I.hok e)
  exact ⟨h1, h2, o, es, ep, ho, hx, hd, he, fun x hx => ⟨nest_of I (hk x hx).1, (hk x hx).2⟩, h3⟩
theorem dn_rawR (I : Inv X pins σ H s) (e : Rd H a (rawN X.w a xs)) : (a == sysModules) = false ∧ xs.length ≤ sizeLine ∧ ∃ es ep, s.heap.DictRaw a es ep ∧ es.toList = xs.map fun x => (⟨x.1.hash X.w, .ref x.2.1, x.2.2⟩ : DictEntry) := by
  obtain ⟨⟨h1, h2, h3, o, es, ep, ho, hx, hd, he⟩, _, _⟩ := (show ObjOk X.prog X.w H s.heap a (rawN X.w a xs) from rd_of I.hok e)
  exact ⟨h1, h2, es, ep, ⟨o, ho, hx, hd⟩, he⟩
theorem dn_frz (I : Inv X pins σ H s) {od : Obj} (e : H a = some (.frz od (rawN X.w a xs))) : (a == sysModules) = false ∧ xs.length ≤ sizeLine ∧ s.heap.get? a = some od ∧ od.ExactDict ∧ ∃ es ep, od.data = .dict es ep ∧ es.toList = xs.map fun x => (⟨x.1.hash X.w, .ref x.2.1, x.2.2⟩ : DictEntry) := by
  obtain ⟨hg, ⟨h1, h2, h3, o, es, ep, ho, hx, hd, he⟩, _, _⟩ := (show ObjOk X.prog X.w H s.heap a (.frz od (rawN X.w a xs)) from I.hok a _ e)
  rw [hg] at ho
  cases ho
  exact ⟨h1, h2, hg, hx, es, ep, hd, he⟩
theorem raw_at {wl : World} {es : Array DictEntry} (he : es.toList = xs.map fun x => (⟨x.1.hash wl, .ref x.2.1, x.2.2⟩ : DictEntry)) {i : Nat} {x : NestedKey × Addr × Value} (h : xs[i]? = some x) : ∃ hi : i < es.size, es[i].key = .ref x.2.1 ∧ es[i].val = x.2.2 := by
  have e1 : es.toList[i]? = some ⟨x.1.hash wl, .ref x.2.1, x.2.2⟩ := by rw [he, List.getElem?_map, h]; rfl
  rw [Array.getElem?_toList] at e1
  obtain ⟨hi, e2⟩ := Array.getElem?_eq_some_iff.mp e1
  exact ⟨hi, by rw [e2], by rw [e2]⟩
theorem raw_size {wl : World} {es : Array DictEntry} (he : es.toList = xs.map fun x => (⟨x.1.hash wl, .ref x.2.1, x.2.2⟩ : DictEntry)) : es.size = xs.length := by
  rw [← Array.length_toList, he, List.length_map]
theorem noDict_raw {es : Array DictEntry} {ep : Nat} (h : s.heap.DictRaw a es ep) : ∀ b, Value.ref a = .ref b → ∃ ob, s.heap.get? b = some ob ∧ ob.dict = none := fun b q => by
  cases q
  obtain ⟨o, ho, hx, _⟩ := h
  exact ⟨o, ho, hx.2.1⟩
def tDGetN2 (K : W.Frag) (wl : World) (td ty tx : TE) : TE := fun σ H Q => td σ H fun x H1 => (∃ a xs, x = V.ref a ∧ Rd H1 a (rawN wl a xs)) ∧ ty σ H1 fun y H2 => tx σ H2 fun z H3 => ∃ a xs b k v, x = V.ref a ∧ Rd H3 a (rawN wl a xs) ∧ KeysN K H3 xs ∧ y = V.ref b ∧ Dp K H3 (.ref b) k.data ∧ k.depth ≤ 8 ∧
  ((∃ p, atKey xs k = some p ∧ RelV v p.2) ∨ (atKey xs k = none ∧ v = z)) ∧ Q v H3
theorem pe_dgetN2 {K : W.Frag} {wl : World} {o e f : Expr} {apos cpos : Pos} {td ty tx : TE} (hu : X.A.units + 9 < cLine) (hw : X.w = wl) (ho : PE X o td) (he : PE X e ty) (hf : PE X f tx) (m : M2 X o "get" apos e f cpos) (hK : X.K = K := by rfl) : PE X (.Call (.Attribute o "get" apos) [e, f] [] cpos) (tDGetN2 K wl td ty tx) := by
  subst hw hK
  refine ⟨fun pins s σ H Q I h => ?_⟩
  refine wpAny_Call_method m.base m.few m.line PySem.F.plainAttrs_dict PySem.F.slot_dict_get PySem.F.type_dict_get (thn (ho.run pins s σ H _ I h) fun u s1 ⟨x, H1, I1, rx, ⟨a, xs, ex, ea⟩, q1⟩ => ?_)
  subst ex
  obtain rfl : u = Value.ref a := rx
  obtain ⟨_, _, es, ep, dr, _⟩ := dn_rawR I1 ea
  refine ⟨dr.typeIs, noDict_raw dr, ?_⟩
  rw [m.trees]
  refine Calls.callWith_builtin rfl (Calls.evalArgs_plain (Calls.spliced_cons (thn (he.run pins s1 σ H1 _ I1 q1) fun iv s2 ⟨y, H2, I2, ry, q2⟩ =>
    Calls.spliced_cons (thn (hf.run pins s2 σ H2 _ I2 q2) fun fv s3 ⟨z, H3, I3, rz, a2, ys, b, k, v, ea2, e3, hk, ey, dp, hd, hv, q3⟩ => Calls.spliced_nil ?_))))
  cases ea2
  subst ey
  obtain rfl : iv = Value.ref b := ry
  obtain ⟨h1, h2, dd⟩ := dn_rdR I3 e3 hk
  refine call_meetsIn PySem.F.slot_dict_get dd.typeIs PySem.F.entry_dict_get (PySem.F.args_dict_get_3 _ _ _) (meetsH_dict_get_default (nestedKind X.prog X.w) a b h1 fv) ⟨by show X.A.units + 1 + 8 < cLine; omega, k, ys, ⟨nest_of I3 dp, hd⟩, dd, ?_⟩
  refine ⟨v, H3, I3.tok _, ?_, q3⟩
  rcases hv with ⟨p, hp, rv⟩ | ⟨hp, rfl⟩
  · rw [hp]; exact rv
  · rw [hp]; exact rz
abbrev PairZ (zs : List (Addr × V)) (xs : List (NestedKey × Addr × Value)) : Prop := Paired (fun (z : Addr × V) (x : NestedKey × Addr × Value) => z.1 = x.2.1 ∧ RelV z.2 x.2.2) zs xs
theorem paired_at {α β : Type} {F : α → β → Prop} : ∀ {xs : List α} {ys : List β}, Paired F xs ys → ∀ {i : Nat} {x : α}, xs[i]? = some x → ∃ y, ys[i]? = some y ∧ F x y
  | _, _, .nil, i, x, h => by cases h
  | _, _, .cons r t, 0, x, h => by
    have e := Option.some.inj h
    subst e
    exact ⟨_, rfl, r⟩
  | _, _, .cons r t, i + 1, x, h => paired_at t h
def ItiN (wl : World) (d : Addr) (od : Obj) (zs : List (Addr × V)) : It :=
  ⟨fun i H => (∃ xs, H d = some (.frz od (rawN wl d xs)) ∧ PairZ zs xs) ∧ i < zs.length,
   fun i H v H' => ∃ T b x, zs[i]? = some (b, x) ∧ v = .ref T ∧ H T = none ∧ H' = upd H T (.tup [.ref b, x]),
   fun i H => (∃ xs, H d = some (.frz od (rawN wl d xs)) ∧ PairZ zs xs) ∧ zs.length ≤ i⟩
theorem turn_itemsN {P : Program} {w : World} {K : PySem.W.Frag} {elts : List Expr} {kk : Nat} {tpos : Pos} {d : Addr} {od : Obj} {es : Array DictEntry} {ep : Nat} {zs : List (Addr × V)} (it : Addr) (hod : od.data = .dict es ep) :
    Turn P w K (.Tuple elts kk tpos) (ItiN w d od zs) [it] it (fun i h => ∃ ok ov, IsItemIter h it d i zs.length ep ok ov) where
  mem := by simp
  obj := fun i h st b hb => by
    have e : b = it := by simpa using hb
    subst e
    obtain ⟨ok, ov, e⟩ := st
    exact ⟨_, e, fun v z => nomatch z⟩
  keep := fun i h h' st k => let ⟨ok, ov, e⟩ := st; ⟨ok, ov, k it (by simp) _ e⟩
  item := by
    intro X hP hw hK hc i pins s σ H E I hf st hg
    subst hP hw hK
    obtain ⟨⟨xs, hd, pz⟩, hi⟩ := hg
    obtain ⟨_, hsz, hgd, hx, es', ep', hdt, he⟩ := dn_frz I hd
    rw [hod] at hdt
    cases hdt
    obtain ⟨⟨b, x⟩, hz⟩ : ∃ p, zs[i]? = some p := ⟨zs[i], List.getElem?_eq_getElem hi⟩
    obtain ⟨⟨k, b', u⟩, hxi, eb, ru⟩ := paired_at pz hz
    simp only at eb ru
    subst eb
    obtain ⟨hlt', ek, ev⟩ := raw_at he hxi
    have hl : zs.length = es.size := by rw [raw_size he]; exact Paired.length pz
    obtain ⟨ok, ov, he'⟩ := st
    rw [hl] at he'
    have hlt : it < s.heap.objs.size := Heap.lt_size he'
    refine wpAny_pyNext_items_item_raw he' ⟨od, hgd, hx, hod⟩ hlt' fun h' ho hT hz' hk => ?_
    refine ⟨_, rfl, wpAny_letOwnedTupleGo_items (s := { s with heap := h' }) ho fun h'' he'' sb => ?_⟩
    have hT2 : h''.get? s.heap.objs.size = some { cls := .type "tuple", data := .seq #[es[i].key, es[i].val] } := (sb.2 _ (Nat.ne_of_gt hlt)).trans hT
    have new : ObjOk X.prog X.w (upd H s.heap.objs.size (.tup [.ref b, x])) h'' s.heap.objs.size (.tup [.ref b, x]) :=
      ⟨by show 2 ≤ sizeLine; decide, [es[i].key, es[i].val], .cons ek (.cons (by rw [ev]; exact ru) .nil), ⟨_, hT2, rfl, _, rfl⟩⟩
    have I1 : Inv X pins σ (upd H s.heap.objs.size (.tup [.ref b, x])) { s with heap := h'' } :=
      I.turnedNew (t' := s.toks) (ch := [it]) (fun b ob hb e => (sb.2 b (by simpa using hb)).trans (hk b ob (by simpa using hb) e)) hf (Nat.le_refl _) new
    refine ⟨.ref s.heap.objs.size, _, I1, rfl, ⟨_, b, x, hz, rfl, I.hok.fresh (Nat.le_refl _), rfl⟩, ⟨es[i].key, es[i].val, ?_⟩, fun b hb => ?_⟩
    · rw [hl]; exact he''
    · have e : b = it := by simpa using hb
      rw [e, upd_ne (Nat.ne_of_lt hlt)]
      exact (hf it (by simp)).1
  done := by
    intro X hP hw hK hc i pins s σ H E I hf st hg
    subst hP hw hK
    obtain ⟨⟨xs, hd, pz⟩, hi⟩ := hg
    obtain ⟨f0, f1, f2, f3, f4, f5⟩ := hf it (by simp)
    obtain ⟨_, hsz, hgd, hx, es', ep', hdt, he⟩ := dn_frz I hd
    rw [hod] at hdt
    cases hdt
    have hl : zs.length = es.size := by rw [raw_size he]; exact Paired.length pz
    obtain ⟨ok, ov, he'⟩ := st
    rw [hl] at he'
    exact wpAny_pyNext_items_end_raw (I.ok.hd hc) he' ⟨od, hgd, hx, hod⟩ (by omega) fun h' eb => ⟨rfl, I.turned (t' := s.toks) (fun b ob hb e => eb b ob hb e) f0 f1 f3 f4 f5⟩
  self := fun A i s Q E st h => let ⟨_, _, e⟩ := st; PySem.W.kcp_self e h
def iItemsN (wl : World) (td : TE) : TI := fun σ H R => td σ H fun x H1 => ∃ d od xs zs, x = V.ref d ∧ H1 d = some (.frz od (rawN wl d xs)) ∧ PairZ zs xs ∧ R (ItiN wl d od zs) H1
theorem pi_itemsN {wl : World} {e : Expr} {td : TE} {apos cpos tpos : Pos} {elts : List Expr} {kk : Nat} (hw : X.w = wl) (he : PE X e td) (hbase : attributeBase e "items" X.env (eval e X.env) = eval e X.env := by rfl) (hline : (apos.endLine == cpos.line) = true := by rfl) :
    PI X (.Tuple elts kk tpos) (.Call (.Attribute e "items" apos) [] [] cpos) (iItemsN wl td) := by
  subst hw
  refine ⟨fun pins s σ H R I h => ?_⟩
  refine wpAny_Call_method (T := "dict") (id := "dict.items") hbase rfl hline F.plainAttrs_dict F.slot_dict_items F.type_dict_items (thn (he.run pins s σ H _ I h) fun u s1 ⟨x, H1, I1, rx, d, od, xs, zs, ex, hd, pz, q⟩ => ?_)
  subst ex
  obtain rfl : u = Value.ref d := rx
  obtain ⟨hs, hsz, hgd, hx, es, ep, hdt, hes⟩ := dn_frz I1 hd
  have dr : s1.heap.DictRaw d es ep := ⟨od, hgd, hx, hdt⟩
  have hl : zs.length = es.size := by rw [raw_size hes]; exact Paired.length pz
  refine ⟨dr.typeIs, noDict_raw dr, ?_⟩
  have I2 : Inv X pins σ H1 { s1 with heap := s1.heap.push { cls := .type "dict_items", data := .fields #[.ref d] } } := I1.kept (t' := s1.toks) fun b ob q => Heap.get?_push_of_some _ q
  have fin : wpAny (model X.prog X.w) X.A (pyIter (.ref s1.heap.objs.size)) (PIE X pins σ (.Tuple elts kk tpos) R) X.xe { s1 with heap := s1.heap.push { cls := .type "dict_items", data := .fields #[.ref d] } } := by
    refine wpAny_pyIter_items_raw (d := d) ⟨_, Heap.get?_push_size _ rfl, rfl, rfl⟩ (dr.push _) (pi_one (tk := s1.toks) I2 _ (turn_itemsN _ hdt) ⟨.none, .none, ?_⟩ q)
    rw [hl]
    exact Heap.get?_push_size _ rfl
  show wpAny _ _ (callWith cpos (.builtin "dict.items") [.ref d] [] []) _ X.xe s1
  exact method_meetsIn F.slot_dict_items F.entry_dict_items rfl (PySem.evalArgs_none ⟨rfl, dr.typeIs, F.args_dict_items_1 _, _, meets_dict_items_raw d hs, ⟨es, ep, dr⟩, fin⟩)
def tValsN (wl : World) (td : TE) : TE := fun σ H Q => td σ H fun x H1 => ∃ d xs zs, x = V.ref d ∧ Rd H1 d (rawN wl d xs) ∧ PairZ zs xs ∧ ∀ p, H1 p = none → Q (.ref p) (upd H1 p (.lst (zs.map (·.2))))
theorem pe_valsN {wl : World} {e : Expr} {td : TE} {p apos cpos pos : Pos} (hw : X.w = wl) (hc : X.calm = true) (he : PE X e td) (hg : Gl X "list") (hm : X.mg "list" = none) (hv : bootBuiltins "list" = some (.type "list")) (hbase : attributeBase e "values" X.env (eval e X.env) = eval e X.env := by rfl) (hline : (apos.endLine == cpos.line) = true := by rfl)
    (hs : starEach [.Call (.Attribute e "values" apos) [] [] cpos] X.env = (false, eval (.Call (.Attribute e "values" apos) [] [] cpos) X.env) :: starEach [] X.env := by rfl) :
    PE X (.Call (.Name "list" p) [.Call (.Attribute e "values" apos) [] [] cpos] [] pos) (tValsN wl td) := by
  subst hw
  refine ⟨fun pins s σ H Q I hq => ?_⟩
  refine wpAny_Call_Name_kw (ld_blt I hg hm hv ?_)
  refine PyProof.Rows.callWith_type1 ?_ hs rfl
  rw [hs]
  show wpAny _ _ (spliced ((false, eval (.Call (.Attribute e "values" apos) [] [] cpos) X.env) :: backTo pos (starEach [] X.env))) _ _ s
  refine Calls.spliced_cons ?_
  refine wpAny_Call_method (T := "dict") (id := "dict.values") hbase rfl hline F.plainAttrs_dict F.slot_dict_values F.type_dict_values (thn (he.run pins s σ H _ I hq) fun u s1 ⟨x, H1, I1, rx, d, xs, zs, ex, hd, pz, q⟩ => ?_)
  subst ex
  obtain rfl : u = Value.ref d := rx
  obtain ⟨hs0, hsz, es, ep, dr, hes⟩ := dn_rawR I1 hd
  have hl : zs.length = xs.length := Paired.length pz
  have hes2 := raw_size hes
  have I2 : Inv X pins σ H1 { s1 with heap := s1.heap.push { cls := .type "dict_values", data := .fields #[.ref d] } } := I1.kept (t' := s1.toks) fun b ob q => Heap.get?_push_of_some _ q
  refine ⟨dr.typeIs, noDict_raw dr, ?_⟩
  show wpAny _ _ (callWith cpos (.builtin "dict.values") [.ref d] [] []) _ X.xe s1
  refine method_meetsIn F.slot_dict_values F.entry_dict_values rfl (PySem.evalArgs_none ⟨rfl, dr.typeIs, F.args_dict_values_1 _, _, meets_dict_values_raw d hs0, ⟨es, ep, dr⟩, ?_⟩)
  refine Calls.spliced_nil ?_
  refine PySem.W.kdl_call (PySem.KdlSrc.rawValues (r := s1.heap.objs.size) (d := d) (es := es) (ep := ep)) (I1.ok.hd hc) ⟨⟨_, Heap.get?_push_size _ rfl, rfl, rfl⟩, dr.push _⟩ (by omega) fun h' tk acc c hk hS hacc => ?_
  have rv : Vals (zs.map (·.2)) acc.toList := by
    refine vals_pt (by have h1 := hacc.1; have h2 := @Array.length_toList _ acc; rw [List.length_map]; omega) fun j v hj => ?_
    rw [List.getElem?_map] at hj
    obtain ⟨z, hz, rfl⟩ := Option.map_eq_some_iff.mp hj
    obtain ⟨x, hx, _, rx⟩ := paired_at pz hz
    obtain ⟨hi, _, ev⟩ := raw_at hes hx
    have hja : j < acc.size := by rw [hacc.1]; exact hi
    obtain ⟨_, e2⟩ := hacc.2 j acc[j] (Array.getElem?_eq_getElem hja)
    exact ⟨acc[j], by rw [Array.getElem?_toList]; exact Array.getElem?_eq_getElem hja, by rw [e2, ev]; exact rx⟩
  refine ⟨.ref _, _, I2.laid (t' := tk) (o := .lst (zs.map (·.2))) hk (Nat.le_refl _) ?_, rfl, q _ (I1.hok.fresh ?_)⟩
  · exact ⟨by rw [List.length_map]; omega, acc.toList, c, rv, by rw [Array.toArray_toList]; exact hS⟩
  · show _ ≤ (s1.heap.push _).objs.size
    rw [Heap.size_push]; omega
end
end B
namespace B
open PySem L2 PySem.Spec PyProof.Rows
section
variable [Nm] [Gd]
variable {K : W.Frag} {X : Cx} {E : XK} {o e f a b c : Expr} {te to tf ty tx ta tb : TE} {tr : TA} {fe fo ff fy fx fa fb : B.Env → M D} {fr : B.Env → M (List D)} {apos cpos pos p tpos : Pos}
def lockM (d : D) : M D := fun st => match d with
  | .loc n => (match st[n]? with
    | some (.dn kvs) => .ok (.loc n) (st.set n (.dz kvs))
    | _ => .bad)
  | _ => .bad
def lockE (fo : B.Env → M D) : B.Env → M D := fun env => bd (fo env) lockM
theorem se_lock (h : SE X E e te fe) : SE X E e (tLockX te) (lockE fe) := by
  refine ⟨pe_lockX h.pe, fun w σ H env st Q s0 e0 hp => ?_⟩
  refine h.rf.step s0 e0 hp fun r1 H1 st1 x v g1 s1 e1 q1 hp => ?_
  unfold lockM at hp
  split at hp
  · split at hp
    · rename_i n _ kvs eo
      obtain ⟨a, ev, ha, xs, hv, rv⟩ := s1.at eo q1
      refine ⟨a, _, ev, hv, trivial, fun od => ?_⟩
      obtain ⟨s4, g4⟩ := s1.write (o := .dz kvs) (u := .frz od (rawN Nm.wl a xs)) ha ⟨_, ⟨od, upd_same⟩, rv.mono (.write ha (by rw [hv]; intro _ _ z; cases z))⟩ (by rw [hv]; intro _ _ z; cases z)
      exact hp r1 _ _ g4 s4 ⟨a, ev, ha⟩
    · exact hp.elim
  · exact hp.elim
def dnP (st : Store) : D → Option (List (NestedKey × PyData))
  | .loc n => (match st[n]? with
    | some (.dn kvs) => some kvs
    | some (.dz kvs) => some kvs
    | _ => none)
  | .dv kvs => some kvs
  | _ => none
theorem dnP_rel {w : Wd} {H : Hp} {st : Store} {d : D} {v : V} {kvs : List (NestedKey × PyData)} (hs : RelSt K w H st) (r : RpD K w H d v) (h : dnP st d = some kvs) : ∃ a xs, v = .ref a ∧ Rd H a (rawN Nm.wl a xs) ∧ RpN K w H kvs xs := by
  cases d with
  | loc n =>
    simp only [dnP] at h
    split at h
    · rename_i _ eo
      cases h
      obtain ⟨a, ev, ha, xs, hv, rv⟩ := hs.at eo r
      exact ⟨a, xs, ev, .inl hv, rv⟩
    · rename_i _ eo
      cases h
      obtain ⟨a, ev, ha, xs, ⟨od, hv⟩, rv⟩ := hs.at eo r
      exact ⟨a, xs, ev, .inr ⟨od, hv⟩, rv⟩
    · cases h
  | dv kvs =>
    cases h
    obtain ⟨a, xs, ev, ⟨⟨od, hv⟩, _⟩, rv⟩ := r
    exact ⟨a, xs, ev, .inr ⟨od, hv⟩, rv⟩
  | _ => cases h
def isDn (d : D) : M Unit := fun st => match dnP st d with
  | some _ => .ok () st
  | none => .bad
def getN2 (x y z : D) : M D := fun st => match dnP st x, keyN y, z with
  | some kvs, some k, .val d => okV ((valN kvs k).getD d) st
  | _, _, _ => .bad
def get2N (fo fy fx : B.Env → M D) : B.Env → M D := fun env => bd (fo env) fun x => bd (isDn x) fun _ => bd (fy env) fun y => bd (fx env) fun z => getN2 x y z
theorem se_get2N (hu : X.A.units + 9 < cLine) (ho : SE X E o to fo) (he : SE X E e ty fy) (hf : SE X E f tx fx) (m : M2 X o "get" apos e f cpos) (hw : X.w = Nm.wl := by rfl) (hK : X.K = K := by rfl) : SE X E (.Call (.Attribute o "get" apos) [e, f] [] cpos) (tDGetN2 K Nm.wl to ty tx) (get2N fo fy fx) := by
  subst hK
  refine ⟨pe_dgetN2 hu hw ho.pe he.pe hf.pe m, fun w σ H env st Q s0 e0 hp => ?_⟩
  refine ho.rf.step s0 e0 hp fun r1 H1 st1 x v g1 s1 e1 q1 hp => ?_
  cases hd : dnP st1 x with
  | none => rw [bd_bad (by unfold isDn; rw [hd])] at hp; exact hp.elim
  | some kv0 =>
    rw [bd_ok (a := ()) (st' := st1) (by unfold isDn; rw [hd])] at hp
    obtain ⟨a, xs, ev, hv, _⟩ := dnP_rel s1 q1 hd
    refine ⟨⟨a, xs, ev, hv⟩, ?_⟩
    refine he.rf.step s1 e1 hp fun r2 H2 st2 y u g2 s2 e2 q2 hp => ?_
    refine hf.rf.step s2 e2 hp fun r3 H3 st3 z t g3 s3 e3 q3 hp => ?_
    unfold getN2 at hp
    split at hp
    · rename_i kvs k d h1 h2
      obtain ⟨a3, ys, ev3, hv3, rv⟩ := dnP_rel s3 ((q1.mono g2).mono g3) h1
      obtain ⟨b, eb, rb, hdp⟩ := keyN_rel (q2.mono g3) h2
      cases hk : valN kvs k with
      | some d2 =>
        rw [hk] at hp
        obtain ⟨pp, z2, hp', rz, rel⟩ := (rv.find k).1 d2 hk
        exact ⟨a3, ys, b, k, z2, ev3, hv3, rv.keys, eb, rb.dp, hdp, .inl ⟨pp, hp', rel⟩, Post.now hp s3 rz⟩
      | none =>
        rw [hk] at hp
        exact ⟨a3, ys, b, k, t, ev3, hv3, rv.keys, eb, rb.dp, hdp, .inr ⟨(rv.find k).2 hk, rfl⟩, Post.now hp s3 q3⟩
    · exact hp.elim
theorem RpN.zs {w : Wd} {H : Hp} {kvs : List (NestedKey × PyData)} {xs : List (NestedKey × Addr × Value)} (r : RpN K w H kvs xs) : ∃ zs : List (Addr × V), PairZ zs xs ∧ Rps K w H (kvs.map (·.2)) (zs.map (·.2)) ∧ Rps K w H (kvs.map (·.1.data)) (zs.map fun z => .ref z.1) := by
  induction r with
  | nil => exact ⟨[], .nil, .nil, .nil⟩
  | @cons k d b v u ds xs r1 hd r2 rv _ ih =>
    obtain ⟨zs, h1, h2, h3⟩ := ih
    exact ⟨(b, v) :: zs, .cons ⟨rfl, rv⟩ h1, .cons r2 h2, .cons r1 h3⟩
def valsNF (x : D) : M (List PyData) := fun st => match dnP st x with
  | some kvs => .ok (kvs.map (·.2)) st
  | none => .bad
def valsN (fo : B.Env → M D) : B.Env → M (List PyData) := fun env => bd (fo env) valsNF
theorem sf_valsN (hm : X.mg "list" = none) (he : SE X E e te fe) (hc : X.calm = true := by rfl) (hg : Gl X "list" := by rfl) (hv : bootBuiltins "list" = some (.type "list") := by rfl) (hbase : attributeBase e "values" X.env (eval e X.env) = eval e X.env := by rfl) (hline : (apos.endLine == cpos.line) = true := by rfl)
    (hs : starEach [.Call (.Attribute e "values" apos) [] [] cpos] X.env = (false, eval (.Call (.Attribute e "values" apos) [] [] cpos) X.env) :: starEach [] X.env := by rfl) (hw : X.w = Nm.wl := by rfl) :
    SF X E (.Call (.Name "list" p) [.Call (.Attribute e "values" apos) [] [] cpos] [] pos) (tValsN Nm.wl te) (valsN fe) := by
  refine ⟨pe_valsN hw hc he.pe hg hm hv hbase hline hs, fun w σ H env st Q s0 e0 hp => ?_⟩
  refine he.rf.stepF s0 e0 hp fun w1 H1 st1 x v g1 s1 e1 q1 hp => ?_
  unfold valsNF at hp
  split at hp
  · rename_i kvs hd
    obtain ⟨a, xs, ev, hv, rv⟩ := dnP_rel s1 q1 hd
    obtain ⟨zs, hz, r2, _⟩ := rv.zs
    exact ⟨a, xs, zs, ev, hv, hz, fun q nq => hp _ _ q _ (Ge.refl _ _) s1 nq r2⟩
  · exact hp.elim
def pairN (p : NestedKey × PyData) : PyData := .tuple [p.1.data, p.2]
def itemsNF (x : D) : M Src := fun st => match x with
  | .dv kvs => .ok (.fix (kvs.map pairN)) st
  | _ => .bad
def itemsN (fo : B.Env → M D) : B.Env → M Src := fun env => bd (fo env) itemsNF
theorem si_itemsN {elts : List Expr} {kk : Nat} (he : SE X E e te fe) (hbase : attributeBase e "items" X.env (eval e X.env) = eval e X.env := by rfl) (hline : (apos.endLine == cpos.line) = true := by rfl) (hw : X.w = Nm.wl := by rfl) :
    SI X E (.Tuple elts kk tpos) (.Call (.Attribute e "items" apos) [] [] cpos) (iItemsN Nm.wl te) (itemsN fe) := by
  refine ⟨pi_itemsN hw he.pe hbase hline, fun w σ H env st Q s0 e0 hp => ?_⟩
  refine he.rf.step s0 e0 hp fun w1 H1 st1 x v g1 s1 e1 q1 hp => ?_
  unfold itemsNF at hp
  split at hp
  · rename_i kvs
    obtain ⟨d, xs, ev, hv, rv⟩ := q1
    obtain ⟨⟨od, hd⟩, nd⟩ := hv
    obtain ⟨zs, hz, r2, r3⟩ := rv.zs
    have hl : zs.length = kvs.length := by have := r2.length; simpa using this.symm
    refine ⟨d, od, xs, zs, ev, hd, hz, Post.now hp s1 fun w2 H2 st2 mo fk2 s2 => ⟨fun i x hx => ?_, ?_⟩⟩
    · rw [List.getElem?_map] at hx
      obtain ⟨kv, hkv, rfl⟩ := Option.map_eq_some_iff.mp hx
      have hi : i < kvs.length := (List.getElem?_eq_some_iff.mp hkv).1
      have hd2 : H2 d = some (.frz od (rawN Nm.wl d xs)) := (mo.sub _ _ (fun _ z => by cases z) nd hd).2
      refine ⟨⟨⟨xs, hd2, hz⟩, by omega⟩, ?_⟩
      rintro v H3 ⟨T, b, y, hzi, rfl, hT, rfl⟩
      have e1 : (kvs.map (·.2))[i]? = some kv.2 := by rw [List.getElem?_map, hkv]; rfl
      have e2 : (kvs.map (·.1.data))[i]? = some kv.1.data := by rw [List.getElem?_map, hkv]; rfl
      obtain ⟨u1, h1, ru1⟩ := (Rps.mo mo r2).get e1
      obtain ⟨u2, h2, ru2⟩ := (Rps.mo mo r3).get e2
      rw [List.getElem?_map, hzi] at h1 h2
      cases h1
      cases h2
      exact ⟨Same.new hT, Rp.newTup (s2.notin hT) (.cons ru2 (.cons ru1 .nil)) hT⟩
    · have hd2 : H2 d = some (.frz od (rawN Nm.wl d xs)) := (mo.sub _ _ (fun _ z => by cases z) nd hd).2
      exact ⟨⟨xs, hd2, hz⟩, by simp; omega⟩
  · exact hp.elim
def trD (ds : List D) : M D := match ds with
  | [x, y, z] => (match sOf x, sOf y, sOf z with
    | some a, some b, some c => rt (.tr a b c)
    | _, _, _ => bad)
  | _ => bad
def txF (x y : D) : M D := match x, y with
  | .tr a _ _, .val (.int 0) => rt a.d
  | .tr _ b _, .val (.int 1) => rt b.d
  | .tr _ _ c, .val (.int 2) => rt c.d
  | x, y => ixF x y
def min2F (ds : List D) : M D := fun st => match ds with
  | [d, e] => (match dat st d, dat st e with
    | some (.int i), some (.int j) => okV (.int (if j < i then j else i)) st
    | _, _ => .bad)
  | _ => .bad
theorem bc_min2 {K : W.Frag} : BCall K E (fun xs H Q => ∃ i j, xs = [.int i, .int j] ∧ Q (.int (if j < i then j else i)) H) min2F := by
  intro w H st ds vs Q hs r hp
  unfold min2F at hp
  split at hp
  · obtain ⟨v, u, e, r1, r2⟩ := r.two
    split at hp
    · rename_i e1 e2
      have e3 := dat_int r1 e1
      have e4 := dat_int r2 e2
      subst e3; subst e4
      exact ⟨_, _, e, Post.now hp hs (.int _)⟩
    · exact hp.elim
  · exact hp.elim
end
section
variable {X : Ex → Store → Prop} {st : Store} {env : B.Env}
@[simp] theorem e_lockE {fo : B.Env → M D} {Q : D → Store → Prop} : wpx X (lockE fo env st) Q = wpx X (bd (fo env) lockM st) Q := propext Iff.rfl
theorem f_lockM {n : Nat} {kvs : List (NestedKey × PyData)} {Q : D → Store → Prop} (h : st[n]? = some (.dn kvs)) : wpx X (lockM (.loc n) st) Q = Q (.loc n) (st.set n (.dz kvs)) := by
  simp only [lockM, h, wp_ok]
@[simp] theorem e_get2N {fo fy fx : B.Env → M D} {Q : D → Store → Prop} : wpx X (get2N fo fy fx env st) Q = wpx X (bd (fo env) (fun x => bd (isDn x) fun _ => bd (fy env) fun y => bd (fx env) fun z => getN2 x y z) st) Q := propext Iff.rfl
@[simp] theorem dnP_dv {kvs : List (NestedKey × PyData)} : dnP st (.dv kvs) = some kvs := rfl
theorem f_isDn {d : D} {kvs : List (NestedKey × PyData)} {Q : Unit → Store → Prop} (h : dnP st d = some kvs) : wpx X (isDn d st) Q = Q () st := by simp only [isDn, h, wp_ok]
theorem f_getN2 {x y : D} {d : PyData} {kvs : List (NestedKey × PyData)} {k : NestedKey} {Q : D → Store → Prop} (h : dnP st x = some kvs) (hk : keyN y = some k) : wpx X (getN2 x y (.val d) st) Q = Q (.val ((valN kvs k).getD d)) st := by
  simp only [getN2, h, hk]; first | exact propext Iff.rfl | exact wp_D | simp [okV]
@[simp] theorem e_valsN {fo : B.Env → M D} {Q : List PyData → Store → Prop} : wpx X (valsN fo env st) Q = wpx X (bd (fo env) valsNF st) Q := propext Iff.rfl
theorem f_valsN {d : D} {kvs : List (NestedKey × PyData)} {Q : List PyData → Store → Prop} (h : dnP st d = some kvs) : wpx X (valsNF d st) Q = Q (kvs.map (·.2)) st := by simp only [valsNF, h, wp_ok]
@[simp] theorem f_valsNv {kvs : List (NestedKey × PyData)} {Q : List PyData → Store → Prop} : wpx X (valsNF (.dv kvs) st) Q = Q (kvs.map (·.2)) st := f_valsN rfl
@[simp] theorem e_itemsN {fo : B.Env → M D} {Q : Src → Store → Prop} : wpx X (itemsN fo env st) Q = wpx X (bd (fo env) itemsNF st) Q := propext Iff.rfl
@[simp] theorem f_itemsN {kvs : List (NestedKey × PyData)} {Q : Src → Store → Prop} : wpx X (itemsNF (.dv kvs) st) Q = Q (.fix (kvs.map pairN)) st := by simp only [itemsNF, wp_ok]
@[simp] theorem f_min2 {i j : Int} {Q : D → Store → Prop} : wpx X (min2F [.val (.int i), .val (.int j)] st) Q = Q (.val (.int (if j < i then j else i))) st := by first | exact propext Iff.rfl | exact wp_ok | simp [min2F, dat, okV]
@[simp] theorem S1.d_v {p : PyData} : (S1.v p).d = .val p := rfl
@[simp] theorem S1.d_l {n : Nat} : (S1.l n).d = .loc n := rfl
@[simp] theorem S1.d_dd {kvs : List (NestedKey × PyData)} : (S1.dd kvs).d = .dv kvs := rfl
@[simp] theorem S1.d_dt {a b : PyData} {kvs : List (NestedKey × PyData)} : (S1.dt a b kvs).d = .tr (.v a) (.v b) (.dd kvs) := rfl
end
end B
namespace B
open PySem L2
section
variable [Nm] [Gd]
variable {X : Cx} {E : XK} {e : Expr} {es : List Expr} {tr tk : TA} {pos p : Pos} {x : Str} {f : Addr} {fd : FuncData} {ps ks : List Str} {k n : Nat} {kws : List Keyword} {sp : Sp}
end
section
variable [Nm] [Gd]
variable {X : Cx} {E : XK} {e : Expr} {es : List Expr} {tr : TA} {fr : B.Env → M (List D)} {pos p : Pos} {x : Str} {f : Addr} {fd : FuncData} {ps : List Str} {k n : Nat}
end
end B
namespace B
open PySem L2
section
variable [Nm] [Gd]
def forXo (body : D → Env → M Fl) (s : SrcD) : Nat → Nat → Env → M Fl
  | 0, _, _ => bad
  | m + 1, i, env => fun st => match s st i with
    | none => .bad
    | some none => .ok (.nx env) st
    | some (some x) => bd (body x env) (fun f => match f with
      | .nx env' => forXo body s m (i + 1) env'
      | .ct env' => forXo body s m (i + 1) env'
      | .bk env' => rt (.nx env')
      | .rt d => rt (.rt d)) st
def forX (m : Nat) (fi : Env → M SrcD) (g : D → Env → M Env) (fb : Env → M Fl) : Env → M Fl := fun env => bd (fi env) fun s => forXo (fun x env => bd (g x env) fb) s m 0 env
theorem rf_forX {K : W.Frag} {E : XK} {m0 : Nat} {ti : TI} {tg : TG} {ts : TS} {fs : Env → M Fl} {fi : Env → M SrcD} {is : List Nat} {g : D → Env → M Env} (hi : Rf K E (ItD K) ti fi) (hg : RfG K E is tg g) (hb : RfS K E ts fs) : RfS K E (tFor ti tg ts) (forX m0 fi g fs) := by
  intro w σ H env st Z s0 e0 hp
  refine hi.stepS s0 e0 hp fun w1 H1 st1 s J g1 s1 e1 q1 hp => ?_
  let W : Nat → Nat → St → Hp → Prop := fun i m σ H => ∃ w env st, Ge w1 H1 w H ∧ RelSt K w H st ∧ RelEnv K w H env σ ∧ PostS K E w H (forXo (fun x env => bd (g x env) fs) s m i env st) Z
  refine ⟨W, ⟨m0, w1, env, st1, Ge.refl _ _, s1, e1, hp⟩, ?_⟩
  rintro i m σ2 H2 ⟨w2, env2, st2, g2, s2, e2, hp2⟩
  cases m with
  | zero => exact hp2.elim
  | succ m =>
    unfold forXo at hp2
    obtain ⟨hstop, hgo⟩ := q1 w2 H2 st2 (fun n a h => g2.get h) s2 i
    cases hx : s st2 i with
    | none => simp only [hx] at hp2; exact hp2.elim
    | some x =>
      cases x with
      | none =>
        left
        simp only [hx] at hp2
        exact ⟨hstop hx, hp2.nxc s2 e2⟩
      | some x =>
        right
        simp only [hx] at hp2
        obtain ⟨go, yld⟩ := hgo x hx
        refine ⟨go, fun σ' H' => W (i + 1) m σ' H', fun σ' H' h => ⟨m, Nat.lt_succ_self _, h⟩, fun v' H3 hy => ?_⟩
        obtain ⟨sm, rx⟩ := yld v' H3 hy
        have g3 : Ge w2 H2 w2 H3 := .same sm
        refine hg w2 σ2 H3 env2 st2 x v' _ (s2.same sm) (e2.mono g3) rx ?_
        have hp3 := hp2.mono g3
        cases hf : g x env2 st2 with
        | ok env' st' =>
          intro w4 H4 σ4 g4 s4 e4 _
          refine hb w4 σ4 H4 env' st' _ s4 e4 ?_
          have hp4 := hp3.mono g4
          have eb : bd (g x env2) fs st2 = fs env' st' := bd_ok hf
          cases hr : fs env' st' with
          | ok r st5 =>
            rw [bd_ok (eb.trans hr)] at hp4
            cases r with
            | nx env5 => exact fun w5 H5 σ5 g5 s5 e5 => ⟨w5, env5, st5, g2.trans (g3.trans (g4.trans g5)), s5, e5, hp4.mono g5⟩
            | ct env5 => exact fun w5 H5 σ5 g5 s5 e5 => ⟨w5, env5, st5, g2.trans (g3.trans (g4.trans g5)), s5, e5, hp4.mono g5⟩
            | bk env5 => exact hp4
            | rt d => exact hp4
          | exc e st5 => rw [bd_exc (eb.trans hr)] at hp4; exact hp4
          | bad => rw [bd_bad (eb.trans hr)] at hp4; exact hp4
        | exc e st' => rw [bd_exc (bd_exc hf)] at hp3; exact hp3
        | bad => rw [bd_bad (bd_bad hf)] at hp3; exact hp3
theorem ss_forX {X : Cx} {E : XK} {ss : List Stmt} {ts : TS} {fs : Env → M Fl} {pos : Pos} (m0 : Nat) {iter tg : Expr} {is : List Nat} {ti : TI} {t : TG} {fi : Env → M SrcD} {g : D → Env → M Env} (hp : PassesOwn (model X.prog X.w) X.A X.env X.xe) (hi : SIx X E tg iter ti fi) (hg : SG X E is tg t g) (hb : SSs X E ss ts fs) (hc : X.calm = true := by rfl)
    (hs : ∀ x, foldedSetIterable iter X.env x = pure x := by intro _; rfl) : SS X E (.For tg iter ss [] pos) (tFor ti t ts) (forX m0 fi g fs) := ⟨ps_for hp hc hi.pi hg.pg hb.ps hs, rf_forX hi.rf hg.rf hb.rf⟩
end
section
variable {X : Ex → Store → Prop} {st : Store} {env : Env}
@[simp] theorem e_forX {m : Nat} {fi : B.Env → M SrcD} {g : D → B.Env → M B.Env} {fb : B.Env → M Fl} {Q : Fl → Store → Prop} : wpx X (forX m fi g fb env st) Q = wpx X (bd (fi env) (fun s => forXo (fun x env => bd (g x env) fb) s m 0 env) st) Q := by first | exact propext Iff.rfl | exact wp_D | exact wp_D.trans wp_D.symm
theorem wp_forX {body : D → B.Env → M Fl} {s : SrcD} {Q : Fl → Store → Prop} {n : Nat} (I : Nat → B.Env → Store → Prop)
    (hs : ∀ i env st, I i env st → i ≤ n → (i = n → s st i = some none) ∧ (i < n → ∃ x, s st i = some (some x) ∧ wpx X (body x env st) (kL (fun e s => I (i + 1) e s) Q)))
    (hd : ∀ env st, I n env st → Q (.nx env) st) : ∀ (m i : Nat) (env : B.Env) (st : Store), I i env st → i ≤ n → n + 1 ≤ m + i → wpx X (forXo body s m i env st) Q := by
  intro m
  induction m with
  | zero => intro i env st _ h1 h2; omega
  | succ m ih =>
    intro i env st hI h1 h2
    obtain ⟨a, b⟩ := hs i env st hI h1
    unfold forXo
    by_cases h : i = n
    · simp only [a h, wp_ok]
      subst h
      exact hd env st hI
    · obtain ⟨x, hx, hb⟩ := b (by omega)
      simp only [hx]
      rw [wp_bd]
      refine wp_mono hb ?_
      intro r s2 hr
      cases r with
      | nx e => exact ih (i + 1) e s2 hr (by omega) (by omega)
      | ct e => exact ih (i + 1) e s2 hr (by omega) (by omega)
      | bk e => simpa only [kM_at, wp_rt, kL_bk, kL_rt] using hr
      | rt d => simpa only [kM_at, wp_rt, kL_bk, kL_rt] using hr
end
end B
namespace B
open PySem L2
variable [Nm] [Gd]
section
variable {X : Cx} {E : XK} {e : Expr} {es : List Expr} {tr tk : TA} {fr fk : Env → M (List D)} {pos p : Pos} {x : Str} {f : Addr} {fd : FuncData} {ps ks : List Str} {k n m N : Nat} {md : List D → M D} {kws : List Keyword} {ix : List Nat} {sp : Sp}
end
end B
namespace GS
open PySem PySem.Spec PyProof.Rows L2 PySem.W
section
variable (elt t0 i0 t1 i1 t2 i2 : Expr) (f0 f1 f2 : List Expr) (sc : Scope) (pos : Pos) (jt acc : Value) (en : PySem.Env)
end
section
variable {P : Program} {w : World} {A : Around} {R : Result → Shared → Prop} {s : Shared} {elt t0 i0 t1 i1 t2 i2 : Expr} {f0 f1 f2 : List Expr} {sc : Scope} {pos : Pos} {jt acc : Value} {en : PySem.Env}
end
end GS
namespace GS
open PySem PySem.Spec PyProof.Rows L2 PySem.W
section
variable {X : Cx} {elt tg iter tg1 iter1 tg2 iter2 : Expr} {ifs ifs1 ifs2 : List Expr} {scope : Scope} {own : List (Str × Nat)} {vs1 vs2 : List Nat} {pos : Pos} {wi wi1 wi2 : TI} {g g1 g2 : TG} {tt tt1 tt2 : TT} {te : TE}
end
end GS
namespace B
open PySem L2
variable [Nm] [Gd]
section
variable {X : Cx} {E : XK} {elt tg iter tg1 iter1 tg2 iter2 : Expr} {ifs ifs1 ifs2 : List Expr} {scope : Scope} {own : List (Str × Nat)} {is is1 is2 : List Nat} {pos : Pos} {ti ti1 ti2 : TI} {g g1 g2 : TG} {tt tt1 tt2 : TT} {te : TE} {fi fi1 fi2 : B.Env → M Src} {fg fg1 fg2 : D → B.Env → M B.Env} {ft ft1 ft2 : B.Env → M Bool} {fe : B.Env → M D}
end
end B
namespace B
open PySem PySem.W PySem.Calls PyProof.Rows L2 LamX NdefX
def toS1 : D → Option S1
  | .val p => some (.v p)
  | .loc n => some (.l n)
  | _ => none
def ofS1 : S1 → Option D
  | .v p => some (.val p)
  | .l n => some (.loc n)
  | _ => none
section
variable [Nm] [Gd]
end
end B
namespace B
open PySem PySem.W PySem.Calls PyProof.Rows L2 LamX NdefX
section
variable [Nm] [Gd]
def RpCs (K : W.Frag) (w : Wd) (H : Hp) (ss : List S1) (ws : List (Option V)) : Prop := ss.length = ws.length ∧ ∀ (i : Nat) (s : S1), ss[i]? = some s → ∃ v, ws[i]? = some (some v) ∧ RpS K w H s v
def spC (K : W.Frag) (n : Nat) (m : List S1 → List D → M D) (ws : List (Option V)) : Sp := fun vs H Q E => vs.length = n ∧ ∃ w st ds ss, RelSt K w H st ∧ RpDs K w H ds vs ∧ RpCs K w H ss ws ∧ Post K E (RE K) w H (m ss ds st) Q
structure CloOk (P : Program) (w : World) (K : W.Frag) (mg : Str → Option Value) (base : Heap) (k : Nat) (n : Str) (nn : Nat) (m : List S1 → List D → M D) : Prop where
  run : ∀ (st : Stmt) (y q : Str) (fr : List Str), Nm.nf n = some (st, y, q, fr) → ∀ (cl : List (Str × Addr)) (c f : Addr) (A : Around) (outer : List PySem.Env) (s : Shared) (H : Hp) (us : List Value) (vs : List V) (ws : List (Option V)) (Q : VK) (E : XK),
    Room k A → A.guards = some [] → Env0 P w K mg base A outer s H → H f = some (FnO f (NF.of st y q cl c)) → H c = some (CodeO c q) → CellsAt cl fr ws s.heap H → Vals vs us → spC K nn m ws vs H Q E → codeAny (model P w) A (.call (.ref f) ⟨us, []⟩) (CR (L2.CX P w) outer P w H s Q E) s
theorem CloOk.up {P : Program} {w : World} {K : W.Frag} {mg : Str → Option Value} {base : Heap} {j k nn : Nat} {n : Str} {m : List S1 → List D → M D} (C : CloOk P w K mg base j n nn m) (h : j ≤ k) : CloOk P w K mg base k n nn m :=
  ⟨fun st y q fr e cl c f A outer s H us vs ws Q E hr => C.run st y q fr e cl c f A outer s H us vs ws Q E (hr.mono h)⟩
end
def Er (H H' : Hp) : Prop := ∀ a u, H a = some u → (∀ o, u ≠ .frz o (.own 0)) → H' a = some u
section
variable [Nm]
variable {K : W.Frag} {w : Wd} {H H' : Hp}
theorem TupAt.er (g : Er H H') {a : Addr} {vs : List V} (h : TupAt K w H a vs) : TupAt K w H' a vs := by
  rcases h with ⟨h | ⟨o, h⟩, n⟩ | h
  · exact .inl ⟨.inl (g _ _ h (fun _ z => by cases z)), n⟩
  · exact .inl ⟨.inr ⟨o, g _ _ h (fun _ z => by cases z)⟩, n⟩
  · exact .inr h
theorem LsAt.er (g : Er H H') {a : Addr} {vs : List V} (h : LsAt K w H a vs) : LsAt K w H' a vs := ⟨g _ _ h.1 (fun _ z => by cases z), h.2⟩
theorem FzAt.er (g : Er H H') {a : Addr} {vs : List V} (h : FzAt K w H a vs) : FzAt K w H' a vs := by
  rcases h with ⟨⟨o, h⟩, n⟩ | h
  · exact .inl ⟨⟨o, g _ _ h (fun _ z => by cases z)⟩, n⟩
  · exact .inr h
mutual
theorem Rp.er (g : Er H H') : ∀ {d : PyData} {v : V}, Rp K w H d v → Rp K w H' d v
  | _, _, .non => .non
  | _, _, .bl b => .bl b
  | _, _, .int i => .int i
  | _, _, .str x => .str x
  | _, _, .tup h r => .tup (h.er g) (Rps.er g r)
  | _, _, .ls h r => .ls (h.er g) (Rps.er g r)
theorem Rps.er (g : Er H H') : ∀ {ds : List PyData} {vs : List V}, Rps K w H ds vs → Rps K w H' ds vs
  | _, _, .nil => .nil
  | _, _, .cons r s => .cons (Rp.er g r) (Rps.er g s)
end
theorem RpN.er (g : Er H H') : ∀ {ds : List (NestedKey × PyData)} {xs : List (NestedKey × Addr × Value)}, RpN K w H ds xs → RpN K w H' ds xs
  | _, _, .nil => .nil
  | _, _, .cons r d q v s => .cons (r.er g) d (q.er g) v (RpN.er g s)
theorem DnAt.er (g : Er H H') {a : Addr} {xs : List (NestedKey × Addr × Value)} (h : DnAt K w H a xs) : DnAt K w H' a xs := let ⟨⟨od, e⟩, n⟩ := h; ⟨⟨od, g _ _ e (fun _ z => by unfold rawN at z; cases z)⟩, n⟩
theorem RpS.er (g : Er H H') : ∀ {d : S1} {v : V}, RpS K w H d v → RpS K w H' d v
  | .v _, _, h => Rp.er g h
  | .l _, _, h => h
  | .p _ _, _, ⟨q, u, b, e, t, r, h⟩ => ⟨q, u, b, e, t.er g, Rp.er g r, h⟩
  | .dd _, _, ⟨a, xs, e, h, r⟩ => ⟨a, xs, e, h.er g, RpN.er g r⟩
  | .dt _ _ _, _, ⟨q, u, t, a, xs, e, ht, r1, r2, h, r⟩ => ⟨q, u, t, a, xs, e, ht.er g, Rp.er g r1, Rp.er g r2, h.er g, RpN.er g r⟩
def notClo : D → Bool
  | .err => false
  | .clo _ _ => false
  | _ => true
theorem RpK.er (g : Er H H') {κ : Type} : ∀ {ds : List (κ × PyData)} {vs : List (κ × V)}, RpK K w H ds vs → RpK K w H' ds vs
  | _, _, .nil => .nil
  | _, _, .cons r s => .cons (r.er g) (RpK.er g s)
theorem DkAt.er (g : Er H H') {a : Addr} {vs : List (Key × V)} (h : DkAt w H a vs) : DkAt w H' a vs := let ⟨⟨od, e⟩, n⟩ := h; ⟨⟨od, g _ _ e (fun _ z => by cases z)⟩, n⟩
theorem RpD.er {g1 g2 : Gd} (g : Er H H') {d : D} {v : V} (hd : notClo d = true) (h : @RpD _ g1 K w H d v) : @RpD _ g2 K w H' d v := by
  cases d with
  | val _ => exact Rp.er g h
  | loc _ => exact h
  | cst _ => exact h
  | frz _ => obtain ⟨a, vs, e, h, r⟩ := h; exact ⟨a, vs, e, h.er g, Rps.er g r⟩
  | err => cases hd
  | fn _ => exact h
  | pr _ _ => obtain ⟨a, u, t, e, h, r1, r2⟩ := h; exact ⟨a, u, t, e, h.er g, RpS.er g r1, RpS.er g r2⟩
  | tr _ _ _ => obtain ⟨a, u, t, s, e, h, r1, r2, r3⟩ := h; exact ⟨a, u, t, s, e, h.er g, RpS.er g r1, RpS.er g r2, RpS.er g r3⟩
  | dv _ => obtain ⟨a, xs, e, h, r⟩ := h; exact ⟨a, xs, e, h.er g, RpN.er g r⟩
  | dkv _ => obtain ⟨a, xs, e, h, r⟩ := h; exact ⟨a, xs, e, h.er g, RpK.er g r⟩
  | clo _ _ => cases hd
theorem RpDs.er {g1 g2 : Gd} (g : Er H H') : ∀ {ds : List D} {vs : List V}, ds.all notClo = true → @RpDs _ g1 K w H ds vs → @RpDs _ g2 K w H' ds vs
  | [], [], _, _ => .nil
  | d :: ds, v :: vs, hd, h => by
    cases h with
    | cons r s =>
      simp only [List.all_cons, Bool.and_eq_true] at hd
      exact .cons (r.er g hd.1) (RpDs.er g hd.2 s)
theorem RpSs.er (g : Er H H') : ∀ {ds : List S1} {vs : List V}, RpSs K w H ds vs → RpSs K w H' ds vs
  | _, _, .nil => .nil
  | _, _, .cons r s => .cons (r.er g) (RpSs.er g s)
theorem RpKS.er (g : Er H H') {κ : Type} : ∀ {ds : List (κ × S1)} {vs : List (κ × V)}, RpKS K w H ds vs → RpKS K w H' ds vs
  | _, _, .nil => .nil
  | _, _, .cons r s => .cons (r.er g) (RpKS.er g s)
theorem RpM.er (g : Er H H') : ∀ {ds : List (NestedKey × S1)} {xs : List (NestedKey × Addr × Value)}, RpM K w H ds xs → RpM K w H' ds xs
  | _, _, .nil => .nil
  | _, _, .cons e r d q v s => .cons e (r.er g) d (q.er g) v (RpM.er g s)
theorem ObjRel.er {g1 g2 : Gd} (g : Er H H') {a : Addr} {o : O} (ho : (match o with | .ins _ fs => fs.all fun p => notClo p.2 | _ => true) = true) (h : @ObjRel _ g1 K w H a o) : @ObjRel _ g2 K w H' a o := by
  cases o with
  | lst xs => obtain ⟨vs, e, r⟩ := h; exact ⟨vs, g _ _ e (fun _ z => by cases z), r.er g⟩
  | dk xs => obtain ⟨vs, e, r⟩ := h; exact ⟨vs, g _ _ e (fun _ z => by cases z), r.er g⟩
  | dt xs => obtain ⟨vs, e, r⟩ := h; exact ⟨vs, g _ _ e (fun _ z => by cases z), r.er g⟩
  | lr xs => obtain ⟨vs, e, r⟩ := h; exact ⟨vs, g _ _ e (fun _ z => by cases z), r.er g⟩
  | dr xs => obtain ⟨vs, e, r⟩ := h; exact ⟨vs, g _ _ e (fun _ z => by cases z), r.er g⟩
  | dn xs => obtain ⟨vs, e, r⟩ := h; exact ⟨vs, g _ _ e (fun _ z => by unfold rawN at z; cases z), r.er g⟩
  | dm xs => obtain ⟨vs, e, r⟩ := h; exact ⟨vs, g _ _ e (fun _ z => by unfold rawN at z; cases z), r.er g⟩
  | dz xs => obtain ⟨vs, ⟨od, e⟩, r⟩ := h; exact ⟨vs, ⟨od, g _ _ e (fun _ z => by unfold rawN at z; cases z)⟩, r.er g⟩
  | dkz xs => obtain ⟨vs, ⟨od, e⟩, r⟩ := h; exact ⟨vs, ⟨od, g _ _ e (fun _ z => by cases z)⟩, r.er g⟩
  | ins C fs =>
    obtain ⟨dx, gs, e, r1, r2⟩ := h
    refine ⟨dx, gs, g _ _ e (fun _ z => by cases z), r1, fun x => ⟨fun d hd => ?_, (r2 x).2⟩⟩
    obtain ⟨v, ev, rv⟩ := (r2 x).1 d hd
    obtain ⟨y, hy⟩ := lookup_mem hd
    exact ⟨v, ev, rv.er g (List.all_eq_true.mp ho _ hy)⟩
end
end B
namespace B
open PySem PySem.W PySem.Calls PyProof.Rows L2 LamX NdefX
def cut (cl : List (Str × Addr)) (H : Hp) : Hp := fun b => if b ∈ cl.map (·.2) then none else H b
def add (cl : List (Str × Addr)) (H H' : Hp) : Hp := fun b => if b ∈ cl.map (·.2) then H b else H' b
section
variable [Nm]
end
section
variable [Nm] [Gd]
variable {X : Cx} {E : XK} {k i nn : Nat} {x : Str} {p pos : Pos} {e : Expr} {es : List Expr} {tr : TA} {fr : B.Env → M (List D)}
end
end B
namespace B
open PySem L2
section
variable {env : B.Env} {st : Store} {X : Ex → Store → Prop}
@[simp] theorem ofS1_v {p : PyData} : ofS1 (.v p) = some (.val p) := rfl
@[simp] theorem ofS1_l {n : Nat} : ofS1 (.l n) = some (.loc n) := rfl
@[simp] theorem toS1_val {p : PyData} : toS1 (.val p) = some (.v p) := rfl
@[simp] theorem toS1_loc {n : Nat} : toS1 (.loc n) = some (.l n) := rfl
@[simp] theorem notClo_val {p : PyData} : notClo (.val p) = true := rfl
end
end B
namespace B
open PySem L2
section
variable [Nm] [Gd]
def PostFR (K : W.Frag) (E : XK) (w : Wd) (H : Hp) (r : Res (List S1)) (Q : VK) : Prop :=
  match r with
  | .ok xs st' => ∀ w' H' p vs, Ge w H w' H' → RelSt K w' H' st' → H' p = none → RpSs K w' H' xs vs → Q (.ref p) (upd H' p (.lst vs))
  | .exc e st' => ∀ w' H' c dx, Ge w H w' H' → RelSt K w' H' st' → RelX K w' H' e c dx → E c dx H'
  | .bad => False
theorem PostFR.mono {K : W.Frag} {E : XK} {w w' : Wd} {H H' : Hp} {r : Res (List S1)} {Q : VK} (g : Ge w H w' H') (h : PostFR K E w H r Q) : PostFR K E w' H' r Q := by
  cases r with
  | ok a st => exact fun r1 H1 p vs g1 s1 q1 => h r1 H1 p vs (g.trans g1) s1 q1
  | exc e st => exact fun r1 H1 c dx g1 s1 q1 => h r1 H1 c dx (g.trans g1) s1 q1
  | bad => exact h
def RfFR (K : W.Frag) (E : XK) (t : TE) (f : Env → M (List S1)) : Prop :=
  ∀ w σ H env st Q, RelSt K w H st → RelEnv K w H env σ → PostFR K E w H (f env st) Q → t σ H Q
def lrObj (f : Env → M (List S1)) : Env → M D := fun env => bd (f env) fun xs => fun st => .ok (.loc st.length) (st ++ [.lr xs])
theorem rf_lrObj {K : W.Frag} {E : XK} {t : TE} {f : Env → M (List S1)} (h : RfFR K E t f) : Rf K E (RE K) t (lrObj f) := by
  intro w σ H env st Q s0 e0 hp
  refine h w σ H env st Q s0 e0 ?_
  unfold lrObj at hp
  cases hf : f env st with
  | ok a st' =>
    rw [bd_ok hf] at hp
    refine fun r1 H1 p vs g1 s1 n1 q1 => ?_
    have np := s1.notin n1
    have gg : Ge r1 H1 (r1.add p) (upd H1 p (.lst vs)) := ⟨⟨[p], rfl, rfl, fun q hq => by
        have : q = p := by simpa using hq
        subst this
        exact ⟨np, n1⟩⟩, fun b v _ nb h => by rw [upd_ne (ne_of_none h n1)]; exact h, fun b v nb h => ⟨v, by rw [upd_ne (ne_of_none h n1)]; exact h⟩, fun b od v h => by rw [upd_ne (ne_of_none h n1)]; exact h⟩
    obtain ⟨s2, g2⟩ := s1.push (o := .lr a) (u := .lst vs) n1 ⟨vs, upd_same, q1.mono gg⟩
    exact hp _ _ _ (g1.trans g2) s2 ⟨p, rfl, by rw [s1.len]; simp⟩
  | exc e st' => rw [bd_exc hf] at hp; exact hp
  | bad => rw [bd_bad hf] at hp; exact hp
def PostNR (K : W.Frag) (p : Addr) (w : Wd) (H : Hp) (r : Res (List S1)) (Nx : Hp → Prop) : Prop :=
  match r with
  | .ok acc st' => ∀ w' H' vs, Ge w H w' H' → RelSt K w' H' st' → H' p = none → RpSs K w' H' acc vs → Nx (upd H' p (.lst vs))
  | _ => False
theorem PostNR.mono {K : W.Frag} {p : Addr} {w w' : Wd} {H H' : Hp} {r : Res (List S1)} {Nx : Hp → Prop} (g : Ge w H w' H') (h : PostNR K p w H r Nx) : PostNR K p w' H' r Nx := by
  cases r with
  | ok acc st => exact fun w2 H2 vs g2 => h w2 H2 vs (g.trans g2)
  | exc e st => exact h
  | bad => exact h
def RfNR (K : W.Frag) (t : TN) (f : Env → List S1 → M (List S1)) : Prop :=
  ∀ p w σ H env st acc vs Nx, RelSt K w H st → RelEnv K w H env σ → H p = none → RpSs K w H acc vs → PostNR K p w H (f env acc st) Nx → t p σ (upd H p (.lst vs)) Nx
def lcInR (ft : Env → M Bool) (fe : Env → M D) (env : Env) (acc : List S1) : M (List S1) :=
  bd (noX (ft env)) fun b => if b = true then bd (noX (fe env)) fun d => (match d with
    | .loc y => if acc.length < sizeLine then rt (acc ++ [.l y]) else bad
    | .dv y => if acc.length < sizeLine then rt (acc ++ [.dd y]) else bad
    | _ => bad) else rt acc
theorem Rf.stepNR {α β : Type} {K : W.Frag} {R : Wd → Hp → α → β → Prop} {t : St → Hp → (β → Hp → Prop) → Prop} {f : Env → M α} (h : Rf K E0 R t f)
    {p : Addr} {w : Wd} {σ : St} {H : Hp} {env : Env} {st : Store} {vs : List V} {g : α → M (List S1)} {Nx : Hp → Prop} {U : β → Hp → Prop} (hs : RelSt K w H st) (he : RelEnv K w H env σ) (hn : H p = none) (hp : PostNR K p w H (bd (noX (f env)) g st) Nx)
    (k : ∀ w1 H1 w2 st' a b, RelSt K w1 H1 st' → R w1 H1 a b → Mo w1 H1 w2 (hide H1 p) → w2.rho = w1.rho → RelSt K w2 (hide H1 p) st' → Ge w H w2 (hide H1 p) → H1 p = some (.lst vs) → PostNR K p w2 (hide H1 p) (g a st') Nx → U b H1) : t σ (upd H p (.lst vs)) U := by
  refine h (w.prot p) σ _ env st _ (hs.prot hn) (he.mo (Mo.prot hs hn)) ?_
  cases hf : f env st with
  | ok a st' =>
    rw [bd_ok (noX_ok hf)] at hp
    intro w1 H1 b g1 s1 q1
    obtain ⟨w2, mo, s2, g2, hD, er⟩ := unprot hs hn g1 s1
    exact k w1 H1 w2 st' a b s1 q1 mo er s2 g2 hD (hp.mono g2)
  | exc e st' => rw [bd_bad (noX_exc hf)] at hp; exact hp.elim
  | bad => rw [bd_bad (noX_bad hf)] at hp; exact hp.elim
theorem rfn_inR {K : W.Frag} {tt : TT} {te : TE} {ft : Env → M Bool} {fe : Env → M D} (ht : Rf K E0 RB tt ft) (he : Rf K E0 (RE K) te fe) : RfNR K (tIn tt te) (lcInR ft fe) := by
  intro p w σ H env st acc vs Nx s0 e0 n0 q0 hp
  refine ht.stepNR s0 e0 n0 hp fun w1 H1 w2 st1 b b' s1 r1 mo er s2 g2 hD hp => ?_
  cases r1
  have hh : upd (hide H1 p) p (.lst vs) = H1 := by rw [upd_hide, upd_self hD]
  cases b with
  | false =>
    rw [if_neg Bool.false_ne_true] at hp ⊢
    have := hp w2 _ vs (Ge.refl _ _) s2 hide_same (q0.mono g2)
    rw [hh] at this
    exact this
  | true =>
    rw [if_pos rfl] at hp ⊢
    rw [← hh]
    refine he.stepNR s2 (e0.mono g2) hide_same hp fun w3 H3 w4 st3 d v s3 r3 mo3 er3 s4 g4 hD3 hp => ?_
    cases d with
    | loc y =>
      simp only at hp
      split at hp
      · rename_i hl
        refine ⟨vs, hD3, by rw [← q0.length]; exact hl, ?_⟩
        have := hp w4 _ (vs ++ [v]) (Ge.refl _ _) s4 hide_same (((q0.mono g2).mono g4).app (.cons (RpS.mo mo3 (d := .l y) r3) .nil))
        rw [upd_hide] at this
        exact this
      · exact hp.elim
    | dv y =>
      simp only at hp
      split at hp
      · rename_i hl
        refine ⟨vs, hD3, by rw [← q0.length]; exact hl, ?_⟩
        have := hp w4 _ (vs ++ [v]) (Ge.refl _ _) s4 hide_same (((q0.mono g2).mono g4).app (.cons (RpS.mo mo3 (d := .dd y) r3) .nil))
        rw [upd_hide] at this
        exact this
      · exact hp.elim
    | _ => exact hp.elim
def lcFR (g : D → Env → M Env) (inner : Env → List S1 → M (List S1)) (env : Env) : List PyData → List S1 → M (List S1)
  | [], acc => rt acc
  | x :: r, acc => bd (noX (g (.val x) env)) fun env' => bd (inner env' acc) fun acc' => lcFR g inner env r acc'
def lcOR (g : D → Env → M Env) (inner : Env → List S1 → M (List S1)) (n : Nat) (env : Env) : Nat → Nat → List S1 → M (List S1)
  | 0, _, _ => bad
  | m + 1, i, acc => fun st => match st[n]? with
    | some (.lst xs) => match xs[i]? with
      | none => .ok acc st
      | some x => bd (noX (g (.val x) env)) (fun env' => bd (inner env' acc) fun acc' => lcOR g inner n env m (i + 1) acc') st
    | _ => .bad
def lcLR (m : Nat) (g : D → Env → M Env) (inner : Env → List S1 → M (List S1)) (env : Env) (s : Src) (acc : List S1) : M (List S1) := match s with
  | .fix xs => lcFR g inner env xs acc
  | .obj n => lcOR g inner n env m 0 acc
theorem lc_loopR {K : W.Frag} {m0 : Nat} {J : It} {tg : TG} {t : TN} {is vs0 : List Nat} {g : D → Env → M Env} {inner : Env → List S1 → M (List S1)} (hg : RfG K E0 is tg g) (hi : RfNR K t inner) (his : ∀ i ∈ is, i ∈ vs0)
    {w : Wd} {σ : St} {H : Hp} {env : Env} {st : Store} {s : Src} {acc : List S1} {vs : List V} {p : Addr} {Fin : Hp → Prop} (hs : RelSt K w H st) (he : RelEnv K w H env σ) (hn : H p = none) (hq : RpSs K w H acc vs) (hJ : RI K w H s J)
    (hp : PostNR K p w H (lcLR m0 g inner (kill vs0 env) s acc st) Fin) : LcLoop J tg t p vs0 σ (upd H p (.lst vs)) Fin := by
  have turn : ∀ (w2 : Wd) (H2 : Hp) (st2 : Store) (acc2 : List S1) (vs2 : List V) (x : PyData) (v : V) (H3 : Hp) (rest : List S1 → M (List S1)) (Nx : Hp → Prop), Ge w H w2 H2 → RelSt K w2 H2 st2 → H2 p = none → RpSs K w2 H2 acc2 vs2 →
      Same (upd H2 p (.lst vs2)) H3 → Rp K (w2.prot p) H3 x v → PostNR K p w2 H2 (bd (noX (g (.val x) (kill vs0 env))) (fun env' => bd (inner env' acc2) rest) st2) Fin →
      (∀ w4 H4 st4 acc4 vs4, Ge w H w4 H4 → RelSt K w4 H4 st4 → H4 p = none → RpSs K w4 H4 acc4 vs4 → PostNR K p w4 H4 (rest acc4 st4) Fin → Nx (upd H4 p (.lst vs4))) →
      tg v (wipe σ vs0) H3 fun σ2 H2 => wipe σ2 vs0 = wipe σ vs0 ∧ t p σ2 H2 Nx := by
    intro w2 H2 st2 acc2 vs2 x v H3 rest Nx g2 s2 n2 q2 sm rx hp2 hN
    have e2 : RelEnv K w2 H2 (kill vs0 env) (wipe σ vs0) := (he.mono g2).wiped
    have s2p := s2.prot (o := .lst vs2) n2
    have g3 : Ge (w2.prot p) (upd H2 p (.lst vs2)) (w2.prot p) H3 := .same sm
    refine hg (w2.prot p) (wipe σ vs0) H3 (kill vs0 env) st2 (.val x) v _ (s2p.same sm) ((e2.mo (Mo.prot s2 n2)).mono g3) rx ?_
    cases hf : g (.val x) (kill vs0 env) st2 with
    | ok env' st' =>
      rw [bd_ok (noX_ok hf)] at hp2
      intro w4 H4 σ4 g4 s4 e4 ww
      refine ⟨(ww vs0 his).trans ?_, ?_⟩
      · have : ∀ (l : List Nat) (τ : St), wipe (wipe τ l) l = wipe τ l := fun l τ => by
          apply List.ext_getElem?
          intro i
          by_cases hi : i ∈ l
          · have key : ∀ (l : List Nat) (τ : St), i ∈ l → (wipe τ l)[i]? = if i < τ.length then some none else none := by
              intro l
              induction l with
              | nil => intro τ h; simp at h
              | cons y l ih =>
                intro τ h
                unfold wipe
                by_cases hy : i = y
                · subst hy
                  by_cases hl : i < τ.length
                  · rw [List.getElem?_set_self (by rw [wipe_length]; exact hl), if_pos hl]
                  · rw [if_neg hl, List.getElem?_eq_none (by rw [List.length_set, wipe_length]; omega)]
                · rw [List.getElem?_set_ne (Ne.symm hy)]
                  exact ih τ (by
                    rcases List.mem_cons.mp h with e | e
                    · exact absurd e hy
                    · exact e)
            rw [key l _ hi, key l _ hi, wipe_length]
          · rw [wipe_out hi]
        exact this vs0 σ
      · obtain ⟨w5, mo5, s5, g5, hD5, er5⟩ := unprot s2 n2 (g3.trans g4) s4
        have hh : upd (hide H4 p) p (.lst vs2) = H4 := by rw [upd_hide, upd_self hD5]
        rw [← hh]
        refine hi p w5 σ4 (hide H4 p) env' st' acc2 vs2 Nx s5 (e4.mo mo5) hide_same (q2.mono g5) ?_
        have hp5 := hp2.mono g5
        cases hr : inner env' acc2 st' with
        | ok acc6 st6 =>
          rw [bd_ok hr] at hp5
          exact fun w6 H6 vs6 g6 s6 n6 q6 => hN w6 H6 st6 acc6 vs6 (g2.trans (g5.trans g6)) s6 n6 q6 (hp5.mono g6)
        | exc e st6 => rw [bd_exc hr] at hp5; exact hp5.elim
        | bad => rw [bd_bad hr] at hp5; exact hp5.elim
    | exc e st' => rw [bd_bad (noX_exc hf)] at hp2; exact hp2.elim
    | bad => rw [bd_bad (noX_bad hf)] at hp2; exact hp2.elim
  cases s with
  | fix xs =>
    let W : Nat → Nat → Hp → Prop := fun i m H' => ∃ w2 H2 st2 acc2 vs2, H' = upd H2 p (.lst vs2) ∧ Ge w H w2 H2 ∧ RelSt K w2 H2 st2 ∧ H2 p = none ∧ RpSs K w2 H2 acc2 vs2 ∧ i ≤ xs.length ∧ m = xs.length - i ∧ PostNR K p w2 H2 (lcFR g inner (kill vs0 env) (xs.drop i) acc2 st2) Fin
    refine ⟨W, ⟨xs.length, w, H, st, acc, vs, rfl, Ge.refl _ _, hs, hn, hq, Nat.zero_le _, rfl, hp⟩, ?_⟩
    rintro i m H' ⟨w2, H2, st2, acc2, vs2, rfl, g2, s2, n2, q2, hil, rfl, hp2⟩
    have J2 : ItOk K w2 H2 J xs := ItOk.mono g2.mo g2.fk hJ
    by_cases hlt : i < xs.length
    · right
      have ex : xs[i]? = some xs[i] := by simp [hlt]
      have ed : xs.drop i = xs[i] :: xs.drop (i + 1) := List.drop_eq_getElem_cons hlt
      obtain ⟨go, yld⟩ := J2.prot (o := .lst vs2) s2 n2 ex
      refine ⟨go, fun H' => W (i + 1) (xs.length - (i + 1)) H', fun H' h => ⟨_, by omega, h⟩, fun v H3 hy => ?_⟩
      obtain ⟨sm, rx⟩ := yld v H3 hy
      rw [ed] at hp2
      unfold lcFR at hp2
      exact turn w2 H2 st2 acc2 vs2 xs[i] v H3 _ _ g2 s2 n2 q2 sm rx hp2 fun w4 H4 st4 acc4 vs4 g4 s4 n4 q4 hp4 => ⟨w4, H4, st4, acc4, vs4, rfl, g4, s4, n4, q4, hlt, rfl, hp4⟩
    · left
      have e : i = xs.length := by omega
      subst e
      refine ⟨(J2 w2 _ st2 (Ge.new n2).mo (Fk.new n2) (s2.new n2)).2, ?_⟩
      rw [List.drop_length] at hp2
      exact hp2 w2 H2 vs2 (Ge.refl _ _) s2 n2 q2
  | obj n =>
    obtain ⟨a, ha, rfl⟩ := hJ
    have npa : a ≠ p := fun z => hs.notin hn (by rw [← z]; exact List.mem_append_left _ (List.mem_of_getElem? ha))
    let W : Nat → Nat → Hp → Prop := fun i m H' => ∃ w2 H2 st2 acc2 vs2, H' = upd H2 p (.lst vs2) ∧ Ge w H w2 H2 ∧ RelSt K w2 H2 st2 ∧ H2 p = none ∧ RpSs K w2 H2 acc2 vs2 ∧ PostNR K p w2 H2 (lcOR g inner n (kill vs0 env) m i acc2 st2) Fin
    refine ⟨W, ⟨m0, w, H, st, acc, vs, rfl, Ge.refl _ _, hs, hn, hq, hp⟩, ?_⟩
    rintro i m H' ⟨w2, H2, st2, acc2, vs2, rfl, g2, s2, n2, q2, hp2⟩
    cases m with
    | zero => exact (show False from hp2).elim
    | succ m =>
      unfold lcOR at hp2
      cases ho : st2[n]? with
      | none => simp only [ho] at hp2; exact (show False from hp2).elim
      | some o =>
        cases o with
        | lst xs =>
          simp only [ho] at hp2
          obtain ⟨us, ev, rv⟩ := s2.obj n _ a ho (g2.get ha)
          have ev' : upd H2 p (.lst vs2) a = some (.lst us) := by rw [upd_ne npa]; exact ev
          cases hx : xs[i]? with
          | none =>
            left
            simp only [hx] at hp2
            refine ⟨⟨us, SqL.of ev', ?_⟩, hp2 w2 H2 vs2 (Ge.refl _ _) s2 n2 q2⟩
            rw [← rv.length]
            exact List.getElem?_eq_none_iff.mp hx
          | some x =>
            right
            simp only [hx] at hp2
            obtain ⟨v, hv, rx⟩ := rv.get hx
            refine ⟨⟨us, v, SqL.of ev', hv⟩, fun H' => W (i + 1) m H', fun H' h => ⟨m, Nat.lt_succ_self _, h⟩, fun v' H3 hy => ?_⟩
            obtain ⟨e3, hy⟩ := hy
            subst e3
            have e4 : v' = v := by
              have q := hy us (SqL.of ev')
              rw [hv] at q
              exact (Option.some.inj q).symm
            subst e4
            exact turn w2 H2 st2 acc2 vs2 x v' _ _ _ g2 s2 n2 q2 (Same.refl _) (rx.mo (Mo.prot s2 n2)) hp2 fun w4 H4 st4 acc4 vs4 g4 s4 n4 q4 hp4 => ⟨w4, H4, st4, acc4, vs4, rfl, g4, s4, n4, q4, hp4⟩
        | _ => simp only [ho] at hp2; exact (show False from hp2).elim
def lcSR (m : Nat) (own : List Nat) (fi : Env → M Src) (g : D → Env → M Env) (ft : Env → M Bool) (fe : Env → M D) : Env → M (List S1) := fun env => bd (fi env) fun s => noX (lcLR m g (lcInR ft fe) (kill own env) s [])
theorem rf_lcR {K : W.Frag} {E : XK} {m : Nat} {own is : List Nat} {ti : TI} {tg : TG} {tt : TT} {te : TE} {fi : Env → M Src} {g : D → Env → M Env} {ft : Env → M Bool} {fe : Env → M D} (hi : Rf K E (RI K) ti fi) (hg : RfG K E0 is tg g) (his : ∀ i ∈ is, i ∈ own)
    (ht : Rf K E0 RB tt ft) (he : Rf K E0 (RE K) te fe) : RfFR K E (tLc ti tg tt te own) (lcSR m own fi g ft fe) := by
  intro w σ H env st Q s0 e0 hp
  unfold lcSR at hp
  refine hi w σ H env st _ s0 e0 ?_
  cases hf : fi env st with
  | ok s st' =>
    rw [bd_ok hf] at hp
    intro w1 H1 J g1 s1 q1 p np
    refine lc_loopR (m0 := m) hg (rfn_inR ht he) his s1 (e0.mono g1) np .nil q1 (Fin := fun H' => Q (.ref p) H') ?_
    have hp := hp.mono g1
    cases hr : lcLR m g (lcInR ft fe) (kill own env) s [] st' with
    | ok acc st2 =>
      rw [noX_ok hr] at hp
      exact fun w2 H2 vs g2 s2 n2 q2 => hp w2 H2 p vs g2 s2 n2 q2
    | exc e st2 => rw [noX_exc hr] at hp; exact hp.elim
    | bad => rw [noX_bad hr] at hp; exact hp.elim
  | exc e st' => rw [bd_exc hf] at hp; exact hp
  | bad => rw [bd_bad hf] at hp; exact hp
section
variable {X : Cx} {E : XK} {elt tg iter : Expr} {ifs : List Expr} {scope : Scope} {own : List (Str × Nat)} {is : List Nat} {pos py spos : Pos} {ti : TI} {g : TG} {tt : TT} {te : TE} {fi : Env → M Src} {fg : D → Env → M Env} {ft : Env → M Bool} {fe : Env → M D} {i : Nat} {y : Str}
theorem ss_setLcR (m : Nat) (hN : X.N.Nodup) (hi : SI X E tg iter ti fi) (ok : BlkOk X.N X.env.scope scope own)
    (hg : ∀ (s : Shared) (H : Hp) (C : Addr) (cl : List (Str × Addr)) (fp : List Addr), SG (X.blk s H scope (PySem.compEnvC scope cl C X.env) fp) E0 is tg g fg) (ht : ∀ (s : Shared) (H : Hp) (C : Addr) (cl : List (Str × Addr)) (fp : List Addr), STs (X.blk s H scope (PySem.compEnvC scope cl C X.env) fp) E0 ifs tt ft)
    (he : ∀ (s : Shared) (H : Hp) (C : Addr) (cl : List (Str × Addr)) (fp : List Addr), SE (X.blk s H scope (PySem.compEnvC scope cl C X.env) fp) E0 elt te fe)
    (hsw : swapsWith (.ListComp elt [⟨tg, iter, ifs, 0⟩] scope pos) (some (.Name y py)) spos.line X.env = pure true) {os : List Nat} (hos : own.map (·.2) = os := by rfl) (his : ∀ i ∈ is, i ∈ os := by decide) (hc : X.calm = true := by rfl) (hy : X.N[i]? = some y := by rfl) (hyl : X.env.scope.names.lookup y = some .local := by rfl) (hs : ∀ x, foldedSetIterable iter X.env x = pure x := by intro _; rfl) :
    SS X E (.Assign [.Name y py] (.ListComp elt [⟨tg, iter, ifs, 0⟩] scope pos) spos) (tAsg (tLc ti g tt te os) (gName i)) (asgS (lrObj (lcSR m os fi fg ft fe)) (setV i)) := by
  subst hos
  have rf := rf_lcR (m := m) hi.rf (hg {} (fun _ => none) 0 [] []).rf his (ht {} (fun _ => none) 0 [] []).rf (he {} (fun _ => none) 0 [] []).rf
  refine ⟨ps_setLc hc hN hy hyl hsw hi.pi ok (fun s H C cl fp => (hg s H C cl fp).pg) (fun s H C cl fp => (ht s H C cl fp).pt) (fun s H C cl fp => (he s H C cl fp).pe) hs, ?_⟩
  have rs : RfG X.K E [i] (gName i) (setV i) := fun w σ H env st d v Q s0 e0 r hp => hp w H _ (Ge.refl _ _) s0 (e0.set i r) fun vs h => wipe_set (h i (by simp))
  exact rf_asg (is := [i]) (rf_lrObj rf) rs
end
end
section
variable {env : Env} {st : Store} {X : Ex → Store → Prop}
end
end B
namespace B
open PySem L2
section
variable [Nm] [Gd]
variable {X : Cx} {E : XK} {e : Expr} {te : TE} {fe : Env → M D} {p pos tpos p1 p2 : Pos} {n1 n2 : Str} {T1 T2 : String} {k : Nat}
end
section
variable {env : Env} {st : Store} {X : Ex → Store → Prop}
end
end B
namespace GS
open PySem PySem.Spec PyProof.Rows L2 PySem.W
section
variable [B.Nm] [B.Gd] {P : Program} {w : World} {A : Around} {E : Value → Shared → Prop} {s : Shared} {T : String} {r d : Addr} {n : Nat} {Pv : Nat → Value → Prop} {OK : Heap → Prop}
end
section
variable [B.Nm] [B.Gd] {X : Cx} {pins : List (Addr × Obj)} {σ : L2.St} {H : Hp} {s : Shared}
theorem acc_raw {wl : World} {es : Array DictEntry} {ys : List (NestedKey × Addr × Value)} (he : es.toList = ys.map fun x => (⟨x.1.hash wl, .ref x.2.1, x.2.2⟩ : DictEntry)) {acc : Array Value} (it : ItemsOf (fun i v => ∃ en : DictEntry, es[i]? = some en ∧ v = en.key) acc es.size) : acc.toList = ys.map fun y => Value.ref y.2.1 := by
  have l1 := B.raw_size he
  apply List.ext_getElem?
  intro j
  rw [List.getElem?_map]
  cases hj : ys[j]? with
  | none =>
    have h1 := List.getElem?_eq_none_iff.mp hj
    rw [List.getElem?_eq_none (by rw [Array.length_toList, it.1]; omega)]
    rfl
  | some y =>
    obtain ⟨hi, e1, _⟩ := B.raw_at he hj
    have hj2 : j < acc.size := by rw [it.1]; exact hi
    have h2 : acc[j]? = some acc[j] := Array.getElem?_eq_getElem hj2
    obtain ⟨en, hen, hv⟩ := it.2 j _ h2
    rw [Array.getElem?_eq_getElem hi] at hen
    cases hen
    rw [Array.getElem?_toList, h2, hv, e1]
    rfl
def rListN (wl : World) : List V → Hp → VK → Prop := fun xs H Q => ∃ a ys, xs = [.ref a] ∧ Rd H a (B.rawN wl a ys) ∧ ∀ p, H p = none → Q (.ref p) (upd H p (.lst (ys.map fun y => V.ref y.2.1)))
theorem cr_listN {wl : World} (hc : X.calm = true) (hw : X.w = wl := by rfl) : CallR X (.type "list") (rListN wl) := by
  subst hw
  intro pins s σ H xs us Q I r h
  obtain ⟨a, ys, rfl, hd, q⟩ := h
  obtain ⟨u, rfl, rx⟩ := r.one
  cases rx
  obtain ⟨hs, hz, es, ep, ⟨o, ho, hx, hdt⟩, he⟩ := B.dn_rawR I hd
  have l1 := B.raw_size he
  refine PySem.W.kdl_call (kdl_raw hs hx hdt) (I.ok.hd hc) ho (by omega) fun h' tk acc' c' kp e it => ?_
  have ea := acc_raw he it
  have rv : Vals (ys.map fun y => V.ref y.2.1) acc'.toList := by
    rw [ea]
    have := vals_refs (ys.map fun y => y.2.1)
    rw [List.map_map, List.map_map] at this
    exact this
  exact ⟨.ref s.heap.objs.size, _, I.laid (t' := tk) (o := .lst (ys.map fun y => V.ref y.2.1)) kp (Nat.le_refl _) ⟨by rw [List.length_map]; exact hz, acc'.toList, c', rv, by rw [Array.toArray_toList]; exact e⟩, rfl, q _ (I.hok.fresh (Nat.le_refl _))⟩
end
end GS
namespace B
open PySem L2
section
variable [Nm] [Gd] {K : W.Frag} {E : XK}
def lenN (ds : List D) : M D := fun st => match ds with
  | [d] => (match dnP st d with
    | some kvs => okV (.int kvs.length) st
    | none => .bad)
  | _ => .bad
theorem RpN.refs {w : Wd} {H : Hp} : ∀ {kvs : List (NestedKey × PyData)} {xs : List (NestedKey × Addr × Value)}, RpN K w H kvs xs → Rps K w H (kvs.map (·.1.data)) (xs.map fun x => V.ref x.2.1)
  | _, _, .nil => .nil
  | _, _, .cons r _ _ _ s => .cons r (RpN.refs s)
theorem RpN.same {w : Wd} {H : Hp} : ∀ {kvs : List (NestedKey × PyData)} {xs : List (NestedKey × Addr × Value)}, RpN K w H kvs xs → kvs.map (·.1.data) = xs.map (·.1.data)
  | _, _, .nil => rfl
  | _, _, .cons _ _ _ _ s => by rw [List.map_cons, List.map_cons, RpN.same s]
def listN (ds : List D) : M (List PyData) := fun st => match ds with
  | [d] => (match dnP st d with
    | some kvs => .ok (kvs.map (·.1.data)) st
    | none => .bad)
  | _ => .bad
theorem bc_listN : BCallF K E (GS.rListN Nm.wl) listN := by
  intro w H st ds vs Q hs r hp
  unfold listN at hp
  split at hp
  · obtain ⟨v, e, r1⟩ := r.one
    split at hp
    · rename_i kvs e1
      obtain ⟨a, xs, ev, hd, rn⟩ := dnP_rel hs r1 e1
      subst ev
      exact ⟨a, xs, e, hd, fun p np => hp w H p _ (Ge.refl _ _) hs np rn.refs⟩
    · exact hp.elim
  · exact hp.elim
theorem RpK.keys {w : Wd} {H : Hp} {κ : Type} : ∀ {kvs : List (κ × PyData)} {vs : List (κ × V)}, RpK K w H kvs vs → kvs.map (·.1) = vs.map (·.1)
  | _, _, .nil => rfl
  | _, _, .cons _ s => by rw [List.map_cons, List.map_cons, RpK.keys s]
theorem RpKS.keys {w : Wd} {H : Hp} {κ : Type} : ∀ {kvs : List (κ × S1)} {vs : List (κ × V)}, RpKS K w H kvs vs → kvs.map (·.1) = vs.map (·.1)
  | _, _, .nil => rfl
  | _, _, .cons _ s => by rw [List.map_cons, List.map_cons, RpKS.keys s]
variable {X : Cx} {e : Expr} {te : TE} {fe : B.Env → M D} {tg : Expr}
end
section
variable {env : Env} {st : Store} {X : Ex → Store → Prop}
end
end B
namespace GS
open PySem PySem.Spec PyProof.Rows L2
section
variable {X : Cx} {kx vx tg iter : Expr} {ifs : List Expr} {scope : Scope} {own : List (Str × Nat)} {pos : Pos} {wi : TI} {g : TG} {tt : TT} {tk tv : TE}
end
end GS
namespace B
open PySem L2
variable [Nm] [Gd]
section
variable {X : Cx} {E : XK} {kx vx tg iter : Expr} {ifs : List Expr} {scope : Scope} {own : List (Str × Nat)} {is : List Nat} {pos : Pos} {ti : TI} {g : TG} {tt : TT} {tk tv : TE} {fi : B.Env → M Src} {fg : D → B.Env → M B.Env} {ft : B.Env → M Bool} {fk fv : B.Env → M D}
end
end B
namespace B
open PySem L2
section
variable [Nm] [Gd]
end
section
variable {env : Env} {st : Store} {X : Ex → Store → Prop}
end
end B
namespace B
open PySem L2
section
variable {env : Env} {st : Store} {X : Ex → Store → Prop}
end
end B
namespace B
open PySem L2
section
variable [Nm] [Gd] {X : Cx} {E : XK} {pos : Pos}
end
section
variable {X : Ex → Store → Prop} {st : Store} {env : B.Env}
end
end B
namespace B
open PySem L2 PySem.Spec PyProof.Rows
section
variable [Nm] [Gd]
variable {K : W.Frag} {X : Cx} {E : XK} {e tg : Expr} {te : TE} {fe : B.Env → M D}
theorem RelSt.put {w : Wd} {H : Hp} {st : Store} {n : Nat} {a : Addr} {o : O} {u : HO} (hs : RelSt K w H st) (ha : w.rho[n]? = some a) (ho : ObjRel K w (upd H a u) a o) : RelSt K w (upd H a u) (st.set n o) ∧ Mo w H w (upd H a u) := by
  have hm : a ∈ w.rho := List.mem_of_getElem? ha
  have mo : Mo w H w (upd H a u) := ⟨fun b v _ nb h => ⟨nb, by rw [upd_ne (fun z => nb (by rw [z]; exact List.mem_append_left _ hm))]; exact h⟩, fun _ _ h => h⟩
  obtain ⟨u0, hu0, hu1, hu2⟩ := hs.kind hm
  refine ⟨⟨by simp [hs.len], hs.nd, fun b hb => ?_, hs.nde, fun m q b e1 e2 => ?_, tabs_upd hs.tab hu0 hu1 hu2, Gd.sb mo.sub hs.inv⟩, mo⟩
  · obtain ⟨v, e, x⟩ := hs.trk b hb
    exact ⟨v, by rw [upd_ne (show b ≠ a from fun z => hs.nde a hm (by rw [← z]; exact hb))]; exact e, x⟩
  by_cases hmn : m = n
  · subst hmn
    rw [ha] at e2; cases e2
    have hl : m < st.length := by rw [hs.len]; exact (List.getElem?_eq_some_iff.mp ha).1
    rw [List.getElem?_set_self hl] at e1
    cases e1
    exact ho
  · rw [List.getElem?_set_ne (Ne.symm hmn)] at e1
    have nb : b ≠ a := fun z => by
      subst z
      obtain ⟨h1, q1⟩ := List.getElem?_eq_some_iff.mp e2
      obtain ⟨h2, q2⟩ := List.getElem?_eq_some_iff.mp ha
      exact hmn ((List.getElem_inj hs.nd).mp (q1.trans q2.symm))
    exact (hs.obj m q b e1 e2).mo mo (upd_ne nb)
end
section
variable {env : B.Env} {st : Store} {X : Ex → Store → Prop}
end
end B
namespace B
open PySem PySem.W PySem.Calls PyProof.Rows L2 LamX
section
variable {X : Cx} {pins : List (Addr × Obj)} {σ : L2.St} {H : Hp} {s : Shared}
theorem Inv.add {f : Addr} {u : HO} (I : Inv X pins σ H s) (hn : H f = none) (hge : X.s_0.heap.objs.size ≤ f) (hl : f ≠ X.env.locals) (hc : ∀ x c, X.env.cells.lookup x = some c → c ≠ f) (hp : ∀ p ∈ X.pn ++ pins, p.1 ≠ f) (new : ObjOk X.prog X.w (upd H f u) s.heap f u) : Inv X pins σ (upd H f u) s := by
  have ne : ∀ b o, H b = some o → b ≠ f := fun b o e => ne_of_none e hn
  refine ⟨I.ok, I.os, I.bare, ⟨I.base.keep, I.base.slot, fun b o e n hx => ?_, I.base.there, fun b xs e => ?_, fun b o x e => ?_, fun b ps e => ?_⟩, I.loc, I.cell, ?_, fun x c e => ?_, fun p hp' => ?_, fun b o e => ?_, I.len⟩
  · have : b ≠ f := fun z => absurd (Nat.lt_of_lt_of_le (Heap.lt_size (z ▸ e)) hge) (Nat.lt_irrefl _)
    rw [upd_ne this]; exact I.base.free b o e n hx
  · have q := I.base.tups b xs e
    rw [upd_ne (ne b _ q)]; exact q
  · have q := I.base.frzs b o x e
    rw [upd_ne (ne b _ q)]; exact q
  · obtain ⟨m, q⟩ := I.base.tbls b ps e
    exact ⟨m, by rw [upd_ne (ne b _ q)]; exact q⟩
  · rw [upd_ne (Ne.symm hl)]; exact I.free
  · rw [upd_ne (hc x c e)]; exact I.freeC x c e
  · obtain ⟨e, n, r⟩ := I.pin p hp'
    exact ⟨e, by rw [upd_ne (hp p hp')]; exact n, r⟩
  · by_cases hb : b = f
    · subst hb
      rw [upd_same] at e
      cases e
      exact new
    · rw [upd_ne hb] at e
      exact (I.hok b o e).stay (fun c v _ q => q) (fun c q => by rw [upd_ne (ne c _ q)]; exact q) fun c xs q => by rw [upd_ne (ne c _ q)]; exact q
abbrev LamO (X : Cx) (params : Arguments) (body : Expr) (scope : Scope) (pm : Value) (c' : Addr) (ctv : Value) : HO := .frz (kla_obj "<lambda>" (X.env.qual ++ "<lambda>") params body scope (cloFrom X.env.cells scope.names []) pm c' ctv) (.own 0)
end
end B
namespace B
open PySem PySem.W PySem.Calls PyProof.Rows L2 LamX
def Stood (X : Cx) (σ : L2.St) (s : Shared) (H : Hp) (fp : List Addr) : Prop := ∃ p, Inv X p σ H s ∧ ∀ b ∈ fp, FpOk X p H b
section
variable {X : Cx}
theorem Stood.back {σ σ' : L2.St} {s s' : Shared} {H H' : Hp} {fp : List Addr} {ce : PySem.Env} {scope : Scope} {pins : List (Addr × Obj)} (h : Stood X σ s H fp) (J : Inv (X.blk s H scope ce fp) pins σ' H' s') : ∃ p, Inv X p σ H' s' := by
  obtain ⟨p, I, f⟩ := h
  exact ⟨p, I.call' (ch := fp) J.os J.base J.hok J.bare fun b hb => ⟨(f b hb).2.2.2.1, (f b hb).2.1, (f b hb).2.2.2.2.1, (f b hb).2.2.2.2.2⟩⟩
end
end B
namespace B
open PySem PySem.W PySem.Calls PyProof.Rows L2 LamX
structure LamSpec where
  params : Arguments
  body : Expr
  scope : Scope
  fb : B.Env → M D
structure LamGood [nm : Nm] (X : Cx) (k : Nat) (sp : LamSpec) : Prop where
  L : LamS X.env.scope sp.scope
  hdef : defaultsOf sp.params X.env = ([], [])
  hbind : ∀ (q : Str) (cl : List (Str × Addr)) (pm cv ctv : Value), bindArgs (kla_fn "<lambda>" q sp.params sp.body sp.scope cl pm cv ctv) ⟨[], []⟩ = pure []
  hbody : ∀ gd : Gd, ∃ t : XK → TE, ∀ (A : Around) (outer : List PySem.Env) (s : Shared) (H : Hp) (E : XK) (f c' : Addr), Room k (A.deeper (lamEnv X sp.scope s.heap.objs.size f c')) → A.guards = some [] → @SE nm gd (lamCx X A outer s H E sp.scope f c') E sp.body (t E) sp.fb
def LamAtN (X : Cx) (w : Wd) (H : Hp) (sp : LamSpec) (f : Addr) : Prop := f ∉ w.bn ∧ ∃ (c' : Addr) (pm ctv : Value), c' ∉ w.bn ∧ H f = some (LamO X sp.params sp.body sp.scope pm c' ctv) ∧ H c' = some (CodeO c' (X.env.qual ++ "<lambda>"))
theorem codeO_nt {c : Addr} {q : Str} : NoT (CodeO c q) := fun _ z => by unfold CodeO at z; cases z
theorem LamAtN.sb {X : Cx} {w w' : Wd} {H H' : Hp} {sp : LamSpec} {f : Addr} (s : Sb w H w' H') (h : LamAtN X w H sp f) : LamAtN X w' H' sp f := by
  obtain ⟨n, c', pm, ctv, nc, e1, e2⟩ := h
  obtain ⟨a1, a2⟩ := s _ _ (fun _ z => by cases z) n e1
  obtain ⟨b1, b2⟩ := s _ _ codeO_nt nc e2
  exact ⟨a1, c', pm, ctv, b1, a2, b2⟩
structure EnvIn [Nm] (gd : Gd) (K : W.Frag) (env : List (Option D)) (σ : L2.St) : Prop where
  G : ∀ w H, gd.G w H → env.length = σ.length ∧ ∀ (i : Nat) (p : PyData), env[i]? = some (some (D.val p)) → ∃ v, σ[i]? = some (some v) ∧ Rp K w H p v
def vOnly (env : List (Option D)) : B.Env := env.map fun d => match d with
  | some (.val p) => some (.val p)
  | _ => none
theorem vOnly_get {env : B.Env} {i : Nat} {d : D} (h : (vOnly env)[i]? = some (some d)) : ∃ p, d = .val p ∧ env[i]? = some (some (.val p)) := by
  unfold vOnly at h
  rw [List.getElem?_map] at h
  obtain ⟨x, hx, e⟩ := Option.map_eq_some_iff.mp h
  split at e
  · cases e; exact ⟨_, rfl, hx⟩
  · cases e
section
variable [nm : Nm] [gd : Gd]
variable {X : Cx}
theorem EnvIn.rel {K : W.Frag} {w : Wd} {H : Hp} {env : B.Env} {σ : L2.St} {st : Store} (h : EnvIn gd K env σ) (s0 : RelSt K w H st) : RelEnv K w H (vOnly env) σ := by
  obtain ⟨h1, h2⟩ := h.G w H s0.inv
  refine ⟨by unfold vOnly; rw [List.length_map, h1], fun i d e => ?_⟩
  obtain ⟨p, rfl, e1⟩ := vOnly_get e
  exact h2 i p e1
end
end B
namespace B
open PySem PySem.W PySem.Calls PyProof.Rows L2 LamX
section
variable [nm : Nm] [gd : Gd]
variable {X : Cx}
end
end B
namespace B
open PySem PySem.W PySem.Calls PyProof.Rows L2 LamX
section
variable [nm : Nm]
variable {X : Cx}
def tMk (X : Cx) (sp : LamSpec) : TE := fun σ H Q => Tabs Nm.tb H ∧ ∀ (f c' : Addr) (pm ctv : Value) (H1 : Hp), ExtN H H1 → (∀ b o, H b = some o → ∃ o', H1 b = some o') → Tabs Nm.tb H1 → H f = none →
  H1 f = some (LamO X sp.params sp.body sp.scope pm c' ctv) → H1 c' = some (CodeO c' (X.env.qual ++ "<lambda>")) → Q (.ref f) H1
def tApps (X : Cx) (ia : Nat) : List LamSpec → TS → TS
  | [], t => t
  | sp :: r, t => tSeq (tDrop (tBM X.K "list" rAppend (tVar ia) (tCons (tMk X sp) tNil))) (tApps X ia r t)
inductive Apps (X : Cx) (ia k : Nat) (rest : List Stmt) : List Stmt → List LamSpec → Prop where
  | nil : Apps X ia k rest rest []
  | cons {s : Stmt} {ss : List Stmt} {sp : LamSpec} {sps : List LamSpec} : PS X s (tDrop (tBM X.K "list" rAppend (tVar ia) (tCons (tMk X sp) tNil))) → LamGood X k sp → Apps X ia k rest ss sps → Apps X ia k rest (s :: ss) (sp :: sps)
theorem Apps.ps {ia k : Nat} {rest ss : List Stmt} {sps : List LamSpec} {t : TS} (ht : PSs X rest t) (h : Apps X ia k rest ss sps) : PSs X ss (tApps X ia sps t) := by
  induction h with
  | nil => exact ht
  | cons h1 _ _ ih => exact pss_cons h1 ih
variable [gd : Gd]
theorem Tabs.hide {T : List (Addr × Str)} {H : Hp} {L : Addr} {xs : List V} (hL : H L = some (.lst xs)) (h : Tabs T H) : Tabs T (hide H L) := fun p hp => by
  obtain ⟨ps, a1, a2, a3⟩ := h p hp
  refine ⟨ps, by rw [hide_ne (fun z => by rw [z, hL] at a1; cases a1)]; exact a1, a2, fun pos cv hc => ?_⟩
  obtain ⟨c, e1, e2⟩ := a3 pos cv hc
  exact ⟨c, e1, by rw [hide_ne (fun z => by rw [z, hL] at e2; unfold CodeO at e2; cases e2)]; exact e2⟩
theorem RelSt.lam {K : W.Frag} {w : Wd} {H H1 : Hp} {st : Store} (s0 : RelSt K w H st) (eN : ExtN H H1) (eT : ∀ b o, H b = some o → ∃ o', H1 b = some o') (T1 : Tabs Nm.tb H1) : RelSt K w H1 st ∧ Ge w H w H1 := by
  have g1 : Ge w H w H1 := ⟨⟨[], by simp, rfl, fun _ h => by simp at h⟩, fun b o t _ e => eN b o e t, fun b o _ e => eT b o e, fun b od o e => eN b _ e (fun _ z => by cases z)⟩
  exact ⟨⟨s0.len, s0.nd, fun b hb => let ⟨o, e, x⟩ := s0.trk b hb; ⟨o, eN b o e x.nt, x⟩, s0.nde, fun n o b h1 h2 => (s0.obj n o b h1 h2).mono g1 (by
      obtain ⟨u, e, n1, _⟩ := s0.kind (List.mem_of_getElem? h2)
      rw [e]
      exact eN b u e n1), T1, Gd.sb g1.sb s0.inv⟩, g1⟩
theorem RelSt.code {K : W.Frag} {w : Wd} {H : Hp} {st : Store} (s0 : RelSt K w H st) {c : Addr} {q : Str} (h : H c = some (CodeO c q)) : c ∉ w.bn := fun z => by
  rcases List.mem_append.mp z with z | z
  · obtain ⟨u, e, _, n⟩ := s0.kind z
    rw [h] at e
    exact n q (Option.some.inj e).symm
  · obtain ⟨u, e, x⟩ := s0.trk c z
    rw [h] at e
    exact x.nc q (Option.some.inj e).symm
structure Bld (X : Cx) (w : Wd) (st : Store) (L : Addr) (lf : List (LamSpec × Addr)) (H : Hp) : Prop where
  s : RelSt X.K w (hide H L) st
  l : H L = some (.lst (lf.map fun p => V.ref p.2))
  f : ∀ p ∈ lf, LamAtN X w H p.1 p.2
theorem Bld.app {w : Wd} {st : Store} {L : Addr} {lf : List (LamSpec × Addr)} {H H1 : Hp} {sp : LamSpec} {f c' : Addr} {pm ctv : Value} (b : Bld X w st L lf H) (eN : ExtN H H1) (eT : ∀ b o, H b = some o → ∃ o', H1 b = some o') (T1 : Tabs Nm.tb H1) (hfn : H f = none)
    (hf : H1 f = some (LamO X sp.params sp.body sp.scope pm c' ctv)) (hco : H1 c' = some (CodeO c' (X.env.qual ++ "<lambda>"))) :
    H1 L = some (.lst (lf.map fun p => V.ref p.2)) ∧ Bld X w st L (lf ++ [(sp, f)]) (upd H1 L (.lst (lf.map (fun p => V.ref p.2) ++ [.ref f]))) ∧ Ge w (hide H L) w (hide (upd H1 L (.lst (lf.map (fun p => V.ref p.2) ++ [.ref f]))) L) := by
  have hl := eN _ _ b.l (fun _ z => by cases z)
  have hh : hide (upd H1 L (.lst (lf.map (fun p => V.ref p.2) ++ [.ref f]))) L = hide H1 L := by
    funext a
    by_cases ha : a = L
    · rw [ha, hide_same, hide_same]
    · rw [hide_ne ha, hide_ne ha, upd_ne ha]
  have eN' : ExtN (hide H L) (hide H1 L) := fun a o e n => by
    by_cases ha : a = L
    · rw [ha, hide_same] at e; cases e
    · rw [hide_ne ha] at e ⊢; exact eN a o e n
  have eT' : ∀ a o, hide H L a = some o → ∃ o', hide H1 L a = some o' := fun a o e => by
    by_cases ha : a = L
    · rw [ha, hide_same] at e; cases e
    · rw [hide_ne ha] at e ⊢; exact eT a o e
  obtain ⟨s1, g1⟩ := b.s.lam eN' eT' (Tabs.hide hl T1)
  rw [hh]
  have fL : f ≠ L := fun z => by rw [z, b.l] at hfn; cases hfn
  have cL : c' ≠ L := fun z => by rw [z, hl] at hco; unfold CodeO at hco; cases hco
  refine ⟨hl, ⟨by rw [hh]; exact s1, by rw [upd_same, List.map_append]; rfl, fun p hp => ?_⟩, g1⟩
  rcases List.mem_append.mp hp with hp | hp
  · obtain ⟨n, c0, pm0, ct0, nc, e1, e2⟩ := b.f p hp
    have n1 : p.2 ≠ L := fun z => by rw [z, b.l] at e1; cases e1
    have n2 : c0 ≠ L := fun z => by rw [z, b.l] at e2; unfold CodeO at e2; cases e2
    exact ⟨n, c0, pm0, ct0, nc, by rw [upd_ne n1]; exact eN _ _ e1 (fun _ z => by cases z), by rw [upd_ne n2]; exact eN _ _ e2 codeO_nt⟩
  · obtain rfl : p = (sp, f) := by simpa using hp
    refine ⟨b.s.notin (by rw [hide_ne fL]; exact hfn), c', pm, ctv, s1.code (by rw [hide_ne cL]; exact hco), by rw [upd_ne fL]; exact hf, by rw [upd_ne cL]; exact hco⟩
end
end B
namespace B
open PySem L2 PySem.Spec PyProof.Rows
section
variable [Nm] [Gd]
variable {K : W.Frag} {X : Cx} {E : XK}
end
section
variable {env : B.Env} {st : Store} {X : Ex → Store → Prop}
end
end B
namespace B
open PySem L2
section
variable {env : B.Env} {st : Store} {X : Ex → Store → Prop}
end
section
variable [Nm] [Gd]
end
section
variable {X : Ex → Store → Prop} {st : Store}
end
section
variable {X : Cx} {pins : List (Addr × Obj)} {σ : L2.St} {H : Hp} {s : Shared} {a : Addr} {xs : List (NestedKey × Addr × Value)}
end
section
variable [Nm] [Gd]
end
section
variable {X : Ex → Store → Prop} {st : Store}
end
end B
namespace MinD
open PySem PySem.Spec PySem.W PySem.SeqAt PyProof.Rows L2
section
variable {prog : Program} {w : World} {A : Around} {E : Value → Shared → Prop} {s : Shared}
end
end MinD
namespace GD
open PySem PySem.Spec PyProof.Rows L2 PySem.W GS
abbrev sc2 (kx vx t0 i0 t1 i1 : Expr) (f0 f1 : List Expr) (sc : Scope) (pos : Pos) : Expr := .DictComp kx vx [⟨t0, i0, f0, 0⟩, ⟨t1, i1, f1, 0⟩] sc pos
section
variable (kx vx t0 i0 t1 i1 : Expr) (f0 f1 : List Expr) (sc : Scope) (pos : Pos) (jt acc : Value) (en : PySem.Env)
theorem one_out : compTurn (sc2 kx vx t0 i0 t1 i1 f0 f1 sc pos) 0 jt acc en = (do
      standAt i0.pos
      match ← pyNext jt with
      | none => pure (.done .next)
      | some y =>
        letOwnedTupleGo t0 jt y
        assign t0 en y
        let mut z := true
        for q in f0 do
          if z then z ← isTrue q en (eval q en)
        if z then
          let u ← eval i1 en
          standAt i1.pos
          let u ← foldedSetIterable i1 en u
          let _ ← runOwn (.compStart (sc2 kx vx t0 i0 t1 i1 f0 f1 sc pos) 1 (← holding [u] (pyIter u)) acc en) en
        again (.compLoop (sc2 kx vx t0 i0 t1 i1 f0 f1 sc pos) 0 jt acc en)) := by rfl
theorem one_in (D : Addr) : compTurn (sc2 kx vx t0 i0 t1 i1 f0 f1 sc pos) 1 jt (.ref D) en = (do
      standAt i1.pos
      match ← pyNext jt with
      | none => pure (.done .next)
      | some y =>
        letOwnedTupleGo t1 jt y
        assign t1 en y
        let mut z := true
        for q in f1 do
          if z then z ← isTrue q en (eval q en)
        if z then
          (do
            let kv ← eval kx en
            let vv ← holding [kv] (eval vx en)
            standAt { kx.pos with endLine := vx.pos.endLine, endCol := vx.pos.endCol }
            holding [kv, vv] (dictSet D kv vv))
        again (.compLoop (sc2 kx vx t0 i0 t1 i1 f0 f1 sc pos) 1 jt (.ref D) en)) := by rfl
end
section
variable {P : Program} {w : World} {A : Around} {R : Result → Shared → Prop} {s : Shared} {kx vx t0 i0 t1 i1 : Expr} {f0 f1 : List Expr} {sc : Scope} {pos : Pos} {jt acc : Value} {en : PySem.Env}
theorem loop_out (hs : ∀ x, foldedSetIterable i1 en x = pure x) (I : Nat → Shared → Prop)
    (turn : ∀ n s, I n s → wpAny (model P w) A (pyNext jt) (fun r s1 => match r with
      | none => R (.ok .next) s1
      | some v => wpAny (model P w) A (letOwnedTupleGo t0 jt v) (fun _ s2 => wpAny (model P w) A (assign t0 en v) (fun _ s3 =>
          wpAny (model P w) A (tst f0 en) (fun z s4 => if z = true then wpAny (model P w) A (eval i1 en) (fun x s5 => wpAny (model P w) A (pyIter x) (fun kt s6 =>
              codeAny (model P w) A (.compStart (sc2 kx vx t0 i0 t1 i1 f0 f1 sc pos) 1 kt acc en) (fun r s' => match r with
                | .ok _ => ∃ m, m < n ∧ I m s'
                | .error _ => False) s6) (notedBy (model P w) A en fun e s' => R (.error e) s') s5) (notedBy (model P w) A en fun e s' => R (.error e) s') s4
            else ∃ m, m < n ∧ I m s4) (notedBy (model P w) A en fun e s' => R (.error e) s') s3) (notedBy (model P w) A en fun e s' => R (.error e) s') s2) (notedBy (model P w) A en fun e s' => R (.error e) s') s1) (notedBy (model P w) A en fun e s' => R (.error e) s') s)
    (n : Nat) (s : Shared) (h : I n s) : codeAny (model P w) A (.compLoop (sc2 kx vx t0 i0 t1 i1 f0 f1 sc pos) 0 jt acc en) R s := by
  refine codeAny_loop rfl I ?_ n h
  intro n s hI
  show wpAny _ A ((compTurn (sc2 kx vx t0 i0 t1 i1 f0 f1 sc pos) 0 jt acc en).onRaise _) _ _ s
  refine wpAny_noted ?_
  rw [one_out]
  refine wpAny_bind (wpAny_standAt (wpAny_bind (wpAny_mono (turn n s hI) ?_ fun _ _ z => z)))
  intro r s1 h1
  rcases r with _ | v
  · exact wpAny_pure h1
  refine wpAny_bind (wpAny_mono h1 (fun _ s2 h2 => wpAny_bind (wpAny_mono h2 (fun _ s3 h3 => wpAny_bind (wpAny_mono h3 ?_ fun _ _ z => z)) fun _ _ z => z)) fun _ _ z => z)
  intro z s4 h4
  cases z
  · exact wpAny_pure ⟨rfl, h4⟩
  refine wpAny_bind (wpAny_mono h4 (fun x s5 h5 => wpAny_bind (wpAny_standAt (wpAny_bind (wpAny_of_eq (hs x) (wpAny_bind (wpAny_holding (wpAny_mono h5 ?_ fun _ _ z => z))))))) fun _ _ z => z)
  intro kt s6 h6
  refine wpAny_bind (wpAny_runOwn ?_)
  rw [Around.mark_none]
  refine codeAny_mono h6 ?_
  intro r s' hr
  cases r with
  | error e => exact hr.elim
  | ok f =>
    first
      | exact wpAny_pure ⟨rfl, hr⟩
      | exact wpAny_bind (wpAny_pure (wpAny_pure ⟨rfl, hr⟩))
theorem loop_in {D : Addr} (I : Nat → Shared → Prop)
    (turn : ∀ n s, I n s → wpAny (model P w) A (pyNext jt) (fun r s1 => match r with
      | none => R (.ok .next) s1
      | some v => wpAny (model P w) A (letOwnedTupleGo t1 jt v) (fun _ s2 => wpAny (model P w) A (assign t1 en v) (fun _ s3 =>
          wpAny (model P w) A (tst f1 en) (fun z s4 => if z = true then wpAny (model P w) A (eval kx en) (fun kv s5 => wpAny (model P w) A (eval vx en) (fun vv s6 => wpAny (model P w) A (dictSet D kv vv) (fun _ s7 =>
              ∃ m, m < n ∧ I m s7) (notedBy (model P w) A en fun e s' => R (.error e) s') s6) (notedBy (model P w) A en fun e s' => R (.error e) s') s5) (notedBy (model P w) A en fun e s' => R (.error e) s') s4
            else ∃ m, m < n ∧ I m s4) (notedBy (model P w) A en fun e s' => R (.error e) s') s3) (notedBy (model P w) A en fun e s' => R (.error e) s') s2) (notedBy (model P w) A en fun e s' => R (.error e) s') s1) (notedBy (model P w) A en fun e s' => R (.error e) s') s)
    (n : Nat) (s : Shared) (h : I n s) : codeAny (model P w) A (.compLoop (sc2 kx vx t0 i0 t1 i1 f0 f1 sc pos) 1 jt (.ref D) en) R s := by
  refine codeAny_loop rfl I ?_ n h
  intro n s hI
  show wpAny _ A ((compTurn (sc2 kx vx t0 i0 t1 i1 f0 f1 sc pos) 1 jt (.ref D) en).onRaise _) _ _ s
  refine wpAny_noted ?_
  rw [one_in]
  refine wpAny_bind (wpAny_standAt (wpAny_bind (wpAny_mono (turn n s hI) ?_ fun _ _ z => z)))
  intro r s1 h1
  rcases r with _ | v
  · exact wpAny_pure h1
  refine wpAny_bind (wpAny_mono h1 (fun _ s2 h2 => wpAny_bind (wpAny_mono h2 (fun _ s3 h3 => wpAny_bind (wpAny_mono h3 ?_ fun _ _ z => z)) fun _ _ z => z)) fun _ _ z => z)
  intro z s4 h4
  cases z
  · exact wpAny_pure ⟨rfl, h4⟩
  exact wpAny_bind (wpAny_bind (wpAny_mono h4 (fun kv s5 h5 => wpAny_bind (wpAny_holding (wpAny_mono h5 (fun vv s6 h6 => wpAny_bind (wpAny_standAt (wpAny_holding (wpAny_mono h6 (fun _ s7 h7 => wpAny_pure ⟨rfl, h7⟩) fun _ _ z => z)))) fun _ _ z => z))) fun _ _ z => z))
theorem start_in (h0 : codeAny (model P w) A (.compLoop (sc2 kx vx t0 i0 t1 i1 f0 f1 sc pos) 1 jt acc en) R s)
    (h1 : wpAny (model P w) A (pyIter jt) (fun kt s' => codeAny (model P w) A (.compLoop (sc2 kx vx t0 i0 t1 i1 f0 f1 sc pos) 1 kt acc en) R s') (notedBy (model P w) A en fun x s' => R (.error x) s') s) :
    codeAny (model P w) A (.compStart (sc2 kx vx t0 i0 t1 i1 f0 f1 sc pos) 1 jt acc en) R s := by
  refine codeAny_of_tree ?_
  show wpAny _ _ ((compStart (sc2 kx vx t0 i0 t1 i1 f0 f1 sc pos) 1 jt acc en).onRaise _) _ _ s
  refine wpAny_notedAt ?_
  unfold compStart
  show wpAny _ _ (ask >>= _) _ _ s
  refine wpAny_bind (wpAny_askSetting (wpAny_ite ?_))
  split
  · first
      | exact wpAny_pure ⟨rfl, h0⟩
      | exact wpAny_bind (wpAny_pure (wpAny_pure ⟨rfl, h0⟩))
  · refine wpAny_bind (wpAny_rule ?_)
    first
      | exact wpAny_bind (wpAny_standAt (wpAny_bind (wpAny_mono h1 (fun kt s' k => wpAny_pure ⟨rfl, k⟩) fun _ _ z => z)))
      | (show wpAny _ _ (standAt i1.pos >>= _) _ _ s; exact wpAny_bind (wpAny_standAt (wpAny_bind (wpAny_mono h1 (fun kt s' k => wpAny_pure ⟨rfl, k⟩) fun _ _ z => z))))
end
section
variable {X : Cx} {pins : List (Addr × Obj)} {σ : L2.St} {H : Hp} {s : Shared} {E : Value → Shared → Prop} {D : Addr}
theorem raw_empty {P : Program} {w : World} {H : Hp} {h : Heap} (hb : sysModules < D) (hg : h.get? D = some { cls := .type "dict", data := .dict #[] }) : ObjOk P w H h D (B.rawN w D []) :=
  ⟨⟨beq_eq_false_iff_ne.mpr (Ne.symm (Nat.ne_of_lt hb)), Nat.zero_le _, List.nodup_nil, _, #[], 0, hg, ⟨rfl, rfl, rfl⟩, rfl, rfl⟩, ⟨_, hg⟩, fun h1' h2' ⟨z1, z2, z3, z4, z5, z6, z7, z8⟩ hst => ⟨z1, z2, z3, z4, z5, z6, hst _ z7, z8⟩⟩
theorem n_dictSet {xs : List (NestedKey × Addr × Value)} {b : Addr} {k : NestedKey} {v : Value} {Q : Unit → Shared → Prop} (I : Inv X pins σ H s) (hu : X.A.units + 9 < cLine) (e : H D = some (B.rawN X.w D xs)) (hk : B.KeysN X.K H xs) (dp : Dp X.K H (.ref b) k.data) (hd : k.depth ≤ 8) (hl : xs.length < sizeLine)
    (h : ∀ s', Inv X pins σ (upd H D (B.rawN X.w D (storedH xs k b v))) s' → Q () s') : wpAny (model X.prog X.w) X.A (dictSet D (.ref b) v) Q E s := by
  obtain ⟨h1, h2, dd⟩ := B.dn_rd I e hk
  refine wpAny_dictSet_heap (knd := nestedKind X.prog X.w) (hsz := h2) (by show X.A.units + 8 < cLine; omega) ⟨B.nest_of I dp, hd⟩ dd fun h' dd' hs' => h _ ?_
  obtain ⟨q, es, ep, hq, hx, h3, h4, _, h5⟩ := dd'
  refine d_write I (by rw [e]; exact True.intro) hs' ⟨q, hq⟩ ⟨⟨h1, by have := B.storedH_len (xs := xs) (k := k) (b := b) (u := v); omega, h5, q, es, ep, hq, hx, h3, h4⟩, ⟨q, hq⟩, fun h1' h2' ⟨z1, z2, z3, z4, z5, z6, z7, z8⟩ hst => ⟨z1, z2, z3, z4, z5, z6, hst _ z7, z8⟩⟩
end
def tInD (wl : World) (K : PySem.W.Frag) (tt : TT) (tk tv : TE) : B.TN := fun p σ H Nx => tt σ H fun b H1 => if b = true then tk σ H1 fun y H2 => tv σ H2 fun z H3 => ∃ xs b k, y = V.ref b ∧ H3 p = some (B.rawN wl p xs) ∧ B.KeysN K H3 xs ∧ Dp K H3 (.ref b) k.data ∧ k.depth ≤ 8 ∧ xs.length < sizeLine ∧ ∀ u, RelV z u → Nx (upd H3 p (B.rawN wl p (storedH xs k b u))) else Nx H1
def tInD2 (wl : World) (K : PySem.W.Frag) (tt : TT) (wi1 : TI) (g1 : TG) (tt1 : TT) (tk tv : TE) (vs1 : List Nat) : B.TN := fun p σ H Nx => tt σ H fun b H1 => if b = true then wi1 σ H1 fun J H2 => B.LcLoop J g1 (tInD wl K tt1 tk tv) p vs1 σ H2 Nx else Nx H1
def tDcc (wl : World) (K : PySem.W.Frag) (wi : TI) (g : TG) (tt : TT) (wi1 : TI) (g1 : TG) (tt1 : TT) (tk tv : TE) (vs vs1 : List Nat) : TE := fun σ H Q => wi σ H fun J H1 => ∀ D, H1 D = none → B.LcLoop J g (tInD2 wl K tt wi1 g1 tt1 tk tv vs1) D vs σ (upd H1 D (B.rawN wl D [])) fun H' => Q (.ref D) H'
section
variable {X : Cx} {kx vx tg iter tg1 iter1 : Expr} {ifs ifs1 : List Expr} {scope : Scope} {own : List (Str × Nat)} {vs1 : List Nat} {pos : Pos} {wi wi1 : TI} {g g1 : TG} {tt tt1 : TT} {tk tv : TE}
theorem pe_dcc (hu : X.A.units + 80 < cLine) (hc : X.calm = true) (hN : X.N.Nodup) (hi : PI X tg iter wi) (ok : BlkOk X.N X.env.scope scope own) (hv : ∀ i ∈ vs1, i ∈ own.map (·.2))
    (b1 : ∀ (s : Shared) (H : Hp) (C : Addr) (cl : List (Str × Addr)) (fp : List Addr), (PG (X.blk s H scope (compEnvC scope cl C X.env) fp) tg g ∧ PTs (X.blk s H scope (compEnvC scope cl C X.env) fp) ifs tt) ∧ PI (X.blk s H scope (compEnvC scope cl C X.env) fp) tg1 iter1 wi1)
    (b2 : ∀ (s : Shared) (H : Hp) (C : Addr) (cl : List (Str × Addr)) (fp : List Addr), (PG (X.blk s H scope (compEnvC scope cl C X.env) fp) tg1 g1 ∧ PTs (X.blk s H scope (compEnvC scope cl C X.env) fp) ifs1 tt1) ∧ PE (X.blk s H scope (compEnvC scope cl C X.env) fp) kx tk ∧ PE (X.blk s H scope (compEnvC scope cl C X.env) fp) vx tv)
    (hs : ∀ x, foldedSetIterable iter X.env x = pure x) (hs1 : ∀ env x, foldedSetIterable iter1 env x = pure x) :
    PE X (sc2 kx vx tg iter tg1 iter1 ifs ifs1 scope pos) (tDcc X.w X.K wi g tt wi1 g1 tt1 tk tv (own.map (·.2)) vs1) := by
  refine ⟨fun pins s σ H Q I h => ?_⟩
  have free : ∀ y ∈ scope.names, y.2 = .free → ∃ c, X.env.cells.lookup y.1 = some c := fun y hy e => (ok.free y hy e).elim (fun k => I.ok.has _ (.inl k)) fun k => I.ok.has _ (.inr k)
  show wpAny _ X.A (comprehension (sc2 kx vx tg iter tg1 iter1 ifs ifs1 scope pos) scope X.env (firstIterPos [⟨tg, iter, ifs, 0⟩, ⟨tg1, iter1, ifs1, 0⟩] pos) newDict false (eval iter X.env) none) _ _ s
  refine wpAny_comprehension_free rfl hs (closure_ok free) ok.kind (fun y hy e => by rw [ok.uniq y hy, e]) (thn (hi.run pins s σ H _ I h) fun xv s1 hx => thn hx ?_)
  rintro itv s2 ⟨it, fp, tn, J, H2, rfl, I2, T, st2, f2, q⟩
  refine wpAny_newObj_type (newEnv_comp ?_)
  obtain ⟨D, hD⟩ : ∃ D, s2.heap.objs.size = D := ⟨_, rfl⟩
  rw [hD]
  have q := q D (I2.hok.fresh (Nat.le_of_eq hD))
  obtain ⟨ob, hob⟩ : ∃ ob : Obj, ({ cls := .type "dict", data := .dict #[] } : Obj) = ob := ⟨_, rfl⟩
  rw [hob]
  obtain ⟨s3, hs3⟩ : ∃ s3 : Shared, ({ s2 with heap := s2.heap.push ob } : Shared) = s3 := ⟨_, rfl⟩
  have at3 : s3.heap.get? D = some ob := by rw [← hs3, ← hD, ← hob]; exact Heap.get?_push_size _ rfl
  have up3 : ∀ {b o}, s2.heap.get? b = some o → s3.heap.get? b = some o := fun e => by rw [← hs3]; exact Heap.get?_push_of_some _ e
  have I3 : Inv X pins σ (upd H2 D (B.rawN X.w D [])) s3 := by
    have z := raw_empty (P := X.prog) (w := X.w) (H := upd H2 D (B.rawN X.w D [])) (D := D) (by rw [← hD]; exact I2.big) (by rw [at3, ← hob])
    rw [← hs3] at z ⊢
    exact I2.laid (t' := s2.toks) (fun b o e => Heap.get?_push_of_some _ e) (Nat.le_of_eq hD) z
  have size : ∀ b ∈ fp, b < s2.heap.objs.size := fun b hb => by
    obtain ⟨o, e, _⟩ := T.obj _ _ st2 b hb
    exact Heap.lt_size e
  have size3 : s2.heap.objs.size < s3.heap.objs.size := by rw [← hs3]; show _ < (s2.heap.push ob).objs.size; rw [Heap.size_push]; exact Nat.lt_succ_self _
  have f3 : ∀ b ∈ fp, FpOk X pins (upd H2 D (B.rawN X.w D [])) b ∧ b < s3.heap.objs.size := fun b hb => by
    refine ⟨⟨?_, (f2 b hb).2⟩, Nat.lt_trans (size b hb) size3⟩
    rw [upd_ne (by rw [← hD]; exact Nat.ne_of_lt (size b hb))]
    exact (f2 b hb).1
  obtain ⟨cl, hcl⟩ : ∃ cl, cellsFrom (s3.heap.objs.size + 1) scope.names (cloFrom X.env.cells scope.names []) = cl := ⟨_, rfl⟩
  have I4 := block_start I3 ok hN f3
  have c1 := b1 s3 (upd H2 D (B.rawN X.w D [])) s3.heap.objs.size cl fp
  have c2 := b2 s3 (upd H2 D (B.rawN X.w D [])) s3.heap.objs.size cl fp
  have e3 : s2.heap.push ob = s3.heap := by rw [← hs3]
  simp only [hcl] at I4
  rw [e3, hcl]
  obtain ⟨ce, hce⟩ : ∃ ce, compEnvC scope cl s3.heap.objs.size X.env = ce := ⟨_, rfl⟩
  have cL : ce.locals = s3.heap.objs.size := by rw [← hce]; rfl
  have nfp : ∀ b ∈ fp, (upd H2 D (B.rawN X.w D [])) b = none := fun b hb => (f3 b hb).1.1
  obtain ⟨H3, hH3⟩ : ∃ H3, upd H2 D (B.rawN X.w D []) = H3 := ⟨_, rfl⟩
  rw [hH3] at I3 q nfp
  rw [hH3, hce] at c1 c2 I4
  simp only [hH3] at f3
  obtain ⟨s4, hs4⟩ : ∃ s4 : Shared, ({ s3 with heap := pushCells (s3.heap.push { cls := .type "dict", data := .dict #[] }) scope.names } : Shared) = s4 := ⟨_, rfl⟩
  rw [hs4] at I4
  have st4 : tn 0 s4.heap := T.keep _ _ _ st2 fun b _ o e => by rw [← hs4]; exact pushCells_keeps _ _ _ _ (Heap.get?_push_of_some _ (up3 e))
  obtain ⟨RR, hRR⟩ : ∃ RR, compPost (model X.prog X.w) X.A X.xe none (fun v s' => ∃ x H', Inv X pins σ H' s' ∧ RelV x v ∧ Q x H') (.ref D) s3.heap.objs.size = RR := ⟨_, rfl⟩
  have goal : codeAny (model X.prog X.w) X.A (.compLoop (sc2 kx vx tg iter tg1 iter1 ifs ifs1 scope pos) 0 (.ref it) (.ref D) ce) RR s4 := by
    refine turns (Y := X.blk s3 H3 scope ce fp) (pins := []) (E := notedBy (model X.prog X.w) X.A ce fun e s' => RR (.error e) s') (Body := fun s3 K => wpAny (model X.prog X.w) X.A (tst ifs ce) (fun z s4 => if z = true then wpAny (model X.prog X.w) X.A (eval iter1 ce) (fun x s5 => wpAny (model X.prog X.w) X.A (pyIter x) (fun kt s6 => codeAny (model X.prog X.w) X.A (.compStart (sc2 kx vx tg iter tg1 iter1 ifs ifs1 scope pos) 1 kt (.ref D) ce) (fun r s' => match r with
        | .ok _ => K s'
        | .error _ => False) s6) (notedBy (model X.prog X.w) X.A ce fun e s' => RR (.error e) s') s5) (notedBy (model X.prog X.w) X.A ce fun e s' => RR (.error e) s') s4 else K s4) (notedBy (model X.prog X.w) X.A ce fun e s' => RR (.error e) s') s3) T hc rfl c1.1.1 q I4 st4
      (fun b hb => ⟨nfp b hb, (I4.ok.exf b hb).1, I4.ok.exfs b hb, .inl hb, fun x c e => (I4.ok.exf b hb).2 x c e, fun p hp => absurd (show p ∈ ([] : List (Addr × Obj)) ++ [] from hp) (by simp)⟩)
      (Z := fun s => RR (.ok .next) s) ?_ ?_ (fun I turn n s h => loop_out (hs1 ce) I turn n s h)
    · intro pins' σ5 H5 s5 Nx K I5 t5 k5
      refine thnF (c1.1.2.run pins' s5 σ5 H5 _ I5 t5) ?_
      rintro b s6 ⟨H6, I6, q6⟩
      cases b with
      | false => exact k5 σ5 H6 s6 I6 rfl (fun j v e => (wipe_some e).1) q6
      | true =>
        refine thnF (c1.2.run pins' s6 σ5 H6 _ I6 q6) fun xv s7 hx => thnF hx ?_
        rintro kv s8 ⟨kt, fp1, tn1, J1, H8, rfl, I8, T1, st8, f8, q8⟩
        have inner : codeAny (model X.prog X.w) X.A (.compLoop (sc2 kx vx tg iter tg1 iter1 ifs ifs1 scope pos) 1 (.ref kt) (.ref D) ce) (fun r s' => match r with
            | .ok _ => K s'
            | .error _ => False) s8 := by
          refine turns (Y := X.blk s3 H3 scope ce fp) (pins := pins') (E := notedBy (model X.prog X.w) X.A ce fun _ _ => False) (Body := fun s3 K => wpAny (model X.prog X.w) X.A (tst ifs1 ce) (fun z s4 => if z = true then wpAny (model X.prog X.w) X.A (eval kx ce) (fun kv s5 => wpAny (model X.prog X.w) X.A (eval vx ce) (fun vv s6 => wpAny (model X.prog X.w) X.A (dictSet D kv vv) (fun _ s7 => K s7) (notedBy (model X.prog X.w) X.A ce fun _ _ => False) s6) (notedBy (model X.prog X.w) X.A ce fun _ _ => False) s5) (notedBy (model X.prog X.w) X.A ce fun _ _ => False) s4 else K s4) (notedBy (model X.prog X.w) X.A ce fun _ _ => False) s3) T1 hc rfl c2.1.1 q8 (I8.weak (wipe_length _ _) fun j v e => (wipe_some e).1) st8 f8 (Z := fun s => K s) ?_ ?_ (fun I turn n s h => loop_in I turn n s h)
          · intro pins2 σ9 H9 s9 Nx1 K1 I9 t9 k9
            refine thnF (c2.1.2.run pins2 s9 σ9 H9 _ I9 t9) ?_
            rintro b s10 ⟨H10, I10, q10⟩
            cases b with
            | false => exact k9 σ9 H10 s10 I10 rfl (fun j v e => (wipe_some e).1) q10
            | true =>
              refine thnF (c2.2.1.run pins2 s10 σ9 H10 _ I10 q10) ?_
              rintro ku s11 ⟨y, H11, I11, r11, q11⟩
              refine thnF (c2.2.2.run pins2 s11 σ9 H11 _ I11 q11) ?_
              rintro u s12 ⟨z, H12, I12, r12, xs, b, k, rfl, hDv, hk, dp, hd, hl, nx⟩
              obtain rfl : ku = Value.ref b := r11
              exact n_dictSet (X := X.blk s3 H3 scope ce fp) I12 (show X.A.units + 9 < cLine by omega) hDv hk dp hd hl fun s13 I13 => k9 σ9 _ s13 I13 rfl (fun j v e => (wipe_some e).1) (nx u r12)
          · intro H9 s9 I9 nx
            exact k5 _ H9 s9 I9 (wipe_length σ5 vs1) (fun j v e => by
              obtain ⟨e1, e2⟩ := wipe_some e
              rw [wipe_out fun z => e2 (hv j z)]
              exact e1) nx
        exact start_in inner (T1.self X.A 0 _ _ _ st8 inner)
    · intro H5 s5 I5 q5
      have I6 : Inv X pins σ H5 s5 := I3.call' (ch := fp) I5.os I5.base I5.hok I5.bare fun b hb => ⟨(f3 b hb).1.2.2.2.1, (f3 b hb).1.2.1, (f3 b hb).1.2.2.2.2.1, (f3 b hb).1.2.2.2.2.2⟩
      have nC : H5 s3.heap.objs.size = none := by rw [← cL]; exact I5.free
      obtain ⟨m, hn, _⟩ := I5.loc
      have hn : s5.heap.Ns ce.locals m := hn
      rw [cL] at hn
      obtain ⟨f0, f1, f2, f3, f4, f5⟩ := I3.fpOk (Nat.le_refl _) nC
      rw [← hRR]
      refine ⟨m, hn, fun h'' sb => ⟨.ref D, H5, ?_, rfl, q5⟩⟩
      exact I6.turned (t' := s5.toks) (fun b o hb e => (sb.2 b hb).trans e) nC f1 f3 f4 f5
  subst hRR; subst hs4; subst hce; subst hs3; subst hob
  exact codeAny_compStart_dict goal (T.self X.A 0 _ _ _ st4 goal)
end
end GD
namespace B
open PySem L2
variable [Nm] [Gd]
theorem raw_acc {wl : World} {p : Addr} {xs : List (NestedKey × Addr × Value)} : Acc p (rawN wl p xs) := ⟨(fun _ z => by unfold rawN at z; cases z), fun q => rawN_code q⟩
def PostKN (K : W.Frag) (p : Addr) (w : Wd) (H : Hp) (r : Res (List (NestedKey × PyData))) (Nx : Hp → Prop) : Prop :=
  match r with
  | .ok acc st' => ∀ w' H' vs, Ge w H w' H' → RelSt K w' H' st' → H' p = none → RpN K w' H' acc vs → Nx (upd H' p (rawN Nm.wl p vs))
  | _ => False
theorem PostKN.mono {K : W.Frag} {p : Addr} {w w' : Wd} {H H' : Hp} {r : Res (List (NestedKey × PyData))} {Nx : Hp → Prop} (g : Ge w H w' H') (h : PostKN K p w H r Nx) : PostKN K p w' H' r Nx := by
  cases r with
  | ok acc st => exact fun w2 H2 vs g2 => h w2 H2 vs (g.trans g2)
  | exc e st => exact h
  | bad => exact h
def RfNKN (K : W.Frag) (t : TN) (f : Env → List (NestedKey × PyData) → M (List (NestedKey × PyData))) : Prop :=
  ∀ p w σ H env st acc vs Nx, RelSt K w H st → RelEnv K w H env σ → H p = none → RpN K w H acc vs → PostKN K p w H (f env acc st) Nx → t p σ (upd H p (rawN Nm.wl p vs)) Nx
theorem Rf.stepKN {α β : Type} {K : W.Frag} {R : Wd → Hp → α → β → Prop} {t : St → Hp → (β → Hp → Prop) → Prop} {f : Env → M α} (h : Rf K E0 R t f)
    {p : Addr} {w : Wd} {σ : St} {H : Hp} {env : Env} {st : Store} {vs : List (NestedKey × Addr × Value)} {g : α → M (List (NestedKey × PyData))} {Nx : Hp → Prop} {U : β → Hp → Prop} (hs : RelSt K w H st) (he : RelEnv K w H env σ) (hn : H p = none) (hp : PostKN K p w H (bd (noX (f env)) g st) Nx)
    (k : ∀ w1 H1 w2 st' a b, RelSt K w1 H1 st' → R w1 H1 a b → Mo w1 H1 w2 (hide H1 p) → w2.rho = w1.rho → RelSt K w2 (hide H1 p) st' → Ge w H w2 (hide H1 p) → H1 p = some (rawN Nm.wl p vs) → PostKN K p w2 (hide H1 p) (g a st') Nx → U b H1) : t σ (upd H p (rawN Nm.wl p vs)) U := by
  refine h (w.prot p) σ _ env st _ (hs.prot hn raw_acc) (he.mo (Mo.prot hs hn)) ?_
  cases hf : f env st with
  | ok a st' =>
    rw [bd_ok (noX_ok hf)] at hp
    intro w1 H1 b g1 s1 q1
    obtain ⟨w2, mo, s2, g2, hD, er⟩ := unprotU hs hn g1 s1 (o2 := rawN_code)
    exact k w1 H1 w2 st' a b s1 q1 mo er s2 g2 hD (hp.mono g2)
  | exc e st' => rw [bd_bad (noX_exc hf)] at hp; exact hp.elim
  | bad => rw [bd_bad (noX_bad hf)] at hp; exact hp.elim
def dnIn (ft : Env → M Bool) (fk fv : Env → M D) (env : Env) (acc : List (NestedKey × PyData)) : M (List (NestedKey × PyData)) :=
  bd (noX (ft env)) fun b => if b = true then bd (noX (fk env)) fun d => bd (noX (fv env)) fun y => (match keyN d, y with
    | some k, .val y => if acc.length < sizeLine then rt (putN acc k y) else bad
    | _, _ => bad) else rt acc
theorem rfn_inKN {K : W.Frag} {tt : TT} {tk tv : TE} {ft : Env → M Bool} {fk fv : Env → M D} (ht : Rf K E0 RB tt ft) (hk : Rf K E0 (RE K) tk fk) (hv : Rf K E0 (RE K) tv fv) : RfNKN K (GD.tInD Nm.wl K tt tk tv) (dnIn ft fk fv) := by
  intro p w σ H env st acc vs Nx s0 e0 n0 q0 hp
  refine ht.stepKN s0 e0 n0 hp fun w1 H1 w2 st1 b b' s1 r1 mo er s2 g2 hD hp => ?_
  cases r1
  have hh : upd (hide H1 p) p (rawN Nm.wl p vs) = H1 := by rw [upd_hide, upd_self hD]
  cases b with
  | false =>
    rw [if_neg Bool.false_ne_true] at hp ⊢
    have := hp w2 _ vs (Ge.refl _ _) s2 hide_same (q0.mono g2)
    rw [hh] at this
    exact this
  | true =>
    rw [if_pos rfl] at hp ⊢
    rw [← hh]
    refine hk.stepKN s2 (e0.mono g2) hide_same hp fun w3 H3 w4 st3 d v s3 r3 mo3 er3 s4 g4 hD3 hp => ?_
    have hh3 : upd (hide H3 p) p (rawN Nm.wl p vs) = H3 := by rw [upd_hide, upd_self hD3]
    rw [← hh3]
    refine hv.stepKN s4 ((e0.mono g2).mono g4) hide_same hp fun w5 H5 w6 st5 y z s5 r5 mo5 er5 s6 g6 hD5 hp => ?_
    cases ek : keyN d with
    | none => simp only [ek] at hp; exact hp.elim
    | some k =>
      cases y with
      | val y =>
        simp only [ek] at hp
        split at hp
        · rename_i hl
          obtain ⟨b, eb, rb, hdp⟩ := keyN_rel r3 ek
          have q6 := ((q0.mono g2).mono g4).mono g6
          have rb4 := Rp.mo mo3 rb
          have rb6 : Rp K w6 (hide H5 p) k.data (.ref b) := rb4.mono g6
          have hh5 : upd (hide H5 p) p (rawN Nm.wl p vs) = H5 := by rw [upd_hide, upd_self hD5]
          refine ⟨vs, b, k, eb, hD5, ?_, ?_, hdp, by rw [← q0.length]; exact hl, fun u ru => ?_⟩
          · have := (q6.mo (Mo.prot (o := rawN Nm.wl p vs) s6 hide_same)).keys
            rw [hh5] at this
            exact this
          · have := (rb6.mo (Mo.prot (o := rawN Nm.wl p vs) s6 hide_same)).dp
            rw [hh5] at this
            exact this
          · have := hp w6 _ _ (Ge.refl _ _) s6 hide_same (q6.put rb6 hdp (Rp.mo mo5 r5) ru)
            rw [upd_hide] at this
            exact this
        · exact hp.elim
      | _ => simp only [ek] at hp; exact hp.elim
def dnIn2 (m : Nat) (vs1 : List Nat) (ft : Env → M Bool) (fi1 : Env → M Src) (g1 : D → Env → M Env) (ft1 : Env → M Bool) (fk fv : Env → M D) (dl : (D → Env → M Env) → (Env → List (NestedKey × PyData) → M (List (NestedKey × PyData))) → Env → Src → List (NestedKey × PyData) → M (List (NestedKey × PyData))) (env : Env) (acc : List (NestedKey × PyData)) : M (List (NestedKey × PyData)) :=
  bd (noX (ft env)) fun b => if b = true then bd (noX (fi1 env)) fun s => dl g1 (dnIn ft1 fk fv) (kill vs1 env) s acc else rt acc
def dnF (g : D → Env → M Env) (inner : Env → List (NestedKey × PyData) → M (List (NestedKey × PyData))) (env : Env) : List PyData → List (NestedKey × PyData) → M (List (NestedKey × PyData))
  | [], acc => rt acc
  | x :: r, acc => bd (noX (g (.val x) env)) fun env' => bd (inner env' acc) fun acc' => dnF g inner env r acc'
def dnO (g : D → Env → M Env) (inner : Env → List (NestedKey × PyData) → M (List (NestedKey × PyData))) (n : Nat) (env : Env) : Nat → Nat → List (NestedKey × PyData) → M (List (NestedKey × PyData))
  | 0, _, _ => bad
  | m + 1, i, acc => fun st => match st[n]? with
    | some (.lst xs) => match xs[i]? with
      | none => .ok acc st
      | some x => bd (noX (g (.val x) env)) (fun env' => bd (inner env' acc) fun acc' => dnO g inner n env m (i + 1) acc') st
    | _ => .bad
def dnL (m : Nat) (g : D → Env → M Env) (inner : Env → List (NestedKey × PyData) → M (List (NestedKey × PyData))) (env : Env) (s : Src) (acc : List (NestedKey × PyData)) : M (List (NestedKey × PyData)) := match s with
  | .fix xs => dnF g inner env xs acc
  | .obj n => dnO g inner n env m 0 acc
theorem dn_loop {K : W.Frag} {m0 : Nat} {J : It} {tg : TG} {t : TN} {is vs0 : List Nat} {g : D → Env → M Env} {inner : Env → List (NestedKey × PyData) → M (List (NestedKey × PyData))} (hg : RfG K E0 is tg g) (hi : RfNKN K t inner) (his : ∀ i ∈ is, i ∈ vs0)
    {w : Wd} {σ : St} {H : Hp} {env : Env} {st : Store} {s : Src} {acc : List (NestedKey × PyData)} {vs : List (NestedKey × Addr × Value)} {p : Addr} {Fin : Hp → Prop} (hs : RelSt K w H st) (he : RelEnv K w H env σ) (hn : H p = none) (hq : RpN K w H acc vs) (hJ : RI K w H s J)
    (hp : PostKN K p w H (dnL m0 g inner (kill vs0 env) s acc st) Fin) : LcLoop J tg t p vs0 σ (upd H p (rawN Nm.wl p vs)) Fin := by
  have turn : ∀ (w2 : Wd) (H2 : Hp) (st2 : Store) (acc2 : List (NestedKey × PyData)) (vs2 : List (NestedKey × Addr × Value)) (x : PyData) (v : V) (H3 : Hp) (rest : List (NestedKey × PyData) → M (List (NestedKey × PyData))) (Nx : Hp → Prop), Ge w H w2 H2 → RelSt K w2 H2 st2 → H2 p = none → RpN K w2 H2 acc2 vs2 →
      Same (upd H2 p (rawN Nm.wl p vs2)) H3 → Rp K (w2.prot p) H3 x v → PostKN K p w2 H2 (bd (noX (g (.val x) (kill vs0 env))) (fun env' => bd (inner env' acc2) rest) st2) Fin →
      (∀ w4 H4 st4 acc4 vs4, Ge w H w4 H4 → RelSt K w4 H4 st4 → H4 p = none → RpN K w4 H4 acc4 vs4 → PostKN K p w4 H4 (rest acc4 st4) Fin → Nx (upd H4 p (rawN Nm.wl p vs4))) →
      tg v (wipe σ vs0) H3 fun σ2 H2 => wipe σ2 vs0 = wipe σ vs0 ∧ t p σ2 H2 Nx := by
    intro w2 H2 st2 acc2 vs2 x v H3 rest Nx g2 s2 n2 q2 sm rx hp2 hN
    have e2 : RelEnv K w2 H2 (kill vs0 env) (wipe σ vs0) := (he.mono g2).wiped
    have s2p := s2.prot (o := rawN Nm.wl p vs2) n2 raw_acc
    have g3 : Ge (w2.prot p) (upd H2 p (rawN Nm.wl p vs2)) (w2.prot p) H3 := .same sm
    refine hg (w2.prot p) (wipe σ vs0) H3 (kill vs0 env) st2 (.val x) v _ (s2p.same sm) ((e2.mo (Mo.prot s2 n2)).mono g3) rx ?_
    cases hf : g (.val x) (kill vs0 env) st2 with
    | ok env' st' =>
      rw [bd_ok (noX_ok hf)] at hp2
      intro w4 H4 σ4 g4 s4 e4 ww
      refine ⟨(ww vs0 his).trans ?_, ?_⟩
      · have : ∀ (l : List Nat) (τ : St), wipe (wipe τ l) l = wipe τ l := fun l τ => by
          apply List.ext_getElem?
          intro i
          by_cases hi : i ∈ l
          · have key : ∀ (l : List Nat) (τ : St), i ∈ l → (wipe τ l)[i]? = if i < τ.length then some none else none := by
              intro l
              induction l with
              | nil => intro τ h; simp at h
              | cons y l ih =>
                intro τ h
                unfold wipe
                by_cases hy : i = y
                · subst hy
                  by_cases hl : i < τ.length
                  · rw [List.getElem?_set_self (by rw [wipe_length]; exact hl), if_pos hl]
                  · rw [if_neg hl, List.getElem?_eq_none (by rw [List.length_set, wipe_length]; omega)]
                · rw [List.getElem?_set_ne (Ne.symm hy)]
                  exact ih τ (by
                    rcases List.mem_cons.mp h with e | e
                    · exact absurd e hy
                    · exact e)
            rw [key l _ hi, key l _ hi, wipe_length]
          · rw [wipe_out hi]
        exact this vs0 σ
      · obtain ⟨w5, mo5, s5, g5, hD5, er5⟩ := unprotU s2 n2 (g3.trans g4) s4 (o2 := rawN_code)
        have hh : upd (hide H4 p) p (rawN Nm.wl p vs2) = H4 := by rw [upd_hide, upd_self hD5]
        rw [← hh]
        refine hi p w5 σ4 (hide H4 p) env' st' acc2 vs2 Nx s5 (e4.mo mo5) hide_same (q2.mono g5) ?_
        have hp5 := hp2.mono g5
        cases hr : inner env' acc2 st' with
        | ok acc6 st6 =>
          rw [bd_ok hr] at hp5
          exact fun w6 H6 vs6 g6 s6 n6 q6 => hN w6 H6 st6 acc6 vs6 (g2.trans (g5.trans g6)) s6 n6 q6 (hp5.mono g6)
        | exc e st6 => rw [bd_exc hr] at hp5; exact hp5.elim
        | bad => rw [bd_bad hr] at hp5; exact hp5.elim
    | exc e st' => rw [bd_bad (noX_exc hf)] at hp2; exact hp2.elim
    | bad => rw [bd_bad (noX_bad hf)] at hp2; exact hp2.elim
  cases s with
  | fix xs =>
    let W : Nat → Nat → Hp → Prop := fun i m H' => ∃ w2 H2 st2 acc2 vs2, H' = upd H2 p (rawN Nm.wl p vs2) ∧ Ge w H w2 H2 ∧ RelSt K w2 H2 st2 ∧ H2 p = none ∧ RpN K w2 H2 acc2 vs2 ∧ i ≤ xs.length ∧ m = xs.length - i ∧ PostKN K p w2 H2 (dnF g inner (kill vs0 env) (xs.drop i) acc2 st2) Fin
    refine ⟨W, ⟨xs.length, w, H, st, acc, vs, rfl, Ge.refl _ _, hs, hn, hq, Nat.zero_le _, rfl, hp⟩, ?_⟩
    rintro i m H' ⟨w2, H2, st2, acc2, vs2, rfl, g2, s2, n2, q2, hil, rfl, hp2⟩
    have J2 : ItOk K w2 H2 J xs := ItOk.mono g2.mo g2.fk hJ
    by_cases hlt : i < xs.length
    · right
      have ex : xs[i]? = some xs[i] := by simp [hlt]
      have ed : xs.drop i = xs[i] :: xs.drop (i + 1) := List.drop_eq_getElem_cons hlt
      obtain ⟨go, yld⟩ := J2.prot (o := rawN Nm.wl p vs2) s2 n2 ex raw_acc
      refine ⟨go, fun H' => W (i + 1) (xs.length - (i + 1)) H', fun H' h => ⟨_, by omega, h⟩, fun v H3 hy => ?_⟩
      obtain ⟨sm, rx⟩ := yld v H3 hy
      rw [ed] at hp2
      unfold dnF at hp2
      exact turn w2 H2 st2 acc2 vs2 xs[i] v H3 _ _ g2 s2 n2 q2 sm rx hp2 fun w4 H4 st4 acc4 vs4 g4 s4 n4 q4 hp4 => ⟨w4, H4, st4, acc4, vs4, rfl, g4, s4, n4, q4, hlt, rfl, hp4⟩
    · left
      have e : i = xs.length := by omega
      subst e
      refine ⟨(J2 w2 _ st2 (Ge.new n2).mo (Fk.new n2) (s2.new n2)).2, ?_⟩
      rw [List.drop_length] at hp2
      exact hp2 w2 H2 vs2 (Ge.refl _ _) s2 n2 q2
  | obj n =>
    obtain ⟨a, ha, rfl⟩ := hJ
    have npa : a ≠ p := fun z => hs.notin hn (by rw [← z]; exact List.mem_append_left _ (List.mem_of_getElem? ha))
    let W : Nat → Nat → Hp → Prop := fun i m H' => ∃ w2 H2 st2 acc2 vs2, H' = upd H2 p (rawN Nm.wl p vs2) ∧ Ge w H w2 H2 ∧ RelSt K w2 H2 st2 ∧ H2 p = none ∧ RpN K w2 H2 acc2 vs2 ∧ PostKN K p w2 H2 (dnO g inner n (kill vs0 env) m i acc2 st2) Fin
    refine ⟨W, ⟨m0, w, H, st, acc, vs, rfl, Ge.refl _ _, hs, hn, hq, hp⟩, ?_⟩
    rintro i m H' ⟨w2, H2, st2, acc2, vs2, rfl, g2, s2, n2, q2, hp2⟩
    cases m with
    | zero => exact (show False from hp2).elim
    | succ m =>
      unfold dnO at hp2
      cases ho : st2[n]? with
      | none => simp only [ho] at hp2; exact (show False from hp2).elim
      | some o =>
        cases o with
        | lst xs =>
          simp only [ho] at hp2
          obtain ⟨us, ev, rv⟩ := s2.obj n _ a ho (g2.get ha)
          have ev' : upd H2 p (rawN Nm.wl p vs2) a = some (.lst us) := by rw [upd_ne npa]; exact ev
          cases hx : xs[i]? with
          | none =>
            left
            simp only [hx] at hp2
            refine ⟨⟨us, SqL.of ev', ?_⟩, hp2 w2 H2 vs2 (Ge.refl _ _) s2 n2 q2⟩
            rw [← rv.length]
            exact List.getElem?_eq_none_iff.mp hx
          | some x =>
            right
            simp only [hx] at hp2
            obtain ⟨v, hv, rx⟩ := rv.get hx
            refine ⟨⟨us, v, SqL.of ev', hv⟩, fun H' => W (i + 1) m H', fun H' h => ⟨m, Nat.lt_succ_self _, h⟩, fun v' H3 hy => ?_⟩
            obtain ⟨e3, hy⟩ := hy
            subst e3
            have e4 : v' = v := by
              have q := hy us (SqL.of ev')
              rw [hv] at q
              exact (Option.some.inj q).symm
            subst e4
            exact turn w2 H2 st2 acc2 vs2 x v' _ _ _ g2 s2 n2 q2 (Same.refl _) (rx.mo (Mo.prot s2 n2)) hp2 fun w4 H4 st4 acc4 vs4 g4 s4 n4 q4 hp4 => ⟨w4, H4, st4, acc4, vs4, rfl, g4, s4, n4, q4, hp4⟩
        | _ => simp only [ho] at hp2; exact (show False from hp2).elim

theorem rfn_inD2 {K : W.Frag} {m : Nat} {vs1 is1 : List Nat} {tt tt1 : TT} {wi1 : TI} {tg1 : TG} {tk tv : TE} {ft ft1 : Env → M Bool} {fi1 : Env → M Src} {g1 : D → Env → M Env} {fk fv : Env → M D}
    (ht : Rf K E0 RB tt ft) (hi : Rf K E0 (RI K) wi1 fi1) (hg : RfG K E0 is1 tg1 g1) (his : ∀ i ∈ is1, i ∈ vs1) (ht1 : Rf K E0 RB tt1 ft1) (hk : Rf K E0 (RE K) tk fk) (hv : Rf K E0 (RE K) tv fv) : RfNKN K (GD.tInD2 Nm.wl K tt wi1 tg1 tt1 tk tv vs1) (dnIn2 m vs1 ft fi1 g1 ft1 fk fv (dnL m)) := by
  intro p w σ H env st acc vs Nx s0 e0 n0 q0 hp
  refine ht.stepKN s0 e0 n0 hp fun w1 H1 w2 st1 b b' s1 r1 mo er s2 g2 hD hp => ?_
  cases r1
  have hh : upd (hide H1 p) p (rawN Nm.wl p vs) = H1 := by rw [upd_hide, upd_self hD]
  cases b with
  | false =>
    rw [if_neg Bool.false_ne_true] at hp ⊢
    have := hp w2 _ vs (Ge.refl _ _) s2 hide_same (q0.mono g2)
    rw [hh] at this
    exact this
  | true =>
    rw [if_pos rfl] at hp ⊢
    rw [← hh]
    refine hi.stepKN s2 (e0.mono g2) hide_same hp fun w3 H3 w4 st3 s J s3 r3 mo3 er3 s4 g4 hD3 hp => ?_
    have h3 : upd (hide H3 p) p (rawN Nm.wl p vs) = H3 := by rw [upd_hide, upd_self hD3]
    have rJ : RI K w4 (hide H3 p) s J := by
      cases s with
      | fix xs => exact ItOk.mono mo3 (Fk.hide hD3 (by intro _ _ z; unfold rawN at z; cases z)) r3
      | obj n =>
        obtain ⟨a, ha, e⟩ := r3
        exact ⟨a, by rw [er3]; exact ha, e⟩
    have := dn_loop (m0 := m) (vs0 := vs1) hg (rfn_inKN ht1 hk hv) his s4 ((e0.mono g2).mono g4) hide_same ((q0.mono g2).mono g4) rJ hp
    rw [h3] at this
    exact this
def dccS (m : Nat) (own vs1 : List Nat) (fi : Env → M Src) (g : D → Env → M Env) (ft : Env → M Bool) (fi1 : Env → M Src) (g1 : D → Env → M Env) (ft1 : Env → M Bool) (fk fv : Env → M D) : Env → M D :=
  fun env => bd (fi env) fun s => bd (noX (dnL m g (dnIn2 m vs1 ft fi1 g1 ft1 fk fv (dnL m)) (kill own env) s [])) fun kvs => fun st => .ok (.loc st.length) (st ++ [.dn kvs])
theorem rf_dcc {K : W.Frag} {E : XK} {m : Nat} {own vs1 is is1 : List Nat} {ti ti1 : TI} {tg tg1 : TG} {tt tt1 : TT} {tk tv : TE} {fi fi1 : Env → M Src} {g g1 : D → Env → M Env} {ft ft1 : Env → M Bool} {fk fv : Env → M D} (hi : Rf K E (RI K) ti fi) (hg : RfG K E0 is tg g) (his : ∀ i ∈ is, i ∈ own)
    (ht : Rf K E0 RB tt ft) (hi1 : Rf K E0 (RI K) ti1 fi1) (hg1 : RfG K E0 is1 tg1 g1) (his1 : ∀ i ∈ is1, i ∈ vs1) (ht1 : Rf K E0 RB tt1 ft1) (hk : Rf K E0 (RE K) tk fk) (hv : Rf K E0 (RE K) tv fv) : Rf K E (RE K) (GD.tDcc Nm.wl K ti tg tt ti1 tg1 tt1 tk tv own vs1) (dccS m own vs1 fi g ft fi1 g1 ft1 fk fv) := by
  intro w σ H env st Q s0 e0 hp
  unfold dccS at hp
  refine hi w σ H env st _ s0 e0 ?_
  cases hf : fi env st with
  | ok s st' =>
    rw [bd_ok hf] at hp
    intro w1 H1 J g1' s1 q1 p np
    refine dn_loop (m0 := m) hg (rfn_inD2 (m := m) ht hi1 hg1 his1 ht1 hk hv) his s1 (e0.mono g1') np .nil q1 (Fin := fun H' => Q (.ref p) H') ?_
    have hp := hp.mono g1'
    cases hr : dnL m g (dnIn2 m vs1 ft fi1 g1 ft1 fk fv (dnL m)) (kill own env) s [] st' with
    | ok acc st2 =>
      rw [bd_ok (noX_ok hr)] at hp
      intro w2 H2 vs g2 s2 n2 q2
      obtain ⟨s3, g3⟩ := s2.push (p := p) (o := .dn acc) (u := rawN Nm.wl p vs) n2 ⟨vs, upd_same, q2.mono (Ge.grown s2 n2)⟩
      refine hp _ _ _ (g2.trans g3) s3 ⟨p, rfl, ?_⟩
      rw [s2.len]; simp
    | exc e st2 => rw [bd_bad (noX_exc hr)] at hp; exact hp.elim
    | bad => rw [bd_bad (noX_bad hr)] at hp; exact hp.elim
  | exc e st' => rw [bd_exc hf] at hp; exact hp
  | bad => rw [bd_bad hf] at hp; exact hp
section
variable {X : Cx} {E : XK} {kx vx tg iter tg1 iter1 : Expr} {ifs ifs1 : List Expr} {scope : Scope} {own : List (Str × Nat)} {is is1 : List Nat} {pos : Pos} {ti ti1 : TI} {g g1 : TG} {tt tt1 : TT} {tk tv : TE} {fi fi1 : Env → M Src} {fg fg1 : D → Env → M Env} {ft ft1 : Env → M Bool} {fk fv : Env → M D}
theorem se_dcc {K : W.Frag} (m : Nat) (vs1 : List Nat) (hu : X.A.units + 80 < cLine) (hN : X.N.Nodup) (hi : SI X E tg iter ti fi) (ok : BlkOk X.N X.env.scope scope own)
    (hg : ∀ (s : Shared) (H : Hp) (C : Addr) (cl : List (Str × Addr)) (fp : List Addr), SG (X.blk s H scope (PySem.compEnvC scope cl C X.env) fp) E0 is tg g fg) (ht : ∀ (s : Shared) (H : Hp) (C : Addr) (cl : List (Str × Addr)) (fp : List Addr), STs (X.blk s H scope (PySem.compEnvC scope cl C X.env) fp) E0 ifs tt ft)
    (hi1 : ∀ (s : Shared) (H : Hp) (C : Addr) (cl : List (Str × Addr)) (fp : List Addr), SI (X.blk s H scope (PySem.compEnvC scope cl C X.env) fp) E0 tg1 iter1 ti1 fi1)
    (hg1 : ∀ (s : Shared) (H : Hp) (C : Addr) (cl : List (Str × Addr)) (fp : List Addr), SG (X.blk s H scope (PySem.compEnvC scope cl C X.env) fp) E0 is1 tg1 g1 fg1) (ht1 : ∀ (s : Shared) (H : Hp) (C : Addr) (cl : List (Str × Addr)) (fp : List Addr), STs (X.blk s H scope (PySem.compEnvC scope cl C X.env) fp) E0 ifs1 tt1 ft1)
    (hk : ∀ (s : Shared) (H : Hp) (C : Addr) (cl : List (Str × Addr)) (fp : List Addr), SE (X.blk s H scope (PySem.compEnvC scope cl C X.env) fp) E0 kx tk fk)
    (hv : ∀ (s : Shared) (H : Hp) (C : Addr) (cl : List (Str × Addr)) (fp : List Addr), SE (X.blk s H scope (PySem.compEnvC scope cl C X.env) fp) E0 vx tv fv) {os : List Nat} (hos : own.map (·.2) = os := by rfl) (his : ∀ i ∈ is, i ∈ os := by decide) (his1 : ∀ i ∈ is1, i ∈ vs1 := by decide) (hvo : ∀ i ∈ vs1, i ∈ os := by decide) (hc : X.calm = true := by rfl) (hs : ∀ x, foldedSetIterable iter X.env x = pure x := by intro _; rfl) (hs1 : ∀ env x, foldedSetIterable iter1 env x = pure x := by intro _ _; rfl) (hw : X.w = Nm.wl := by rfl) (hK : X.K = K := by rfl) :
    SE X E (.DictComp kx vx [⟨tg, iter, ifs, 0⟩, ⟨tg1, iter1, ifs1, 0⟩] scope pos) (GD.tDcc Nm.wl K ti g tt ti1 g1 tt1 tk tv os vs1) (dccS m os vs1 fi fg ft fi1 fg1 ft1 fk fv) := by
  subst hos hK
  have e := GD.pe_dcc (pos := pos) hu hc hN hi.pi ok hvo (fun s H C cl fp => ⟨⟨(hg s H C cl fp).pg, (ht s H C cl fp).pt⟩, (hi1 s H C cl fp).pi⟩) (fun s H C cl fp => ⟨⟨(hg1 s H C cl fp).pg, (ht1 s H C cl fp).pt⟩, (hk s H C cl fp).pe, (hv s H C cl fp).pe⟩) hs hs1
  rw [hw] at e
  exact ⟨e,
    rf_dcc hi.rf (hg {} (fun _ => none) 0 [] []).rf his (ht {} (fun _ => none) 0 [] []).rf (hi1 {} (fun _ => none) 0 [] []).rf (hg1 {} (fun _ => none) 0 [] []).rf his1 (ht1 {} (fun _ => none) 0 [] []).rf (hk {} (fun _ => none) 0 [] []).rf (hv {} (fun _ => none) 0 [] []).rf⟩
end
end B
namespace GD
open PySem PySem.Spec PyProof.Rows L2 PySem.W GS
def tDispN (wl : World) (K : PySem.W.Frag) (trs : List (TE × TE)) : TE := fun σ H Q => ∀ p, H p = none → tPairs trs σ (upd H p (B.rawN wl p [])) fun ps H2 => H2 p = some (B.rawN wl p []) ∧ ∃ b k z, ps = [(V.ref b, z)] ∧ Dp K H2 (.ref b) k.data ∧ k.depth ≤ 8 ∧ ∀ u, RelV z u → Q (.ref p) (upd H2 p (B.rawN wl p [(k, b, u)]))
theorem pe_dispN {X : Cx} {pos : Pos} {keys : List (Option Expr)} {values : List Expr} {trs : List (TE × TE)} (hu : X.A.units + 9 < cLine) (h : PPs X pos keys values trs) (hall : keys.all (·.isSome) = true) (hl : keys.length = values.length) (h0 : keys ≠ [])
    (h15 : keys.length ≤ 15) : PE X (.Dict keys values pos) (tDispN X.w X.K trs) := by
  refine ⟨fun pins s σ H Q I q => ?_⟩
  have hn := I.hok.fresh (Nat.le_refl s.heap.objs.size)
  have I1 := I.laid (a := s.heap.objs.size) (o := B.rawN X.w s.heap.objs.size []) (h' := s.heap.push { cls := .type "dict", data := .dict #[] }) (t' := s.toks) (fun _ _ q => Heap.get?_push_of_some _ q) (Nat.le_refl _) (raw_empty I.big (Heap.get?_push_size _ rfl))
  refine wpAny_Dict_any hall hl h0 h15 (thn (h.run pins _ σ _ _ I1 (q _ hn)) fun ws s2 ⟨ps, H2, I2, rel, e, b, k, z, ep, dp, hd, q2⟩ => ?_)
  subst ep
  cases rel with
  | @cons a c as bs r t =>
    cases t
    obtain ⟨c1, c2⟩ := c
    obtain ⟨r1, r2⟩ := r
    obtain rfl : c1 = Value.ref b := r1
    unfold storeAll
    rw [List.forIn_cons]
    refine wpAny_bind (wpAny_bind (n_dictSet (xs := []) (k := k) (b := b) (v := c2) I2 hu e (fun e he => by cases he) dp hd (by rw [sizeLine_eq]; decide) fun s3 I3 => wpAny_pure ?_))
    show wpAny _ _ (forIn ([] : List (Value × Value)) PUnit.unit _) _ _ s3
    rw [List.forIn_nil]
    exact wpAny_pure ⟨.ref s.heap.objs.size, _, I3, rfl, q2 _ r2⟩
mutual
theorem nestB_of {X : Cx} {pins : List (Addr × Obj)} {σ : L2.St} {H : Hp} {s : Shared} (I : Inv X pins σ H s) : ∀ (d : PyData) (v : V) (u : Value) (k : NestedKey), Dp X.K H v d → RelV v u → B.nkb d = some k → NestedIs s.heap k u
  | .none, _, _, _, .non, r, e => by cases e; cases r; exact .none
  | .int i, _, _, _, .int _, r, e => by cases e; obtain ⟨t, rfl⟩ := r; exact .int i t
  | .str x, _, _, _, .str _, r, e => by cases e; obtain ⟨t, rfl⟩ := r; exact .text x t
  | .bool b, _, _, _, .bl _, r, e => by cases e; cases r; exact .bool rfl
  | .tuple ds, _, _, k, .tup hS ha, r, e => by
    simp only [B.nkb, Option.map_eq_some_iff] at e
    obtain ⟨ks, e, rfl⟩ := e
    cases r
    obtain ⟨its, rv, ⟨o, ho, hc, n, hd⟩, _⟩ := I.tuple hS
    have h1 := nestB_all I ds _ its ks ha rv e
    exact .tup ho hc hd (by simpa using h1)
  | .list _, _, _, _, _, _, e => by simp [B.nkb] at e
  | .dict _, _, _, _, _, _, e => by simp [B.nkb] at e
theorem nestB_all {X : Cx} {pins : List (Addr × Obj)} {σ : L2.St} {H : Hp} {s : Shared} (I : Inv X pins σ H s) : ∀ (ds : List PyData) (vs : List V) (us : List Value) (ks : List NestedKey), DpAll X.K H vs ds → Vals vs us → B.nkbs ds = some ks → NestedAll s.heap ks us
  | [], _, _, _, .nil, .nil, e => by cases e; exact .nil
  | d :: ds, _, _, _, .cons h1 h2, .cons r1 r2, e => by
    simp only [B.nkbs, Option.bind_eq_some_iff, Option.map_eq_some_iff] at e
    obtain ⟨k, e1, l, e2, rfl⟩ := e
    exact .cons (nestB_of I d _ _ k h1 r1 e1) (nestB_all I ds _ _ l h2 r2 e2)
end
def KeysB (K : PySem.W.Frag) (H : Hp) (xs : List (NestedKey × Addr × Value)) : Prop := ∀ e ∈ xs, (∃ kd, B.nkb kd = some e.1 ∧ Dp K H (.ref e.2.1) kd) ∧ e.1.depth ≤ 8
section
variable {X : Cx} {pins : List (Addr × Obj)} {σ : L2.St} {H : Hp} {s : Shared} {a : Addr} {xs : List (NestedKey × Addr × Value)}
theorem dm_rd (I : Inv X pins σ H s) (e : H a = some (B.rawN X.w a xs)) (hk : KeysB X.K H xs) : (a == sysModules) = false ∧ xs.length ≤ sizeLine ∧ s.heap.DictOfH (nestedKind X.prog X.w) a xs := by
  obtain ⟨⟨h1, h2, h3, o, es, ep, ho, hx, hd, he⟩, _, _⟩ := (show ObjOk X.prog X.w H s.heap a (B.rawN X.w a xs) from I.hok a _ e)
  exact ⟨h1, h2, o, es, ep, ho, hx, hd, he, fun x hx => let ⟨⟨kd, e1, e2⟩, e3⟩ := hk x hx; ⟨nestB_of I kd _ _ _ e2 rfl e1, e3⟩, h3⟩
def tDGetM (K : PySem.W.Frag) (wl : World) (td ty : TE) : TE := fun σ H Q => td σ H fun x H1 => ty σ H1 fun y H2 => ∃ a xs b k kd p v, x = V.ref a ∧ H2 a = some (B.rawN wl a xs) ∧ KeysB K H2 xs ∧ y = V.ref b ∧ B.nkb kd = some k ∧ Dp K H2 (.ref b) kd ∧ k.depth ≤ 8 ∧ atKey xs k = some p ∧ RelV v p.2 ∧ Q v H2
theorem pe_dgetM {K : PySem.W.Frag} {wl : World} {o i : Expr} {pos : Pos} {td ty : TE} (hu : X.A.units + 9 < cLine) (hw : X.w = wl) (ho : PE X o td) (hi : PE X i ty) (hs : NoSl i) (hK : X.K = K := by rfl) : PE X (.Subscript o i pos) (tDGetM K wl td ty) := by
  subst hw hK
  refine ⟨fun pins s σ H Q I h => ?_⟩
  refine subD_of PySem.F.slot_dict_getitem.lookup hs (thn (ho.run pins s σ H _ I h) fun u s1 ⟨x, H1, I1, rx, q1⟩ => thn (hi.run pins s1 σ H1 _ I1 q1) fun iv s2 ⟨y, H2, I2, ry, a, xs, b, k, kd, p, v, ex, e, hk, ey, ek, dp, hd, hp, rv, q2⟩ => ?_)
  subst ex ey
  obtain rfl : u = Value.ref a := rx
  obtain rfl : iv = Value.ref b := ry
  obtain ⟨h1, h2, dd⟩ := dm_rd I2 e hk
  exact ⟨dd.typeIs, wpAny_getItem_heap (knd := nestedKind X.prog X.w) (by show X.A.units + 1 + 8 < cLine; omega) ⟨nestB_of I2 kd _ _ _ dp rfl ek, hd⟩ dd hp ⟨v, H2, I2.tok _, rv, q2⟩⟩
def sDPutM (K : PySem.W.Frag) (wl : World) (td ty tv : TE) : TS := fun D σ H => tv σ H fun v H1 => td σ H1 fun x H2 => ty σ H2 fun y H3 => ∃ a xs b k kd, x = V.ref a ∧ H3 a = some (B.rawN wl a xs) ∧ KeysB K H3 xs ∧ y = V.ref b ∧ B.nkb kd = some k ∧ Dp K H3 (.ref b) kd ∧ k.depth ≤ 8 ∧ xs.length < sizeLine ∧
  ∀ u, RelV v u → D.nx σ (upd H3 a (B.rawN wl a (storedH xs k b u)))
theorem ps_dputM {K : PySem.W.Frag} {wl : World} {o i value : Expr} {pos pos' : Pos} {td ty tv : TE} (hu : X.A.units + 9 < cLine) (hw : X.w = wl) (ho : PE X o td) (hi : PE X i ty) (hv : PE X value tv) (hs : swapsWith value (some (.Subscript o i pos')) pos.line X.env = pure false) (hK : X.K = K := by rfl) :
    PS X (.Assign [.Subscript o i pos'] value pos) (sDPutM K wl td ty tv) := by
  subst hw hK
  refine ⟨fun pins s σ H D I h => ?_⟩
  refine wpAny_Assign_Subscript (thn (hv.run pins s σ H _ I h) fun r s1 ⟨v, H1, I1, rv, q1⟩ => thn (ho.run pins s1 σ H1 _ I1 q1) fun u s2 ⟨x, H2, I2, rx, q2⟩ => thn (hi.run pins s2 σ H2 _ I2 q2) fun iv s3 ⟨y, H3, I3, ry, a, xs, b, k, kd, ex, e, hk, ey, ek, dp, hd, hl, q3⟩ => ?_) hs
  subst ex ey
  obtain rfl : u = Value.ref a := rx
  obtain rfl : iv = Value.ref b := ry
  obtain ⟨h1, h2, dd⟩ := dm_rd I3 e hk
  refine wpAny_setItem_heap (knd := nestedKind X.prog X.w) (hsz := h2) (by show X.A.units + 1 + 8 < cLine; omega) ⟨nestB_of I3 kd _ _ _ dp rfl ek, hd⟩ dd fun h' dd' hs' => ⟨σ, _, ?_, q3 r rv⟩
  obtain ⟨q, es, ep, hq, hx, h3, h4, _, h5⟩ := dd'
  refine d_write I3 (by rw [e]; exact True.intro) hs' ⟨q, hq⟩ ⟨⟨h1, by have := B.storedH_len (xs := xs) (k := k) (b := b) (u := r); omega, h5, q, es, ep, hq, hx, h3, h4⟩, ⟨q, hq⟩, fun h1' h2' ⟨z1, z2, z3, z4, z5, z6, z7, z8⟩ hst => ⟨z1, z2, z3, z4, z5, z6, hst _ z7, z8⟩⟩
end
end GD
namespace B
open PySem L2
section
variable [Nm] [Gd]
variable {K : W.Frag} {X : Cx} {E : XK} {pos : Pos}
def newDv (ps : List (D × D)) : M D := fun st => match ps with
  | [(x, .val d)] => (match keyN x with
    | some k => .ok (.dv [(k, d)]) st
    | none => .bad)
  | _ => .bad
def dispV (f : Env → M (List (D × D))) : Env → M D := fun env => bd (noX (f env)) newDv
theorem se_dispV {ks : List (Option Expr)} {vs : List Expr} {t : List (TE × TE)} {f : Env → M (List (D × D))} (hu : X.A.units + 80 < cLine) (h : SPs X E0 pos ks vs t f) (hall : ks.all (·.isSome) = true := by rfl) (hl : ks.length = vs.length := by rfl) (h0 : ks ≠ [] := by intro z; cases z) (h15 : ks.length ≤ 15 := by decide) (hw : X.w = Nm.wl := by rfl) (hK : X.K = K := by rfl) :
    SE X E (.Dict ks vs pos) (tLockX (GD.tDispN Nm.wl K t)) (dispV f) := by
  subst hK
  have pe := pe_lockX (GD.pe_dispN (by omega) h.pp hall hl h0 h15)
  rw [hw] at pe
  refine ⟨pe, fun w σ H env st Q s0 e0 hp => ?_⟩
  intro p np
  replace hp : Post X.K E (RE X.K) w H (bd (noX (f env)) newDv st) Q := hp
  refine h.rf (w.prot p) σ _ env st _ (s0.prot np raw_acc) (e0.mo (Mo.prot s0 np)) ?_
  cases hf : f env st with
  | ok ps st' =>
    rw [bd_ok (noX_ok hf)] at hp
    intro w1 H1 us g1 s1 q1
    obtain ⟨w2, mo, s2, g2, hD, er⟩ := unprotU s0 np g1 s1 (o2 := rawN_code)
    unfold newDv at hp
    split at hp
    · rename_i x d
      cases ek : keyN x with
      | none => simp only [ek] at hp; exact hp.elim
      | some k =>
        simp only [ek] at hp
        cases q1 with
        | @cons a b r1 r2 t1 t2 hx hd ht =>
          cases ht
          obtain ⟨c, ec, rc, hdp⟩ := keyN_rel hx ek
          subst ec
          refine ⟨hD, c, k, _, rfl, rc.dp, hdp, fun u ru => ⟨p, _, rfl, upd_same, trivial, fun od => ?_⟩⟩
          have nn : (hide H1 p) p = none := hide_same
          have gg : Ge w2 (hide H1 p) w2 (upd (hide H1 p) p (.frz od (rawN Nm.wl p [(k, c, u)]))) := .new nn
          have s3 : RelSt X.K w2 (upd (hide H1 p) p (.frz od (rawN Nm.wl p [(k, c, u)]))) st' := s2.new nn
          have e : upd (upd H1 p (rawN Nm.wl p [(k, c, u)])) p (.frz od (rawN Nm.wl p [(k, c, u)])) = upd (hide H1 p) p (.frz od (rawN Nm.wl p [(k, c, u)])) := by
            funext a
            by_cases ha : a = p
            · subst ha; rw [upd_same, upd_same]
            · rw [upd_ne ha, upd_ne ha, upd_ne ha, hide_ne ha]
          rw [e]
          refine hp w2 _ (.ref p) (g2.trans gg) s3 ⟨p, _, rfl, ⟨⟨od, upd_same⟩, s2.notin nn⟩, .cons ((Rp.mo mo rc).mono gg) hdp ((Rp.mo mo hd).mono gg) ru .nil⟩
    · exact hp.elim
  | exc e st' => rw [bd_bad (noX_exc hf)] at hp; exact hp.elim
  | bad => rw [bd_bad (noX_bad hf)] at hp; exact hp.elim
def dNewV : Env → M D := fun _ st => .ok (.dv []) st
theorem se_dNewV : SE X E (.Dict [] [] pos) (tLockX (tDNewN Nm.wl)) dNewV := by
  refine ⟨pe_lockX pe_dnewN, fun w σ H env st Q s0 e0 hp p np => ⟨p, _, rfl, upd_same, trivial, fun od => ?_⟩⟩
  have e : upd (upd H p (rawN Nm.wl p [])) p (.frz od (rawN Nm.wl p [])) = upd H p (.frz od (rawN Nm.wl p [])) := by
    funext a
    by_cases ha : a = p
    · subst ha; rw [upd_same, upd_same]
    · rw [upd_ne ha, upd_ne ha, upd_ne ha]
  rw [e]
  exact hp w _ (.ref p) (.new np) (s0.new np) ⟨p, _, rfl, ⟨⟨od, upd_same⟩, s0.notin np⟩, .nil⟩
theorem RpM.keys {w : Wd} {H : Hp} {kvs : List (NestedKey × S1)} {xs : List (NestedKey × Addr × Value)} (r : RpM K w H kvs xs) : GD.KeysB K H xs := by
  induction r with
  | nil => intro e he; cases he
  | cons ek r1 hd _ _ _ ih =>
    intro e he
    rcases List.mem_cons.mp he with rfl | he
    · exact ⟨⟨_, ek, r1.dp⟩, hd⟩
    · exact ih e he
theorem RpM.length {w : Wd} {H : Hp} {kvs : List (NestedKey × S1)} {xs : List (NestedKey × Addr × Value)} (r : RpM K w H kvs xs) : kvs.length = xs.length := by
  induction r with
  | nil => rfl
  | cons _ _ _ _ _ _ ih => simp [ih]
theorem RpM.find {w : Wd} {H : Hp} {kvs : List (NestedKey × S1)} {xs : List (NestedKey × Addr × Value)} (r : RpM K w H kvs xs) (k : NestedKey) :
    (∀ d, getA kvs k = some d → ∃ p v, atKey xs k = some p ∧ RpS K w H d v ∧ RelV v p.2) ∧ (getA kvs k = none → atKey xs k = none) := by
  induction r with
  | nil => exact ⟨fun d h => (by cases h), fun _ => rfl⟩
  | @cons j kd d b v u ds xs ek r1 hd r2 rv _ ih =>
    by_cases e : j = k
    · refine ⟨fun d' h => ⟨(b, u), v, ?_, ?_, rv⟩, fun h => ?_⟩
      · simp [atKey, e]
      · simp [getA, e] at h; subst h; exact r2
      · simp [getA, e] at h
    · have e1 : getA ((j, d) :: ds) k = getA ds k := by simp [getA, e]
      have e2 : atKey ((j, b, u) :: xs) k = atKey xs k := by simp [atKey, e]
      rw [e1, e2]
      exact ih
theorem RpM.app {w : Wd} {H : Hp} {kvs : List (NestedKey × S1)} {xs : List (NestedKey × Addr × Value)} (r : RpM K w H kvs xs) {k : NestedKey} {kd : PyData} {d : S1} {b : Addr} {v : V} {u : Value} (h0 : nkb kd = some k) (h1 : Rp K w H kd (.ref b)) (h2 : k.depth ≤ 8) (h3 : RpS K w H d v) (h4 : RelV v u) :
    RpM K w H (kvs ++ [(k, d)]) (xs ++ [(k, b, u)]) := by
  induction r with
  | nil => exact .cons h0 h1 h2 h3 h4 .nil
  | cons ek r1 hd r2 rv _ ih => exact .cons ek r1 hd r2 rv ih
theorem getA_any {kvs : List (NestedKey × S1)} {k : NestedKey} : (kvs.any fun kv => decide (kv.1 = k)) = (getA kvs k).isSome := by
  unfold getA
  rw [Option.isSome_map]
  induction kvs with
  | nil => rfl
  | cons p r ih =>
    by_cases e : p.1 = k
    · simp [e]
    · simp only [List.any_cons, List.find?_cons, e, decide_false, Bool.false_or, ih]
theorem RpM.put {w : Wd} {H : Hp} {kvs : List (NestedKey × S1)} {xs : List (NestedKey × Addr × Value)} (r : RpM K w H kvs xs) {k : NestedKey} {kd : PyData} {d : S1} {b : Addr} {v : V} {u : Value} (h0 : nkb kd = some k) (h1 : Rp K w H kd (.ref b)) (h2 : k.depth ≤ 8) (h3 : RpS K w H d v) (h4 : RelV v u) :
    RpM K w H (putA kvs k d) (storedH xs k b u) := by
  have e : (getA kvs k).isSome = (atKey xs k).isSome := by
    cases hv : getA kvs k with
    | none => rw [(r.find k).2 hv]; rfl
    | some d' => obtain ⟨p, _, hp, _⟩ := (r.find k).1 d' hv; rw [hp]; rfl
  unfold putA storedH
  rw [getA_any, e]
  by_cases q : (atKey xs k).isSome = true
  · rw [if_pos q, if_pos q]
    clear q e
    induction r with
    | nil => exact .nil
    | @cons j kd' d' b' v' u' ds xs ek r1 hd r2 rv _ ih =>
      simp only [List.map_cons, putAt]
      by_cases e : j = k
      · rw [if_pos e, if_pos e]; exact .cons ek r1 hd h3 h4 ih
      · rw [if_neg e, if_neg e]; exact .cons ek r1 hd r2 rv ih
  · rw [if_neg q, if_neg q]; exact r.app h0 h1 h2 h3 h4
def keyB : D → Option NestedKey
  | .val (.tuple ds) => (match nkb (.tuple ds) with
    | some k => if k.depth ≤ 8 then some k else none
    | none => none)
  | _ => none
theorem keyB_rel {w : Wd} {H : Hp} {d : D} {v : V} {k : NestedKey} (r : RpD K w H d v) (e : keyB d = some k) : ∃ b kd, v = .ref b ∧ nkb kd = some k ∧ Rp K w H kd (.ref b) ∧ k.depth ≤ 8 := by
  unfold keyB at e
  split at e
  · split at e
    · rename_i ds _ k' hk
      split at e
      · rename_i hd
        cases e
        have r : Rp K w H (.tuple ds) v := r
        cases r with
        | @tup a vs _ h1 h2 => exact ⟨a, _, rfl, hk, .tup h1 h2, hd⟩
      · cases e
    · cases e
  · cases e
section
variable {o i e value : Expr} {td ty tv : TE} {fd fi fv : B.Env → M D} {pos' : Pos}
def dgetM (x y : D) : M D := fun st => match x with
  | .loc n => (match st[n]?, keyB y with
    | some (.dm kvs), some k => (match getA kvs k with
      | some d => .ok (dOf d) st
      | none => .bad)
    | _, _ => .bad)
  | _ => .bad
theorem se_dgetM (hu : X.A.units + 9 < cLine) (ho : SE X E o td fd) (hi : SE X E i ty fi) (hw : X.w = Nm.wl := by rfl) (hs : NoSl i := by exact fun _ _ => rfl) (hK : X.K = K := by rfl) : SE X E (.Subscript o i pos) (GD.tDGetM K Nm.wl td ty) (op2 dgetM fd fi) := by
  subst hK
  refine ⟨GD.pe_dgetM hu hw ho.pe hi.pe hs, fun w σ H env st Q s0 e0 hp => ?_⟩
  refine ho.rf.step s0 e0 hp fun r1 H1 st1 x v g1 s1 e1 q1 hp => ?_
  refine hi.rf.step s1 e1 hp fun r2 H2 st2 y u g2 s2 e2 q2 hp => ?_
  unfold dgetM at hp
  split at hp
  · split at hp
    · rename_i kvs k eo ek
      split at hp
      · rename_i d hd
        obtain ⟨a, ev, ha, xs, hv, rv⟩ := s2.at eo (q1.mono g2)
        obtain ⟨b, kd, eb, enk, rb, hdp⟩ := keyB_rel q2 ek
        obtain ⟨p, z, hp', rz, rel⟩ := (rv.find k).1 d hd
        exact ⟨a, xs, b, k, kd, p, z, ev, hv, rv.keys, eb, enk, rb.dp, hdp, hp', rel, Post.now hp s2 (dOf_rel rz)⟩
      · exact hp.elim
    · exact hp.elim
  · exact hp.elim
def dputM (fd fi fv : B.Env → M D) : B.Env → M Fl := fun env => bd (fv env) fun v => bd (fd env) fun x => bd (fi env) fun y => fun st => match x, s1Of v with
  | .loc n, some d => (match st[n]?, keyB y with
    | some (.dm kvs), some k => if kvs.length < sizeLine then .ok (.nx env) (st.set n (.dm (putA kvs k d))) else .bad
    | _, _ => .bad)
  | _, _ => .bad
theorem ss_dputM (hu : X.A.units + 9 < cLine) (ho : SE X E o td fd) (hi : SE X E i ty fi) (hv : SE X E value tv fv) (hw : X.w = Nm.wl := by rfl) (hs : swapsWith value (some (.Subscript o i pos')) pos.line X.env = pure false := by rfl) (hK : X.K = K := by rfl) :
    SS X E (.Assign [.Subscript o i pos'] value pos) (GD.sDPutM K Nm.wl td ty tv) (dputM fd fi fv) := by
  subst hK
  refine ⟨GD.ps_dputM hu hw ho.pe hi.pe hv.pe hs, fun w σ H env st Z s0 e0 hp => ?_⟩
  refine hv.rf.stepS s0 e0 hp fun r1 H1 st1 v vv g1 s1 e1 q1 hp => ?_
  refine ho.rf.stepS s1 e1 hp fun r2 H2 st2 x xv g2 s2 e2 q2 hp => ?_
  refine hi.rf.stepS s2 e2 hp fun r3 H3 st3 y yv g3 s3 e3 q3 hp => ?_
  split at hp
  · rename_i d hd _
    split at hp
    · rename_i kvs k eo ek
      split at hp
      · rename_i hl
        have q2' := q2.mono g3
        obtain ⟨a, ev, ha, xs, hxv, rv⟩ := s3.at eo q2'
        obtain ⟨b, kd, eb, enk, rb, hdp⟩ := keyB_rel q3 ek
        refine ⟨a, xs, b, k, kd, ev, hxv, rv.keys, eb, enk, rb.dp, hdp, by rw [← rv.length]; exact hl, fun u ru => ?_⟩
        have q1' : RpS _ r3 H3 d vv := s1Of_rel ((q1.mono g2).mono g3) hd
        obtain ⟨s4, g4⟩ := s3.write (o := .dm (putA kvs k d)) (u := rawN Nm.wl a (storedH xs k b u)) ha ⟨_, upd_same, (rv.put enk rb hdp q1' ru).mono (.write ha (by rw [hxv]; intro _ _ z; cases z))⟩ (by rw [hxv]; intro _ _ z; cases z)
        exact hp r3 _ _ g4 s4 (e3.mono g4)
      · exact hp.elim
    · exact hp.elim
  · exact hp.elim
def dNewM : B.Env → M D := fun _ st => .ok (.loc st.length) (st ++ [.dm []])
theorem se_dNewM : SE X E (.Dict [] [] pos) (tDNewN Nm.wl) dNewM := by
  refine ⟨pe_dnewN, fun w σ H env st Q s0 e0 hp p np => ?_⟩
  obtain ⟨s3, g3⟩ := s0.push (o := .dm []) (u := rawN Nm.wl p []) np ⟨_, upd_same, .nil⟩
  exact hp _ _ (.ref p) g3 s3 ⟨p, rfl, by rw [s0.len]; simp⟩
end
end
section
variable [Nm] [Gd]
def mulW (x y : D) : M D := fun st => match x, y with
  | .val (.int i), .val (.int j) => if i.natAbs.log2 + j.natAbs.log2 < 1000000 then okV (.int (i * j)) st else .bad
  | _, _ => .bad
theorem op_mulWW {X : Cx} : OpR X (binaryOp .Mult) (rI CMulW fun i j => .int (i * j)) := op_mulW
theorem bop_mulW {K : W.Frag} {E : XK} : BOp K E (rI CMulW fun i j => .int (i * j)) mulW := by
  intro w H st dx dy x y Q hs rx ry hp
  unfold mulW at hp
  split at hp
  · cases rx
    cases ry
    split at hp
    · rename_i hl
      exact ⟨_, _, rfl, rfl, hl, Post.now hp hs (.int _)⟩
    · exact hp.elim
  · exact hp.elim
end
section
variable {X : Ex → Store → Prop} {st : Store} {env : B.Env}
@[simp] theorem f_mulW {i j : Int} {Q : D → Store → Prop} : wpx X (mulW (.val (.int i)) (.val (.int j)) st) Q = (i.natAbs.log2 + j.natAbs.log2 < 1000000 ∧ Q (.val (.int (i * j))) st) := by simp only [mulW, okV, wp_iteBad, wp_ok]
@[simp] theorem e_dispV {f : B.Env → M (List (D × D))} {Q : D → Store → Prop} : wpx X (dispV f env st) Q = wpx X (bd (noX (f env)) newDv st) Q := propext Iff.rfl
theorem f_newDv {x : D} {d : PyData} {k : NestedKey} {Q : D → Store → Prop} (hk : keyN x = some k) : wpx X (newDv [(x, .val d)] st) Q = Q (.dv [(k, d)]) st := by simp only [newDv, hk, wp_ok]
@[simp] theorem e_dNewV {Q : D → Store → Prop} : wpx X (dNewV env st) Q = Q (.dv []) st := by first | exact propext Iff.rfl | exact wp_ok
@[simp] theorem e_dNewM {Q : D → Store → Prop} : wpx X (dNewM env st) Q = Q (.loc st.length) (st ++ [.dm []]) := by first | exact propext Iff.rfl | exact wp_ok
theorem f_dgetM {n : Nat} {d : D} {kvs : List (NestedKey × S1)} {k : NestedKey} {p : S1} {Q : D → Store → Prop} (h : st[n]? = some (.dm kvs)) (hk : keyB d = some k) (hv : getA kvs k = some p) : wpx X (dgetM (.loc n) d st) Q = Q (dOf p) st := by
  simp only [dgetM, h, hk, hv, wp_ok]
def dputMk (env : B.Env) (v x y : D) : M Fl := fun st => match x, s1Of v with
  | .loc n, some d => (match st[n]?, keyB y with
    | some (.dm kvs), some k => if kvs.length < sizeLine then .ok (.nx env) (st.set n (.dm (putA kvs k d))) else .bad
    | _, _ => .bad)
  | _, _ => .bad
@[simp] theorem e_dputM {fd fi fv : B.Env → M D} {Q : Fl → Store → Prop} : wpx X (dputM fd fi fv env st) Q = wpx X (bd (fv env) (fun v => bd (fd env) fun x => bd (fi env) fun y => dputMk env v x y) st) Q := propext Iff.rfl
theorem f_dputMk {n : Nat} {v y : D} {d : S1} {kvs : List (NestedKey × S1)} {k : NestedKey} {Q : Fl → Store → Prop} (hv : s1Of v = some d) (h : st[n]? = some (.dm kvs)) (hk : keyB y = some k) (hl : kvs.length < sizeLine) : wpx X (dputMk env v (.loc n) y st) Q = Q (.nx env) (st.set n (.dm (putA kvs k d))) := by
  simp only [dputMk, hv, h, hk, if_pos hl, wp_ok]
@[simp] theorem e_dccS {m : Nat} {own vs1 : List Nat} {fi : B.Env → M Src} {g : D → B.Env → M B.Env} {ft : B.Env → M Bool} {fi1 : B.Env → M Src} {g1 : D → B.Env → M B.Env} {ft1 : B.Env → M Bool} {fk fv : B.Env → M D} {Q : D → Store → Prop} :
    wpx X (dccS m own vs1 fi g ft fi1 g1 ft1 fk fv env st) Q = wpx X (bd (fi env) (fun s => bd (noX (dnL m g (dnIn2 m vs1 ft fi1 g1 ft1 fk fv (dnL m)) (kill own env) s [])) fun kvs => fun st => .ok (.loc st.length) (st ++ [.dn kvs])) st) Q := propext Iff.rfl
end
end B
namespace B
open PySem L2
def enAt (n : Nat) : SrcD := fun st i => match st[n]? with
  | some (.lst xs) => some (xs[i]?.map fun x => .val (.tuple [.int (i : Nat), x]))
  | _ => none
def enSrc (ds : List D) : M SrcD := fun st => match ds with
  | [.loc n] => (match st[n]? with
    | some (.lst _) => .ok (enAt n) st
    | _ => .bad)
  | _ => .bad
def enI (fr : B.Env → M (List D)) : B.Env → M SrcD := fun env => bd (fr env) enSrc
theorem si_enI [Nm] [Gd] {X : Cx} {E : XK} {K : W.Frag} {e : Expr} {tr : TA} {fr : B.Env → M (List D)} {elts : List Expr} {kk : Nat} {tpos p pos : Pos} (hm : X.mg "enumerate" = none) (ha : SA X E [e] tr fr) (hK : X.K = K := by rfl) (hg : Gl X "enumerate" := by rfl) (hs : starEach [e] X.env = [(false, eval e X.env)] := by rfl) :
    SIx X E (.Tuple elts kk tpos) (.Call (.Name "enumerate" p) [e] [] pos) (iEnumA K tr) (enI fr) := by
  subst hK
  refine ⟨pi_enumA hg hm ha.pa hs, fun w σ H env st Q s0 e0 hp => ?_⟩
  refine ha.rf.step s0 e0 hp fun w1 H1 st1 ds vs g1 s1 e1 q1 hp => ?_
  unfold enSrc at hp
  split at hp
  · rename_i n
    split at hp
    · rename_i xs eo
      obtain ⟨v, rfl, r1⟩ := q1.one
      obtain ⟨a, ev, ha, us, hv, rv⟩ := s1.at eo r1
      refine .inl ⟨a, us, by rw [ev], SqL.of hv, Post.now hp s1 fun w2 H2 st2 hrho s2 i => ?_⟩
      have ha2 := hrho n a ha
      unfold enAt
      refine ⟨fun hx => ?_, fun d hx => ?_⟩
      · split at hx
        · rename_i ys eo2
          obtain ⟨us2, hv2, rv2⟩ := s2.obj n _ a eo2 ha2
          have h0 : ys[i]? = none := by simpa using hx
          refine ⟨us2, SqL.of hv2, ?_⟩
          rw [← rv2.length]
          exact List.getElem?_eq_none_iff.mp h0
        · cases hx
      · split at hx
        · rename_i ys eo2
          obtain ⟨us2, hv2, rv2⟩ := s2.obj n _ a eo2 ha2
          cases hy : ys[i]? with
          | none => rw [hy] at hx; cases hx
          | some y =>
            rw [hy] at hx
            cases hx
            obtain ⟨u, hu, ru⟩ := rv2.get hy
            refine ⟨⟨us2, u, SqL.of hv2, hu⟩, ?_⟩
            rintro v H3 ⟨T, z, rfl, hT, rfl, hz⟩
            have ez : z = u := by
              have := hz us2 (SqL.of hv2)
              rw [hu] at this
              exact (Option.some.inj this).symm
            subst ez
            exact ⟨Same.new hT, Rp.newTup (s2.notin hT) (.cons (.int _) (.cons ru .nil)) hT⟩
        · cases hx
    · exact hp.elim
  · exact hp.elim
section
variable {env : B.Env} {st : Store} {X : Ex → Store → Prop}
@[simp] theorem e_enI {fr : B.Env → M (List D)} {Q : SrcD → Store → Prop} : wpx X (enI fr env st) Q = wpx X (bd (fr env) enSrc st) Q := propext Iff.rfl
theorem f_enSrc {n : Nat} {xs : List PyData} {Q : SrcD → Store → Prop} (h : st[n]? = some (.lst xs)) : wpx X (enSrc [.loc n] st) Q = Q (enAt n) st := by simp only [enSrc, h, wp_ok]
theorem enAt_at {n i : Nat} {xs : List PyData} (h : st[n]? = some (.lst xs)) : enAt n st i = some (xs[i]?.map fun x => .val (.tuple [.int (i : Nat), x])) := by simp only [enAt, h]
end
end B
namespace Yk22
open PySem L2 B
def top (i : Nat) : Stmt := PySem.Challenge.pw_outandover_k22_runs_counted.main.body.getD i (.Pass ⟨0, 0, 0, 0⟩)
abbrev s_handler_line : Stmt := top 1
def b_handler_line : B.Env → M Fl :=
  (seqS (forS 100000 (anyI (gv 0)) (setT 2 (setsCons (setV 2) (setsCons (setV 3) setsNil))) (killS [2, 3] (ifS (orT (tst (op2 eqF (gv 2) (gv 1))) (tst (op2 eqF (gv 2) (cD (.val (.str "")))))) (retS (gv 3)) nxS)))
  (retS (negE (cD (.val (.int 1))))))
def m_handler_line : List D → M D := fnOf 4 b_handler_line
abbrev s_add_to : Stmt := top 3
def b_add_to : B.Env → M Fl :=
  (dputN (gv 0) (gv 1) (op2 addF (get2N (gv 0) (gv 1) (cD (.val (.int 0)))) (gv 2)))
def m_add_to : List D → M D := fnOf 3 b_add_to
abbrev s_over_if : Stmt := top 4
def b_over_if : B.Env → M Fl :=
  (retS (ifV (tst (op2 eqF (gv 1) (cD (.val (.int 0))))) (dispV (pCons (gv 0) (cD (.val (.int 1))) pNil)) dNewV))
def m_over_if : List D → M D := fnT 2 b_over_if
abbrev s_Counts___init__ : Stmt := clsDef (top 5) 0
def b_Counts___init__ : B.Env → M Fl :=
  (seqS (fputS "Counts" "line_table" (gv 0) (dccS 100000 [2, 3, 4, 5] [4, 5] (anyI (gv 1)) (setT 2 (setsCons (setV 2) (setsCons (setV 3) setsNil))) yesT (enumA (aCons (gv 3) aNil)) (setT 2 (setsCons (setV 4) (setsCons (setV 5) setsNil))) yesT (tupE (aCons (gv 2) (aCons (gv 4) aNil))) (gv 5)))
  (seqS (fputS "Counts" "at_call" (gv 0) dNewM)
  (fputS "Counts" "at_way" (gv 0) dNewM)))
def m_Counts___init__ : List D → M D := fnOf 6 b_Counts___init__
abbrev s__law_feed : Stmt := top 8
def b__law_feed : B.Env → M Fl :=
  (retS (dispE (pCons (cD (.val (.str "cells"))) (asVal (callFF listF (aCons (asVal (slFz (gv 0) oNone (oSome (cD (.val (.int 63)))))) aNil))) (pCons (cD (.val (.str "next"))) (cD (.val (.int 0))) (pCons (cD (.val (.str "rest"))) (cD (.val (.int 0))) (pCons (cD (.val (.str "turn"))) (cD (.val (.int 0))) pNil))))))
def m__law_feed : List D → M D := fnOf 1 b__law_feed
abbrev s__law_draw : Stmt := top 9
def b__law_draw : B.Env → M Fl :=
  (seqS (dputS (gv 0) (cD (.val (.str "turn"))) (op2 addF (op2 dgetF (gv 0) (cD (.val (.str "turn")))) (cD (.val (.int 1)))))
  (seqS (killS [2] (ifS (tst (op2 gtF (op2 dgetF (gv 0) (cD (.val (.str "rest")))) (cD (.val (.int 0))))) (seqS (asgS (op2 modF (callF intG (aCons (op2 dgetF (gv 0) (cD (.val (.str "rest")))) aNil)) (gv 1)) (setV 2))
  (seqS (dputS (gv 0) (cD (.val (.str "rest"))) (op2 fdivF (op2 dgetF (gv 0) (cD (.val (.str "rest")))) (gv 1)))
  (retS (gv 2)))) nxS))
  (seqS (parN [3, 4] (aCons (op2 dgetF (gv 0) (cD (.val (.str "cells")))) (aCons (op2 dgetF (gv 0) (cD (.val (.str "next")))) aNil)))
  (seqS (asgS (ifV (tst (op2 neF (gv 3) (asVal (lstE aNil)))) (op2 ixF (gv 3) (op2 modF (callF intG (aCons (gv 4) aNil)) (callF lenF (aCons (gv 3) aNil)))) (cD (.val (.int 29)))) (setV 5))
  (seqS (dputS (gv 0) (cD (.val (.str "next"))) (op2 addF (gv 4) (cD (.val (.int 1)))))
  (seqS (ifS (andT (tst (op2 geF (gv 5) (op2 powF (cD (.val (.int 10))) (cD (.val (.int 18)))))) (tst (op2 ltF (gv 4) (callF lenF (aCons (gv 3) aNil))))) (seqS (dputS (gv 0) (cD (.val (.str "rest"))) (op2 fdivF (gv 5) (gv 1)))
  (retS (op2 modF (callF intG (aCons (gv 5) aNil)) (gv 1)))) nxS)
  (seqS (asgS (op2 modF (callF intG (aCons (op2 addF (op2 addF (op2 modF (callF intG (aCons (gv 5) aNil)) (cD (.val (.int 1000000993)))) (op2 mulH (cD (.val (.int 310019))) (op2 dgetF (gv 0) (cD (.val (.str "turn")))))) (cD (.val (.int 71)))) aNil)) (cD (.val (.int 2147482801)))) (setV 6))
  (seqS (asgS (op2 modF (callF intG (aCons (op2 addF (op2 addF (op2 mulH (gv 6) (gv 6)) (op2 mulH (cD (.val (.int 4200013))) (op2 dgetF (gv 0) (cD (.val (.str "turn")))))) (cD (.val (.int 17)))) aNil)) (cD (.val (.int 2147481901)))) (setV 6))
  (retS (op2 modF (callF intG (aCons (op2 fdivF (op2 modF (callF intG (aCons (op2 addF (op2 mulH (gv 6) (gv 6)) (op2 mulH (cD (.val (.int 211))) (gv 6))) aNil)) (cD (.val (.int 2147481793)))) (cD (.val (.int 8)))) aNil)) (gv 1)))))))))))
def m__law_draw : List D → M D := fnOf 7 b__law_draw
abbrev s__law_line : Stmt := top 11
def b__law_line : B.Env → M Fl :=
  (retS (op2 ixF (op2 dgetF (callF dictG (aCons (asVal (callFF listF (aCons (gv 0) aNil))) aNil)) (op2 ixF (gv 1) (cD (.val (.int 0))))) (op2 ixF (gv 1) (cD (.val (.int 1))))))
def m__law_line : List D → M D := fnT 2 b__law_line
abbrev s__law_hands : Stmt := top 12
def b__law_hands : B.Env → M Fl :=
  (seqS (asgS (tupE (aCons (cD (.val (.str "main"))) (aCons (tupE (aCons (tupE (aCons (tupE (aCons (cD (.val (.str "f"))) aNil)) (aCons (tupE (aCons (cD (.val (.int 1))) aNil)) (aCons (tupE (aCons (tupE (aCons (cD (.val (.str ""))) (aCons (cD (.val (.int 2))) aNil))) aNil)) aNil)))) (aCons (tupE (aCons (tupE (aCons (cD (.val (.str ""))) aNil)) (aCons (tupE (aCons (tupE (aCons (cD (.val (.str "back"))) aNil)) (aCons (cD (.val (.int 0))) aNil))) (aCons (tupE aNil) aNil)))) (aCons (tupE (aCons (tupE (aCons (cD (.val (.str ""))) (aCons (cD (.val (.str "g"))) aNil))) (aCons (tupE (aCons (tupE (aCons (cD (.val (.str "back"))) aNil)) aNil)) (aCons (tupE aNil) aNil)))) aNil)))) aNil))) (setV 0))
  (seqS (asgS (tupE (aCons (cD (.val (.str "f"))) (aCons (tupE (aCons (tupE (aCons (tupE (aCons (cD (.val (.str ""))) aNil)) (aCons (tupE (aCons (cD (.val (.int 1))) (aCons (tupE (aCons (cD (.val (.str "fail"))) (aCons (cD (.val (.str "bad"))) aNil))) aNil))) (aCons (tupE aNil) aNil)))) (aCons (tupE (aCons (tupE (aCons (cD (.val (.str ""))) (aCons (cD (.val (.str "g"))) aNil))) (aCons (tupE (aCons (tupE (aCons (cD (.val (.str "back"))) aNil)) aNil)) (aCons (tupE aNil) aNil)))) aNil))) aNil))) (setV 1))
  (seqS (asgS (asObj (lstE (aCons (tupE (aCons (gv 0) (aCons (gv 1) (aCons (tupE (aCons (cD (.val (.str "g"))) (aCons (tupE (aCons (tupE (aCons (tupE (aCons (cD (.val (.str ""))) aNil)) (aCons (tupE (aCons (tupE (aCons (cD (.val (.str "back"))) aNil)) aNil)) (aCons (tupE aNil) aNil)))) aNil)) aNil))) aNil)))) aNil))) (setV 2))
  (seqS (dropS (methL appF (gv 2) (aCons (tupE (aCons (tupE (aCons (cD (.val (.str "again"))) (aCons (tupE (aCons (tupE (aCons (tupE (aCons (cD (.val (.str ""))) (aCons (cD (.val (.str "again"))) aNil))) (aCons (tupE (aCons (cD (.val (.int 1))) aNil)) (aCons (tupE aNil) aNil)))) (aCons (tupE (aCons (tupE (aCons (cD (.val (.str ""))) aNil)) (aCons (tupE (aCons (tupE (aCons (cD (.val (.str "back"))) aNil)) aNil)) (aCons (tupE aNil) aNil)))) aNil))) aNil))) aNil)) aNil)))
  (seqS (dropS (methL appF (gv 2) (aCons (tupE (aCons (tupE (aCons (cD (.val (.str "twice"))) (aCons (tupE (aCons (tupE (aCons (tupE (aCons (cD (.val (.str ""))) (aCons (cD (.val (.str "twice"))) aNil))) (aCons (tupE (aCons (cD (.val (.int 1))) aNil)) (aCons (tupE aNil) aNil)))) (aCons (tupE (aCons (tupE (aCons (cD (.val (.str ""))) (aCons (cD (.val (.str "twice"))) aNil))) (aCons (tupE (aCons (tupE (aCons (cD (.val (.str "back"))) aNil)) aNil)) (aCons (tupE aNil) aNil)))) aNil))) aNil))) aNil)) aNil)))
  (seqS (asgS (tupE (aCons (cD (.val (.str "c"))) (aCons (tupE (aCons (tupE (aCons (tupE (aCons (cD (.val (.str ""))) aNil)) (aCons (tupE (aCons (tupE (aCons (cD (.val (.str "back"))) aNil)) (aCons (tupE (aCons (cD (.val (.str "fail"))) (aCons (cD (.val (.str "odd"))) aNil))) aNil))) (aCons (tupE aNil) aNil)))) aNil)) aNil))) (setV 3))
  (seqS (asgS (tupE (aCons (cD (.val (.str "b"))) (aCons (tupE (aCons (tupE (aCons (tupE (aCons (cD (.val (.str "c"))) aNil)) (aCons (tupE (aCons (cD (.val (.int 1))) aNil)) (aCons (tupE aNil) aNil)))) (aCons (tupE (aCons (tupE (aCons (cD (.val (.str "c"))) aNil)) (aCons (tupE (aCons (tupE (aCons (cD (.val (.str "back"))) aNil)) aNil)) (aCons (tupE (aCons (tupE (aCons (cD (.val (.str "bad"))) (aCons (cD (.val (.int 0))) aNil))) aNil)) aNil)))) aNil))) aNil))) (setV 4))
  (seqS (dropS (methL appF (gv 2) (aCons (tupE (aCons (tupE (aCons (cD (.val (.str "a"))) (aCons (tupE (aCons (tupE (aCons (tupE (aCons (cD (.val (.str "b"))) aNil)) (aCons (tupE (aCons (cD (.val (.int 1))) aNil)) (aCons (tupE (aCons (tupE (aCons (cD (.val (.str "odd"))) (aCons (cD (.val (.int 1))) aNil))) aNil)) aNil)))) (aCons (tupE (aCons (tupE (aCons (cD (.val (.str ""))) (aCons (cD (.val (.str "b"))) aNil))) (aCons (tupE (aCons (tupE (aCons (cD (.val (.str "back"))) aNil)) aNil)) (aCons (tupE aNil) aNil)))) aNil))) aNil))) (aCons (gv 4) (aCons (gv 3) aNil)))) aNil)))
  (seqS (dropS (methL appF (gv 2) (aCons (tupE (aCons (tupE (aCons (cD (.val (.str "loop"))) (aCons (tupE (aCons (tupE (aCons (tupE (aCons (cD (.val (.str ""))) (aCons (cD (.val (.str "spin"))) aNil))) (aCons (tupE (aCons (cD (.val (.int 0))) aNil)) (aCons (tupE aNil) aNil)))) aNil)) aNil))) (aCons (tupE (aCons (cD (.val (.str "spin"))) (aCons (tupE (aCons (tupE (aCons (tupE (aCons (cD (.val (.str ""))) aNil)) (aCons (tupE (aCons (cD (.val (.int 0))) (aCons (tupE (aCons (cD (.val (.str "fail"))) (aCons (cD (.val (.str "k"))) aNil))) aNil))) (aCons (tupE (aCons (tupE (aCons (cD (.val (.str "k"))) (aCons (cD (.val (.int 0))) aNil))) aNil)) aNil)))) aNil)) aNil))) aNil))) aNil)))
  (seqS (asgS (tupE (aCons (cD (.val (.str "e"))) (aCons (tupE (aCons (tupE (aCons (tupE (aCons (cD (.val (.str ""))) aNil)) (aCons (tupE (aCons (tupE (aCons (cD (.val (.str "fail"))) (aCons (cD (.val (.str "bad"))) aNil))) (aCons (tupE (aCons (cD (.val (.str "fail"))) (aCons (cD (.val (.str "odd"))) aNil))) (aCons (tupE (aCons (cD (.val (.str "back"))) aNil)) aNil)))) (aCons (tupE aNil) aNil)))) aNil)) aNil))) (setV 5))
  (seqS (asgS (tupE (aCons (cD (.val (.str "d"))) (aCons (tupE (aCons (tupE (aCons (tupE (aCons (cD (.val (.str "e"))) aNil)) (aCons (tupE (aCons (tupE (aCons (cD (.val (.str "back"))) aNil)) aNil)) (aCons (tupE (aCons (tupE (aCons (cD (.val (.str "odd"))) (aCons (cD (.val (.int 1))) aNil))) aNil)) aNil)))) (aCons (tupE (aCons (tupE (aCons (cD (.val (.str ""))) (aCons (cD (.val (.str "e"))) aNil))) (aCons (tupE (aCons (tupE (aCons (cD (.val (.str "fail"))) (aCons (cD (.val (.str "back"))) aNil))) aNil)) (aCons (tupE (aCons (tupE (aCons (cD (.val (.str "bad"))) (aCons (cD (.val (.int 1))) aNil))) aNil)) aNil)))) aNil))) aNil))) (setV 6))
  (seqS (dropS (methL appF (gv 2) (aCons (tupE (aCons (tupE (aCons (cD (.val (.str "zz"))) (aCons (tupE (aCons (tupE (aCons (tupE (aCons (cD (.val (.str "d"))) aNil)) (aCons (tupE (aCons (cD (.val (.int 1))) aNil)) (aCons (tupE (aCons (tupE (aCons (cD (.val (.str "bad"))) (aCons (cD (.val (.int 1))) aNil))) (aCons (tupE (aCons (cD (.val (.str ""))) (aCons (cD (.val (.int 0))) aNil))) aNil))) aNil)))) (aCons (tupE (aCons (tupE (aCons (cD (.val (.str ""))) aNil)) (aCons (tupE (aCons (tupE (aCons (cD (.val (.str "back"))) aNil)) aNil)) (aCons (tupE aNil) aNil)))) aNil))) aNil))) (aCons (gv 6) (aCons (gv 5) aNil)))) aNil)))
  (seqS (asgS (tupE (aCons (tupE (aCons (tupE (aCons (cD (.val (.str ""))) aNil)) (aCons (tupE (aCons (tupE (aCons (cD (.val (.str "fail"))) (aCons (cD (.val (.str "bad"))) aNil))) (aCons (tupE (aCons (cD (.val (.str "fail"))) (aCons (cD (.val (.str "odd"))) aNil))) aNil))) (aCons (tupE (aCons (tupE (aCons (cD (.val (.str ""))) (aCons (cD (.val (.int 1))) aNil))) (aCons (tupE (aCons (cD (.val (.str "bad"))) (aCons (cD (.val (.int 0))) aNil))) aNil))) aNil)))) (aCons (tupE (aCons (tupE (aCons (cD (.val (.str ""))) aNil)) (aCons (tupE (aCons (tupE (aCons (cD (.val (.str "back"))) aNil)) aNil)) (aCons (tupE aNil) aNil)))) aNil))) (setV 7))
  (seqS (dropS (methL appF (gv 2) (aCons (tupE (aCons (tupE (aCons (cD (.val (.str "fail"))) (aCons (gv 7) aNil))) aNil)) aNil)))
  (seqS (dropS (methL appF (gv 2) (aCons (tupE (aCons (tupE (aCons (cD (.val (.str "own"))) (aCons (tupE (aCons (tupE (aCons (tupE (aCons (cD (.val (.str ""))) (aCons (cD (.val (.str "own"))) aNil))) (aCons (tupE (aCons (tupE (aCons (cD (.val (.str "fail"))) (aCons (cD (.val (.str "x"))) aNil))) (aCons (tupE (aCons (cD (.val (.str "fail"))) (aCons (cD (.val (.str "y"))) aNil))) (aCons (tupE (aCons (cD (.val (.str "back"))) aNil)) aNil)))) (aCons (tupE (aCons (tupE (aCons (cD (.val (.str "x"))) (aCons (cD (.val (.int 0))) aNil))) aNil)) aNil)))) aNil)) aNil))) aNil)) aNil)))
  (seqS (asgS (tupE (aCons (tupE (aCons (cD (.val (.str ""))) (aCons (cD (.val (.str "deep"))) aNil))) (aCons (tupE (aCons (tupE (aCons (cD (.val (.str "back"))) aNil)) (aCons (tupE (aCons (cD (.val (.str "fail"))) (aCons (cD (.val (.str "bad"))) aNil))) (aCons (tupE (aCons (cD (.val (.str "fail"))) (aCons (cD (.val (.str "odd"))) aNil))) aNil)))) (aCons (tupE (aCons (tupE (aCons (cD (.val (.str "odd"))) (aCons (cD (.val (.int 1))) aNil))) aNil)) aNil)))) (setV 8))
  (seqS (dropS (methL appF (gv 2) (aCons (tupE (aCons (tupE (aCons (cD (.val (.str "deep"))) (aCons (tupE (aCons (gv 8) (aCons (tupE (aCons (tupE (aCons (cD (.val (.str ""))) aNil)) (aCons (tupE (aCons (tupE (aCons (cD (.val (.str "back"))) aNil)) aNil)) (aCons (tupE aNil) aNil)))) aNil))) aNil))) aNil)) aNil)))
  (seqS (asgS (tupE (aCons (cD (.val (.str "q"))) (aCons (tupE (aCons (tupE (aCons (tupE (aCons (cD (.val (.str ""))) (aCons (cD (.val (.str "p"))) aNil))) (aCons (tupE (aCons (tupE (aCons (cD (.val (.str "back"))) aNil)) (aCons (tupE (aCons (cD (.val (.str "fail"))) (aCons (cD (.val (.str "k"))) aNil))) aNil))) (aCons (tupE aNil) aNil)))) aNil)) aNil))) (setV 9))
  (seqS (dropS (methL appF (gv 2) (aCons (tupE (aCons (tupE (aCons (cD (.val (.str "p"))) (aCons (tupE (aCons (tupE (aCons (tupE (aCons (cD (.val (.str "q"))) aNil)) (aCons (tupE (aCons (tupE (aCons (cD (.val (.str "back"))) aNil)) (aCons (cD (.val (.int 0))) aNil))) (aCons (tupE (aCons (tupE (aCons (cD (.val (.str "k"))) (aCons (cD (.val (.int 0))) aNil))) aNil)) aNil)))) aNil)) aNil))) (aCons (gv 9) aNil))) aNil)))
  (retS (gv 2)))))))))))))))))))))
def m__law_hands : List D → M D := fnT 10 b__law_hands
abbrev s__law_great : Stmt := top 13
def b__law_great : B.Env → M Fl :=
  (seqS (asgS (asVal (lstE (aCons (cD (.val (.str "a"))) (aCons (cD (.val (.str "back"))) (aCons (cD (.val (.str "bb"))) (aCons (cD (.val (.str "call"))) (aCons (cD (.val (.str "dddddddd"))) (aCons (cD (.val (.str "fail"))) (aCons (cD (.val (.str "x"))) (aCons (cD (.val (.str "zz"))) aNil)))))))))) (setV 0))
  (seqS (asgS (asVal (lstE (aCons (tupE (aCons (cD (.val (.str "back"))) aNil)) (aCons (tupE (aCons (cD (.val (.str "fail"))) (aCons (cD (.val (.str "k"))) aNil))) aNil)))) (setV 1))
  (seqS (asgS (asObj (lstE aNil)) (setV 2))
  (seqS (forS 100000 (enumA (aCons (gv 0) aNil)) (setT 2 (setsCons (setV 3) (setsCons (setV 4) setsNil))) (killS [3, 4, 5, 6, 7, 8, 9, 10] (seqS (asgS (ifV (tst (op2 eqF (gv 3) (cD (.val (.int 0))))) (cD (.val (.int 12))) (cD (.val (.int 4)))) (setV 5))
  (seqS (asgS (asObj (lstE aNil)) (setV 6))
  (seqS (forS 100000 (rngI (aCons (gv 5) aNil)) (setV 7) (killS [7, 8, 9, 10] (seqS (asgS (ifV (tst (op2 eqF (op2 modF (callF intG (aCons (gv 7) aNil)) (cD (.val (.int 3)))) (cD (.val (.int 0))))) (tupE (aCons (cD (.val (.str ""))) (aCons (op2 ixF (gv 0) (op2 modF (callF intG (aCons (op2 addF (gv 3) (cD (.val (.int 1)))) aNil)) (cD (.val (.int 8))))) aNil))) (tupE (aCons (cD (.val (.str ""))) aNil))) (setV 8))
  (seqS (asgS (ifV (tst (op2 eqF (gv 7) (cD (.val (.int 2))))) (callF tupleF (aCons (gv 0) aNil)) (gv 8)) (setV 8))
  (seqS (asgS (ifV (tst (op2 eqF (op2 modF (callF intG (aCons (gv 7) aNil)) (cD (.val (.int 2)))) (cD (.val (.int 0))))) (op2 addF (asVal (revE (asVal (rgE (gv 5))))) (gv 1)) (op2 addF (asVal (revE (gv 1))) (asVal (lstE (aCons (op2 modF (callF intG (aCons (op2 addF (gv 7) (cD (.val (.int 1)))) aNil)) (gv 5)) aNil))))) (setV 9))
  (seqS (asgS (ifV (tst (op2 eqF (op2 modF (callF intG (aCons (op2 addF (gv 7) (gv 3)) aNil)) (cD (.val (.int 3)))) (cD (.val (.int 0))))) (tupE (aCons (tupE (aCons (cD (.val (.str "bad"))) (aCons (cD (.val (.int 0))) aNil))) (aCons (tupE (aCons (cD (.val (.str "k"))) (aCons (op2 modF (callF intG (aCons (op2 addF (gv 7) (cD (.val (.int 2)))) aNil)) (gv 5)) aNil))) (aCons (tupE (aCons (cD (.val (.str "odd"))) (aCons (cD (.val (.int 1))) aNil))) (aCons (tupE (aCons (cD (.val (.str ""))) (aCons (cD (.val (.int 2))) aNil))) aNil))))) (tupE aNil)) (setV 10))
  (dropS (methL appF (gv 6) (aCons (tupE (aCons (gv 8) (aCons (callF tupleF (aCons (gv 9) aNil)) (aCons (gv 10) aNil)))) aNil)))))))))
  (dropS (methL appF (gv 2) (aCons (tupE (aCons (gv 4) (aCons (callF tupleF (aCons (gv 6) aNil)) aNil))) aNil))))))))
  (retS (callF tupleF (aCons (gv 2) aNil)))))))
def m__law_great : List D → M D := fnT 11 b__law_great
abbrev s__law_merged : Stmt := top 17
def b__law_merged : B.Env → M Fl :=
  (forS 100000 (itemsN (gv 1)) (setT 2 (setsCons (setV 3) (setsCons (setV 4) setsNil))) (killS [3, 4] (dputN (gv 0) (gv 3) (op2 addF (get2N (gv 0) (gv 3) (cD (.val (.int 0)))) (op2 mulW (gv 4) (gv 2))))))
def m__law_merged : List D → M D := fnOf 5 b__law_merged
abbrev s_Counts_behind_fault : Stmt := clsDef (top 5) 3
def b_Counts_behind_fault : B.Env → M Fl :=
  (seqS (asgS (callF m_handler_line (aCons (op2 ixF (op2 dgetN (fldE "Counts" "line_table" (gv 0)) (gv 1)) (cD (.val (.int 2)))) (aCons (op2 ixF (gv 2) (cD (.val (.int 1)))) aNil))) (setV 4))
  (seqS (ifS (tst (op2 geF (gv 4) (cD (.val (.int 0))))) (retS (op2 dgetM (fldE "Counts" "at_call" (gv 0)) (tupE (aCons (tupE (aCons (op2 ixF (gv 1) (cD (.val (.int 0)))) (aCons (gv 4) aNil))) (aCons (gv 3) aNil))))) nxS)
  (retS (callF m_over_if (aCons (gv 2) (aCons (gv 3) aNil))))))
def m_Counts_behind_fault : List D → M D := fnT 5 b_Counts_behind_fault
abbrev s__law_any : Stmt := top 10
def b__law_any : B.Env → M Fl :=
  (retS (op2 ixF (gv 1) (callF m__law_draw (aCons (gv 0) (aCons (callF lenF (aCons (gv 1) aNil)) aNil)))))
def m__law_any : List D → M D := fnOf 2 b__law_any
abbrev s__law_end_into : Stmt := top 18
def b__law_end_into : B.Env → M Fl :=
  (seqS (ifS (tst (op2 eqF (gv 4) (tupE (aCons (cD (.val (.str "back"))) aNil)))) (seqS (dropS (callF m__law_merged (aCons (gv 0) (aCons (op2 ixRF (op2 dgetM (gv 2) (tupE (aCons (gv 3) (aCons (cD (.val (.bool true))) aNil)))) (gv 5)) (aCons (gv 6) aNil)))))
  (retS (cD (.val .none)))) nxS)
  (seqS (forS 100000 (anyI (op2 ixF (callF m__law_line (aCons (gv 1) (aCons (gv 3) aNil))) (cD (.val (.int 2))))) (setT 2 (setsCons (setV 7) (setsCons (setV 8) setsNil))) (killS [7, 8] (ifS (tst (op2 (inF false) (gv 7) (tupE (aCons (cD (.val (.str ""))) (aCons (op2 ixF (gv 4) (cD (.val (.int 1)))) aNil))))) (seqS (dropS (callF m__law_merged (aCons (gv 0) (aCons (op2 ixRF (op2 dgetM (gv 2) (tupE (aCons (tupE (aCons (op2 ixF (gv 3) (cD (.val (.int 0)))) (aCons (gv 8) aNil))) (aCons (cD (.val (.bool false))) aNil)))) (gv 5)) (aCons (gv 6) aNil)))))
  (retS (cD (.val .none)))) nxS)))
  (seqS (ifS (tst (op2 eqF (gv 5) (cD (.val (.int 0))))) (dputN (gv 0) (gv 4) (op2 addF (get2N (gv 0) (gv 4) (cD (.val (.int 0)))) (gv 6))) nxS)
  (retS (cD (.val .none))))))
def m__law_end_into : List D → M D := fnOf 9 b__law_end_into
abbrev s_Counts_behind_call : Stmt := clsDef (top 5) 2
def b_Counts_behind_call : B.Env → M Fl :=
  (seqS (ifS (tst (op2 eqF (gv 2) (cD (.val (.int 0))))) (retS (dispV (pCons (tupE aNil) (cD (.val (.int 1))) pNil))) nxS)
  (seqS (asgS dNewN (setV 3))
  (seqS (forS 100000 (anyI (op2 ixF (op2 dgetN (fldE "Counts" "line_table" (gv 0)) (gv 1)) (cD (.val (.int 1))))) (setV 4) (killS [4, 5, 6, 7] (seqS (ifS (truT (callF isiF (aCons (gv 4) (aCons (cD (.cst (.ty "int"))) aNil)))) (asgS (op2 dgetM (fldE "Counts" "at_call" (gv 0)) (tupE (aCons (tupE (aCons (op2 ixF (gv 1) (cD (.val (.int 0)))) (aCons (gv 4) aNil))) (aCons (op2 subF (gv 2) (cD (.val (.int 1)))) aNil)))) (setV 5)) (ifS (tst (op2 eqF (gv 4) (tupE (aCons (cD (.val (.str "back"))) aNil)))) (asgS (callF m_over_if (aCons (gv 4) (aCons (op2 subF (gv 2) (cD (.val (.int 1)))) aNil))) (setV 5)) (asgS (methF "Counts" "behind_fault" m_Counts_behind_fault (gv 0) (aCons (gv 1) (aCons (gv 4) (aCons (op2 subF (gv 2) (cD (.val (.int 1)))) aNil)))) (setV 5))))
  (forS 100000 (itemsN (gv 5)) (setT 2 (setsCons (setV 6) (setsCons (setV 7) setsNil))) (killS [6, 7] (dropS (callF m_add_to (aCons (gv 3) (aCons (gv 6) (aCons (gv 7) aNil))))))))))
  (retS (lockE (gv 3))))))
def m_Counts_behind_call : List D → M D := fnT 8 b_Counts_behind_call
abbrev s_Counts_behind_frame : Stmt := clsDef (top 5) 6
def b_Counts_behind_frame : B.Env → M Fl :=
  (seqS (ifS (tst (op2 eqF (gv 2) (tupE (aCons (cD (.val (.str "back"))) aNil)))) (retS (op2 dgetM (fldE "Counts" "at_way" (gv 0)) (tupE (aCons (gv 1) (aCons (gv 3) aNil))))) nxS)
  (retS (methF "Counts" "behind_fault" m_Counts_behind_fault (gv 0) (aCons (gv 1) (aCons (gv 2) (aCons (gv 3) aNil))))))
def m_Counts_behind_frame : List D → M D := fnT 4 b_Counts_behind_frame
abbrev s__law_calls : Stmt := top 14
def b__law_calls : B.Env → M Fl :=
  (seqS (asgS (callF m__law_draw (aCons (gv 0) (aCons (cD (.val (.int 9))) aNil))) (setV 2))
  (seqS (asgS (callF m__law_any (aCons (gv 0) (aCons (gv 1) aNil))) (setV 3))
  (seqS (ifS (tst (op2 ltF (gv 2) (cD (.val (.int 3))))) (retS (tupE (aCons (cD (.val (.str ""))) aNil))) nxS)
  (seqS (ifS (tst (op2 ltF (gv 2) (cD (.val (.int 5))))) (retS (tupE (aCons (gv 3) aNil))) nxS)
  (seqS (ifS (tst (op2 ltF (gv 2) (cD (.val (.int 7))))) (retS (tupE (aCons (cD (.val (.str ""))) (aCons (gv 3) aNil)))) nxS)
  (retS (callF tupleF (aCons (asVal (callFF sortF (aCons (ifV (tst (op2 eqF (gv 2) (cD (.val (.int 7))))) (gv 1) (op2 addF (gv 1) (asVal (lstE (aCons (cD (.val (.str ""))) aNil))))) aNil))) aNil))))))))
def m__law_calls : List D → M D := fnOf 4 b__law_calls
abbrev s__law_due_cell : Stmt := top 19
def b__law_due_cell : B.Env → M Fl :=
  (seqS (asgS dNewN (setV 4))
  (seqS (forS 100000 (anyI (op2 ixF (callF m__law_line (aCons (gv 0) (aCons (gv 2) aNil))) (cD (.val (.int 1))))) (setV 5) (killS [5] (ifS (notT (truT (callF isiF (aCons (gv 5) (aCons (cD (.cst (.ty "tuple"))) aNil))))) (dropS (callF m__law_merged (aCons (gv 4) (aCons (op2 ixRF (op2 dgetM (gv 1) (tupE (aCons (tupE (aCons (op2 ixF (gv 2) (cD (.val (.int 0)))) (aCons (gv 5) aNil))) (aCons (cD (.val (.bool false))) aNil)))) (op2 subF (gv 3) (cD (.val (.int 1))))) (aCons (cD (.val (.int 1))) aNil))))) (ifS (tst (op2 neF (gv 5) (tupE (aCons (cD (.val (.str "back"))) aNil)))) (dropS (callF m__law_end_into (aCons (gv 4) (aCons (gv 0) (aCons (gv 1) (aCons (gv 2) (aCons (gv 5) (aCons (op2 subF (gv 3) (cD (.val (.int 1)))) (aCons (cD (.val (.int 1))) aNil))))))))) (ifS (tst (op2 eqF (gv 3) (cD (.val (.int 1))))) (dputN (gv 4) (gv 5) (op2 addF (get2N (gv 4) (gv 5) (cD (.val (.int 0)))) (cD (.val (.int 1))))) nxS)))))
  (retS (lockE (gv 4)))))
def m__law_due_cell : List D → M D := fnT 6 b__law_due_cell
abbrev s__law_call_cell : Stmt := top 20
def b__law_call_cell : B.Env → M Fl :=
  (seqS (asgS dNewN (setV 4))
  (seqS (forS 100000 (anyI (op2 ixF (callF m__law_line (aCons (gv 0) (aCons (gv 2) aNil))) (cD (.val (.int 0))))) (setV 5) (killS [5, 6, 7, 8, 9] (seqS (ifS (tst (op2 eqF (gv 5) (cD (.val (.str ""))))) (seqS (dropS (callF m__law_merged (aCons (gv 4) (aCons (op2 ixRF (op2 dgetM (gv 1) (tupE (aCons (gv 2) (aCons (cD (.val (.bool true))) aNil)))) (op2 subF (gv 3) (cD (.val (.int 1))))) (aCons (cD (.val (.int 1))) aNil)))))
  ctS) nxS)
  (seqS (asgS (op2 dgetM (gv 1) (tupE (aCons (tupE (aCons (gv 5) (aCons (cD (.val (.int 0))) aNil))) (aCons (cD (.val (.bool false))) aNil)))) (setV 6))
  (seqS (dputN (gv 4) (tupE aNil) (op2 addF (get2N (gv 4) (tupE aNil) (cD (.val (.int 0)))) (get2N (op2 ixRF (gv 6) (op2 subF (gv 3) (cD (.val (.int 1))))) (tupE aNil) (cD (.val (.int 0))))))
  (forS 100000 (rng2I (aCons (cD (.val (.int 1))) (aCons (gv 3) aNil))) (setV 7) (killS [7, 8, 9] (forS 100000 (itemsN (op2 ixRF (gv 6) (gv 7))) (setT 2 (setsCons (setV 8) (setsCons (setV 9) setsNil))) (killS [8, 9] (ifS (tst (op2 neF (gv 8) (tupE aNil))) (dropS (callF m__law_end_into (aCons (gv 4) (aCons (gv 0) (aCons (gv 1) (aCons (gv 2) (aCons (gv 8) (aCons (op2 subF (op2 subF (gv 3) (cD (.val (.int 1)))) (gv 7)) (aCons (gv 9) aNil))))))))) nxS))))))))))
  (retS (lockE (gv 4)))))
def m__law_call_cell : List D → M D := fnT 10 b__law_call_cell
abbrev s_Counts_add_call : Stmt := clsDef (top 5) 5
def b_Counts_add_call : B.Env → M Fl :=
  (forS 100000 (rngI (aCons (op2 addF (gv 3) (cD (.val (.int 1)))) aNil)) (setV 5) (killS [5, 6, 7, 8, 9] (forS 100000 (itemsN (op2 dgetM (fldE "Counts" "at_call" (gv 0)) (tupE (aCons (tupE (aCons (gv 2) (aCons (cD (.val (.int 0))) aNil))) (aCons (gv 5) aNil))))) (setT 2 (setsCons (setV 6) (setsCons (setV 7) setsNil))) (killS [6, 7, 8, 9] (killS [8, 9] (ifS (tst (op2 eqF (gv 6) (tupE aNil))) (ifS (tst (op2 eqF (gv 5) (gv 3))) (dropS (callF m_add_to (aCons (gv 4) (aCons (tupE aNil) (aCons (gv 7) aNil))))) nxS) (forS 100000 (itemsN (methF "Counts" "behind_frame" m_Counts_behind_frame (gv 0) (aCons (gv 1) (aCons (gv 6) (aCons (op2 subF (gv 3) (gv 5)) aNil))))) (setT 2 (setsCons (setV 8) (setsCons (setV 9) setsNil))) (killS [8, 9] (dropS (callF m_add_to (aCons (gv 4) (aCons (gv 8) (aCons (op2 mulW (gv 7) (gv 9)) aNil)))))))))))))
def m_Counts_add_call : List D → M D := fnOf 10 b_Counts_add_call
abbrev s__law_function : Stmt := top 15
def b__law_function : B.Env → M Fl :=
  (seqS (asgS (op2 addF (cD (.val (.int 1))) (callF m__law_draw (aCons (gv 0) (aCons (cD (.val (.int 5))) aNil)))) (setV 3))
  (seqS (asgS (op2 addF (asVal (lstE (aCons (tupE (aCons (cD (.val (.str "back"))) aNil)) (aCons (tupE (aCons (cD (.val (.str "fail"))) (aCons (callF m__law_any (aCons (gv 0) (aCons (asVal (lstE (aCons (cD (.val (.str "bad"))) (aCons (cD (.val (.str "odd"))) (aCons (cD (.val (.str "back"))) aNil))))) aNil))) aNil))) (aCons (tupE (aCons (cD (.val (.str "fail"))) (aCons (cD (.val (.str "k"))) aNil))) aNil))))) (asVal (rgE (gv 3)))) (setV 4))
  (seqS (asgS (asObj (lstE aNil)) (setV 5))
  (seqS (forS 100000 (rngI (aCons (gv 3) aNil)) (setV 6) (killS [6, 7, 8, 9, 10, 11] (seqS (asgS (asObj (lstE (aCons (callF m__law_any (aCons (gv 0) (aCons (gv 4) aNil))) aNil))) (setV 7))
  (seqS (forS 100000 (rngI (aCons (callF m__law_draw (aCons (gv 0) (aCons (cD (.val (.int 3))) aNil))) aNil)) (setV 8) (killS [8, 9] (seqS (asgS (callF m__law_any (aCons (gv 0) (aCons (gv 4) aNil))) (setV 9))
  (ifS (tst (op2 (inF true) (gv 9) (gv 7))) (dropS (methL appF (gv 7) (aCons (gv 9) aNil))) nxS))))
  (seqS (asgS (asVal (lstE (aCons (tupE aNil) (aCons (tupE aNil) (aCons (tupE (aCons (cD (.val (.str "bad"))) aNil)) (aCons (tupE (aCons (cD (.val (.str ""))) aNil)) (aCons (tupE (aCons (cD (.val (.str "odd"))) (aCons (cD (.val (.str "bad"))) aNil))) (aCons (tupE (aCons (cD (.val (.str ""))) (aCons (cD (.val (.str "bad"))) aNil))) (aCons (tupE (aCons (cD (.val (.str "bad"))) (aCons (cD (.val (.str ""))) aNil))) (aCons (tupE (aCons (cD (.val (.str "back"))) (aCons (cD (.val (.str "odd"))) (aCons (cD (.val (.str ""))) (aCons (cD (.val (.str "bad"))) aNil))))) aNil)))))))))) (setV 10))
  (seqS (asgS (obV false (lcS 100000 [12] (anyI (callF m__law_any (aCons (gv 0) (aCons (gv 10) aNil)))) (setV 12) yesT (tupE (aCons (gv 12) (aCons (callF m__law_draw (aCons (gv 0) (aCons (gv 3) aNil))) aNil))))) (setV 11))
  (dropS (methL appF (gv 5) (aCons (tupE (aCons (callF m__law_calls (aCons (gv 0) (aCons (gv 2) aNil))) (aCons (callF tupleF (aCons (gv 7) aNil)) (aCons (callF tupleF (aCons (gv 11) aNil)) aNil)))) aNil)))))))))
  (retS (tupE (aCons (gv 1) (aCons (callF tupleF (aCons (gv 5) aNil)) aNil))))))))
def m__law_function : List D → M D := fnT 13 b__law_function
abbrev s__law_counts : Stmt := top 21
def b__law_counts : B.Env → M Fl :=
  (seqS (parN [2, 3] (aCons (asObj (lstE aNil)) (aCons dNewM aNil)))
  (seqS (forS 100000 (anyI (gv 0)) (setT 2 (setsCons (setV 4) (setsCons (setV 5) setsNil))) (killS [4, 5, 6] (forS 100000 (rngI (aCons (callF lenF (aCons (gv 5) aNil)) aNil)) (setV 6) (killS [6] (seqS (dropS (methL appF (gv 2) (aCons (tupE (aCons (gv 4) (aCons (gv 6) aNil))) aNil)))
  (seqS (dputM (gv 3) (tupE (aCons (tupE (aCons (gv 4) (aCons (gv 6) aNil))) (aCons (cD (.val (.bool false))) aNil))) (newLr (aCons (dispV (pCons (tupE aNil) (cD (.val (.int 1))) pNil)) aNil)))
  (dputM (gv 3) (tupE (aCons (tupE (aCons (gv 4) (aCons (gv 6) aNil))) (aCons (cD (.val (.bool true))) aNil))) (newLr (aCons (dispV (pCons (tupE aNil) (cD (.val (.int 1))) pNil)) aNil)))))))))
  (seqS (killS [10] (forS 100000 (rng2I (aCons (cD (.val (.int 1))) (aCons (op2 addF (gv 1) (cD (.val (.int 1)))) aNil))) (setV 7) (killS [6, 7, 8, 9] (seqS (asgS (lrObj (lcSR 100000 [10] (anyI (gv 2)) (setV 10) yesT (callF m__law_call_cell (aCons (gv 0) (aCons (gv 3) (aCons (gv 10) (aCons (gv 7) aNil))))))) (setV 8))
  (seqS (asgS (lrObj (lcSR 100000 [10] (anyI (gv 2)) (setV 10) yesT (callF m__law_due_cell (aCons (gv 0) (aCons (gv 3) (aCons (gv 10) (aCons (gv 7) aNil))))))) (setV 9))
  (forX 100000 (enI (aCons (gv 2) aNil)) (setT 2 (setsCons (setV 6) (setsCons (setV 10) setsNil))) (killS [6] (seqS (dropS (methR appQ (op2 dgetM (gv 3) (tupE (aCons (gv 10) (aCons (cD (.val (.bool false))) aNil)))) (aCons (op2 ixRF (gv 8) (gv 6)) aNil)))
  (dropS (methR appQ (op2 dgetM (gv 3) (tupE (aCons (gv 10) (aCons (cD (.val (.bool true))) aNil)))) (aCons (op2 ixRF (gv 9) (gv 6)) aNil)))))))))))
  (retS (asVal (lcSX 100000 [11] (lrI (op2 dgetM (gv 3) (tupE (aCons (tupE (aCons (op2 ixF (op2 ixF (gv 0) (cD (.val (.int 0)))) (cD (.val (.int 0)))) (aCons (cD (.val (.int 0))) aNil))) (aCons (cD (.val (.bool false))) aNil))))) (setV 11) yesT (callF sumF (aCons (asVal (valsN (gv 11))) aNil))))))))
def m__law_counts : List D → M D := fnT 12 b__law_counts
abbrev s_Counts_from_spot : Stmt := clsDef (top 5) 4
def b_Counts_from_spot : B.Env → M Fl :=
  (seqS (ifS (tst (op2 eqF (gv 2) (cD (.val (.int 0))))) (retS (dispV (pCons (tupE aNil) (cD (.val (.int 1))) pNil))) nxS)
  (seqS (asgS dNewN (setV 3))
  (seqS (forS 100000 (anyI (op2 ixF (op2 dgetN (fldE "Counts" "line_table" (gv 0)) (gv 1)) (cD (.val (.int 0))))) (setV 4) (killS [4, 5, 6] (killS [5, 6] (ifS (tst (op2 eqF (gv 4) (cD (.val (.str ""))))) (forS 100000 (itemsN (op2 dgetM (fldE "Counts" "at_way" (gv 0)) (tupE (aCons (gv 1) (aCons (op2 subF (gv 2) (cD (.val (.int 1)))) aNil))))) (setT 2 (setsCons (setV 5) (setsCons (setV 6) setsNil))) (killS [5, 6] (dropS (callF m_add_to (aCons (gv 3) (aCons (gv 5) (aCons (gv 6) aNil))))))) (dropS (methF "Counts" "add_call" m_Counts_add_call (gv 0) (aCons (gv 1) (aCons (gv 4) (aCons (op2 subF (gv 2) (cD (.val (.int 1)))) (aCons (gv 3) aNil))))))))))
  (retS (lockE (gv 3))))))
def m_Counts_from_spot : List D → M D := fnT 7 b_Counts_from_spot
abbrev s__law_program : Stmt := top 16
def b__law_program : B.Env → M Fl :=
  (seqS (ifS (tst (op2 eqF (callF m__law_draw (aCons (gv 0) (aCons (cD (.val (.int 2))) aNil))) (cD (.val (.int 0))))) (retS (callF m__law_any (aCons (gv 0) (aCons (callF m__law_hands aNil) aNil)))) nxS)
  (seqS (asgS (asVal (lstE (aCons (tupE (aCons (cD (.val (.str "main"))) (aCons (cD (.val (.str "f"))) (aCons (cD (.val (.str "g"))) (aCons (cD (.val (.str "h"))) aNil))))) (aCons (tupE (aCons (cD (.val (.str "z"))) (aCons (cD (.val (.str "a"))) (aCons (cD (.val (.str "zz"))) (aCons (cD (.val (.str "back"))) aNil))))) (aCons (tupE (aCons (cD (.val (.str "fail"))) (aCons (cD (.val (.str "life"))) (aCons (cD (.val (.str "b"))) (aCons (cD (.val (.str "aaaaaaaa"))) aNil))))) aNil))))) (setV 1))
  (seqS (asgS (asVal (callFF listF (aCons (slF (callF m__law_any (aCons (gv 0) (aCons (gv 1) aNil))) oNone (oSome (op2 addF (cD (.val (.int 1))) (callF m__law_draw (aCons (gv 0) (aCons (cD (.val (.int 4))) aNil)))))) aNil))) (setV 2))
  (retS (callF tupleF (aCons (asVal (lcS 100000 [3] (anyI (gv 2)) (setV 3) yesT (callF m__law_function (aCons (gv 0) (aCons (gv 3) (aCons (gv 2) aNil)))))) aNil))))))
def m__law_program : List D → M D := fnOf 4 b__law_program
abbrev s_Counts_fill : Stmt := clsDef (top 5) 1
def b_Counts_fill : B.Env → M Fl :=
  (forS 100000 (rngI (aCons (op2 addF (gv 1) (cD (.val (.int 1)))) aNil)) (setV 2) (killS [2, 3] (forS 100000 (anyI (asVal (callFF listN (aCons (fldE "Counts" "line_table" (gv 0)) aNil)))) (setV 3) (killS [3] (seqS (dputM (fldE "Counts" "at_way" (gv 0)) (tupE (aCons (gv 3) (aCons (gv 2) aNil))) (methF "Counts" "behind_call" m_Counts_behind_call (gv 0) (aCons (gv 3) (aCons (gv 2) aNil))))
  (dputM (fldE "Counts" "at_call" (gv 0)) (tupE (aCons (gv 3) (aCons (gv 2) aNil))) (methF "Counts" "from_spot" m_Counts_from_spot (gv 0) (aCons (gv 3) (aCons (gv 2) aNil)))))))))
def m_Counts_fill : List D → M D := fnOf 4 b_Counts_fill
abbrev s_how_many_runs : Stmt := top 6
def b_how_many_runs : B.Env → M Fl :=
  (seqS (asgS (mkF "Counts" [] m_Counts___init__ (aCons (gv 0) aNil)) (setV 2))
  (seqS (dropS (methF "Counts" "fill" m_Counts_fill (gv 2) (aCons (gv 1) aNil)))
  (retS (callF sumF (aCons (asVal (valsN (op2 dgetM (fldE "Counts" "at_call" (gv 2)) (tupE (aCons (tupE (aCons (op2 ixF (op2 ixF (gv 0) (cD (.val (.int 0)))) (cD (.val (.int 0)))) (aCons (cD (.val (.int 0))) aNil))) (aCons (gv 1) aNil)))))) aNil)))))
def m_how_many_runs : List D → M D := fnT 3 b_how_many_runs
abbrev s__law_right : Stmt := top 22
def b__law_right : B.Env → M Fl :=
  (seqS (asgS (callF m__law_counts (aCons (gv 1) (aCons (gv 2) aNil))) (setV 3))
  (seqS (forS 100000 (anyI (tupE (aCons (gv 2) (aCons (op2 subF (gv 2) (cD (.val (.int 1)))) (aCons (callF m__law_draw (aCons (gv 0) (aCons (op2 addF (gv 2) (cD (.val (.int 1)))) aNil))) (aCons (gv 2) aNil)))))) (setV 4) (killS [4] (ifS (tst (op2 neF (callF reprF (aCons (callF m_how_many_runs (aCons (gv 1) (aCons (gv 4) aNil))) aNil)) (callF reprF (aCons (op2 ixF (gv 3) (gv 4)) aNil)))) (retS (cD (.val (.bool false)))) nxS)))
  (retS (op2 eqF (callF reprF (aCons (callKw [1, 0] m_how_many_runs aNil (aCons (gv 2) (aCons (gv 1) aNil))) aNil)) (callF reprF (aCons (op2 ixF (gv 3) (gv 2)) aNil))))))
def m__law_right : List D → M D := fnOf 5 b__law_right
abbrev s_law : Stmt := top 23
def b_law : B.Env → M Fl :=
  (seqS (asgS (callF m__law_feed (aCons (gv 0) aNil)) (setV 1))
  (seqS (asgS (asVal (lstE (aCons (callF m__law_program (aCons (gv 1) aNil)) (aCons (callF m__law_program (aCons (gv 1) aNil)) (aCons (callF m__law_any (aCons (gv 1) (aCons (callF m__law_hands aNil) aNil))) aNil))))) (setV 2))
  (seqS (forS 100000 (anyI (gv 2)) (setV 3) (killS [3, 4, 5] (seqS (parN [4, 5] (aCons (op2 ixF (asVal (lstE (aCons (cD (.val (.int 3))) (aCons (cD (.val (.int 5))) (aCons (cD (.val (.int 8))) (aCons (cD (.val (.int 8))) (aCons (cD (.val (.int 12))) (aCons (cD (.val (.int 20))) aNil)))))))) (callF m__law_draw (aCons (gv 1) (aCons (cD (.val (.int 6))) aNil)))) (aCons (callF reprF (aCons (gv 3) aNil)) aNil)))
  (seqS (ifS (tst (op2 gtF (callF sumF (aCons (asVal (lcS 100000 [7, 8] (anyI (gv 3)) (setT 2 (setsCons (setV 7) (setsCons (setV 8) setsNil))) yesT (callF lenF (aCons (gv 8) aNil)))) aNil)) (cD (.val (.int 6))))) (asgS (callF min2F (aCons (gv 4) (aCons (cD (.val (.int 8))) aNil))) (setV 4)) nxS)
  (ifS (orT (notT (truT (callF m__law_right (aCons (gv 1) (aCons (gv 3) (aCons (gv 4) aNil)))))) (tst (op2 neF (callF reprF (aCons (gv 3) aNil)) (gv 5)))) (retS (cD (.val (.bool false)))) nxS)))))
  (seqS (ifS (andT (tst (op2 eqF (callF m__law_draw (aCons (gv 1) (aCons (cD (.val (.int 8))) aNil))) (cD (.val (.int 0))))) (notT (truT (callF m__law_right (aCons (gv 1) (aCons (callF m__law_great aNil) (aCons (cD (.val (.int 5))) aNil))))))) (retS (cD (.val (.bool false)))) nxS)
  (seqS (asgS (tupE (aCons (tupE (aCons (cD (.val (.str "two"))) (aCons (tupE (aCons (tupE (aCons (tupE (aCons (cD (.val (.str ""))) aNil)) (aCons (tupE (aCons (cD (.val (.int 0))) (aCons (tupE (aCons (cD (.val (.str "back"))) aNil)) (aCons (tupE (aCons (cD (.val (.str "fail"))) (aCons (cD (.val (.str "k"))) aNil))) aNil)))) (aCons (tupE (aCons (tupE (aCons (cD (.val (.str "k"))) (aCons (cD (.val (.int 0))) aNil))) aNil)) aNil)))) aNil)) aNil))) aNil)) (setV 6))
  (retS (op2 eqF (asVal (lcS 100000 [9] (anyI (tupE (aCons (cD (.val (.int 0))) (aCons (cD (.val (.int 1))) (aCons (cD (.val (.int 2))) (aCons (cD (.val (.int 3))) (aCons (cD (.val (.int 20))) aNil))))))) (setV 9) yesT (callF m_how_many_runs (aCons (gv 6) (aCons (gv 9) aNil))))) (asVal (lstE (aCons (cD (.val (.int 1))) (aCons (cD (.val (.int 1))) (aCons (cD (.val (.int 3))) (aCons (cD (.val (.int 2))) (aCons (cD (.val (.int 1536))) aNil))))))))))))))
def m_law : List D → M D := fnT 10 b_law
end Yk22
namespace Yk22
open PySem L2 B
variable [Gd]
structure DefAt (K : W.Frag) (mg : Str → Option Value) (x : Str) (st : Stmt) (f : Addr) (fd : FuncData) (ps : List Str) : Prop where
  F : Fun K x x st f fd
  g : mg x = some (.ref f)
  b : L2.Binds K fd ps []
structure MethAt (K : W.Frag) (C : Addr) (x q : Str) (st : Stmt) (f : Addr) (fd : FuncData) (ps : List Str) : Prop where
  F : Fun K x q st f fd
  m : Meth K C x f
  b : L2.Binds K fd ps []
structure InitAt (K : W.Frag) (C : Addr) (q : Str) (st : Stmt) (dvs : List V) (f : Addr) (fd : FuncData) (ps : List Str) : Prop where
  F : FunW K "__init__" q st dvs f fd
  m : Mk K C f
  b : ∃ ds, Vals dvs ds ∧ L2.Binds K fd ps ds
structure Txt (P : Program) (K : W.Frag) (mg : Str → Option Value) : Type where
  a_Counts : Addr
  g_Counts : mg "Counts" = some (.ref a_Counts)
  c_Counts : Cls K a_Counts
  no_Counts_at_call : NoAttr K a_Counts "at_call"
  no_Counts_at_way : NoAttr K a_Counts "at_way"
  no_Counts_line_table : NoAttr K a_Counts "line_table"
  a_handler_line : Addr
  d_handler_line : FuncData
  p_handler_line : DefAt K mg "handler_line" s_handler_line a_handler_line d_handler_line ["handlers", "kind"]
  a_add_to : Addr
  d_add_to : FuncData
  p_add_to : DefAt K mg "add_to" s_add_to a_add_to d_add_to ["totals", "outcome", "many"]
  a_over_if : Addr
  d_over_if : FuncData
  p_over_if : DefAt K mg "over_if" s_over_if a_over_if d_over_if ["end", "left"]
  a_Counts___init__ : Addr
  d_Counts___init__ : FuncData
  p_Counts___init__ : InitAt K a_Counts "Counts.__init__" s_Counts___init__ [] a_Counts___init__ d_Counts___init__ ["self", "program"]
  a__law_feed : Addr
  d__law_feed : FuncData
  p__law_feed : DefAt K mg "_law_feed" s__law_feed a__law_feed d__law_feed ["_law_script"]
  a__law_draw : Addr
  d__law_draw : FuncData
  p__law_draw : DefAt K mg "_law_draw" s__law_draw a__law_draw d__law_draw ["_law_feed_here", "_law_many"]
  a__law_line : Addr
  d__law_line : FuncData
  p__law_line : DefAt K mg "_law_line" s__law_line a__law_line d__law_line ["_law_prog", "_law_spot"]
  a__law_hands : Addr
  d__law_hands : FuncData
  p__law_hands : DefAt K mg "_law_hands" s__law_hands a__law_hands d__law_hands []
  a__law_great : Addr
  d__law_great : FuncData
  p__law_great : DefAt K mg "_law_great" s__law_great a__law_great d__law_great []
  a__law_merged : Addr
  d__law_merged : FuncData
  p__law_merged : DefAt K mg "_law_merged" s__law_merged a__law_merged d__law_merged ["_law_cell", "_law_more", "_law_times"]
  a_Counts_behind_fault : Addr
  d_Counts_behind_fault : FuncData
  p_Counts_behind_fault : MethAt K a_Counts "behind_fault" "Counts.behind_fault" s_Counts_behind_fault a_Counts_behind_fault d_Counts_behind_fault ["self", "spot", "end", "left"]
  a__law_any : Addr
  d__law_any : FuncData
  p__law_any : DefAt K mg "_law_any" s__law_any a__law_any d__law_any ["_law_feed_here", "_law_some"]
  a__law_end_into : Addr
  d__law_end_into : FuncData
  p__law_end_into : DefAt K mg "_law_end_into" s__law_end_into a__law_end_into d__law_end_into ["_law_cell", "_law_prog", "_law_tables", "_law_spot", "_law_end", "_law_left", "_law_times"]
  a_Counts_behind_call : Addr
  d_Counts_behind_call : FuncData
  p_Counts_behind_call : MethAt K a_Counts "behind_call" "Counts.behind_call" s_Counts_behind_call a_Counts_behind_call d_Counts_behind_call ["self", "spot", "many"]
  a_Counts_behind_frame : Addr
  d_Counts_behind_frame : FuncData
  p_Counts_behind_frame : MethAt K a_Counts "behind_frame" "Counts.behind_frame" s_Counts_behind_frame a_Counts_behind_frame d_Counts_behind_frame ["self", "spot", "end", "left"]
  a__law_calls : Addr
  d__law_calls : FuncData
  p__law_calls : DefAt K mg "_law_calls" s__law_calls a__law_calls d__law_calls ["_law_feed_here", "_law_titles"]
  a__law_due_cell : Addr
  d__law_due_cell : FuncData
  p__law_due_cell : DefAt K mg "_law_due_cell" s__law_due_cell a__law_due_cell d__law_due_cell ["_law_prog", "_law_tables", "_law_spot", "_law_n"]
  a__law_call_cell : Addr
  d__law_call_cell : FuncData
  p__law_call_cell : DefAt K mg "_law_call_cell" s__law_call_cell a__law_call_cell d__law_call_cell ["_law_prog", "_law_tables", "_law_spot", "_law_n"]
  a_Counts_add_call : Addr
  d_Counts_add_call : FuncData
  p_Counts_add_call : MethAt K a_Counts "add_call" "Counts.add_call" s_Counts_add_call a_Counts_add_call d_Counts_add_call ["self", "spot", "name", "many", "totals"]
  a__law_function : Addr
  d__law_function : FuncData
  p__law_function : DefAt K mg "_law_function" s__law_function a__law_function d__law_function ["_law_feed_here", "_law_title", "_law_titles"]
  a__law_counts : Addr
  d__law_counts : FuncData
  p__law_counts : DefAt K mg "_law_counts" s__law_counts a__law_counts d__law_counts ["_law_prog", "_law_most"]
  a_Counts_from_spot : Addr
  d_Counts_from_spot : FuncData
  p_Counts_from_spot : MethAt K a_Counts "from_spot" "Counts.from_spot" s_Counts_from_spot a_Counts_from_spot d_Counts_from_spot ["self", "spot", "many"]
  a__law_program : Addr
  d__law_program : FuncData
  p__law_program : DefAt K mg "_law_program" s__law_program a__law_program d__law_program ["_law_feed_here"]
  a_Counts_fill : Addr
  d_Counts_fill : FuncData
  p_Counts_fill : MethAt K a_Counts "fill" "Counts.fill" s_Counts_fill a_Counts_fill d_Counts_fill ["self", "count"]
  a_how_many_runs : Addr
  d_how_many_runs : FuncData
  p_how_many_runs : DefAt K mg "how_many_runs" s_how_many_runs a_how_many_runs d_how_many_runs ["program", "count"]
  a__law_right : Addr
  d__law_right : FuncData
  p__law_right : DefAt K mg "_law_right" s__law_right a__law_right d__law_right ["_law_feed_here", "_law_prog", "_law_many"]
  a_law : Addr
  d_law : FuncData
  p_law : DefAt K mg "law" s_law a_law d_law ["_law_script"]
  n_dict : mg "dict" = none
  n_enumerate : mg "enumerate" = none
  n_int : mg "int" = none
  n_isinstance : mg "isinstance" = none
  n_len : mg "len" = none
  n_list : mg "list" = none
  n_min : mg "min" = none
  n_range : mg "range" = none
  n_repr : mg "repr" = none
  n_sorted : mg "sorted" = none
  n_sum : mg "sum" = none
  n_tuple : mg "tuple" = none
@[reducible] def nmOf {P : Program} {K : W.Frag} {mg : Str → Option Value} (w : World) (T : Txt P K mg) : Nm where
  wl := w
  tb := []
  cl := fun x => if x = "Counts" then T.a_Counts else 0
def csOf {P : Program} {K : W.Frag} {mg : Str → Option Value} (T : Txt P K mg) : List (Addr × Addr × Str) := []
section
variable {P : Program} {w : World} {K : W.Frag} {mg : Str → Option Value} (T : Txt P K mg)
theorem cl_Counts : (nmOf w T).cl "Counts" = T.a_Counts := by show (if ("Counts" : Str) = "Counts" then T.a_Counts else 0) = _; simp
theorem kcls_Counts : Cls K ((nmOf w T).cl "Counts") := by rw [cl_Counts]; exact T.c_Counts
theorem kg_Counts : mg "Counts" = some (.ref ((nmOf w T).cl "Counts")) := by rw [cl_Counts]; exact T.g_Counts
theorem kno_Counts_at_call : NoAttr K ((nmOf w T).cl "Counts") "at_call" := by rw [cl_Counts]; exact T.no_Counts_at_call
theorem kno_Counts_at_way : NoAttr K ((nmOf w T).cl "Counts") "at_way" := by rw [cl_Counts]; exact T.no_Counts_at_way
theorem kno_Counts_line_table : NoAttr K ((nmOf w T).cl "Counts") "line_table" := by rw [cl_Counts]; exact T.no_Counts_line_table
theorem kmk_Counts : Mk K ((nmOf w T).cl "Counts") T.a_Counts___init__ := by rw [cl_Counts]; exact T.p_Counts___init__.m
theorem kme_Counts_behind_fault : Meth K ((nmOf w T).cl "Counts") "behind_fault" T.a_Counts_behind_fault := by rw [cl_Counts]; exact T.p_Counts_behind_fault.m
theorem kme_Counts_behind_call : Meth K ((nmOf w T).cl "Counts") "behind_call" T.a_Counts_behind_call := by rw [cl_Counts]; exact T.p_Counts_behind_call.m
theorem kme_Counts_behind_frame : Meth K ((nmOf w T).cl "Counts") "behind_frame" T.a_Counts_behind_frame := by rw [cl_Counts]; exact T.p_Counts_behind_frame.m
theorem kme_Counts_add_call : Meth K ((nmOf w T).cl "Counts") "add_call" T.a_Counts_add_call := by rw [cl_Counts]; exact T.p_Counts_add_call.m
theorem kme_Counts_from_spot : Meth K ((nmOf w T).cl "Counts") "from_spot" T.a_Counts_from_spot := by rw [cl_Counts]; exact T.p_Counts_from_spot.m
theorem kme_Counts_fill : Meth K ((nmOf w T).cl "Counts") "fill" T.a_Counts_fill := by rw [cl_Counts]; exact T.p_Counts_fill.m
end
theorem kb_how_many_runs_0_count_program {K : W.Frag} {f : Addr} {fd : FuncData} (F : Fun K "how_many_runs" "how_many_runs" s_how_many_runs f fd) : KB fd ["program", "count"] ["count", "program"] 0 2 [1, 0] := by
  obtain ⟨oc, od, kV, doc, pm, an, cdv, ct, osl, rfl, lk, hcd⟩ := F.ex
  intro s us ws h1 h2
  match us, h1, ws, h2 with
  | [], _, [w0, w1], _ => exact .of_eq rfl
theorem kb_how_many_runs_0_count_program_ix : ∀ ds es : List D, ds.length = 0 → es.length = 2 → (pick [1, 0] (ds ++ es)).length = 2 := by
  intro ds es h1 h2
  match ds, h1, es, h2 with
  | [], _, [w0, w1], _ => rfl
section
variable {P : Program} {w : World} {K : W.Frag} {mg : Str → Option Value} {base : Heap}
theorem sc_handler_line : FnScope ["handlers", "kind", "word", "index"] ["handlers", "kind"] (defScope s_handler_line) := ⟨rfl, rfl, rfl, by decide +kernel, rfl, by decide +kernel, by decide +kernel⟩
theorem ok_handler_line (T : Txt P K mg) (hB : ∀ p ∈ csOf T, LamX.TabB base mg p.1 p.2.1) : letI := nmOf w T; FnG P w K mg base 1 T.a_handler_line T.d_handler_line ["handlers", "kind"] (spOf K 2 m_handler_line) := by
  letI := nmOf w T
  refine does T.p_handler_line.F sc_handler_line fun A out s H E hr hG => ?_
  have tk : Takes (cxOf (L2.CX P w) P w K mg base ["handlers", "kind", "word", "index"] "handler_line" (defScope s_handler_line) T.a_handler_line T.d_handler_line.code A out s H E) (fun cls d _ H => E cls d H) := takes_of rfl rfl rfl rfl
  have hx : Passes (L2.CX P w) (cxOf (L2.CX P w) P w K mg base ["handlers", "kind", "word", "index"] "handler_line" (defScope s_handler_line) T.a_handler_line T.d_handler_line.code A out s H E) E := passes_call tk fun _ _ _ _ h => h
  have ho := passes_of (X := cxOf (L2.CX P w) P w K mg base ["handlers", "kind", "word", "index"] "handler_line" (defScope s_handler_line) T.a_handler_line T.d_handler_line.code A out s H E) rfl
  have hu := unitsOf hr
  exact ⟨_, (ss_cons (ss_for 100000 ho (si_any (K := K) (se_var 0)) (sg_tup (K := K) (sgs_cons (sg_name (i := 2) sc_handler_line.nd) (sgs_cons (sg_name (i := 3) sc_handler_line.nd) sgs_nil))) (sss_kill [2, 3] (ss_one (ss_if (SW.st (sw_or (st_cmp (op_eqP (K := K) (un hu)) bop_eq (se_var 2) (se_var 1) (nomark _)) (sw_or1 (st_cmp (op_eqP (K := K) (un hu)) bop_eq (se_var 2) se_str (nomark _))))) (ss_one (ss_ret (se_var 3))) ss_nil))))
      (ss_one (ss_ret (se_neg se_int))))⟩
theorem sc_add_to : FnScope ["totals", "outcome", "many"] ["totals", "outcome", "many"] (defScope s_add_to) := ⟨rfl, rfl, rfl, by decide +kernel, rfl, by decide +kernel, by decide +kernel⟩
theorem ok_add_to (T : Txt P K mg) (hB : ∀ p ∈ csOf T, LamX.TabB base mg p.1 p.2.1) : letI := nmOf w T; FnG P w K mg base 1 T.a_add_to T.d_add_to ["totals", "outcome", "many"] (spOf K 3 m_add_to) := by
  letI := nmOf w T
  refine does T.p_add_to.F sc_add_to fun A out s H E hr hG => ?_
  have tk : Takes (cxOf (L2.CX P w) P w K mg base ["totals", "outcome", "many"] "add_to" (defScope s_add_to) T.a_add_to T.d_add_to.code A out s H E) (fun cls d _ H => E cls d H) := takes_of rfl rfl rfl rfl
  have hx : Passes (L2.CX P w) (cxOf (L2.CX P w) P w K mg base ["totals", "outcome", "many"] "add_to" (defScope s_add_to) T.a_add_to T.d_add_to.code A out s H E) E := passes_call tk fun _ _ _ _ h => h
  have ho := passes_of (X := cxOf (L2.CX P w) P w K mg base ["totals", "outcome", "many"] "add_to" (defScope s_add_to) T.a_add_to T.d_add_to.code A out s H E) rfl
  have hu := unitsOf hr
  exact ⟨_, (ss_one (ss_dputN (K := K) (un hu) (se_var 0) (se_var 1) (se_op (op_addA (K := K)) bop_add (se_get2N (K := K) (un hu) (se_var 0) (se_var 1) se_int ⟨rfl, rfl, rfl, rfl⟩) (se_var 2))))⟩
theorem sc_over_if : FnScope ["end", "left"] ["end", "left"] (defScope s_over_if) := ⟨rfl, rfl, rfl, by decide +kernel, rfl, by decide +kernel, by decide +kernel⟩
theorem ok_over_if (T : Txt P K mg) (hB : ∀ p ∈ csOf T, LamX.TabB base mg p.1 p.2.1) : letI := nmOf w T; FnG P w K mg base 1 T.a_over_if T.d_over_if ["end", "left"] (spOf K 2 m_over_if) := by
  letI := nmOf w T
  refine doesT T.p_over_if.F sc_over_if fun A out s H E hr hG => ?_
  have tk : Takes (cxOf (L2.CX P w) P w K mg base ["end", "left"] "over_if" (defScope s_over_if) T.a_over_if T.d_over_if.code A out s H E) (fun cls d _ H => E cls d H) := takes_of rfl rfl rfl rfl
  have hx : Passes (L2.CX P w) (cxOf (L2.CX P w) P w K mg base ["end", "left"] "over_if" (defScope s_over_if) T.a_over_if T.d_over_if.code A out s H E) E := passes_call tk fun _ _ _ _ h => h
  have ho := passes_of (X := cxOf (L2.CX P w) P w K mg base ["end", "left"] "over_if" (defScope s_over_if) T.a_over_if T.d_over_if.code A out s H E) rfl
  have hu := unitsOf hr
  exact ⟨_, (ss_one (ss_ret (se_if (st_cmp (op_eqP (K := K) (un hu)) bop_eq (se_var 1) se_int (nomark _)) (se_dispV (un hu) (sps_cons (se_var 0) se_int sps_nil)) se_dNewV)))⟩
theorem sc_Counts___init__ : FnScope ["self", "program", "name", "lines", "index", "line"] ["self", "program"] (defScope s_Counts___init__) := ⟨rfl, rfl, rfl, by decide +kernel, rfl, by decide +kernel, by decide +kernel⟩
theorem ok_Counts___init__ (T : Txt P K mg) (hB : ∀ p ∈ csOf T, LamX.TabB base mg p.1 p.2.1) : letI := nmOf w T; FnG P w K mg base 1 T.a_Counts___init__ T.d_Counts___init__ ["self", "program"] (spOf K 2 m_Counts___init__) := by
  letI := nmOf w T
  refine doesV T.p_Counts___init__.F.v sc_Counts___init__ fun A out s H E hr hG => ?_
  have tk : Takes (cxOf (L2.CX P w) P w K mg base ["self", "program", "name", "lines", "index", "line"] "Counts.__init__" (defScope s_Counts___init__) T.a_Counts___init__ T.d_Counts___init__.code A out s H E) (fun cls d _ H => E cls d H) := takes_of rfl rfl rfl rfl
  have hx : Passes (L2.CX P w) (cxOf (L2.CX P w) P w K mg base ["self", "program", "name", "lines", "index", "line"] "Counts.__init__" (defScope s_Counts___init__) T.a_Counts___init__ T.d_Counts___init__.code A out s H E) E := passes_call tk fun _ _ _ _ h => h
  have ho := passes_of (X := cxOf (L2.CX P w) P w K mg base ["self", "program", "name", "lines", "index", "line"] "Counts.__init__" (defScope s_Counts___init__) T.a_Counts___init__ T.d_Counts___init__.code A out s H E) rfl
  have hu := unitsOf hr
  exact ⟨_, (ss_cons (ss_fput (C := "Counts") (se_var 0) (se_dcc 100000 [4, 5] (un hu) sc_Counts___init__.nd (si_any (K := K) (se_var 1)) (blkOk_by (own := [("name", 2), ("lines", 3), ("index", 4), ("line", 5)]) (N := ["self", "program", "name", "lines", "index", "line"]) (sc := defScope s_Counts___init__) (by decide +kernel)) (fun _ _ _ _ _ => (sg_tup (K := K) (sgs_cons (sg_name (i := 2) sc_Counts___init__.nd) (sgs_cons (sg_name (i := 3) sc_Counts___init__.nd) sgs_nil)))) (fun _ _ _ _ _ => sts_nil) (fun _ _ _ _ _ => (si_enumA (K := K) T.n_enumerate (sa_cons (se_var 3) sa_nil))) (fun _ _ _ _ _ => (sg_tup (K := K) (sgs_cons (sg_name (i := 4) sc_Counts___init__.nd) (sgs_cons (sg_name (i := 5) sc_Counts___init__.nd) sgs_nil)))) (fun _ _ _ _ _ => sts_nil) (fun _ _ _ _ _ => (se_tup (sa_cons (se_var 2) (sa_cons (se_var 4) sa_nil)))) (fun _ _ _ _ _ => (se_var 5))) (kcls_Counts T) (kno_Counts_line_table T))
      (ss_cons (ss_fput (C := "Counts") (se_var 0) se_dNewM (kcls_Counts T) (kno_Counts_at_call T))
      (ss_one (ss_fput (C := "Counts") (se_var 0) se_dNewM (kcls_Counts T) (kno_Counts_at_way T)))))⟩
theorem sc__law_feed : FnScope ["_law_script"] ["_law_script"] (defScope s__law_feed) := ⟨rfl, rfl, rfl, by decide +kernel, rfl, by decide +kernel, by decide +kernel⟩
theorem ok__law_feed (T : Txt P K mg) (hB : ∀ p ∈ csOf T, LamX.TabB base mg p.1 p.2.1) : letI := nmOf w T; FnG P w K mg base 1 T.a__law_feed T.d__law_feed ["_law_script"] (spOf K 1 m__law_feed) := by
  letI := nmOf w T
  refine does T.p__law_feed.F sc__law_feed fun A out s H E hr hG => ?_
  have tk : Takes (cxOf (L2.CX P w) P w K mg base ["_law_script"] "_law_feed" (defScope s__law_feed) T.a__law_feed T.d__law_feed.code A out s H E) (fun cls d _ H => E cls d H) := takes_of rfl rfl rfl rfl
  have hx : Passes (L2.CX P w) (cxOf (L2.CX P w) P w K mg base ["_law_script"] "_law_feed" (defScope s__law_feed) T.a__law_feed T.d__law_feed.code A out s H E) E := passes_call tk fun _ _ _ _ h => h
  have ho := passes_of (X := cxOf (L2.CX P w) P w K mg base ["_law_script"] "_law_feed" (defScope s__law_feed) T.a__law_feed T.d__law_feed.code A out s H E) rfl
  have hu := unitsOf hr
  exact ⟨_, (ss_one (ss_ret (se_disp (sps_cons se_str (SF.v (sf_callTy (kList (K := K)) bc_list T.n_list (by decide +kernel) (sa_cons (SF.v (sf_sliceFz (K := K) (se_var 0) so_none (so_some se_int))) sa_nil))) (sps_cons se_str se_int (sps_cons se_str se_int (sps_cons se_str se_int sps_nil)))))))⟩
theorem sc__law_draw : FnScope ["_law_feed_here", "_law_many", "_law_digit", "_law_cells", "_law_place", "_law_cell", "_law_mixed"] ["_law_feed_here", "_law_many"] (defScope s__law_draw) := ⟨rfl, rfl, rfl, by decide +kernel, rfl, by decide +kernel, by decide +kernel⟩
theorem ok__law_draw (T : Txt P K mg) (hB : ∀ p ∈ csOf T, LamX.TabB base mg p.1 p.2.1) : letI := nmOf w T; FnG P w K mg base 1 T.a__law_draw T.d__law_draw ["_law_feed_here", "_law_many"] (spOf K 2 m__law_draw) := by
  letI := nmOf w T
  refine does T.p__law_draw.F sc__law_draw fun A out s H E hr hG => ?_
  have tk : Takes (cxOf (L2.CX P w) P w K mg base ["_law_feed_here", "_law_many", "_law_digit", "_law_cells", "_law_place", "_law_cell", "_law_mixed"] "_law_draw" (defScope s__law_draw) T.a__law_draw T.d__law_draw.code A out s H E) (fun cls d _ H => E cls d H) := takes_of rfl rfl rfl rfl
  have hx : Passes (L2.CX P w) (cxOf (L2.CX P w) P w K mg base ["_law_feed_here", "_law_many", "_law_digit", "_law_cells", "_law_place", "_law_cell", "_law_mixed"] "_law_draw" (defScope s__law_draw) T.a__law_draw T.d__law_draw.code A out s H E) E := passes_call tk fun _ _ _ _ h => h
  have ho := passes_of (X := cxOf (L2.CX P w) P w K mg base ["_law_feed_here", "_law_many", "_law_digit", "_law_cells", "_law_place", "_law_cell", "_law_mixed"] "_law_draw" (defScope s__law_draw) T.a__law_draw T.d__law_draw.code A out s H E) rfl
  have hu := unitsOf hr
  exact ⟨_, (ss_cons (ss_dput (un hu) (se_var 0) se_str (se_op (op_addA (K := K)) bop_add (se_dget (un hu) (se_var 0) se_str) se_int))
      (ss_cons (ss_kill [2] (ss_if (st_cmp op_gt bop_cmp (se_dget (un hu) (se_var 0) se_str) se_int (nomark _)) (ss_cons (ss_set (i := 2) sc__law_draw.nd (se_op op_mod bop_mod (se_callTy (CallR.or call_int1 call_int_str) bc_intG T.n_int (by decide +kernel) (sa_cons (se_dget (un hu) (se_var 0) se_str) sa_nil)) (se_var 1)))
      (ss_cons (ss_dput (un hu) (se_var 0) se_str (se_op op_fdiv bop_fdiv (se_dget (un hu) (se_var 0) se_str) (se_var 1)))
      (ss_one (ss_ret (se_var 2))))) ss_nil))
      (ss_cons (ss_par2 (i := 3) (j := 4) sc__law_draw.nd (by decide) (sa_cons (se_dget (un hu) (se_var 0) se_str) (sa_cons (se_dget (un hu) (se_var 0) se_str) sa_nil)))
      (ss_cons (ss_set (i := 5) sc__law_draw.nd (se_if (st_cmp (op_neP (K := K) (un hu)) bop_ne (se_var 3) (SF.v (sf_lst sa_nil)) (nomark _)) (se_ix (K := K) (se_var 3) (se_op op_mod bop_mod (se_callTy (CallR.or call_int1 call_int_str) bc_intG T.n_int (by decide +kernel) (sa_cons (se_var 4) sa_nil)) (se_callB (kLen (K := K)) bc_len T.n_len (by decide +kernel) (sa_cons (se_var 3) sa_nil)))) se_int))
      (ss_cons (ss_dput (un hu) (se_var 0) se_str (se_op (op_addA (K := K)) bop_add (se_var 4) se_int))
      (ss_cons (ss_if (SW.st (sw_and (st_cmp op_ge bop_cmp (se_var 5) (se_op op_pow bop_pow se_int se_int) (nomark _)) (sw_and1 (st_cmp op_lt bop_cmp (se_var 4) (se_callB (kLen (K := K)) bc_len T.n_len (by decide +kernel) (sa_cons (se_var 3) sa_nil)) (nomark _))))) (ss_cons (ss_dput (un hu) (se_var 0) se_str (se_op op_fdiv bop_fdiv (se_var 5) (se_var 1)))
      (ss_one (ss_ret (se_op op_mod bop_mod (se_callTy (CallR.or call_int1 call_int_str) bc_intG T.n_int (by decide +kernel) (sa_cons (se_var 5) sa_nil)) (se_var 1))))) ss_nil)
      (ss_cons (ss_set (i := 6) sc__law_draw.nd (se_op op_mod bop_mod (se_callTy (CallR.or call_int1 call_int_str) bc_intG T.n_int (by decide +kernel) (sa_cons (se_op (op_addA (K := K)) bop_add (se_op (op_addA (K := K)) bop_add (se_op op_mod bop_mod (se_callTy (CallR.or call_int1 call_int_str) bc_intG T.n_int (by decide +kernel) (sa_cons (se_var 5) sa_nil)) se_int) (se_op (op_mulH (K := K)) bop_mulH se_int (se_dget (un hu) (se_var 0) se_str))) se_int) sa_nil)) se_int))
      (ss_cons (ss_set (i := 6) sc__law_draw.nd (se_op op_mod bop_mod (se_callTy (CallR.or call_int1 call_int_str) bc_intG T.n_int (by decide +kernel) (sa_cons (se_op (op_addA (K := K)) bop_add (se_op (op_addA (K := K)) bop_add (se_op (op_mulH (K := K)) bop_mulH (se_var 6) (se_var 6)) (se_op (op_mulH (K := K)) bop_mulH se_int (se_dget (un hu) (se_var 0) se_str))) se_int) sa_nil)) se_int))
      (ss_one (ss_ret (se_op op_mod bop_mod (se_callTy (CallR.or call_int1 call_int_str) bc_intG T.n_int (by decide +kernel) (sa_cons (se_op op_fdiv bop_fdiv (se_op op_mod bop_mod (se_callTy (CallR.or call_int1 call_int_str) bc_intG T.n_int (by decide +kernel) (sa_cons (se_op (op_addA (K := K)) bop_add (se_op (op_mulH (K := K)) bop_mulH (se_var 6) (se_var 6)) (se_op (op_mulH (K := K)) bop_mulH se_int (se_var 6))) sa_nil)) se_int) se_int) sa_nil)) (se_var 1))))))))))))⟩
theorem sc__law_line : FnScope ["_law_prog", "_law_spot"] ["_law_prog", "_law_spot"] (defScope s__law_line) := ⟨rfl, rfl, rfl, by decide +kernel, rfl, by decide +kernel, by decide +kernel⟩
theorem ok__law_line (T : Txt P K mg) (hB : ∀ p ∈ csOf T, LamX.TabB base mg p.1 p.2.1) : letI := nmOf w T; FnG P w K mg base 1 T.a__law_line T.d__law_line ["_law_prog", "_law_spot"] (spOf K 2 m__law_line) := by
  letI := nmOf w T
  refine doesT T.p__law_line.F sc__law_line fun A out s H E hr hG => ?_
  have tk : Takes (cxOf (L2.CX P w) P w K mg base ["_law_prog", "_law_spot"] "_law_line" (defScope s__law_line) T.a__law_line T.d__law_line.code A out s H E) (fun cls d _ H => E cls d H) := takes_of rfl rfl rfl rfl
  have hx : Passes (L2.CX P w) (cxOf (L2.CX P w) P w K mg base ["_law_prog", "_law_spot"] "_law_line" (defScope s__law_line) T.a__law_line T.d__law_line.code A out s H E) E := passes_call tk fun _ _ _ _ h => h
  have ho := passes_of (X := cxOf (L2.CX P w) P w K mg base ["_law_prog", "_law_spot"] "_law_line" (defScope s__law_line) T.a__law_line T.d__law_line.code A out s H E) rfl
  have hu := unitsOf hr
  exact ⟨_, (ss_one (ss_ret (se_ix (K := K) (se_dget (un hu) (se_callTy (call_dictP rfl) (bc_dict (K := K)) T.n_dict (by decide +kernel) (sa_cons (SF.v (sf_callTy (kList (K := K)) bc_list T.n_list (by decide +kernel) (sa_cons (se_var 0) sa_nil))) sa_nil)) (se_ix (K := K) (se_var 1) se_int)) (se_ix (K := K) (se_var 1) se_int))))⟩
theorem sc__law_hands : FnScope ["_law_main", "_law_f", "_law_found", "_law_c", "_law_b", "_law_e", "_law_d", "_law_turns", "_law_deep", "_law_q"] [] (defScope s__law_hands) := ⟨rfl, rfl, rfl, by decide +kernel, rfl, by decide +kernel, by decide +kernel⟩
theorem ok__law_hands (T : Txt P K mg) (hB : ∀ p ∈ csOf T, LamX.TabB base mg p.1 p.2.1) : letI := nmOf w T; FnG P w K mg base 1 T.a__law_hands T.d__law_hands [] (spOf K 0 m__law_hands) := by
  letI := nmOf w T
  refine doesT T.p__law_hands.F sc__law_hands fun A out s H E hr hG => ?_
  have tk : Takes (cxOf (L2.CX P w) P w K mg base ["_law_main", "_law_f", "_law_found", "_law_c", "_law_b", "_law_e", "_law_d", "_law_turns", "_law_deep", "_law_q"] "_law_hands" (defScope s__law_hands) T.a__law_hands T.d__law_hands.code A out s H E) (fun cls d _ H => E cls d H) := takes_of rfl rfl rfl rfl
  have hx : Passes (L2.CX P w) (cxOf (L2.CX P w) P w K mg base ["_law_main", "_law_f", "_law_found", "_law_c", "_law_b", "_law_e", "_law_d", "_law_turns", "_law_deep", "_law_q"] "_law_hands" (defScope s__law_hands) T.a__law_hands T.d__law_hands.code A out s H E) E := passes_call tk fun _ _ _ _ h => h
  have ho := passes_of (X := cxOf (L2.CX P w) P w K mg base ["_law_main", "_law_f", "_law_found", "_law_c", "_law_b", "_law_e", "_law_d", "_law_turns", "_law_deep", "_law_q"] "_law_hands" (defScope s__law_hands) T.a__law_hands T.d__law_hands.code A out s H E) rfl
  have hu := unitsOf hr
  exact ⟨_, (ss_cons (ss_set (i := 0) sc__law_hands.nd (se_tup (sa_cons se_str (sa_cons (se_tup (sa_cons (se_tup (sa_cons (se_tup (sa_cons se_str sa_nil)) (sa_cons (se_tup (sa_cons se_int sa_nil)) (sa_cons (se_tup (sa_cons (se_tup (sa_cons se_str (sa_cons se_int sa_nil))) sa_nil)) sa_nil)))) (sa_cons (se_tup (sa_cons (se_tup (sa_cons se_str sa_nil)) (sa_cons (se_tup (sa_cons (se_tup (sa_cons se_str sa_nil)) (sa_cons se_int sa_nil))) (sa_cons (se_tup sa_nil) sa_nil)))) (sa_cons (se_tup (sa_cons (se_tup (sa_cons se_str (sa_cons se_str sa_nil))) (sa_cons (se_tup (sa_cons (se_tup (sa_cons se_str sa_nil)) sa_nil)) (sa_cons (se_tup sa_nil) sa_nil)))) sa_nil)))) sa_nil))))
      (ss_cons (ss_set (i := 1) sc__law_hands.nd (se_tup (sa_cons se_str (sa_cons (se_tup (sa_cons (se_tup (sa_cons (se_tup (sa_cons se_str sa_nil)) (sa_cons (se_tup (sa_cons se_int (sa_cons (se_tup (sa_cons se_str (sa_cons se_str sa_nil))) sa_nil))) (sa_cons (se_tup sa_nil) sa_nil)))) (sa_cons (se_tup (sa_cons (se_tup (sa_cons se_str (sa_cons se_str sa_nil))) (sa_cons (se_tup (sa_cons (se_tup (sa_cons se_str sa_nil)) sa_nil)) (sa_cons (se_tup sa_nil) sa_nil)))) sa_nil))) sa_nil))))
      (ss_cons (ss_set (i := 2) sc__law_hands.nd (SF.o (sf_lst (sa_cons (se_tup (sa_cons (se_var 0) (sa_cons (se_var 1) (sa_cons (se_tup (sa_cons se_str (sa_cons (se_tup (sa_cons (se_tup (sa_cons (se_tup (sa_cons se_str sa_nil)) (sa_cons (se_tup (sa_cons (se_tup (sa_cons se_str sa_nil)) sa_nil)) (sa_cons (se_tup sa_nil) sa_nil)))) sa_nil)) sa_nil))) sa_nil)))) sa_nil))))
      (ss_cons (ss_expr (se_append (K := K) (se_var 2) (sa_cons (se_tup (sa_cons (se_tup (sa_cons se_str (sa_cons (se_tup (sa_cons (se_tup (sa_cons (se_tup (sa_cons se_str (sa_cons se_str sa_nil))) (sa_cons (se_tup (sa_cons se_int sa_nil)) (sa_cons (se_tup sa_nil) sa_nil)))) (sa_cons (se_tup (sa_cons (se_tup (sa_cons se_str sa_nil)) (sa_cons (se_tup (sa_cons (se_tup (sa_cons se_str sa_nil)) sa_nil)) (sa_cons (se_tup sa_nil) sa_nil)))) sa_nil))) sa_nil))) sa_nil)) sa_nil)))
      (ss_cons (ss_expr (se_append (K := K) (se_var 2) (sa_cons (se_tup (sa_cons (se_tup (sa_cons se_str (sa_cons (se_tup (sa_cons (se_tup (sa_cons (se_tup (sa_cons se_str (sa_cons se_str sa_nil))) (sa_cons (se_tup (sa_cons se_int sa_nil)) (sa_cons (se_tup sa_nil) sa_nil)))) (sa_cons (se_tup (sa_cons (se_tup (sa_cons se_str (sa_cons se_str sa_nil))) (sa_cons (se_tup (sa_cons (se_tup (sa_cons se_str sa_nil)) sa_nil)) (sa_cons (se_tup sa_nil) sa_nil)))) sa_nil))) sa_nil))) sa_nil)) sa_nil)))
      (ss_cons (ss_set (i := 3) sc__law_hands.nd (se_tup (sa_cons se_str (sa_cons (se_tup (sa_cons (se_tup (sa_cons (se_tup (sa_cons se_str sa_nil)) (sa_cons (se_tup (sa_cons (se_tup (sa_cons se_str sa_nil)) (sa_cons (se_tup (sa_cons se_str (sa_cons se_str sa_nil))) sa_nil))) (sa_cons (se_tup sa_nil) sa_nil)))) sa_nil)) sa_nil))))
      (ss_cons (ss_set (i := 4) sc__law_hands.nd (se_tup (sa_cons se_str (sa_cons (se_tup (sa_cons (se_tup (sa_cons (se_tup (sa_cons se_str sa_nil)) (sa_cons (se_tup (sa_cons se_int sa_nil)) (sa_cons (se_tup sa_nil) sa_nil)))) (sa_cons (se_tup (sa_cons (se_tup (sa_cons se_str sa_nil)) (sa_cons (se_tup (sa_cons (se_tup (sa_cons se_str sa_nil)) sa_nil)) (sa_cons (se_tup (sa_cons (se_tup (sa_cons se_str (sa_cons se_int sa_nil))) sa_nil)) sa_nil)))) sa_nil))) sa_nil))))
      (ss_cons (ss_expr (se_append (K := K) (se_var 2) (sa_cons (se_tup (sa_cons (se_tup (sa_cons se_str (sa_cons (se_tup (sa_cons (se_tup (sa_cons (se_tup (sa_cons se_str sa_nil)) (sa_cons (se_tup (sa_cons se_int sa_nil)) (sa_cons (se_tup (sa_cons (se_tup (sa_cons se_str (sa_cons se_int sa_nil))) sa_nil)) sa_nil)))) (sa_cons (se_tup (sa_cons (se_tup (sa_cons se_str (sa_cons se_str sa_nil))) (sa_cons (se_tup (sa_cons (se_tup (sa_cons se_str sa_nil)) sa_nil)) (sa_cons (se_tup sa_nil) sa_nil)))) sa_nil))) sa_nil))) (sa_cons (se_var 4) (sa_cons (se_var 3) sa_nil)))) sa_nil)))
      (ss_cons (ss_expr (se_append (K := K) (se_var 2) (sa_cons (se_tup (sa_cons (se_tup (sa_cons se_str (sa_cons (se_tup (sa_cons (se_tup (sa_cons (se_tup (sa_cons se_str (sa_cons se_str sa_nil))) (sa_cons (se_tup (sa_cons se_int sa_nil)) (sa_cons (se_tup sa_nil) sa_nil)))) sa_nil)) sa_nil))) (sa_cons (se_tup (sa_cons se_str (sa_cons (se_tup (sa_cons (se_tup (sa_cons (se_tup (sa_cons se_str sa_nil)) (sa_cons (se_tup (sa_cons se_int (sa_cons (se_tup (sa_cons se_str (sa_cons se_str sa_nil))) sa_nil))) (sa_cons (se_tup (sa_cons (se_tup (sa_cons se_str (sa_cons se_int sa_nil))) sa_nil)) sa_nil)))) sa_nil)) sa_nil))) sa_nil))) sa_nil)))
      (ss_cons (ss_set (i := 5) sc__law_hands.nd (se_tup (sa_cons se_str (sa_cons (se_tup (sa_cons (se_tup (sa_cons (se_tup (sa_cons se_str sa_nil)) (sa_cons (se_tup (sa_cons (se_tup (sa_cons se_str (sa_cons se_str sa_nil))) (sa_cons (se_tup (sa_cons se_str (sa_cons se_str sa_nil))) (sa_cons (se_tup (sa_cons se_str sa_nil)) sa_nil)))) (sa_cons (se_tup sa_nil) sa_nil)))) sa_nil)) sa_nil))))
      (ss_cons (ss_set (i := 6) sc__law_hands.nd (se_tup (sa_cons se_str (sa_cons (se_tup (sa_cons (se_tup (sa_cons (se_tup (sa_cons se_str sa_nil)) (sa_cons (se_tup (sa_cons (se_tup (sa_cons se_str sa_nil)) sa_nil)) (sa_cons (se_tup (sa_cons (se_tup (sa_cons se_str (sa_cons se_int sa_nil))) sa_nil)) sa_nil)))) (sa_cons (se_tup (sa_cons (se_tup (sa_cons se_str (sa_cons se_str sa_nil))) (sa_cons (se_tup (sa_cons (se_tup (sa_cons se_str (sa_cons se_str sa_nil))) sa_nil)) (sa_cons (se_tup (sa_cons (se_tup (sa_cons se_str (sa_cons se_int sa_nil))) sa_nil)) sa_nil)))) sa_nil))) sa_nil))))
      (ss_cons (ss_expr (se_append (K := K) (se_var 2) (sa_cons (se_tup (sa_cons (se_tup (sa_cons se_str (sa_cons (se_tup (sa_cons (se_tup (sa_cons (se_tup (sa_cons se_str sa_nil)) (sa_cons (se_tup (sa_cons se_int sa_nil)) (sa_cons (se_tup (sa_cons (se_tup (sa_cons se_str (sa_cons se_int sa_nil))) (sa_cons (se_tup (sa_cons se_str (sa_cons se_int sa_nil))) sa_nil))) sa_nil)))) (sa_cons (se_tup (sa_cons (se_tup (sa_cons se_str sa_nil)) (sa_cons (se_tup (sa_cons (se_tup (sa_cons se_str sa_nil)) sa_nil)) (sa_cons (se_tup sa_nil) sa_nil)))) sa_nil))) sa_nil))) (sa_cons (se_var 6) (sa_cons (se_var 5) sa_nil)))) sa_nil)))
      (ss_cons (ss_set (i := 7) sc__law_hands.nd (se_tup (sa_cons (se_tup (sa_cons (se_tup (sa_cons se_str sa_nil)) (sa_cons (se_tup (sa_cons (se_tup (sa_cons se_str (sa_cons se_str sa_nil))) (sa_cons (se_tup (sa_cons se_str (sa_cons se_str sa_nil))) sa_nil))) (sa_cons (se_tup (sa_cons (se_tup (sa_cons se_str (sa_cons se_int sa_nil))) (sa_cons (se_tup (sa_cons se_str (sa_cons se_int sa_nil))) sa_nil))) sa_nil)))) (sa_cons (se_tup (sa_cons (se_tup (sa_cons se_str sa_nil)) (sa_cons (se_tup (sa_cons (se_tup (sa_cons se_str sa_nil)) sa_nil)) (sa_cons (se_tup sa_nil) sa_nil)))) sa_nil))))
      (ss_cons (ss_expr (se_append (K := K) (se_var 2) (sa_cons (se_tup (sa_cons (se_tup (sa_cons se_str (sa_cons (se_var 7) sa_nil))) sa_nil)) sa_nil)))
      (ss_cons (ss_expr (se_append (K := K) (se_var 2) (sa_cons (se_tup (sa_cons (se_tup (sa_cons se_str (sa_cons (se_tup (sa_cons (se_tup (sa_cons (se_tup (sa_cons se_str (sa_cons se_str sa_nil))) (sa_cons (se_tup (sa_cons (se_tup (sa_cons se_str (sa_cons se_str sa_nil))) (sa_cons (se_tup (sa_cons se_str (sa_cons se_str sa_nil))) (sa_cons (se_tup (sa_cons se_str sa_nil)) sa_nil)))) (sa_cons (se_tup (sa_cons (se_tup (sa_cons se_str (sa_cons se_int sa_nil))) sa_nil)) sa_nil)))) sa_nil)) sa_nil))) sa_nil)) sa_nil)))
      (ss_cons (ss_set (i := 8) sc__law_hands.nd (se_tup (sa_cons (se_tup (sa_cons se_str (sa_cons se_str sa_nil))) (sa_cons (se_tup (sa_cons (se_tup (sa_cons se_str sa_nil)) (sa_cons (se_tup (sa_cons se_str (sa_cons se_str sa_nil))) (sa_cons (se_tup (sa_cons se_str (sa_cons se_str sa_nil))) sa_nil)))) (sa_cons (se_tup (sa_cons (se_tup (sa_cons se_str (sa_cons se_int sa_nil))) sa_nil)) sa_nil)))))
      (ss_cons (ss_expr (se_append (K := K) (se_var 2) (sa_cons (se_tup (sa_cons (se_tup (sa_cons se_str (sa_cons (se_tup (sa_cons (se_var 8) (sa_cons (se_tup (sa_cons (se_tup (sa_cons se_str sa_nil)) (sa_cons (se_tup (sa_cons (se_tup (sa_cons se_str sa_nil)) sa_nil)) (sa_cons (se_tup sa_nil) sa_nil)))) sa_nil))) sa_nil))) sa_nil)) sa_nil)))
      (ss_cons (ss_set (i := 9) sc__law_hands.nd (se_tup (sa_cons se_str (sa_cons (se_tup (sa_cons (se_tup (sa_cons (se_tup (sa_cons se_str (sa_cons se_str sa_nil))) (sa_cons (se_tup (sa_cons (se_tup (sa_cons se_str sa_nil)) (sa_cons (se_tup (sa_cons se_str (sa_cons se_str sa_nil))) sa_nil))) (sa_cons (se_tup sa_nil) sa_nil)))) sa_nil)) sa_nil))))
      (ss_cons (ss_expr (se_append (K := K) (se_var 2) (sa_cons (se_tup (sa_cons (se_tup (sa_cons se_str (sa_cons (se_tup (sa_cons (se_tup (sa_cons (se_tup (sa_cons se_str sa_nil)) (sa_cons (se_tup (sa_cons (se_tup (sa_cons se_str sa_nil)) (sa_cons se_int sa_nil))) (sa_cons (se_tup (sa_cons (se_tup (sa_cons se_str (sa_cons se_int sa_nil))) sa_nil)) sa_nil)))) sa_nil)) sa_nil))) (sa_cons (se_var 9) sa_nil))) sa_nil)))
      (ss_one (ss_ret (se_var 2))))))))))))))))))))))⟩
theorem sc__law_great : FnScope ["_law_names", "_law_ends", "_law_found", "_law_i", "_law_title", "_law_size", "_law_lines", "_law_k", "_law_calls_here", "_law_ways", "_law_hands_here"] [] (defScope s__law_great) := ⟨rfl, rfl, rfl, by decide +kernel, rfl, by decide +kernel, by decide +kernel⟩
theorem ok__law_great (T : Txt P K mg) (hB : ∀ p ∈ csOf T, LamX.TabB base mg p.1 p.2.1) : letI := nmOf w T; FnG P w K mg base 1 T.a__law_great T.d__law_great [] (spOf K 0 m__law_great) := by
  letI := nmOf w T
  refine doesT T.p__law_great.F sc__law_great fun A out s H E hr hG => ?_
  have tk : Takes (cxOf (L2.CX P w) P w K mg base ["_law_names", "_law_ends", "_law_found", "_law_i", "_law_title", "_law_size", "_law_lines", "_law_k", "_law_calls_here", "_law_ways", "_law_hands_here"] "_law_great" (defScope s__law_great) T.a__law_great T.d__law_great.code A out s H E) (fun cls d _ H => E cls d H) := takes_of rfl rfl rfl rfl
  have hx : Passes (L2.CX P w) (cxOf (L2.CX P w) P w K mg base ["_law_names", "_law_ends", "_law_found", "_law_i", "_law_title", "_law_size", "_law_lines", "_law_k", "_law_calls_here", "_law_ways", "_law_hands_here"] "_law_great" (defScope s__law_great) T.a__law_great T.d__law_great.code A out s H E) E := passes_call tk fun _ _ _ _ h => h
  have ho := passes_of (X := cxOf (L2.CX P w) P w K mg base ["_law_names", "_law_ends", "_law_found", "_law_i", "_law_title", "_law_size", "_law_lines", "_law_k", "_law_calls_here", "_law_ways", "_law_hands_here"] "_law_great" (defScope s__law_great) T.a__law_great T.d__law_great.code A out s H E) rfl
  have hu := unitsOf hr
  exact ⟨_, (ss_cons (ss_set (i := 0) sc__law_great.nd (SF.v (sf_lst (sa_cons se_str (sa_cons se_str (sa_cons se_str (sa_cons se_str (sa_cons se_str (sa_cons se_str (sa_cons se_str (sa_cons se_str sa_nil)))))))))))
      (ss_cons (ss_set (i := 1) sc__law_great.nd (SF.v (sf_lst (sa_cons (se_tup (sa_cons se_str sa_nil)) (sa_cons (se_tup (sa_cons se_str (sa_cons se_str sa_nil))) sa_nil)))))
      (ss_cons (ss_set (i := 2) sc__law_great.nd (SF.o (sf_lst sa_nil)))
      (ss_cons (ss_for 100000 ho (si_enumA (K := K) T.n_enumerate (sa_cons (se_var 0) sa_nil)) (sg_tup (K := K) (sgs_cons (sg_name (i := 3) sc__law_great.nd) (sgs_cons (sg_name (i := 4) sc__law_great.nd) sgs_nil))) (sss_kill [3, 4, 5, 6, 7, 8, 9, 10] (ss_cons (ss_set (i := 5) sc__law_great.nd (se_if (st_cmp (op_eqP (K := K) (un hu)) bop_eq (se_var 3) se_int (nomark _)) se_int se_int))
      (ss_cons (ss_set (i := 6) sc__law_great.nd (SF.o (sf_lst sa_nil)))
      (ss_cons (ss_for 100000 ho (si_range T.n_range (sa_cons (se_var 5) sa_nil)) (sg_name (i := 7) sc__law_great.nd) (sss_kill [7, 8, 9, 10] (ss_cons (ss_set (i := 8) sc__law_great.nd (se_if (st_cmp (op_eqP (K := K) (un hu)) bop_eq (se_op op_mod bop_mod (se_callTy (CallR.or call_int1 call_int_str) bc_intG T.n_int (by decide +kernel) (sa_cons (se_var 7) sa_nil)) se_int) se_int (nomark _)) (se_tup (sa_cons se_str (sa_cons (se_ix (K := K) (se_var 0) (se_op op_mod bop_mod (se_callTy (CallR.or call_int1 call_int_str) bc_intG T.n_int (by decide +kernel) (sa_cons (se_op (op_addA (K := K)) bop_add (se_var 3) se_int) sa_nil)) se_int)) sa_nil))) (se_tup (sa_cons se_str sa_nil))))
      (ss_cons (ss_set (i := 8) sc__law_great.nd (se_if (st_cmp (op_eqP (K := K) (un hu)) bop_eq (se_var 7) se_int (nomark _)) (se_callTy (kTuple (K := K)) bc_tuple T.n_tuple (by decide +kernel) (sa_cons (se_var 0) sa_nil)) (se_var 8)))
      (ss_cons (ss_set (i := 9) sc__law_great.nd (se_if (st_cmp (op_eqP (K := K) (un hu)) bop_eq (se_op op_mod bop_mod (se_callTy (CallR.or call_int1 call_int_str) bc_intG T.n_int (by decide +kernel) (sa_cons (se_var 7) sa_nil)) se_int) se_int (nomark _)) (se_op (op_addA (K := K)) bop_add (SF.v (sf_rev (K := K) (SF.v (sf_listRg T.n_list T.n_range (se_var 5))))) (se_var 1)) (se_op (op_addA (K := K)) bop_add (SF.v (sf_rev (K := K) (se_var 1))) (SF.v (sf_lst (sa_cons (se_op op_mod bop_mod (se_callTy (CallR.or call_int1 call_int_str) bc_intG T.n_int (by decide +kernel) (sa_cons (se_op (op_addA (K := K)) bop_add (se_var 7) se_int) sa_nil)) (se_var 5)) sa_nil))))))
      (ss_cons (ss_set (i := 10) sc__law_great.nd (se_if (st_cmp (op_eqP (K := K) (un hu)) bop_eq (se_op op_mod bop_mod (se_callTy (CallR.or call_int1 call_int_str) bc_intG T.n_int (by decide +kernel) (sa_cons (se_op (op_addA (K := K)) bop_add (se_var 7) (se_var 3)) sa_nil)) se_int) se_int (nomark _)) (se_tup (sa_cons (se_tup (sa_cons se_str (sa_cons se_int sa_nil))) (sa_cons (se_tup (sa_cons se_str (sa_cons (se_op op_mod bop_mod (se_callTy (CallR.or call_int1 call_int_str) bc_intG T.n_int (by decide +kernel) (sa_cons (se_op (op_addA (K := K)) bop_add (se_var 7) se_int) sa_nil)) (se_var 5)) sa_nil))) (sa_cons (se_tup (sa_cons se_str (sa_cons se_int sa_nil))) (sa_cons (se_tup (sa_cons se_str (sa_cons se_int sa_nil))) sa_nil))))) (se_tup sa_nil)))
      (ss_one (ss_expr (se_append (K := K) (se_var 6) (sa_cons (se_tup (sa_cons (se_var 8) (sa_cons (se_callTy (kTuple (K := K)) bc_tuple T.n_tuple (by decide +kernel) (sa_cons (se_var 9) sa_nil)) (sa_cons (se_var 10) sa_nil)))) sa_nil))))))))))
      (ss_one (ss_expr (se_append (K := K) (se_var 2) (sa_cons (se_tup (sa_cons (se_var 4) (sa_cons (se_callTy (kTuple (K := K)) bc_tuple T.n_tuple (by decide +kernel) (sa_cons (se_var 6) sa_nil)) sa_nil))) sa_nil)))))))))
      (ss_one (ss_ret (se_callTy (kTuple (K := K)) bc_tuple T.n_tuple (by decide +kernel) (sa_cons (se_var 2) sa_nil))))))))⟩
theorem sc__law_merged : FnScope ["_law_cell", "_law_more", "_law_times", "_law_end", "_law_many"] ["_law_cell", "_law_more", "_law_times"] (defScope s__law_merged) := ⟨rfl, rfl, rfl, by decide +kernel, rfl, by decide +kernel, by decide +kernel⟩
theorem ok__law_merged (T : Txt P K mg) (hB : ∀ p ∈ csOf T, LamX.TabB base mg p.1 p.2.1) : letI := nmOf w T; FnG P w K mg base 1 T.a__law_merged T.d__law_merged ["_law_cell", "_law_more", "_law_times"] (spOf K 3 m__law_merged) := by
  letI := nmOf w T
  refine does T.p__law_merged.F sc__law_merged fun A out s H E hr hG => ?_
  have tk : Takes (cxOf (L2.CX P w) P w K mg base ["_law_cell", "_law_more", "_law_times", "_law_end", "_law_many"] "_law_merged" (defScope s__law_merged) T.a__law_merged T.d__law_merged.code A out s H E) (fun cls d _ H => E cls d H) := takes_of rfl rfl rfl rfl
  have hx : Passes (L2.CX P w) (cxOf (L2.CX P w) P w K mg base ["_law_cell", "_law_more", "_law_times", "_law_end", "_law_many"] "_law_merged" (defScope s__law_merged) T.a__law_merged T.d__law_merged.code A out s H E) E := passes_call tk fun _ _ _ _ h => h
  have ho := passes_of (X := cxOf (L2.CX P w) P w K mg base ["_law_cell", "_law_more", "_law_times", "_law_end", "_law_many"] "_law_merged" (defScope s__law_merged) T.a__law_merged T.d__law_merged.code A out s H E) rfl
  have hu := unitsOf hr
  exact ⟨_, (ss_one (ss_for 100000 ho (si_itemsN (se_var 1)) (sg_tup (K := K) (sgs_cons (sg_name (i := 3) sc__law_merged.nd) (sgs_cons (sg_name (i := 4) sc__law_merged.nd) sgs_nil))) (sss_kill [3, 4] (ss_one (ss_dputN (K := K) (un hu) (se_var 0) (se_var 3) (se_op (op_addA (K := K)) bop_add (se_get2N (K := K) (un hu) (se_var 0) (se_var 3) se_int ⟨rfl, rfl, rfl, rfl⟩) (se_op op_mulWW bop_mulW (se_var 4) (se_var 2))))))))⟩
theorem sc_Counts_behind_fault : FnScope ["self", "spot", "end", "left", "target"] ["self", "spot", "end", "left"] (defScope s_Counts_behind_fault) := ⟨rfl, rfl, rfl, by decide +kernel, rfl, by decide +kernel, by decide +kernel⟩
theorem ok_Counts_behind_fault (T : Txt P K mg) (hB : ∀ p ∈ csOf T, LamX.TabB base mg p.1 p.2.1) : letI := nmOf w T; FnG P w K mg base 2 T.a_Counts_behind_fault T.d_Counts_behind_fault ["self", "spot", "end", "left"] (spOf K 4 m_Counts_behind_fault) := by
  letI := nmOf w T
  refine doesT T.p_Counts_behind_fault.F sc_Counts_behind_fault fun A out s H E hr hG => ?_
  have tk : Takes (cxOf (L2.CX P w) P w K mg base ["self", "spot", "end", "left", "target"] "Counts.behind_fault" (defScope s_Counts_behind_fault) T.a_Counts_behind_fault T.d_Counts_behind_fault.code A out s H E) (fun cls d _ H => E cls d H) := takes_of rfl rfl rfl rfl
  have hx : Passes (L2.CX P w) (cxOf (L2.CX P w) P w K mg base ["self", "spot", "end", "left", "target"] "Counts.behind_fault" (defScope s_Counts_behind_fault) T.a_Counts_behind_fault T.d_Counts_behind_fault.code A out s H E) E := passes_call tk fun _ _ _ _ h => h
  have ho := passes_of (X := cxOf (L2.CX P w) P w K mg base ["self", "spot", "end", "left", "target"] "Counts.behind_fault" (defScope s_Counts_behind_fault) T.a_Counts_behind_fault T.d_Counts_behind_fault.code A out s H E) rfl
  have hu := unitsOf hr
  exact ⟨_, (ss_cons (ss_set (i := 4) sc_Counts_behind_fault.nd (se_call (K := K) (ok_handler_line T hB) (hr.mono (by decide)) hG T.p_handler_line.g T.p_handler_line.F.kp T.p_handler_line.b hx (sa_cons (se_ix (K := K) (se_dgetN (K := K) (un hu) (se_fld (C := "Counts") (se_var 0) (kcls_Counts T) (kno_Counts_line_table T)) (se_var 1)) se_int) (sa_cons (se_ix (K := K) (se_var 2) se_int) sa_nil)) (lenIs_cons (lenIs_cons lenIs_nil))))
      (ss_cons (ss_if (st_cmp op_ge bop_cmp (se_var 4) se_int (nomark _)) (ss_one (ss_ret (se_dgetM (K := K) (un hu) (se_fld (C := "Counts") (se_var 0) (kcls_Counts T) (kno_Counts_at_call T)) (se_tup (sa_cons (se_tup (sa_cons (se_ix (K := K) (se_var 1) se_int) (sa_cons (se_var 4) sa_nil))) (sa_cons (se_var 3) sa_nil)))))) ss_nil)
      (ss_one (ss_ret (se_call (K := K) (ok_over_if T hB) (hr.mono (by decide)) hG T.p_over_if.g T.p_over_if.F.kp T.p_over_if.b hx (sa_cons (se_var 2) (sa_cons (se_var 3) sa_nil)) (lenIs_cons (lenIs_cons lenIs_nil)))))))⟩
theorem sc__law_any : FnScope ["_law_feed_here", "_law_some"] ["_law_feed_here", "_law_some"] (defScope s__law_any) := ⟨rfl, rfl, rfl, by decide +kernel, rfl, by decide +kernel, by decide +kernel⟩
theorem ok__law_any (T : Txt P K mg) (hB : ∀ p ∈ csOf T, LamX.TabB base mg p.1 p.2.1) : letI := nmOf w T; FnG P w K mg base 2 T.a__law_any T.d__law_any ["_law_feed_here", "_law_some"] (spOf K 2 m__law_any) := by
  letI := nmOf w T
  refine does T.p__law_any.F sc__law_any fun A out s H E hr hG => ?_
  have tk : Takes (cxOf (L2.CX P w) P w K mg base ["_law_feed_here", "_law_some"] "_law_any" (defScope s__law_any) T.a__law_any T.d__law_any.code A out s H E) (fun cls d _ H => E cls d H) := takes_of rfl rfl rfl rfl
  have hx : Passes (L2.CX P w) (cxOf (L2.CX P w) P w K mg base ["_law_feed_here", "_law_some"] "_law_any" (defScope s__law_any) T.a__law_any T.d__law_any.code A out s H E) E := passes_call tk fun _ _ _ _ h => h
  have ho := passes_of (X := cxOf (L2.CX P w) P w K mg base ["_law_feed_here", "_law_some"] "_law_any" (defScope s__law_any) T.a__law_any T.d__law_any.code A out s H E) rfl
  have hu := unitsOf hr
  exact ⟨_, (ss_one (ss_ret (se_ix (K := K) (se_var 1) (se_call (K := K) (ok__law_draw T hB) (hr.mono (by decide)) hG T.p__law_draw.g T.p__law_draw.F.kp T.p__law_draw.b hx (sa_cons (se_var 0) (sa_cons (se_callB (kLen (K := K)) bc_len T.n_len (by decide +kernel) (sa_cons (se_var 1) sa_nil)) sa_nil)) (lenIs_cons (lenIs_cons lenIs_nil))))))⟩
theorem sc__law_end_into : FnScope ["_law_cell", "_law_prog", "_law_tables", "_law_spot", "_law_end", "_law_left", "_law_times", "_law_kind", "_law_goal"] ["_law_cell", "_law_prog", "_law_tables", "_law_spot", "_law_end", "_law_left", "_law_times"] (defScope s__law_end_into) := ⟨rfl, rfl, rfl, by decide +kernel, rfl, by decide +kernel, by decide +kernel⟩
theorem ok__law_end_into (T : Txt P K mg) (hB : ∀ p ∈ csOf T, LamX.TabB base mg p.1 p.2.1) : letI := nmOf w T; FnG P w K mg base 2 T.a__law_end_into T.d__law_end_into ["_law_cell", "_law_prog", "_law_tables", "_law_spot", "_law_end", "_law_left", "_law_times"] (spOf K 7 m__law_end_into) := by
  letI := nmOf w T
  refine does T.p__law_end_into.F sc__law_end_into fun A out s H E hr hG => ?_
  have tk : Takes (cxOf (L2.CX P w) P w K mg base ["_law_cell", "_law_prog", "_law_tables", "_law_spot", "_law_end", "_law_left", "_law_times", "_law_kind", "_law_goal"] "_law_end_into" (defScope s__law_end_into) T.a__law_end_into T.d__law_end_into.code A out s H E) (fun cls d _ H => E cls d H) := takes_of rfl rfl rfl rfl
  have hx : Passes (L2.CX P w) (cxOf (L2.CX P w) P w K mg base ["_law_cell", "_law_prog", "_law_tables", "_law_spot", "_law_end", "_law_left", "_law_times", "_law_kind", "_law_goal"] "_law_end_into" (defScope s__law_end_into) T.a__law_end_into T.d__law_end_into.code A out s H E) E := passes_call tk fun _ _ _ _ h => h
  have ho := passes_of (X := cxOf (L2.CX P w) P w K mg base ["_law_cell", "_law_prog", "_law_tables", "_law_spot", "_law_end", "_law_left", "_law_times", "_law_kind", "_law_goal"] "_law_end_into" (defScope s__law_end_into) T.a__law_end_into T.d__law_end_into.code A out s H E) rfl
  have hu := unitsOf hr
  exact ⟨_, (ss_cons (ss_if (st_cmp (op_eqP (K := K) (un hu)) bop_eq (se_var 4) (se_tup (sa_cons se_str sa_nil)) (nomark _)) (ss_cons (ss_expr (se_call (K := K) (ok__law_merged T hB) (hr.mono (by decide)) hG T.p__law_merged.g T.p__law_merged.F.kp T.p__law_merged.b hx (sa_cons (se_var 0) (sa_cons (se_ixR (K := K) (se_dgetM (K := K) (un hu) (se_var 2) (se_tup (sa_cons (se_var 3) (sa_cons se_bl sa_nil)))) (se_var 5)) (sa_cons (se_var 6) sa_nil))) (lenIs_cons (lenIs_cons (lenIs_cons lenIs_nil)))))
      (ss_one (ss_ret se_non))) ss_nil)
      (ss_cons (ss_for 100000 ho (si_any (K := K) (se_ix (K := K) (se_call (K := K) (ok__law_line T hB) (hr.mono (by decide)) hG T.p__law_line.g T.p__law_line.F.kp T.p__law_line.b hx (sa_cons (se_var 1) (sa_cons (se_var 3) sa_nil)) (lenIs_cons (lenIs_cons lenIs_nil))) se_int)) (sg_tup (K := K) (sgs_cons (sg_name (i := 7) sc__law_end_into.nd) (sgs_cons (sg_name (i := 8) sc__law_end_into.nd) sgs_nil))) (sss_kill [7, 8] (ss_one (ss_if (st_cmp (op_inP (K := K) (un hu)) (bop_in (neg := false)) (se_var 7) (se_tup (sa_cons se_str (sa_cons (se_ix (K := K) (se_var 4) se_int) sa_nil))) rfl) (ss_cons (ss_expr (se_call (K := K) (ok__law_merged T hB) (hr.mono (by decide)) hG T.p__law_merged.g T.p__law_merged.F.kp T.p__law_merged.b hx (sa_cons (se_var 0) (sa_cons (se_ixR (K := K) (se_dgetM (K := K) (un hu) (se_var 2) (se_tup (sa_cons (se_tup (sa_cons (se_ix (K := K) (se_var 3) se_int) (sa_cons (se_var 8) sa_nil))) (sa_cons se_bl sa_nil)))) (se_var 5)) (sa_cons (se_var 6) sa_nil))) (lenIs_cons (lenIs_cons (lenIs_cons lenIs_nil)))))
      (ss_one (ss_ret se_non))) ss_nil))))
      (ss_cons (ss_if (st_cmp (op_eqP (K := K) (un hu)) bop_eq (se_var 5) se_int (nomark _)) (ss_one (ss_dputN (K := K) (un hu) (se_var 0) (se_var 4) (se_op (op_addA (K := K)) bop_add (se_get2N (K := K) (un hu) (se_var 0) (se_var 4) se_int ⟨rfl, rfl, rfl, rfl⟩) (se_var 6)))) ss_nil)
      (ss_one (ss_ret se_non)))))⟩
theorem sc_Counts_behind_call : FnScope ["self", "spot", "many", "totals", "way", "found", "outcome", "number"] ["self", "spot", "many"] (defScope s_Counts_behind_call) := ⟨rfl, rfl, rfl, by decide +kernel, rfl, by decide +kernel, by decide +kernel⟩
theorem ok_Counts_behind_call (T : Txt P K mg) (hB : ∀ p ∈ csOf T, LamX.TabB base mg p.1 p.2.1) : letI := nmOf w T; FnG P w K mg base 3 T.a_Counts_behind_call T.d_Counts_behind_call ["self", "spot", "many"] (spOf K 3 m_Counts_behind_call) := by
  letI := nmOf w T
  refine doesT T.p_Counts_behind_call.F sc_Counts_behind_call fun A out s H E hr hG => ?_
  have tk : Takes (cxOf (L2.CX P w) P w K mg base ["self", "spot", "many", "totals", "way", "found", "outcome", "number"] "Counts.behind_call" (defScope s_Counts_behind_call) T.a_Counts_behind_call T.d_Counts_behind_call.code A out s H E) (fun cls d _ H => E cls d H) := takes_of rfl rfl rfl rfl
  have hx : Passes (L2.CX P w) (cxOf (L2.CX P w) P w K mg base ["self", "spot", "many", "totals", "way", "found", "outcome", "number"] "Counts.behind_call" (defScope s_Counts_behind_call) T.a_Counts_behind_call T.d_Counts_behind_call.code A out s H E) E := passes_call tk fun _ _ _ _ h => h
  have ho := passes_of (X := cxOf (L2.CX P w) P w K mg base ["self", "spot", "many", "totals", "way", "found", "outcome", "number"] "Counts.behind_call" (defScope s_Counts_behind_call) T.a_Counts_behind_call T.d_Counts_behind_call.code A out s H E) rfl
  have hu := unitsOf hr
  exact ⟨_, (ss_cons (ss_if (st_cmp (op_eqP (K := K) (un hu)) bop_eq (se_var 2) se_int (nomark _)) (ss_one (ss_ret (se_dispV (un hu) (sps_cons (se_tup sa_nil) se_int sps_nil)))) ss_nil)
      (ss_cons (ss_set (i := 3) sc_Counts_behind_call.nd se_dNewN)
      (ss_cons (ss_for 100000 ho (si_any (K := K) (se_ix (K := K) (se_dgetN (K := K) (un hu) (se_fld (C := "Counts") (se_var 0) (kcls_Counts T) (kno_Counts_line_table T)) (se_var 1)) se_int)) (sg_name (i := 4) sc_Counts_behind_call.nd) (sss_kill [4, 5, 6, 7] (ss_cons (ss_if (st_truth (K := K) (se_callB (kIsi (K := K)) bc_isi T.n_isinstance (by decide +kernel) (sa_cons (se_var 4) (sa_cons (se_bltn (u := .type "int") (v := .ty "int") T.n_int (by decide +kernel) rfl) sa_nil)))) (ss_one (ss_set (i := 5) sc_Counts_behind_call.nd (se_dgetM (K := K) (un hu) (se_fld (C := "Counts") (se_var 0) (kcls_Counts T) (kno_Counts_at_call T)) (se_tup (sa_cons (se_tup (sa_cons (se_ix (K := K) (se_var 1) se_int) (sa_cons (se_var 4) sa_nil))) (sa_cons (se_op op_sub bop_sub (se_var 2) se_int) sa_nil)))))) (ss_one (ss_if (st_cmp (op_eqP (K := K) (un hu)) bop_eq (se_var 4) (se_tup (sa_cons se_str sa_nil)) (nomark _)) (ss_one (ss_set (i := 5) sc_Counts_behind_call.nd (se_call (K := K) (ok_over_if T hB) (hr.mono (by decide)) hG T.p_over_if.g T.p_over_if.F.kp T.p_over_if.b hx (sa_cons (se_var 4) (sa_cons (se_op op_sub bop_sub (se_var 2) se_int) sa_nil)) (lenIs_cons (lenIs_cons lenIs_nil))))) (ss_one (ss_set (i := 5) sc_Counts_behind_call.nd (se_meth (C := "Counts") (n := 3) (ok_Counts_behind_fault T hB) (hr.mono (by decide)) hG (kme_Counts_behind_fault T) (kcls_Counts T) T.p_Counts_behind_fault.b hx (se_var 0) (sa_cons (se_var 1) (sa_cons (se_var 4) (sa_cons (se_op op_sub bop_sub (se_var 2) se_int) sa_nil))) (lenIs_cons (lenIs_cons (lenIs_cons lenIs_nil)))))))))
      (ss_one (ss_for 100000 ho (si_itemsN (se_var 5)) (sg_tup (K := K) (sgs_cons (sg_name (i := 6) sc_Counts_behind_call.nd) (sgs_cons (sg_name (i := 7) sc_Counts_behind_call.nd) sgs_nil))) (sss_kill [6, 7] (ss_one (ss_expr (se_call (K := K) (ok_add_to T hB) (hr.mono (by decide)) hG T.p_add_to.g T.p_add_to.F.kp T.p_add_to.b hx (sa_cons (se_var 3) (sa_cons (se_var 6) (sa_cons (se_var 7) sa_nil))) (lenIs_cons (lenIs_cons (lenIs_cons lenIs_nil))))))))))))
      (ss_one (ss_ret (se_lock (se_var 3)))))))⟩
theorem sc_Counts_behind_frame : FnScope ["self", "spot", "end", "left"] ["self", "spot", "end", "left"] (defScope s_Counts_behind_frame) := ⟨rfl, rfl, rfl, by decide +kernel, rfl, by decide +kernel, by decide +kernel⟩
theorem ok_Counts_behind_frame (T : Txt P K mg) (hB : ∀ p ∈ csOf T, LamX.TabB base mg p.1 p.2.1) : letI := nmOf w T; FnG P w K mg base 3 T.a_Counts_behind_frame T.d_Counts_behind_frame ["self", "spot", "end", "left"] (spOf K 4 m_Counts_behind_frame) := by
  letI := nmOf w T
  refine doesT T.p_Counts_behind_frame.F sc_Counts_behind_frame fun A out s H E hr hG => ?_
  have tk : Takes (cxOf (L2.CX P w) P w K mg base ["self", "spot", "end", "left"] "Counts.behind_frame" (defScope s_Counts_behind_frame) T.a_Counts_behind_frame T.d_Counts_behind_frame.code A out s H E) (fun cls d _ H => E cls d H) := takes_of rfl rfl rfl rfl
  have hx : Passes (L2.CX P w) (cxOf (L2.CX P w) P w K mg base ["self", "spot", "end", "left"] "Counts.behind_frame" (defScope s_Counts_behind_frame) T.a_Counts_behind_frame T.d_Counts_behind_frame.code A out s H E) E := passes_call tk fun _ _ _ _ h => h
  have ho := passes_of (X := cxOf (L2.CX P w) P w K mg base ["self", "spot", "end", "left"] "Counts.behind_frame" (defScope s_Counts_behind_frame) T.a_Counts_behind_frame T.d_Counts_behind_frame.code A out s H E) rfl
  have hu := unitsOf hr
  exact ⟨_, (ss_cons (ss_if (st_cmp (op_eqP (K := K) (un hu)) bop_eq (se_var 2) (se_tup (sa_cons se_str sa_nil)) (nomark _)) (ss_one (ss_ret (se_dgetM (K := K) (un hu) (se_fld (C := "Counts") (se_var 0) (kcls_Counts T) (kno_Counts_at_way T)) (se_tup (sa_cons (se_var 1) (sa_cons (se_var 3) sa_nil)))))) ss_nil)
      (ss_one (ss_ret (se_meth (C := "Counts") (n := 3) (ok_Counts_behind_fault T hB) (hr.mono (by decide)) hG (kme_Counts_behind_fault T) (kcls_Counts T) T.p_Counts_behind_fault.b hx (se_var 0) (sa_cons (se_var 1) (sa_cons (se_var 2) (sa_cons (se_var 3) sa_nil))) (lenIs_cons (lenIs_cons (lenIs_cons lenIs_nil)))))))⟩
theorem sc__law_calls : FnScope ["_law_feed_here", "_law_titles", "_law_turn", "_law_one"] ["_law_feed_here", "_law_titles"] (defScope s__law_calls) := ⟨rfl, rfl, rfl, by decide +kernel, rfl, by decide +kernel, by decide +kernel⟩
theorem ok__law_calls (T : Txt P K mg) (hB : ∀ p ∈ csOf T, LamX.TabB base mg p.1 p.2.1) : letI := nmOf w T; FnG P w K mg base 3 T.a__law_calls T.d__law_calls ["_law_feed_here", "_law_titles"] (spOf K 2 m__law_calls) := by
  letI := nmOf w T
  refine does T.p__law_calls.F sc__law_calls fun A out s H E hr hG => ?_
  have tk : Takes (cxOf (L2.CX P w) P w K mg base ["_law_feed_here", "_law_titles", "_law_turn", "_law_one"] "_law_calls" (defScope s__law_calls) T.a__law_calls T.d__law_calls.code A out s H E) (fun cls d _ H => E cls d H) := takes_of rfl rfl rfl rfl
  have hx : Passes (L2.CX P w) (cxOf (L2.CX P w) P w K mg base ["_law_feed_here", "_law_titles", "_law_turn", "_law_one"] "_law_calls" (defScope s__law_calls) T.a__law_calls T.d__law_calls.code A out s H E) E := passes_call tk fun _ _ _ _ h => h
  have ho := passes_of (X := cxOf (L2.CX P w) P w K mg base ["_law_feed_here", "_law_titles", "_law_turn", "_law_one"] "_law_calls" (defScope s__law_calls) T.a__law_calls T.d__law_calls.code A out s H E) rfl
  have hu := unitsOf hr
  exact ⟨_, (ss_cons (ss_set (i := 2) sc__law_calls.nd (se_call (K := K) (ok__law_draw T hB) (hr.mono (by decide)) hG T.p__law_draw.g T.p__law_draw.F.kp T.p__law_draw.b hx (sa_cons (se_var 0) (sa_cons se_int sa_nil)) (lenIs_cons (lenIs_cons lenIs_nil))))
      (ss_cons (ss_set (i := 3) sc__law_calls.nd (se_call (K := K) (ok__law_any T hB) (hr.mono (by decide)) hG T.p__law_any.g T.p__law_any.F.kp T.p__law_any.b hx (sa_cons (se_var 0) (sa_cons (se_var 1) sa_nil)) (lenIs_cons (lenIs_cons lenIs_nil))))
      (ss_cons (ss_if (st_cmp op_lt bop_cmp (se_var 2) se_int (nomark _)) (ss_one (ss_ret (se_tup (sa_cons se_str sa_nil)))) ss_nil)
      (ss_cons (ss_if (st_cmp op_lt bop_cmp (se_var 2) se_int (nomark _)) (ss_one (ss_ret (se_tup (sa_cons (se_var 3) sa_nil)))) ss_nil)
      (ss_cons (ss_if (st_cmp op_lt bop_cmp (se_var 2) se_int (nomark _)) (ss_one (ss_ret (se_tup (sa_cons se_str (sa_cons (se_var 3) sa_nil))))) ss_nil)
      (ss_one (ss_ret (se_callTy (kTuple (K := K)) bc_tuple T.n_tuple (by decide +kernel) (sa_cons (SF.v (sf_callB (cr_sortP (K := K) (un hu)) bc_sort T.n_sorted (by decide +kernel) (sa_cons (se_if (st_cmp (op_eqP (K := K) (un hu)) bop_eq (se_var 2) se_int (nomark _)) (se_var 1) (se_op (op_addA (K := K)) bop_add (se_var 1) (SF.v (sf_lst (sa_cons se_str sa_nil))))) sa_nil))) sa_nil)))))))))⟩
theorem sc__law_due_cell : FnScope ["_law_prog", "_law_tables", "_law_spot", "_law_n", "_law_cell", "_law_way"] ["_law_prog", "_law_tables", "_law_spot", "_law_n"] (defScope s__law_due_cell) := ⟨rfl, rfl, rfl, by decide +kernel, rfl, by decide +kernel, by decide +kernel⟩
theorem ok__law_due_cell (T : Txt P K mg) (hB : ∀ p ∈ csOf T, LamX.TabB base mg p.1 p.2.1) : letI := nmOf w T; FnG P w K mg base 3 T.a__law_due_cell T.d__law_due_cell ["_law_prog", "_law_tables", "_law_spot", "_law_n"] (spOf K 4 m__law_due_cell) := by
  letI := nmOf w T
  refine doesT T.p__law_due_cell.F sc__law_due_cell fun A out s H E hr hG => ?_
  have tk : Takes (cxOf (L2.CX P w) P w K mg base ["_law_prog", "_law_tables", "_law_spot", "_law_n", "_law_cell", "_law_way"] "_law_due_cell" (defScope s__law_due_cell) T.a__law_due_cell T.d__law_due_cell.code A out s H E) (fun cls d _ H => E cls d H) := takes_of rfl rfl rfl rfl
  have hx : Passes (L2.CX P w) (cxOf (L2.CX P w) P w K mg base ["_law_prog", "_law_tables", "_law_spot", "_law_n", "_law_cell", "_law_way"] "_law_due_cell" (defScope s__law_due_cell) T.a__law_due_cell T.d__law_due_cell.code A out s H E) E := passes_call tk fun _ _ _ _ h => h
  have ho := passes_of (X := cxOf (L2.CX P w) P w K mg base ["_law_prog", "_law_tables", "_law_spot", "_law_n", "_law_cell", "_law_way"] "_law_due_cell" (defScope s__law_due_cell) T.a__law_due_cell T.d__law_due_cell.code A out s H E) rfl
  have hu := unitsOf hr
  exact ⟨_, (ss_cons (ss_set (i := 4) sc__law_due_cell.nd se_dNewN)
      (ss_cons (ss_for 100000 ho (si_any (K := K) (se_ix (K := K) (se_call (K := K) (ok__law_line T hB) (hr.mono (by decide)) hG T.p__law_line.g T.p__law_line.F.kp T.p__law_line.b hx (sa_cons (se_var 0) (sa_cons (se_var 2) sa_nil)) (lenIs_cons (lenIs_cons lenIs_nil))) se_int)) (sg_name (i := 5) sc__law_due_cell.nd) (sss_kill [5] (ss_one (ss_if (st_not (st_truth (K := K) (se_callB (kIsi (K := K)) bc_isi T.n_isinstance (by decide +kernel) (sa_cons (se_var 5) (sa_cons (se_bltn (u := .type "tuple") (v := .ty "tuple") T.n_tuple (by decide +kernel) rfl) sa_nil))))) (ss_one (ss_expr (se_call (K := K) (ok__law_merged T hB) (hr.mono (by decide)) hG T.p__law_merged.g T.p__law_merged.F.kp T.p__law_merged.b hx (sa_cons (se_var 4) (sa_cons (se_ixR (K := K) (se_dgetM (K := K) (un hu) (se_var 1) (se_tup (sa_cons (se_tup (sa_cons (se_ix (K := K) (se_var 2) se_int) (sa_cons (se_var 5) sa_nil))) (sa_cons se_bl sa_nil)))) (se_op op_sub bop_sub (se_var 3) se_int)) (sa_cons se_int sa_nil))) (lenIs_cons (lenIs_cons (lenIs_cons lenIs_nil)))))) (ss_one (ss_if (st_cmp (op_neP (K := K) (un hu)) bop_ne (se_var 5) (se_tup (sa_cons se_str sa_nil)) (nomark _)) (ss_one (ss_expr (se_call (K := K) (ok__law_end_into T hB) (hr.mono (by decide)) hG T.p__law_end_into.g T.p__law_end_into.F.kp T.p__law_end_into.b hx (sa_cons (se_var 4) (sa_cons (se_var 0) (sa_cons (se_var 1) (sa_cons (se_var 2) (sa_cons (se_var 5) (sa_cons (se_op op_sub bop_sub (se_var 3) se_int) (sa_cons se_int sa_nil))))))) (lenIs_cons (lenIs_cons (lenIs_cons (lenIs_cons (lenIs_cons (lenIs_cons (lenIs_cons lenIs_nil)))))))))) (ss_one (ss_if (st_cmp (op_eqP (K := K) (un hu)) bop_eq (se_var 3) se_int (nomark _)) (ss_one (ss_dputN (K := K) (un hu) (se_var 4) (se_var 5) (se_op (op_addA (K := K)) bop_add (se_get2N (K := K) (un hu) (se_var 4) (se_var 5) se_int ⟨rfl, rfl, rfl, rfl⟩) se_int))) ss_nil))))))))
      (ss_one (ss_ret (se_lock (se_var 4))))))⟩
theorem sc__law_call_cell : FnScope ["_law_prog", "_law_tables", "_law_spot", "_law_n", "_law_cell", "_law_goal", "_law_inner", "_law_j", "_law_end", "_law_many"] ["_law_prog", "_law_tables", "_law_spot", "_law_n"] (defScope s__law_call_cell) := ⟨rfl, rfl, rfl, by decide +kernel, rfl, by decide +kernel, by decide +kernel⟩
theorem ok__law_call_cell (T : Txt P K mg) (hB : ∀ p ∈ csOf T, LamX.TabB base mg p.1 p.2.1) : letI := nmOf w T; FnG P w K mg base 3 T.a__law_call_cell T.d__law_call_cell ["_law_prog", "_law_tables", "_law_spot", "_law_n"] (spOf K 4 m__law_call_cell) := by
  letI := nmOf w T
  refine doesT T.p__law_call_cell.F sc__law_call_cell fun A out s H E hr hG => ?_
  have tk : Takes (cxOf (L2.CX P w) P w K mg base ["_law_prog", "_law_tables", "_law_spot", "_law_n", "_law_cell", "_law_goal", "_law_inner", "_law_j", "_law_end", "_law_many"] "_law_call_cell" (defScope s__law_call_cell) T.a__law_call_cell T.d__law_call_cell.code A out s H E) (fun cls d _ H => E cls d H) := takes_of rfl rfl rfl rfl
  have hx : Passes (L2.CX P w) (cxOf (L2.CX P w) P w K mg base ["_law_prog", "_law_tables", "_law_spot", "_law_n", "_law_cell", "_law_goal", "_law_inner", "_law_j", "_law_end", "_law_many"] "_law_call_cell" (defScope s__law_call_cell) T.a__law_call_cell T.d__law_call_cell.code A out s H E) E := passes_call tk fun _ _ _ _ h => h
  have ho := passes_of (X := cxOf (L2.CX P w) P w K mg base ["_law_prog", "_law_tables", "_law_spot", "_law_n", "_law_cell", "_law_goal", "_law_inner", "_law_j", "_law_end", "_law_many"] "_law_call_cell" (defScope s__law_call_cell) T.a__law_call_cell T.d__law_call_cell.code A out s H E) rfl
  have hu := unitsOf hr
  exact ⟨_, (ss_cons (ss_set (i := 4) sc__law_call_cell.nd se_dNewN)
      (ss_cons (ss_for 100000 ho (si_any (K := K) (se_ix (K := K) (se_call (K := K) (ok__law_line T hB) (hr.mono (by decide)) hG T.p__law_line.g T.p__law_line.F.kp T.p__law_line.b hx (sa_cons (se_var 0) (sa_cons (se_var 2) sa_nil)) (lenIs_cons (lenIs_cons lenIs_nil))) se_int)) (sg_name (i := 5) sc__law_call_cell.nd) (sss_kill [5, 6, 7, 8, 9] (ss_cons (ss_if (st_cmp (op_eqP (K := K) (un hu)) bop_eq (se_var 5) se_str (nomark _)) (ss_cons (ss_expr (se_call (K := K) (ok__law_merged T hB) (hr.mono (by decide)) hG T.p__law_merged.g T.p__law_merged.F.kp T.p__law_merged.b hx (sa_cons (se_var 4) (sa_cons (se_ixR (K := K) (se_dgetM (K := K) (un hu) (se_var 1) (se_tup (sa_cons (se_var 2) (sa_cons se_bl sa_nil)))) (se_op op_sub bop_sub (se_var 3) se_int)) (sa_cons se_int sa_nil))) (lenIs_cons (lenIs_cons (lenIs_cons lenIs_nil)))))
      (ss_one ss_continue)) ss_nil)
      (ss_cons (ss_set (i := 6) sc__law_call_cell.nd (se_dgetM (K := K) (un hu) (se_var 1) (se_tup (sa_cons (se_tup (sa_cons (se_var 5) (sa_cons se_int sa_nil))) (sa_cons se_bl sa_nil)))))
      (ss_cons (ss_dputN (K := K) (un hu) (se_var 4) (se_tup sa_nil) (se_op (op_addA (K := K)) bop_add (se_get2N (K := K) (un hu) (se_var 4) (se_tup sa_nil) se_int ⟨rfl, rfl, rfl, rfl⟩) (se_get2N (K := K) (un hu) (se_ixR (K := K) (se_var 6) (se_op op_sub bop_sub (se_var 3) se_int)) (se_tup sa_nil) se_int ⟨rfl, rfl, rfl, rfl⟩)))
      (ss_one (ss_for 100000 ho (si_range2 T.n_range (sa_cons se_int (sa_cons (se_var 3) sa_nil))) (sg_name (i := 7) sc__law_call_cell.nd) (sss_kill [7, 8, 9] (ss_one (ss_for 100000 ho (si_itemsN (se_ixR (K := K) (se_var 6) (se_var 7))) (sg_tup (K := K) (sgs_cons (sg_name (i := 8) sc__law_call_cell.nd) (sgs_cons (sg_name (i := 9) sc__law_call_cell.nd) sgs_nil))) (sss_kill [8, 9] (ss_one (ss_if (st_cmp (op_neP (K := K) (un hu)) bop_ne (se_var 8) (se_tup sa_nil) (nomark _)) (ss_one (ss_expr (se_call (K := K) (ok__law_end_into T hB) (hr.mono (by decide)) hG T.p__law_end_into.g T.p__law_end_into.F.kp T.p__law_end_into.b hx (sa_cons (se_var 4) (sa_cons (se_var 0) (sa_cons (se_var 1) (sa_cons (se_var 2) (sa_cons (se_var 8) (sa_cons (se_op op_sub bop_sub (se_op op_sub bop_sub (se_var 3) se_int) (se_var 7)) (sa_cons (se_var 9) sa_nil))))))) (lenIs_cons (lenIs_cons (lenIs_cons (lenIs_cons (lenIs_cons (lenIs_cons (lenIs_cons lenIs_nil)))))))))) ss_nil)))))))))))))
      (ss_one (ss_ret (se_lock (se_var 4))))))⟩
theorem sc_Counts_add_call : FnScope ["self", "spot", "name", "many", "totals", "used", "end", "number", "outcome", "ways"] ["self", "spot", "name", "many", "totals"] (defScope s_Counts_add_call) := ⟨rfl, rfl, rfl, by decide +kernel, rfl, by decide +kernel, by decide +kernel⟩
theorem ok_Counts_add_call (T : Txt P K mg) (hB : ∀ p ∈ csOf T, LamX.TabB base mg p.1 p.2.1) : letI := nmOf w T; FnG P w K mg base 4 T.a_Counts_add_call T.d_Counts_add_call ["self", "spot", "name", "many", "totals"] (spOf K 5 m_Counts_add_call) := by
  letI := nmOf w T
  refine does T.p_Counts_add_call.F sc_Counts_add_call fun A out s H E hr hG => ?_
  have tk : Takes (cxOf (L2.CX P w) P w K mg base ["self", "spot", "name", "many", "totals", "used", "end", "number", "outcome", "ways"] "Counts.add_call" (defScope s_Counts_add_call) T.a_Counts_add_call T.d_Counts_add_call.code A out s H E) (fun cls d _ H => E cls d H) := takes_of rfl rfl rfl rfl
  have hx : Passes (L2.CX P w) (cxOf (L2.CX P w) P w K mg base ["self", "spot", "name", "many", "totals", "used", "end", "number", "outcome", "ways"] "Counts.add_call" (defScope s_Counts_add_call) T.a_Counts_add_call T.d_Counts_add_call.code A out s H E) E := passes_call tk fun _ _ _ _ h => h
  have ho := passes_of (X := cxOf (L2.CX P w) P w K mg base ["self", "spot", "name", "many", "totals", "used", "end", "number", "outcome", "ways"] "Counts.add_call" (defScope s_Counts_add_call) T.a_Counts_add_call T.d_Counts_add_call.code A out s H E) rfl
  have hu := unitsOf hr
  exact ⟨_, (ss_one (ss_for 100000 ho (si_range T.n_range (sa_cons (se_op (op_addA (K := K)) bop_add (se_var 3) se_int) sa_nil)) (sg_name (i := 5) sc_Counts_add_call.nd) (sss_kill [5, 6, 7, 8, 9] (ss_one (ss_for 100000 ho (si_itemsN (se_dgetM (K := K) (un hu) (se_fld (C := "Counts") (se_var 0) (kcls_Counts T) (kno_Counts_at_call T)) (se_tup (sa_cons (se_tup (sa_cons (se_var 2) (sa_cons se_int sa_nil))) (sa_cons (se_var 5) sa_nil))))) (sg_tup (K := K) (sgs_cons (sg_name (i := 6) sc_Counts_add_call.nd) (sgs_cons (sg_name (i := 7) sc_Counts_add_call.nd) sgs_nil))) (sss_kill [6, 7, 8, 9] (ss_one (ss_kill [8, 9] (ss_if (st_cmp (op_eqP (K := K) (un hu)) bop_eq (se_var 6) (se_tup sa_nil) (nomark _)) (ss_one (ss_if (st_cmp (op_eqP (K := K) (un hu)) bop_eq (se_var 5) (se_var 3) (nomark _)) (ss_one (ss_expr (se_call (K := K) (ok_add_to T hB) (hr.mono (by decide)) hG T.p_add_to.g T.p_add_to.F.kp T.p_add_to.b hx (sa_cons (se_var 4) (sa_cons (se_tup sa_nil) (sa_cons (se_var 7) sa_nil))) (lenIs_cons (lenIs_cons (lenIs_cons lenIs_nil)))))) ss_nil)) (ss_one (ss_for 100000 ho (si_itemsN (se_meth (C := "Counts") (n := 3) (ok_Counts_behind_frame T hB) (hr.mono (by decide)) hG (kme_Counts_behind_frame T) (kcls_Counts T) T.p_Counts_behind_frame.b hx (se_var 0) (sa_cons (se_var 1) (sa_cons (se_var 6) (sa_cons (se_op op_sub bop_sub (se_var 3) (se_var 5)) sa_nil))) (lenIs_cons (lenIs_cons (lenIs_cons lenIs_nil))))) (sg_tup (K := K) (sgs_cons (sg_name (i := 8) sc_Counts_add_call.nd) (sgs_cons (sg_name (i := 9) sc_Counts_add_call.nd) sgs_nil))) (sss_kill [8, 9] (ss_one (ss_expr (se_call (K := K) (ok_add_to T hB) (hr.mono (by decide)) hG T.p_add_to.g T.p_add_to.F.kp T.p_add_to.b hx (sa_cons (se_var 4) (sa_cons (se_var 8) (sa_cons (se_op op_mulWW bop_mulW (se_var 7) (se_var 9)) sa_nil))) (lenIs_cons (lenIs_cons (lenIs_cons lenIs_nil))))))))))))))))))⟩
theorem sc__law_function : FnScope ["_law_feed_here", "_law_title", "_law_titles", "_law_size", "_law_menu", "_law_lines", "_law_k", "_law_ways", "_law_turn", "_law_way", "_law_some", "_law_hands_here", "_law_kind"] ["_law_feed_here", "_law_title", "_law_titles"] (defScope s__law_function) := ⟨rfl, rfl, rfl, by decide +kernel, rfl, by decide +kernel, by decide +kernel⟩
theorem ok__law_function (T : Txt P K mg) (hB : ∀ p ∈ csOf T, LamX.TabB base mg p.1 p.2.1) : letI := nmOf w T; FnG P w K mg base 4 T.a__law_function T.d__law_function ["_law_feed_here", "_law_title", "_law_titles"] (spOf K 3 m__law_function) := by
  letI := nmOf w T
  refine doesT T.p__law_function.F sc__law_function fun A out s H E hr hG => ?_
  have tk : Takes (cxOf (L2.CX P w) P w K mg base ["_law_feed_here", "_law_title", "_law_titles", "_law_size", "_law_menu", "_law_lines", "_law_k", "_law_ways", "_law_turn", "_law_way", "_law_some", "_law_hands_here", "_law_kind"] "_law_function" (defScope s__law_function) T.a__law_function T.d__law_function.code A out s H E) (fun cls d _ H => E cls d H) := takes_of rfl rfl rfl rfl
  have hx : Passes (L2.CX P w) (cxOf (L2.CX P w) P w K mg base ["_law_feed_here", "_law_title", "_law_titles", "_law_size", "_law_menu", "_law_lines", "_law_k", "_law_ways", "_law_turn", "_law_way", "_law_some", "_law_hands_here", "_law_kind"] "_law_function" (defScope s__law_function) T.a__law_function T.d__law_function.code A out s H E) E := passes_call tk fun _ _ _ _ h => h
  have ho := passes_of (X := cxOf (L2.CX P w) P w K mg base ["_law_feed_here", "_law_title", "_law_titles", "_law_size", "_law_menu", "_law_lines", "_law_k", "_law_ways", "_law_turn", "_law_way", "_law_some", "_law_hands_here", "_law_kind"] "_law_function" (defScope s__law_function) T.a__law_function T.d__law_function.code A out s H E) rfl
  have hu := unitsOf hr
  exact ⟨_, (ss_cons (ss_set (i := 3) sc__law_function.nd (se_op (op_addA (K := K)) bop_add se_int (se_call (K := K) (ok__law_draw T hB) (hr.mono (by decide)) hG T.p__law_draw.g T.p__law_draw.F.kp T.p__law_draw.b hx (sa_cons (se_var 0) (sa_cons se_int sa_nil)) (lenIs_cons (lenIs_cons lenIs_nil)))))
      (ss_cons (ss_set (i := 4) sc__law_function.nd (se_op (op_addA (K := K)) bop_add (SF.v (sf_lst (sa_cons (se_tup (sa_cons se_str sa_nil)) (sa_cons (se_tup (sa_cons se_str (sa_cons (se_call (K := K) (ok__law_any T hB) (hr.mono (by decide)) hG T.p__law_any.g T.p__law_any.F.kp T.p__law_any.b hx (sa_cons (se_var 0) (sa_cons (SF.v (sf_lst (sa_cons se_str (sa_cons se_str (sa_cons se_str sa_nil))))) sa_nil)) (lenIs_cons (lenIs_cons lenIs_nil))) sa_nil))) (sa_cons (se_tup (sa_cons se_str (sa_cons se_str sa_nil))) sa_nil))))) (SF.v (sf_listRg T.n_list T.n_range (se_var 3)))))
      (ss_cons (ss_set (i := 5) sc__law_function.nd (SF.o (sf_lst sa_nil)))
      (ss_cons (ss_for 100000 ho (si_range T.n_range (sa_cons (se_var 3) sa_nil)) (sg_name (i := 6) sc__law_function.nd) (sss_kill [6, 7, 8, 9, 10, 11] (ss_cons (ss_set (i := 7) sc__law_function.nd (SF.o (sf_lst (sa_cons (se_call (K := K) (ok__law_any T hB) (hr.mono (by decide)) hG T.p__law_any.g T.p__law_any.F.kp T.p__law_any.b hx (sa_cons (se_var 0) (sa_cons (se_var 4) sa_nil)) (lenIs_cons (lenIs_cons lenIs_nil))) sa_nil))))
      (ss_cons (ss_for 100000 ho (si_range T.n_range (sa_cons (se_call (K := K) (ok__law_draw T hB) (hr.mono (by decide)) hG T.p__law_draw.g T.p__law_draw.F.kp T.p__law_draw.b hx (sa_cons (se_var 0) (sa_cons se_int sa_nil)) (lenIs_cons (lenIs_cons lenIs_nil))) sa_nil)) (sg_name (i := 8) sc__law_function.nd) (sss_kill [8, 9] (ss_cons (ss_set (i := 9) sc__law_function.nd (se_call (K := K) (ok__law_any T hB) (hr.mono (by decide)) hG T.p__law_any.g T.p__law_any.F.kp T.p__law_any.b hx (sa_cons (se_var 0) (sa_cons (se_var 4) sa_nil)) (lenIs_cons (lenIs_cons lenIs_nil))))
      (ss_one (ss_if (st_cmp (op_notInP (K := K) (un hu)) (bop_in (neg := true)) (se_var 9) (se_var 7) rfl) (ss_one (ss_expr (se_append (K := K) (se_var 7) (sa_cons (se_var 9) sa_nil)))) ss_nil)))))
      (ss_cons (ss_set (i := 10) sc__law_function.nd (SF.v (sf_lst (sa_cons (se_tup sa_nil) (sa_cons (se_tup sa_nil) (sa_cons (se_tup (sa_cons se_str sa_nil)) (sa_cons (se_tup (sa_cons se_str sa_nil)) (sa_cons (se_tup (sa_cons se_str (sa_cons se_str sa_nil))) (sa_cons (se_tup (sa_cons se_str (sa_cons se_str sa_nil))) (sa_cons (se_tup (sa_cons se_str (sa_cons se_str sa_nil))) (sa_cons (se_tup (sa_cons se_str (sa_cons se_str (sa_cons se_str (sa_cons se_str sa_nil))))) sa_nil)))))))))))
      (ss_cons (ss_setLc (i := 11) false 100000 sc__law_function.nd (si_any (K := K) (se_call (K := K) (ok__law_any T hB) (hr.mono (by decide)) hG T.p__law_any.g T.p__law_any.F.kp T.p__law_any.b hx (sa_cons (se_var 0) (sa_cons (se_var 10) sa_nil)) (lenIs_cons (lenIs_cons lenIs_nil)))) (blkOk_by (own := [("_law_kind", 12)]) (N := ["_law_feed_here", "_law_title", "_law_titles", "_law_size", "_law_menu", "_law_lines", "_law_k", "_law_ways", "_law_turn", "_law_way", "_law_some", "_law_hands_here", "_law_kind"]) (sc := defScope s__law_function) (by decide +kernel)) (fun _ _ _ _ _ => (sg_name (i := 12) sc__law_function.nd)) (fun _ _ _ _ _ => sts_nil) (fun _ _ _ _ _ => (se_tup (sa_cons (se_var 12) (sa_cons (se_call (K := K) (ok__law_draw T hB) (hr.mono (by decide)) hG T.p__law_draw.g T.p__law_draw.F.kp T.p__law_draw.b passL (sa_cons (se_var 0) (sa_cons (se_var 3) sa_nil)) (lenIs_cons (lenIs_cons lenIs_nil))) sa_nil)))) (sw_true rfl rfl rfl (by decide +kernel)))
      (ss_one (ss_expr (se_append (K := K) (se_var 5) (sa_cons (se_tup (sa_cons (se_call (K := K) (ok__law_calls T hB) (hr.mono (by decide)) hG T.p__law_calls.g T.p__law_calls.F.kp T.p__law_calls.b hx (sa_cons (se_var 0) (sa_cons (se_var 2) sa_nil)) (lenIs_cons (lenIs_cons lenIs_nil))) (sa_cons (se_callTy (kTuple (K := K)) bc_tuple T.n_tuple (by decide +kernel) (sa_cons (se_var 7) sa_nil)) (sa_cons (se_callTy (kTuple (K := K)) bc_tuple T.n_tuple (by decide +kernel) (sa_cons (se_var 11) sa_nil)) sa_nil)))) sa_nil))))))))))
      (ss_one (ss_ret (se_tup (sa_cons (se_var 1) (sa_cons (se_callTy (kTuple (K := K)) bc_tuple T.n_tuple (by decide +kernel) (sa_cons (se_var 5) sa_nil)) sa_nil)))))))))⟩
theorem sc__law_counts : FnScope ["_law_prog", "_law_most", "_law_spots", "_law_tables", "_law_title", "_law_lines", "_law_k", "_law_n", "_law_calls_here", "_law_dues", "_law_spot", "_law_cell"] ["_law_prog", "_law_most"] (defScope s__law_counts) := ⟨rfl, rfl, rfl, by decide +kernel, rfl, by decide +kernel, by decide +kernel⟩
theorem ok__law_counts (T : Txt P K mg) (hB : ∀ p ∈ csOf T, LamX.TabB base mg p.1 p.2.1) : letI := nmOf w T; FnG P w K mg base 4 T.a__law_counts T.d__law_counts ["_law_prog", "_law_most"] (spOf K 2 m__law_counts) := by
  letI := nmOf w T
  refine doesT T.p__law_counts.F sc__law_counts fun A out s H E hr hG => ?_
  have tk : Takes (cxOf (L2.CX P w) P w K mg base ["_law_prog", "_law_most", "_law_spots", "_law_tables", "_law_title", "_law_lines", "_law_k", "_law_n", "_law_calls_here", "_law_dues", "_law_spot", "_law_cell"] "_law_counts" (defScope s__law_counts) T.a__law_counts T.d__law_counts.code A out s H E) (fun cls d _ H => E cls d H) := takes_of rfl rfl rfl rfl
  have hx : Passes (L2.CX P w) (cxOf (L2.CX P w) P w K mg base ["_law_prog", "_law_most", "_law_spots", "_law_tables", "_law_title", "_law_lines", "_law_k", "_law_n", "_law_calls_here", "_law_dues", "_law_spot", "_law_cell"] "_law_counts" (defScope s__law_counts) T.a__law_counts T.d__law_counts.code A out s H E) E := passes_call tk fun _ _ _ _ h => h
  have ho := passes_of (X := cxOf (L2.CX P w) P w K mg base ["_law_prog", "_law_most", "_law_spots", "_law_tables", "_law_title", "_law_lines", "_law_k", "_law_n", "_law_calls_here", "_law_dues", "_law_spot", "_law_cell"] "_law_counts" (defScope s__law_counts) T.a__law_counts T.d__law_counts.code A out s H E) rfl
  have hu := unitsOf hr
  exact ⟨_, (ss_cons (ss_parG (sa_cons (SF.o (sf_lst sa_nil)) (sa_cons se_dNewM sa_nil)) (sn_cons (i := 2) sc__law_counts.nd (sn_cons (i := 3) sc__law_counts.nd sn_nil)))
      (ss_cons (ss_for 100000 ho (si_any (K := K) (se_var 0)) (sg_tup (K := K) (sgs_cons (sg_name (i := 4) sc__law_counts.nd) (sgs_cons (sg_name (i := 5) sc__law_counts.nd) sgs_nil))) (sss_kill [4, 5, 6] (ss_one (ss_for 100000 ho (si_range T.n_range (sa_cons (se_callB (kLen (K := K)) bc_len T.n_len (by decide +kernel) (sa_cons (se_var 5) sa_nil)) sa_nil)) (sg_name (i := 6) sc__law_counts.nd) (sss_kill [6] (ss_cons (ss_expr (se_append (K := K) (se_var 2) (sa_cons (se_tup (sa_cons (se_var 4) (sa_cons (se_var 6) sa_nil))) sa_nil)))
      (ss_cons (ss_dputM (K := K) (un hu) (se_var 3) (se_tup (sa_cons (se_tup (sa_cons (se_var 4) (sa_cons (se_var 6) sa_nil))) (sa_cons se_bl sa_nil))) (se_newLr (sa_cons (se_dispV (un hu) (sps_cons (se_tup sa_nil) se_int sps_nil)) sa_nil)))
      (ss_one (ss_dputM (K := K) (un hu) (se_var 3) (se_tup (sa_cons (se_tup (sa_cons (se_var 4) (sa_cons (se_var 6) sa_nil))) (sa_cons se_bl sa_nil))) (se_newLr (sa_cons (se_dispV (un hu) (sps_cons (se_tup sa_nil) se_int sps_nil)) sa_nil)))))))))))
      (ss_cons (ss_kill [10] (ss_for 100000 ho (si_range2 T.n_range (sa_cons se_int (sa_cons (se_op (op_addA (K := K)) bop_add (se_var 1) se_int) sa_nil))) (sg_name (i := 7) sc__law_counts.nd) (sss_kill [6, 7, 8, 9] (ss_cons (ss_setLcR (i := 8) 100000 sc__law_counts.nd (si_any (K := K) (se_var 2)) (blkOk_by (own := [("_law_spot", 10)]) (N := ["_law_prog", "_law_most", "_law_spots", "_law_tables", "_law_title", "_law_lines", "_law_k", "_law_n", "_law_calls_here", "_law_dues", "_law_spot", "_law_cell"]) (sc := defScope s__law_counts) (by decide +kernel)) (fun _ _ _ _ _ => (sg_name (i := 10) sc__law_counts.nd)) (fun _ _ _ _ _ => sts_nil) (fun _ _ _ _ _ => (se_call (K := K) (ok__law_call_cell T hB) (hr.mono (by decide)) hG T.p__law_call_cell.g T.p__law_call_cell.F.kp T.p__law_call_cell.b passL (sa_cons (se_var 0) (sa_cons (se_var 3) (sa_cons (se_var 10) (sa_cons (se_var 7) sa_nil)))) (lenIs_cons (lenIs_cons (lenIs_cons (lenIs_cons lenIs_nil)))))) (sw_true rfl rfl rfl (by decide +kernel)))
      (ss_cons (ss_setLcR (i := 9) 100000 sc__law_counts.nd (si_any (K := K) (se_var 2)) (blkOk_by (own := [("_law_spot", 10)]) (N := ["_law_prog", "_law_most", "_law_spots", "_law_tables", "_law_title", "_law_lines", "_law_k", "_law_n", "_law_calls_here", "_law_dues", "_law_spot", "_law_cell"]) (sc := defScope s__law_counts) (by decide +kernel)) (fun _ _ _ _ _ => (sg_name (i := 10) sc__law_counts.nd)) (fun _ _ _ _ _ => sts_nil) (fun _ _ _ _ _ => (se_call (K := K) (ok__law_due_cell T hB) (hr.mono (by decide)) hG T.p__law_due_cell.g T.p__law_due_cell.F.kp T.p__law_due_cell.b passL (sa_cons (se_var 0) (sa_cons (se_var 3) (sa_cons (se_var 10) (sa_cons (se_var 7) sa_nil)))) (lenIs_cons (lenIs_cons (lenIs_cons (lenIs_cons lenIs_nil)))))) (sw_true rfl rfl rfl (by decide +kernel)))
      (ss_one (ss_forX 100000 ho (si_enI (K := K) T.n_enumerate (sa_cons (se_var 2) sa_nil)) (sg_tup (K := K) (sgs_cons (sg_name (i := 6) sc__law_counts.nd) (sgs_cons (sg_name (i := 10) sc__law_counts.nd) sgs_nil))) (sss_kill [6] (ss_cons (ss_expr (se_appQ (K := K) (se_dgetM (K := K) (un hu) (se_var 3) (se_tup (sa_cons (se_var 10) (sa_cons se_bl sa_nil)))) (sa_cons (se_ixR (K := K) (se_var 8) (se_var 6)) sa_nil)))
      (ss_one (ss_expr (se_appQ (K := K) (se_dgetM (K := K) (un hu) (se_var 3) (se_tup (sa_cons (se_var 10) (sa_cons se_bl sa_nil)))) (sa_cons (se_ixR (K := K) (se_var 9) (se_var 6)) sa_nil)))))))))))))
      (ss_one (ss_ret (SF.v (sf_lcX 100000 sc__law_counts.nd (si_lr (K := K) (se_dgetM (K := K) (un hu) (se_var 3) (se_tup (sa_cons (se_tup (sa_cons (se_ix (K := K) (se_ix (K := K) (se_var 0) se_int) se_int) (sa_cons se_int sa_nil))) (sa_cons se_bl sa_nil))))) (blkOk_by (own := [("_law_cell", 11)]) (N := ["_law_prog", "_law_most", "_law_spots", "_law_tables", "_law_title", "_law_lines", "_law_k", "_law_n", "_law_calls_here", "_law_dues", "_law_spot", "_law_cell"]) (sc := defScope s__law_counts) (by decide +kernel)) (fun _ _ _ _ _ => (sg_name (i := 11) sc__law_counts.nd)) (fun _ _ _ _ _ => sts_nil) (fun _ _ _ _ _ => (se_callB (kSum (K := K)) bc_sum T.n_sum (by decide +kernel) (sa_cons (SF.v (sf_valsN T.n_list (se_var 11))) sa_nil))))))))))⟩
theorem sc_Counts_from_spot : FnScope ["self", "spot", "many", "totals", "name", "outcome", "number"] ["self", "spot", "many"] (defScope s_Counts_from_spot) := ⟨rfl, rfl, rfl, by decide +kernel, rfl, by decide +kernel, by decide +kernel⟩
theorem ok_Counts_from_spot (T : Txt P K mg) (hB : ∀ p ∈ csOf T, LamX.TabB base mg p.1 p.2.1) : letI := nmOf w T; FnG P w K mg base 5 T.a_Counts_from_spot T.d_Counts_from_spot ["self", "spot", "many"] (spOf K 3 m_Counts_from_spot) := by
  letI := nmOf w T
  refine doesT T.p_Counts_from_spot.F sc_Counts_from_spot fun A out s H E hr hG => ?_
  have tk : Takes (cxOf (L2.CX P w) P w K mg base ["self", "spot", "many", "totals", "name", "outcome", "number"] "Counts.from_spot" (defScope s_Counts_from_spot) T.a_Counts_from_spot T.d_Counts_from_spot.code A out s H E) (fun cls d _ H => E cls d H) := takes_of rfl rfl rfl rfl
  have hx : Passes (L2.CX P w) (cxOf (L2.CX P w) P w K mg base ["self", "spot", "many", "totals", "name", "outcome", "number"] "Counts.from_spot" (defScope s_Counts_from_spot) T.a_Counts_from_spot T.d_Counts_from_spot.code A out s H E) E := passes_call tk fun _ _ _ _ h => h
  have ho := passes_of (X := cxOf (L2.CX P w) P w K mg base ["self", "spot", "many", "totals", "name", "outcome", "number"] "Counts.from_spot" (defScope s_Counts_from_spot) T.a_Counts_from_spot T.d_Counts_from_spot.code A out s H E) rfl
  have hu := unitsOf hr
  exact ⟨_, (ss_cons (ss_if (st_cmp (op_eqP (K := K) (un hu)) bop_eq (se_var 2) se_int (nomark _)) (ss_one (ss_ret (se_dispV (un hu) (sps_cons (se_tup sa_nil) se_int sps_nil)))) ss_nil)
      (ss_cons (ss_set (i := 3) sc_Counts_from_spot.nd se_dNewN)
      (ss_cons (ss_for 100000 ho (si_any (K := K) (se_ix (K := K) (se_dgetN (K := K) (un hu) (se_fld (C := "Counts") (se_var 0) (kcls_Counts T) (kno_Counts_line_table T)) (se_var 1)) se_int)) (sg_name (i := 4) sc_Counts_from_spot.nd) (sss_kill [4, 5, 6] (ss_one (ss_kill [5, 6] (ss_if (st_cmp (op_eqP (K := K) (un hu)) bop_eq (se_var 4) se_str (nomark _)) (ss_one (ss_for 100000 ho (si_itemsN (se_dgetM (K := K) (un hu) (se_fld (C := "Counts") (se_var 0) (kcls_Counts T) (kno_Counts_at_way T)) (se_tup (sa_cons (se_var 1) (sa_cons (se_op op_sub bop_sub (se_var 2) se_int) sa_nil))))) (sg_tup (K := K) (sgs_cons (sg_name (i := 5) sc_Counts_from_spot.nd) (sgs_cons (sg_name (i := 6) sc_Counts_from_spot.nd) sgs_nil))) (sss_kill [5, 6] (ss_one (ss_expr (se_call (K := K) (ok_add_to T hB) (hr.mono (by decide)) hG T.p_add_to.g T.p_add_to.F.kp T.p_add_to.b hx (sa_cons (se_var 3) (sa_cons (se_var 5) (sa_cons (se_var 6) sa_nil))) (lenIs_cons (lenIs_cons (lenIs_cons lenIs_nil))))))))) (ss_one (ss_expr (se_meth (C := "Counts") (n := 4) (ok_Counts_add_call T hB) (hr.mono (by decide)) hG (kme_Counts_add_call T) (kcls_Counts T) T.p_Counts_add_call.b hx (se_var 0) (sa_cons (se_var 1) (sa_cons (se_var 4) (sa_cons (se_op op_sub bop_sub (se_var 2) se_int) (sa_cons (se_var 3) sa_nil)))) (lenIs_cons (lenIs_cons (lenIs_cons (lenIs_cons lenIs_nil))))))))))))
      (ss_one (ss_ret (se_lock (se_var 3)))))))⟩
theorem sc__law_program : FnScope ["_law_feed_here", "_law_some", "_law_titles", "_law_title"] ["_law_feed_here"] (defScope s__law_program) := ⟨rfl, rfl, rfl, by decide +kernel, rfl, by decide +kernel, by decide +kernel⟩
theorem ok__law_program (T : Txt P K mg) (hB : ∀ p ∈ csOf T, LamX.TabB base mg p.1 p.2.1) : letI := nmOf w T; FnG P w K mg base 5 T.a__law_program T.d__law_program ["_law_feed_here"] (spOf K 1 m__law_program) := by
  letI := nmOf w T
  refine does T.p__law_program.F sc__law_program fun A out s H E hr hG => ?_
  have tk : Takes (cxOf (L2.CX P w) P w K mg base ["_law_feed_here", "_law_some", "_law_titles", "_law_title"] "_law_program" (defScope s__law_program) T.a__law_program T.d__law_program.code A out s H E) (fun cls d _ H => E cls d H) := takes_of rfl rfl rfl rfl
  have hx : Passes (L2.CX P w) (cxOf (L2.CX P w) P w K mg base ["_law_feed_here", "_law_some", "_law_titles", "_law_title"] "_law_program" (defScope s__law_program) T.a__law_program T.d__law_program.code A out s H E) E := passes_call tk fun _ _ _ _ h => h
  have ho := passes_of (X := cxOf (L2.CX P w) P w K mg base ["_law_feed_here", "_law_some", "_law_titles", "_law_title"] "_law_program" (defScope s__law_program) T.a__law_program T.d__law_program.code A out s H E) rfl
  have hu := unitsOf hr
  exact ⟨_, (ss_cons (ss_if (st_cmp (op_eqP (K := K) (un hu)) bop_eq (se_call (K := K) (ok__law_draw T hB) (hr.mono (by decide)) hG T.p__law_draw.g T.p__law_draw.F.kp T.p__law_draw.b hx (sa_cons (se_var 0) (sa_cons se_int sa_nil)) (lenIs_cons (lenIs_cons lenIs_nil))) se_int (nomark _)) (ss_one (ss_ret (se_call (K := K) (ok__law_any T hB) (hr.mono (by decide)) hG T.p__law_any.g T.p__law_any.F.kp T.p__law_any.b hx (sa_cons (se_var 0) (sa_cons (se_call0 (K := K) (ok__law_hands T hB) (hr.mono (by decide)) hG T.p__law_hands.g T.p__law_hands.F.kp T.p__law_hands.b hx) sa_nil)) (lenIs_cons (lenIs_cons lenIs_nil))))) ss_nil)
      (ss_cons (ss_set (i := 1) sc__law_program.nd (SF.v (sf_lst (sa_cons (se_tup (sa_cons se_str (sa_cons se_str (sa_cons se_str (sa_cons se_str sa_nil))))) (sa_cons (se_tup (sa_cons se_str (sa_cons se_str (sa_cons se_str (sa_cons se_str sa_nil))))) (sa_cons (se_tup (sa_cons se_str (sa_cons se_str (sa_cons se_str (sa_cons se_str sa_nil))))) sa_nil))))))
      (ss_cons (ss_set (i := 2) sc__law_program.nd (SF.v (sf_callTy (kList (K := K)) bc_list T.n_list (by decide +kernel) (sa_cons (se_slice (K := K) (se_call (K := K) (ok__law_any T hB) (hr.mono (by decide)) hG T.p__law_any.g T.p__law_any.F.kp T.p__law_any.b hx (sa_cons (se_var 0) (sa_cons (se_var 1) sa_nil)) (lenIs_cons (lenIs_cons lenIs_nil))) so_none (so_some (se_op (op_addA (K := K)) bop_add se_int (se_call (K := K) (ok__law_draw T hB) (hr.mono (by decide)) hG T.p__law_draw.g T.p__law_draw.F.kp T.p__law_draw.b hx (sa_cons (se_var 0) (sa_cons se_int sa_nil)) (lenIs_cons (lenIs_cons lenIs_nil)))))) sa_nil))))
      (ss_one (ss_ret (se_callTy (kTuple (K := K)) bc_tuple T.n_tuple (by decide +kernel) (sa_cons (SF.v (sf_lc 100000 sc__law_program.nd (si_any (K := K) (se_var 2)) (blkOk_by (own := [("_law_title", 3)]) (N := ["_law_feed_here", "_law_some", "_law_titles", "_law_title"]) (sc := defScope s__law_program) (by decide +kernel)) (fun _ _ _ _ _ => (sg_name (i := 3) sc__law_program.nd)) (fun _ _ _ _ _ => sts_nil) (fun _ _ _ _ _ => (se_call (K := K) (ok__law_function T hB) (hr.mono (by decide)) hG T.p__law_function.g T.p__law_function.F.kp T.p__law_function.b passL (sa_cons (se_var 0) (sa_cons (se_var 3) (sa_cons (se_var 2) sa_nil))) (lenIs_cons (lenIs_cons (lenIs_cons lenIs_nil))))))) sa_nil)))))))⟩
theorem sc_Counts_fill : FnScope ["self", "count", "many", "spot"] ["self", "count"] (defScope s_Counts_fill) := ⟨rfl, rfl, rfl, by decide +kernel, rfl, by decide +kernel, by decide +kernel⟩
theorem ok_Counts_fill (T : Txt P K mg) (hB : ∀ p ∈ csOf T, LamX.TabB base mg p.1 p.2.1) : letI := nmOf w T; FnG P w K mg base 6 T.a_Counts_fill T.d_Counts_fill ["self", "count"] (spOf K 2 m_Counts_fill) := by
  letI := nmOf w T
  refine does T.p_Counts_fill.F sc_Counts_fill fun A out s H E hr hG => ?_
  have tk : Takes (cxOf (L2.CX P w) P w K mg base ["self", "count", "many", "spot"] "Counts.fill" (defScope s_Counts_fill) T.a_Counts_fill T.d_Counts_fill.code A out s H E) (fun cls d _ H => E cls d H) := takes_of rfl rfl rfl rfl
  have hx : Passes (L2.CX P w) (cxOf (L2.CX P w) P w K mg base ["self", "count", "many", "spot"] "Counts.fill" (defScope s_Counts_fill) T.a_Counts_fill T.d_Counts_fill.code A out s H E) E := passes_call tk fun _ _ _ _ h => h
  have ho := passes_of (X := cxOf (L2.CX P w) P w K mg base ["self", "count", "many", "spot"] "Counts.fill" (defScope s_Counts_fill) T.a_Counts_fill T.d_Counts_fill.code A out s H E) rfl
  have hu := unitsOf hr
  exact ⟨_, (ss_one (ss_for 100000 ho (si_range T.n_range (sa_cons (se_op (op_addA (K := K)) bop_add (se_var 1) se_int) sa_nil)) (sg_name (i := 2) sc_Counts_fill.nd) (sss_kill [2, 3] (ss_one (ss_for 100000 ho (si_any (K := K) (SF.v (sf_callTy (GS.cr_listN (wl := Nm.wl) rfl) bc_listN T.n_list (by decide +kernel) (sa_cons (se_fld (C := "Counts") (se_var 0) (kcls_Counts T) (kno_Counts_line_table T)) sa_nil)))) (sg_name (i := 3) sc_Counts_fill.nd) (sss_kill [3] (ss_cons (ss_dputM (K := K) (un hu) (se_fld (C := "Counts") (se_var 0) (kcls_Counts T) (kno_Counts_at_way T)) (se_tup (sa_cons (se_var 3) (sa_cons (se_var 2) sa_nil))) (se_meth (C := "Counts") (n := 2) (ok_Counts_behind_call T hB) (hr.mono (by decide)) hG (kme_Counts_behind_call T) (kcls_Counts T) T.p_Counts_behind_call.b hx (se_var 0) (sa_cons (se_var 3) (sa_cons (se_var 2) sa_nil)) (lenIs_cons (lenIs_cons lenIs_nil))))
      (ss_one (ss_dputM (K := K) (un hu) (se_fld (C := "Counts") (se_var 0) (kcls_Counts T) (kno_Counts_at_call T)) (se_tup (sa_cons (se_var 3) (sa_cons (se_var 2) sa_nil))) (se_meth (C := "Counts") (n := 2) (ok_Counts_from_spot T hB) (hr.mono (by decide)) hG (kme_Counts_from_spot T) (kcls_Counts T) T.p_Counts_from_spot.b hx (se_var 0) (sa_cons (se_var 3) (sa_cons (se_var 2) sa_nil)) (lenIs_cons (lenIs_cons lenIs_nil))))))))))))⟩
theorem sc_how_many_runs : FnScope ["program", "count", "counts"] ["program", "count"] (defScope s_how_many_runs) := ⟨rfl, rfl, rfl, by decide +kernel, rfl, by decide +kernel, by decide +kernel⟩
theorem ok_how_many_runs (T : Txt P K mg) (hB : ∀ p ∈ csOf T, LamX.TabB base mg p.1 p.2.1) : letI := nmOf w T; FnG P w K mg base 8 T.a_how_many_runs T.d_how_many_runs ["program", "count"] (spOf K 2 m_how_many_runs) := by
  letI := nmOf w T
  refine doesT T.p_how_many_runs.F sc_how_many_runs fun A out s H E hr hG => ?_
  have tk : Takes (cxOf (L2.CX P w) P w K mg base ["program", "count", "counts"] "how_many_runs" (defScope s_how_many_runs) T.a_how_many_runs T.d_how_many_runs.code A out s H E) (fun cls d _ H => E cls d H) := takes_of rfl rfl rfl rfl
  have hx : Passes (L2.CX P w) (cxOf (L2.CX P w) P w K mg base ["program", "count", "counts"] "how_many_runs" (defScope s_how_many_runs) T.a_how_many_runs T.d_how_many_runs.code A out s H E) E := passes_call tk fun _ _ _ _ h => h
  have ho := passes_of (X := cxOf (L2.CX P w) P w K mg base ["program", "count", "counts"] "how_many_runs" (defScope s_how_many_runs) T.a_how_many_runs T.d_how_many_runs.code A out s H E) rfl
  have hu := unitsOf hr
  exact ⟨_, (ss_cons (ss_set (i := 2) sc_how_many_runs.nd (se_make (C := "Counts") (n := 1) (dd := []) (kmk_Counts T) (ok_Counts___init__ T hB) (hr.mono (by decide)) hG (kg_Counts T) T.p_Counts___init__.b.choose_spec.2 T.p_Counts___init__.b.choose_spec.1 (fun _ _ => .nil) hx (sa_cons (se_var 0) sa_nil) (lenIs_cons lenIs_nil)))
      (ss_cons (ss_expr (se_meth (C := "Counts") (n := 1) (ok_Counts_fill T hB) (hr.mono (by decide)) hG (kme_Counts_fill T) (kcls_Counts T) T.p_Counts_fill.b hx (se_var 2) (sa_cons (se_var 1) sa_nil) (lenIs_cons lenIs_nil)))
      (ss_one (ss_ret (se_callB (kSum (K := K)) bc_sum T.n_sum (by decide +kernel) (sa_cons (SF.v (sf_valsN T.n_list (se_dgetM (K := K) (un hu) (se_fld (C := "Counts") (se_var 2) (kcls_Counts T) (kno_Counts_at_call T)) (se_tup (sa_cons (se_tup (sa_cons (se_ix (K := K) (se_ix (K := K) (se_var 0) se_int) se_int) (sa_cons se_int sa_nil))) (sa_cons (se_var 1) sa_nil)))))) sa_nil))))))⟩
theorem sc__law_right : FnScope ["_law_feed_here", "_law_prog", "_law_many", "_law_due", "_law_n"] ["_law_feed_here", "_law_prog", "_law_many"] (defScope s__law_right) := ⟨rfl, rfl, rfl, by decide +kernel, rfl, by decide +kernel, by decide +kernel⟩
theorem ok__law_right (T : Txt P K mg) (hB : ∀ p ∈ csOf T, LamX.TabB base mg p.1 p.2.1) : letI := nmOf w T; FnG P w K mg base 9 T.a__law_right T.d__law_right ["_law_feed_here", "_law_prog", "_law_many"] (spOf K 3 m__law_right) := by
  letI := nmOf w T
  refine does T.p__law_right.F sc__law_right fun A out s H E hr hG => ?_
  have tk : Takes (cxOf (L2.CX P w) P w K mg base ["_law_feed_here", "_law_prog", "_law_many", "_law_due", "_law_n"] "_law_right" (defScope s__law_right) T.a__law_right T.d__law_right.code A out s H E) (fun cls d _ H => E cls d H) := takes_of rfl rfl rfl rfl
  have hx : Passes (L2.CX P w) (cxOf (L2.CX P w) P w K mg base ["_law_feed_here", "_law_prog", "_law_many", "_law_due", "_law_n"] "_law_right" (defScope s__law_right) T.a__law_right T.d__law_right.code A out s H E) E := passes_call tk fun _ _ _ _ h => h
  have ho := passes_of (X := cxOf (L2.CX P w) P w K mg base ["_law_feed_here", "_law_prog", "_law_many", "_law_due", "_law_n"] "_law_right" (defScope s__law_right) T.a__law_right T.d__law_right.code A out s H E) rfl
  have hu := unitsOf hr
  exact ⟨_, (ss_cons (ss_set (i := 3) sc__law_right.nd (se_call (K := K) (ok__law_counts T hB) (hr.mono (by decide)) hG T.p__law_counts.g T.p__law_counts.F.kp T.p__law_counts.b hx (sa_cons (se_var 1) (sa_cons (se_var 2) sa_nil)) (lenIs_cons (lenIs_cons lenIs_nil))))
      (ss_cons (ss_for 100000 ho (si_any (K := K) (se_tup (sa_cons (se_var 2) (sa_cons (se_op op_sub bop_sub (se_var 2) se_int) (sa_cons (se_call (K := K) (ok__law_draw T hB) (hr.mono (by decide)) hG T.p__law_draw.g T.p__law_draw.F.kp T.p__law_draw.b hx (sa_cons (se_var 0) (sa_cons (se_op (op_addA (K := K)) bop_add (se_var 2) se_int) sa_nil)) (lenIs_cons (lenIs_cons lenIs_nil))) (sa_cons (se_var 2) sa_nil)))))) (sg_name (i := 4) sc__law_right.nd) (sss_kill [4] (ss_one (ss_if (st_cmp (op_neP (K := K) (un hu)) bop_ne (se_callB (cr_reprP (K := K) (un hu) hG) bc_repr T.n_repr (by decide +kernel) (sa_cons (se_call (K := K) (ok_how_many_runs T hB) (hr.mono (by decide)) hG T.p_how_many_runs.g T.p_how_many_runs.F.kp T.p_how_many_runs.b hx (sa_cons (se_var 1) (sa_cons (se_var 4) sa_nil)) (lenIs_cons (lenIs_cons lenIs_nil))) sa_nil)) (se_callB (cr_reprP (K := K) (un hu) hG) bc_repr T.n_repr (by decide +kernel) (sa_cons (se_ix (K := K) (se_var 3) (se_var 4)) sa_nil)) (nomark _)) (ss_one (ss_ret se_bl)) ss_nil))))
      (ss_one (ss_ret (se_cmp (op_eqP (K := K) (un hu)) bop_eq (se_callB (cr_reprP (K := K) (un hu) hG) bc_repr T.n_repr (by decide +kernel) (sa_cons (se_callKw0 (K := K) (ok_how_many_runs T hB) (hr.mono (by decide)) hG T.p_how_many_runs.g T.p_how_many_runs.F.kp (kb_how_many_runs_0_count_program T.p_how_many_runs.F) hx (sk_cons (se_var 2) (sk_cons (se_var 1) sk_nil)) (lenIs_cons (lenIs_cons lenIs_nil)) (kb_how_many_runs_0_count_program_ix)) sa_nil)) (se_callB (cr_reprP (K := K) (un hu) hG) bc_repr T.n_repr (by decide +kernel) (sa_cons (se_ix (K := K) (se_var 3) (se_var 2)) sa_nil)) (nomark _))))))⟩
theorem sc_law : FnScope ["_law_script", "_law_feed_here", "_law_some", "_law_prog", "_law_many", "_law_kept", "_law_two", "_law_title", "_law_lines", "_law_n"] ["_law_script"] (defScope s_law) := ⟨rfl, rfl, rfl, by decide +kernel, rfl, by decide +kernel, by decide +kernel⟩
theorem ok_law (T : Txt P K mg) (hB : ∀ p ∈ csOf T, LamX.TabB base mg p.1 p.2.1) : letI := nmOf w T; FnG P w K mg base 10 T.a_law T.d_law ["_law_script"] (spOf K 1 m_law) := by
  letI := nmOf w T
  refine doesT T.p_law.F sc_law fun A out s H E hr hG => ?_
  have tk : Takes (cxOf (L2.CX P w) P w K mg base ["_law_script", "_law_feed_here", "_law_some", "_law_prog", "_law_many", "_law_kept", "_law_two", "_law_title", "_law_lines", "_law_n"] "law" (defScope s_law) T.a_law T.d_law.code A out s H E) (fun cls d _ H => E cls d H) := takes_of rfl rfl rfl rfl
  have hx : Passes (L2.CX P w) (cxOf (L2.CX P w) P w K mg base ["_law_script", "_law_feed_here", "_law_some", "_law_prog", "_law_many", "_law_kept", "_law_two", "_law_title", "_law_lines", "_law_n"] "law" (defScope s_law) T.a_law T.d_law.code A out s H E) E := passes_call tk fun _ _ _ _ h => h
  have ho := passes_of (X := cxOf (L2.CX P w) P w K mg base ["_law_script", "_law_feed_here", "_law_some", "_law_prog", "_law_many", "_law_kept", "_law_two", "_law_title", "_law_lines", "_law_n"] "law" (defScope s_law) T.a_law T.d_law.code A out s H E) rfl
  have hu := unitsOf hr
  exact ⟨_, (ss_cons (ss_set (i := 1) sc_law.nd (se_call (K := K) (ok__law_feed T hB) (hr.mono (by decide)) hG T.p__law_feed.g T.p__law_feed.F.kp T.p__law_feed.b hx (sa_cons (se_var 0) sa_nil) (lenIs_cons lenIs_nil)))
      (ss_cons (ss_set (i := 2) sc_law.nd (SF.v (sf_lst (sa_cons (se_call (K := K) (ok__law_program T hB) (hr.mono (by decide)) hG T.p__law_program.g T.p__law_program.F.kp T.p__law_program.b hx (sa_cons (se_var 1) sa_nil) (lenIs_cons lenIs_nil)) (sa_cons (se_call (K := K) (ok__law_program T hB) (hr.mono (by decide)) hG T.p__law_program.g T.p__law_program.F.kp T.p__law_program.b hx (sa_cons (se_var 1) sa_nil) (lenIs_cons lenIs_nil)) (sa_cons (se_call (K := K) (ok__law_any T hB) (hr.mono (by decide)) hG T.p__law_any.g T.p__law_any.F.kp T.p__law_any.b hx (sa_cons (se_var 1) (sa_cons (se_call0 (K := K) (ok__law_hands T hB) (hr.mono (by decide)) hG T.p__law_hands.g T.p__law_hands.F.kp T.p__law_hands.b hx) sa_nil)) (lenIs_cons (lenIs_cons lenIs_nil))) sa_nil))))))
      (ss_cons (ss_for 100000 ho (si_any (K := K) (se_var 2)) (sg_name (i := 3) sc_law.nd) (sss_kill [3, 4, 5] (ss_cons (ss_par2 (i := 4) (j := 5) sc_law.nd (by decide) (sa_cons (se_ix (K := K) (SF.v (sf_lst (sa_cons se_int (sa_cons se_int (sa_cons se_int (sa_cons se_int (sa_cons se_int (sa_cons se_int sa_nil)))))))) (se_call (K := K) (ok__law_draw T hB) (hr.mono (by decide)) hG T.p__law_draw.g T.p__law_draw.F.kp T.p__law_draw.b hx (sa_cons (se_var 1) (sa_cons se_int sa_nil)) (lenIs_cons (lenIs_cons lenIs_nil)))) (sa_cons (se_callB (cr_reprP (K := K) (un hu) hG) bc_repr T.n_repr (by decide +kernel) (sa_cons (se_var 3) sa_nil)) sa_nil)))
      (ss_cons (ss_if (st_cmp op_gt bop_cmp (se_callB (kSum (K := K)) bc_sum T.n_sum (by decide +kernel) (sa_cons (SF.v (sf_lc 100000 sc_law.nd (si_any (K := K) (se_var 3)) (blkOk_by (own := [("_law_title", 7), ("_law_lines", 8)]) (N := ["_law_script", "_law_feed_here", "_law_some", "_law_prog", "_law_many", "_law_kept", "_law_two", "_law_title", "_law_lines", "_law_n"]) (sc := defScope s_law) (by decide +kernel)) (fun _ _ _ _ _ => (sg_tup (K := K) (sgs_cons (sg_name (i := 7) sc_law.nd) (sgs_cons (sg_name (i := 8) sc_law.nd) sgs_nil)))) (fun _ _ _ _ _ => sts_nil) (fun _ _ _ _ _ => (se_callB (kLen (K := K)) bc_len T.n_len (by decide +kernel) (sa_cons (se_var 8) sa_nil))))) sa_nil)) se_int (nomark _)) (ss_one (ss_set (i := 4) sc_law.nd (se_callB (call_min2 rfl) bc_min2 T.n_min (by decide +kernel) (sa_cons (se_var 4) (sa_cons se_int sa_nil))))) ss_nil)
      (ss_one (ss_if (SW.st (sw_or (st_not (st_truth (K := K) (se_call (K := K) (ok__law_right T hB) (hr.mono (by decide)) hG T.p__law_right.g T.p__law_right.F.kp T.p__law_right.b hx (sa_cons (se_var 1) (sa_cons (se_var 3) (sa_cons (se_var 4) sa_nil))) (lenIs_cons (lenIs_cons (lenIs_cons lenIs_nil)))))) (sw_or1 (st_cmp (op_neP (K := K) (un hu)) bop_ne (se_callB (cr_reprP (K := K) (un hu) hG) bc_repr T.n_repr (by decide +kernel) (sa_cons (se_var 3) sa_nil)) (se_var 5) (nomark _))))) (ss_one (ss_ret se_bl)) ss_nil))))))
      (ss_cons (ss_if (SW.st (sw_and (st_cmp (op_eqP (K := K) (un hu)) bop_eq (se_call (K := K) (ok__law_draw T hB) (hr.mono (by decide)) hG T.p__law_draw.g T.p__law_draw.F.kp T.p__law_draw.b hx (sa_cons (se_var 1) (sa_cons se_int sa_nil)) (lenIs_cons (lenIs_cons lenIs_nil))) se_int (nomark _)) (sw_and1 (st_not (st_truth (K := K) (se_call (K := K) (ok__law_right T hB) (hr.mono (by decide)) hG T.p__law_right.g T.p__law_right.F.kp T.p__law_right.b hx (sa_cons (se_var 1) (sa_cons (se_call0 (K := K) (ok__law_great T hB) (hr.mono (by decide)) hG T.p__law_great.g T.p__law_great.F.kp T.p__law_great.b hx) (sa_cons se_int sa_nil))) (lenIs_cons (lenIs_cons (lenIs_cons lenIs_nil))))))))) (ss_one (ss_ret se_bl)) ss_nil)
      (ss_cons (ss_set (i := 6) sc_law.nd (se_tup (sa_cons (se_tup (sa_cons se_str (sa_cons (se_tup (sa_cons (se_tup (sa_cons (se_tup (sa_cons se_str sa_nil)) (sa_cons (se_tup (sa_cons se_int (sa_cons (se_tup (sa_cons se_str sa_nil)) (sa_cons (se_tup (sa_cons se_str (sa_cons se_str sa_nil))) sa_nil)))) (sa_cons (se_tup (sa_cons (se_tup (sa_cons se_str (sa_cons se_int sa_nil))) sa_nil)) sa_nil)))) sa_nil)) sa_nil))) sa_nil)))
      (ss_one (ss_ret (se_cmp (op_eqP (K := K) (un hu)) bop_eq (SF.v (sf_lc 100000 sc_law.nd (si_any (K := K) (se_tup (sa_cons se_int (sa_cons se_int (sa_cons se_int (sa_cons se_int (sa_cons se_int sa_nil))))))) (blkOk_by (own := [("_law_n", 9)]) (N := ["_law_script", "_law_feed_here", "_law_some", "_law_prog", "_law_many", "_law_kept", "_law_two", "_law_title", "_law_lines", "_law_n"]) (sc := defScope s_law) (by decide +kernel)) (fun _ _ _ _ _ => (sg_name (i := 9) sc_law.nd)) (fun _ _ _ _ _ => sts_nil) (fun _ _ _ _ _ => (se_call (K := K) (ok_how_many_runs T hB) (hr.mono (by decide)) hG T.p_how_many_runs.g T.p_how_many_runs.F.kp T.p_how_many_runs.b passL (sa_cons (se_var 6) (sa_cons (se_var 9) sa_nil)) (lenIs_cons (lenIs_cons lenIs_nil)))))) (SF.v (sf_lst (sa_cons se_int (sa_cons se_int (sa_cons se_int (sa_cons se_int (sa_cons se_int sa_nil))))))) (nomark _)))))))))⟩
end
end Yk22
namespace Yk22
open PySem L2 B
def feedP (cs : List Int) (a l c : Int) : O := .dk [(.inr "cells", .list (cs.map .int)), (.inr "next", .int a), (.inr "rest", .int l), (.inr "turn", .int c)]
def isFeedP (o : O) : Prop := ∃ cs a l c, o = feedP cs a l c
theorem draw_ok {o : O} {many : Int} {rest : Store} (ho : isFeedP o) (h0 : 0 < many) (h1 : many < 1073741824) :
    wpx noE (m__law_draw [.loc 0, .val (.int many)] (o :: rest)) fun d s => ∃ r f, (0 ≤ r ∧ r < many ∧ isFeedP f) ∧ d = .val (.int r) ∧ s = f :: rest := by
  obtain ⟨cs, a, l, c, rfl⟩ := ho
  by_cases hc : cs = []
  · subst hc
    simp [m__law_draw, b__law_draw, feedP, putP, PyData.eqv, PyData.eqvAll, PyData.depth, PyData.depthAll]
    repeat' first
      | exact h0 | exact h1 | exact emod_pos h0 | exact Int.emod_lt_of_pos _ h0 | exact ⟨[], _, _, _, rfl⟩ | decide
      | exact Int.lt_of_lt_of_le (by decide) (emod_pos (by decide)) | exact Int.lt_trans (Int.emod_lt_of_pos _ (by decide)) (by decide)
      | apply And.intro | split
  · obtain ⟨v, hv⟩ := atI_mod hc a
    have hl : (0 : Int) < cs.length := by have := List.length_pos_iff.mpr hc; omega
    simp [m__law_draw, b__law_draw, feedP, putP, eqv_nil, hc, hv]
    repeat' first
      | exact h0 | exact h1 | exact hl | exact List.length_pos_iff.mpr hc | exact emod_pos h0 | exact Int.emod_lt_of_pos _ h0 | exact ⟨_, _, _, _, rfl⟩ | decide
      | exact Int.lt_of_lt_of_le (by decide) (emod_pos (by decide)) | exact Int.lt_trans (Int.emod_lt_of_pos _ (by decide)) (by decide)
      | exact Or.inr (by decide : PyData.depth (.list []) ≤ 64)
      | exact Nat.le_trans (Nat.min_le_right _ _) (by decide : PyData.depth (.list []) ≤ 64)
      | apply And.intro | split
theorem feed_ok (ns : List Int) (h : ns.length ≤ 63) : m__law_feed [.frz (ns.map PyData.int)] [] = .ok (.loc 0) [feedP ns 0 0 0] := by
  refine of_wp ?_
  simp [m__law_feed, b__law_feed, newDk, kvsOf, mergeP, putP, feedP]
  simp only [cutP, HT.sIx_none, List.drop_zero, Nat.sub_zero]
  rw [show (63 : Int) = ((63 : Nat) : Int) from rfl, HT.sIx_nat]
  exact List.take_of_length_le (by simp; omega)
theorem any_ok {o : O} {xs : List PyData} {rest : Store} (ho : isFeedP o) (h0 : xs ≠ []) (h1 : xs.length ≤ 1000) :
    wpx noE (m__law_any [.loc 0, .val (.list xs)] (o :: rest)) fun d s => ∃ x f, (x ∈ xs ∧ isFeedP f) ∧ d = .val x ∧ s = f :: rest := by
  have hl := List.length_pos_iff.mpr h0
  simp [m__law_any, b__law_any]
  refine wp_mono (draw_ok ho (by omega) (by omega)) ?_
  rintro d s ⟨r, f, ⟨hr0, hr1, hf⟩, rfl, rfl⟩
  obtain ⟨x, hx, ex⟩ := atI_some (xs := xs) hr0 hr1
  simp [ex]
  exact ⟨hx, hf⟩
def posF (t s d e : D) : List (Str × D) := [("table", t), ("stack", s), ("due", d), ("ending", e)]
section
variable {t s d e y : D}
@[simp] theorem pf_len : (posF t s d e).length = 4 := rfl
end
def HandP (hs : List PyData) : Prop := ∀ h ∈ hs, ∃ (k : Str) (i : Nat), h = .tuple [.str k, .int i]
theorem handler_line {hs : List PyData} (h : HandP hs) (kind : Str) (st : Store) : m_handler_line [.val (.tuple hs), .val (.str kind)] st = .ok (.val (.int ((hLine kind hs).getD (-1)))) st := by
  refine of_wp ?_
  simp [m_handler_line, b_handler_line]
  have key : ∀ (ts : List PyData) (env : B.Env), HandP ts → (∃ a b c, env = [a, some (.val (.str kind)), b, c]) → wpx noE (forF (fun x env => bd (setT 2 (setsCons (setV 2) (setsCons (setV 3) setsNil)) (D.val x) env)
      (killS [2, 3] (ifS (orT (tst (op2 eqF (gv 2) (gv 1))) (tst (op2 eqF (gv 2) (cD (D.val (PyData.str (Str.ofString ""))))))) (retS (gv 3)) nxS))) ts env st) fun r s => s = st ∧ match hLine kind ts with | some j => r = .rt (.val (.int j)) | none => ∃ e, r = .nx e := by
    intro ts
    induction ts with
    | nil => rintro env _ _; simp [hLine, forF]
    | cons t ts ih =>
      rintro env ht ⟨a, b, c, rfl⟩
      obtain ⟨k, i, rfl⟩ := ht t (List.mem_cons_self ..)
      have ih' := ih [a, some (.val (.str kind)), none, none] (fun x hx => ht x (List.mem_cons_of_mem _ hx)) ⟨a, none, none, rfl⟩
      by_cases e : k = kind ∨ k = Str.ofString ""
      · simp only [hLine, e, if_true]
        rcases e with e | e
        · simp [forF, e, kill, PyData.depth]
        · simp [forF, e, kill, PyData.depth]
      · obtain ⟨e1, e2⟩ := not_or.mp e
        simp only [hLine, e, if_false]
        simp [forF, kill, PyData.depth]
        rw [if_neg e1, if_neg e2]
        exact ih'
  refine wp_mono (key hs _ h ⟨_, _, _, rfl⟩) ?_
  rintro r s ⟨rfl, hr⟩
  cases hh : hLine kind hs with
  | none =>
    rw [hh] at hr
    obtain ⟨e, rfl⟩ := hr
    simp
  | some j =>
    rw [hh] at hr
    subst hr
    simp
theorem hand_of {sz : Nat} {hs : List PyData} (h : ∀ h ∈ hs, ∃ (k : Str) (i : Nat), i < sz ∧ h = .tuple [.str k, .int i]) : HandP hs := fun x hx => by
  obtain ⟨k, i, _, e⟩ := h x hx
  exact ⟨k, i, e⟩
theorem dp1 {x : Str} : (PyData.tuple [.str x]).depth ≤ 64 := by simp [PyData.depth, PyData.depthAll]
theorem dm1 {d : PyData} {x : Str} : min d.depth (PyData.tuple [.str x]).depth ≤ 64 := Nat.le_trans (Nat.min_le_right _ _) dp1
theorem ev1 {x : Str} : (PyData.tuple [.str x]).eqv (.tuple [.str x]) = true := by simp [PyData.eqv, PyData.eqvAll]
theorem ev2 {x y z : Str} : (PyData.tuple [.str x, .str y]).eqv (.tuple [.str z]) = false := by simp [PyData.eqv, PyData.eqvAll]
theorem hLine_mem {sz : Nat} {k : Str} {j : Int} : ∀ {hs : List PyData}, (∀ h ∈ hs, ∃ (k : Str) (i : Nat), i < sz ∧ h = .tuple [.str k, .int i]) → hLine k hs = some j → ∃ a : Nat, j = a ∧ a < sz
  | [], _, hk => by cases hk
  | t :: ts, hh, hk => by
    obtain ⟨k2, i2, hi2, rfl⟩ := hh t (List.mem_cons_self ..)
    simp only [hLine] at hk
    split at hk
    · cases hk; exact ⟨i2, rfl, hi2⟩
    · exact hLine_mem (fun x hx => hh x (List.mem_cons_of_mem _ hx)) hk
end Yk22
namespace Yk22
open PySem L2 B
end Yk22
namespace Yk22
open PySem L2 B
end Yk22
namespace Yk22
open PySem L2 B
end Yk22
namespace Yk22
open PySem L2 B
end Yk22
namespace Yk22
open PySem L2 B
def Cl (st : Store) : Prop := stOk st.length st = true
theorem law_lineC {fs : List PyData} {n : Str} {i : Nat} {rs : List PyData} {x : PyData} (h : PrgP fs) (hr : rowsOf fs n = some rs) (hx : atI rs (i : Int) = some x) {st : Store} (hs : Cl st) :
    m__law_line [.val (.tuple fs), .val (.tuple [.str n, .int i])] st = .ok (.val x) st := by
  refine of_wp ?_
  have hg := rows_get hr
  have hp := pairs_fs h.fn
  have hl := h.le
  have hd : dictG [.val (.list fs)] st = .ok (.loc st.length) (st ++ [.dk (B.tabOf fs)]) := by
    simp only [dictG, dat, hp, B.tabOf]
  simp [m__law_line, b__law_line, hd, hg, hx]
  exact hs
end Yk22
namespace Yk22
open PySem L2 B
theorem feed_pl {o : O} {st : Store} (ho : isFeedP o) (hs : Pl st) : Pl (o :: st) := by
  obtain ⟨cs, a, l, c, rfl⟩ := ho
  exact hs.cons_dk _
theorem cut_to {α : Type} (xs : List α) (i : Nat) : cutP xs none (some (i : Int)) = xs.take i := by
  unfold cutP
  rw [HT.sIx_none, HT.sIx_nat]
  simp only [List.drop_zero, Nat.sub_zero]
  rcases Nat.le_total i xs.length with h | h
  · rw [Nat.min_eq_left h]
  · rw [Nat.min_eq_right h, List.take_of_length_le h, List.take_of_length_le (Nat.le_refl _)]
theorem put_mem {kvs : List (Key × PyData)} {k : Key} {v : PyData} {x : Key × PyData} (h : x ∈ putP kvs k v) : x ∈ kvs ∨ x = (k, v) := by
  unfold putP at h
  split at h
  · obtain ⟨kv, hm, e⟩ := List.mem_map.mp h
    split at e
    · rename_i ek
      right; rw [← e, ek]
    · left; rw [← e]; exact hm
  · rcases List.mem_append.mp h with h | h
    · exact .inl h
    · exact .inr (List.mem_singleton.mp h)
theorem merge_mem : ∀ {more kvs : List (Key × PyData)} {x : Key × PyData}, x ∈ mergeP kvs more → x ∈ kvs ∨ x ∈ more
  | [], _, _, h => .inl h
  | (k, v) :: r, kvs, x, h => by
    rcases merge_mem (more := r) (kvs := putP kvs k v) h with h | h
    · rcases put_mem h with h | h
      · exact .inl h
      · exact .inr (h ▸ List.mem_cons_self ..)
    · exact .inr (List.mem_cons_of_mem _ h)
theorem put_key {kvs : List (Key × PyData)} {k j : Key} {v : PyData} (h : j = k ∨ ∃ d, (j, d) ∈ kvs) : ∃ d, (j, d) ∈ putP kvs k v := by
  unfold putP
  split
  · rename_i ha
    have hm : ∃ d, (j, d) ∈ kvs := by
      rcases h with rfl | h
      · obtain ⟨kv, hm, e⟩ := List.any_eq_true.mp ha
        have e := of_decide_eq_true e
        exact ⟨kv.2, by rw [← e]; exact hm⟩
      · exact h
    obtain ⟨d, hd⟩ := hm
    by_cases e : j = k
    · exact ⟨v, List.mem_map.mpr ⟨(j, d), hd, by simp [e]⟩⟩
    · exact ⟨d, List.mem_map.mpr ⟨(j, d), hd, by simp [e]⟩⟩
  · rcases h with rfl | ⟨d, hd⟩
    · exact ⟨v, List.mem_append.mpr (.inr (List.mem_singleton.mpr rfl))⟩
    · exact ⟨d, List.mem_append.mpr (.inl hd)⟩
theorem merge_key : ∀ {more kvs : List (Key × PyData)} {j : Key}, (∃ d, (j, d) ∈ kvs ∨ (j, d) ∈ more) → ∃ d, (j, d) ∈ mergeP kvs more
  | [], kvs, j, ⟨d, h⟩ => ⟨d, h.resolve_right (by simp)⟩
  | (k, v) :: r, kvs, j, ⟨d, h⟩ => by
    refine merge_key (more := r) (kvs := putP kvs k v) ?_
    rcases h with h | h
    · obtain ⟨d2, h2⟩ := put_key (k := k) (v := v) (.inr ⟨d, h⟩)
      exact ⟨d2, .inl h2⟩
    · rcases List.mem_cons.mp h with h | h
      · cases h
        obtain ⟨d2, h2⟩ := put_key (kvs := kvs) (k := k) (j := k) (v := v) (.inl rfl)
        exact ⟨d2, .inl h2⟩
      · exact ⟨d, .inr h⟩
theorem get_mem {kvs : List (Key × PyData)} {k : Key} {v : PyData} (h : getP kvs k = some v) : (k, v) ∈ kvs := by
  induction kvs with
  | nil => cases h
  | cons x r ih =>
    obtain ⟨k', d⟩ := x
    rw [getP_cons] at h
    split at h
    · rename_i e; cases h; rw [e]; exact List.mem_cons_self ..
    · exact List.mem_cons_of_mem _ (ih h)
theorem get_key {kvs : List (Key × PyData)} {k : Key} (h : ∃ d, (k, d) ∈ kvs) : ∃ v, getP kvs k = some v := by
  induction kvs with
  | nil => obtain ⟨d, h⟩ := h; cases h
  | cons x r ih =>
    obtain ⟨k', d⟩ := x
    rw [getP_cons]
    split
    · exact ⟨d, rfl⟩
    · rename_i ne
      obtain ⟨d2, h⟩ := h
      rcases List.mem_cons.mp h with h | h
      · cases h; exact absurd rfl ne
      · exact ih ⟨d2, h⟩
structure RowG (ns : List Str) (sz : Nat) (r : PyData) : Prop where
  ex : ∃ cs ws hs, r = .tuple [.tuple cs, .tuple ws, .tuple hs] ∧ (cs ≠ [] ∧ ws ≠ []) ∧ (∀ c ∈ cs, ∃ x, c = .str x ∧ (x = Str.ofString "" ∨ x ∈ ns)) ∧
    (∀ w ∈ ws, (∃ i : Nat, i < sz ∧ w = .int i) ∨ w = .tuple [.str "back"] ∨ ∃ k, w = .tuple [.str "fail", .str k]) ∧ (∀ h ∈ hs, ∃ (k : Str) (i : Nat), i < sz ∧ h = .tuple [.str k, .int i]) ∧
    cs.length ≤ 100 ∧ ws.length ≤ 100 ∧ hs.length ≤ 100
def FunG (ns : List Str) (f : PyData) : Prop := ∃ n rs, f = .tuple [.str n, .tuple rs] ∧ rs ≠ [] ∧ rs.length ≤ 40 ∧ ∀ r ∈ rs, RowG ns rs.length r
theorem rows_mem {fs : List PyData} (hf : ∀ f ∈ fs, isFn f) {n : Str} {rs : List PyData} (h : rowsOf fs n = some rs) : .tuple [.str n, .tuple rs] ∈ fs := by
  have hm := get_mem (rows_get h)
  unfold B.tabOf at hm
  rcases merge_mem hm with hm | hm
  · cases hm
  · obtain ⟨f, hf1, e⟩ := List.mem_map.mp hm
    obtain ⟨n2, rs2, rfl⟩ := hf f hf1
    simp only [kvP, Prod.mk.injEq, Sum.inr.injEq, PyData.tuple.injEq] at e
    rw [← e.1, ← e.2]; exact hf1
theorem rows_of {fs : List PyData} (hf : ∀ f ∈ fs, isFn f) {n : Str} {l : PyData} (h : .tuple [.str n, l] ∈ fs) : ∃ rs, rowsOf fs n = some rs := by
  obtain ⟨v, hv⟩ := get_key (merge_key (kvs := []) (more := fs.map kvP) (j := .inr n) ⟨l, .inr (List.mem_map.mpr ⟨_, h, rfl⟩)⟩)
  have hm := get_mem hv
  rcases merge_mem hm with hm | hm
  · cases hm
  · obtain ⟨f, hf1, e⟩ := List.mem_map.mp hm
    obtain ⟨n2, rs2, rfl⟩ := hf f hf1
    simp only [kvP, Prod.mk.injEq] at e
    exact ⟨rs2, by unfold B.rowsOf B.tabOf; rw [hv, ← e.2]⟩
theorem prg_of {fs : List PyData} {ns : List Str} (hg : ∀ f ∈ fs, FunG ns f) (hn : ∀ n ∈ ns, ∃ l, .tuple [.str n, l] ∈ fs) (h0 : fs ≠ []) (h8 : fs.length ≤ 8) : PrgP fs := by
  have hf : ∀ f ∈ fs, isFn f := fun f h => by
    obtain ⟨n, rs, e, _⟩ := hg f h
    exact ⟨n, rs, e⟩
  have hrow : ∀ n rs, rowsOf fs n = some rs → rs ≠ [] ∧ rs.length ≤ 40 ∧ ∀ r ∈ rs, RowG ns rs.length r := fun n rs h => by
    obtain ⟨n2, rs2, e, h1⟩ := hg _ (rows_mem hf h)
    cases e
    exact h1
  refine ⟨hf, h0, h8, fun n rs h => ?_, fun n l r e => ?_⟩
  · obtain ⟨h1, h2, h3⟩ := hrow n rs h
    refine ⟨h1, h2, fun r hr => ?_⟩
    obtain ⟨cs, ws, hs, e, ha, hc, hw⟩ := (h3 r hr).ex
    refine ⟨cs, ws, hs, e, ha, fun c hcm => ?_, hw⟩
    obtain ⟨x, e, hx⟩ := hc c hcm
    refine ⟨x, e, hx.imp id fun hx => ?_⟩
    obtain ⟨l, hl⟩ := hn x hx
    obtain ⟨rs2, h2⟩ := rows_of hf hl
    exact ⟨rs2, h2, (hrow x rs2 h2).1⟩
  · exact rows_of hf (e ▸ List.mem_cons_self ..)
def wayB (sz : Nat) : PyData → Bool
  | .int i => decide (0 ≤ i) && decide (i < sz)
  | .tuple [.str a] => decide (a = Str.ofString "back")
  | .tuple [.str a, .str _] => decide (a = Str.ofString "fail")
  | _ => false
def handB (sz : Nat) : PyData → Bool
  | .tuple [.str _, .int i] => decide (0 ≤ i) && decide (i < sz)
  | _ => false
def callB (ns : List Str) : PyData → Bool
  | .str x => decide (x = Str.ofString "") || decide (x ∈ ns)
  | _ => false
def rowB (ns : List Str) (sz : Nat) : PyData → Bool
  | .tuple [.tuple cs, .tuple ws, .tuple hs] => (!cs.isEmpty && !ws.isEmpty) && (cs.all (callB ns) && (ws.all (wayB sz) && (hs.all (handB sz) && (decide (cs.length ≤ 100) && (decide (ws.length ≤ 100) && decide (hs.length ≤ 100))))))
  | _ => false
def funB (ns : List Str) : PyData → Bool
  | .tuple [.str _, .tuple rs] => !rs.isEmpty && (decide (rs.length ≤ 40) && rs.all (rowB ns rs.length))
  | _ => false
def nameF : PyData → List Str
  | .tuple [.str n, _] => [n]
  | _ => []
def prgB : PyData → Bool
  | .tuple fs => !fs.isEmpty && (decide (fs.length ≤ 8) && fs.all (funB (fs.flatMap nameF)))
  | _ => false
theorem wayB_ok {sz : Nat} {w : PyData} (h : wayB sz w = true) : (∃ i : Nat, i < sz ∧ w = .int i) ∨ w = .tuple [.str "back"] ∨ ∃ k, w = .tuple [.str "fail", .str k] := by
  unfold wayB at h
  split at h
  · simp only [Bool.and_eq_true, decide_eq_true_eq] at h
    rename_i i
    exact .inl ⟨i.toNat, by omega, by rw [Int.toNat_of_nonneg h.1]⟩
  · exact .inr (.inl (by rw [of_decide_eq_true h]))
  · exact .inr (.inr ⟨_, by rw [of_decide_eq_true h]⟩)
  · cases h
theorem handB_ok {sz : Nat} {w : PyData} (h : handB sz w = true) : ∃ (k : Str) (i : Nat), i < sz ∧ w = .tuple [.str k, .int i] := by
  unfold handB at h
  split at h
  · simp only [Bool.and_eq_true, decide_eq_true_eq] at h
    rename_i k i
    exact ⟨k, i.toNat, by omega, by rw [Int.toNat_of_nonneg h.1]⟩
  · cases h
theorem callB_ok {ns : List Str} {c : PyData} (h : callB ns c = true) : ∃ x, c = .str x ∧ (x = Str.ofString "" ∨ x ∈ ns) := by
  unfold callB at h
  split at h
  · simp only [Bool.or_eq_true, decide_eq_true_eq] at h
    exact ⟨_, rfl, h⟩
  · cases h
theorem rowB_ok {ns : List Str} {sz : Nat} {r : PyData} (h : rowB ns sz r = true) : RowG ns sz r := by
  unfold rowB at h
  split at h
  · simp only [Bool.and_eq_true, decide_eq_true_eq, List.all_eq_true, Bool.not_eq_true', List.isEmpty_eq_false_iff] at h
    exact ⟨_, _, _, rfl, h.1, fun c hc => callB_ok (h.2.1 c hc), fun w hw => wayB_ok (h.2.2.1 w hw), fun w hw => handB_ok (h.2.2.2.1 w hw), h.2.2.2.2⟩
  · cases h
theorem funB_ok {ns : List Str} {f : PyData} (h : funB ns f = true) : FunG ns f := by
  unfold funB at h
  split at h
  · simp only [Bool.and_eq_true, decide_eq_true_eq, List.all_eq_true, Bool.not_eq_true', List.isEmpty_eq_false_iff] at h
    exact ⟨_, _, rfl, h.1, h.2.1, fun r hr => rowB_ok (h.2.2 r hr)⟩
  · cases h
theorem prgB_ok {p : PyData} (h : prgB p = true) : ∃ fs, p = .tuple fs ∧ PrgP fs := by
  unfold prgB at h
  split at h
  · rename_i fs
    simp only [Bool.and_eq_true, decide_eq_true_eq, List.all_eq_true, Bool.not_eq_true', List.isEmpty_eq_false_iff] at h
    refine ⟨fs, rfl, prg_of (ns := fs.flatMap nameF) (fun f hf => funB_ok (h.2.2 f hf)) (fun n hn => ?_) h.1 h.2.1⟩
    obtain ⟨f, hf, hn⟩ := List.mem_flatMap.mp hn
    unfold nameF at hn
    split at hn
    · rw [List.mem_singleton.mp hn]; exact ⟨_, hf⟩
    · cases hn
  · cases h
def nmsB : PyData → Bool
  | .tuple fs => fs.all fun f => (nameF f).all fun x => decide (x.length ≤ 8) && x.cps.toList.all fun c => decide (c < 1114112)
  | _ => false
def ownB : PyData → Bool
  | .tuple fs => decide (fs.flatMap nameF).Nodup && (fs.flatMap nameF).all nmB
  | _ => false
def Own (fs : List PyData) : Prop := (∀ n rs, .tuple [.str n, .tuple rs] ∈ fs → rowsOf fs n = some rs) ∧ ∀ n l, .tuple [.str n, l] ∈ fs → nmB n = true
theorem own_one : ∀ {fs : List PyData}, (∀ f ∈ fs, isFn f) → (fs.flatMap nameF).Nodup → ∀ {n : Str} {a b : PyData}, .tuple [.str n, a] ∈ fs → .tuple [.str n, b] ∈ fs → a = b
  | [], _, _, _, _, _, h, _ => by cases h
  | f :: fs, hf, hn, n, a, b, ha, hb => by
    obtain ⟨m, rs, rfl⟩ := hf f (List.mem_cons_self ..)
    have hn' : (m :: fs.flatMap nameF).Nodup := by simpa [nameF] using hn
    obtain ⟨h1, h2⟩ := List.nodup_cons.mp hn'
    have hno : ∀ {x : PyData}, .tuple [.str m, x] ∈ fs → False := fun hx => h1 (List.mem_flatMap.mpr ⟨_, hx, by simp [nameF]⟩)
    rcases List.mem_cons.mp ha with ea | ha2
    · rcases List.mem_cons.mp hb with eb | hb2
      · cases ea; cases eb; rfl
      · cases ea; exact (hno hb2).elim
    · rcases List.mem_cons.mp hb with eb | hb2
      · cases eb; exact (hno ha2).elim
      · exact own_one (fun g hg => hf g (List.mem_cons_of_mem _ hg)) h2 ha2 hb2
theorem own_of {fs : List PyData} (hf : ∀ f ∈ fs, isFn f) (hn : (fs.flatMap nameF).Nodup) (hb : ∀ n ∈ fs.flatMap nameF, nmB n = true) : Own fs := ⟨fun n rs h => by
  obtain ⟨rs2, h2⟩ := rows_of hf h
  have := own_one hf hn h (rows_mem hf h2)
  cases this
  exact h2, fun n l h => hb n (List.mem_flatMap.mpr ⟨_, h, by simp [nameF]⟩)⟩
def goodB (p : PyData) : Bool := prgB p && (litB 4000000 7 p && (nmsB p && ownB p))
def Nms (fs : List PyData) : Prop := ∀ n l, .tuple [.str n, l] ∈ fs → Sm 8 n
theorem nmsB_ok {fs : List PyData} (h : nmsB (.tuple fs) = true) : Nms fs := fun n l hm => by
  have h1 := List.all_eq_true.mp h _ hm
  have h2 := List.all_eq_true.mp h1 n (by simp [nameF])
  exact Sm.lit h2
def GP (p : PyData) : Prop := ∃ fs, p = .tuple fs ∧ PrgP fs ∧ Lit 4000000 7 p ∧ Nms fs ∧ Own fs ∧ (fs.flatMap nameF).Nodup
theorem goodB_ok {p : PyData} (h : goodB p = true) : GP p := by
  unfold goodB at h
  rw [Bool.and_eq_true, Bool.and_eq_true, Bool.and_eq_true] at h
  obtain ⟨fs, rfl, hp⟩ := prgB_ok h.1
  exact ⟨fs, rfl, hp, Lit.of h.2.1, nmsB_ok h.2.2.1, (by
    have h4 := h.2.2.2
    simp only [ownB, Bool.and_eq_true] at h4
    exact own_of hp.fn (of_decide_eq_true h4.1) fun n hn => List.all_eq_true.mp h4.2 n hn), (by
    have h4 := h.2.2.2
    simp only [ownB, Bool.and_eq_true] at h4
    exact of_decide_eq_true h4.1)⟩
def prgsB (xs : List PyData) : Bool := !xs.isEmpty && (decide (xs.length ≤ 900) && xs.all goodB)
theorem prgsB_ok {xs : List PyData} (h : prgsB xs = true) : xs ≠ [] ∧ xs.length ≤ 900 ∧ ∀ x ∈ xs, GP x := by
  unfold prgsB at h
  simp only [Bool.and_eq_true, decide_eq_true_eq, List.all_eq_true, Bool.not_eq_true', List.isEmpty_eq_false_iff] at h
  exact ⟨h.1, h.2.1, fun x hx => goodB_ok (h.2.2 x hx)⟩
theorem hands {st : Store} (hs : Pl st) : wpx noE (m__law_hands [] st) fun d s => s = st ∧ ∃ xs, d = .val (.list xs) ∧ prgsB xs = true := by
  simp [m__law_hands, b__law_hands, hs.ok]
  decide +kernel
theorem GP.first {fs : List PyData} (h : PrgP fs) : ∃ n l r, fs = .tuple [.str n, l] :: r := by
  cases fs with
  | nil => exact absurd rfl h.ne
  | cons f r =>
    obtain ⟨n, rs, rfl⟩ := h.fn f (List.mem_cons_self ..)
    exact ⟨n, _, r, rfl⟩
theorem GP.fits {p : PyData} (h : GP p) : p.showable = true ∧ p.shown.length ≤ 16777216 ∧ p.depth ≤ 64 := by
  obtain ⟨fs, rfl, _, hl, _⟩ := h
  have := hl.sz.fits (by decide) (by decide)
  rwa [sizeLine_eq] at this
end Yk22
namespace Yk22
open PySem L2 B
theorem great {st : Store} (hs : Pl st) : wpx noE (m__law_great [] st) fun d s => s = st ∧ ∃ x, d = .val x ∧ goodB x = true := by
  have k12 : rgOk 12 := ⟨by omega, by omega⟩
  have k4 : rgOk 4 := ⟨by omega, by omega⟩
  have b12 : rgB 12 = true := by decide
  have b4 : rgB 4 = true := by decide
  have p12 : rgP 0 12 = [.int 0, .int 1, .int 2, .int 3, .int 4, .int 5, .int 6, .int 7, .int 8, .int 9, .int 10, .int 11] := by rfl
  have p4 : rgP 0 4 = [.int 0, .int 1, .int 2, .int 3] := by rfl
  have a4 : ∀ a b c d e f g h : PyData, atI [a, b, c, d, e, f, g, h] 4 = some e := fun _ _ _ _ _ _ _ _ => rfl
  have a5 : ∀ a b c d e f g h : PyData, atI [a, b, c, d, e, f, g, h] 5 = some f := fun _ _ _ _ _ _ _ _ => rfl
  have a6 : ∀ a b c d e f g h : PyData, atI [a, b, c, d, e, f, g, h] 6 = some g := fun _ _ _ _ _ _ _ _ => rfl
  have a7 : ∀ a b c d e f g h : PyData, atI [a, b, c, d, e, f, g, h] 7 = some h := fun _ _ _ _ _ _ _ _ => rfl
  simp [m__law_great, b__law_great, enumP, List.range, List.range.loop, forF, PyData.depth, kill, k12, k4, b12, b4, p12, p4, hs.ok, a4, a5, a6, a7]
  decide +kernel
end Yk22
namespace Yk22
open PySem L2 B
theorem sortOk_strs {xs : List PyData} (h : ∀ x ∈ xs, ∃ s, x = .str s) : sortOk xs = true := by
  unfold sortOk
  have h1 : (xs.all fun d => xs.all fun e => PySem.W.alike d e) = true := List.all_eq_true.mpr fun d hd => List.all_eq_true.mpr fun e he => by
    obtain ⟨a, rfl⟩ := h d hd
    obtain ⟨b, rfl⟩ := h e he
    simp [PySem.W.alike]
  have h2 : xs.all notTN = true := List.all_eq_true.mpr fun d hd => by
    obtain ⟨a, rfl⟩ := h d hd
    simp [notTN]
  have h3 : (xs.all fun d => decide (d.depth ≤ 64)) = true := List.all_eq_true.mpr fun d hd => by
    obtain ⟨a, rfl⟩ := h d hd
    simp [PyData.depth]
  rw [h1, h2, h3]; simp
theorem sort_good {ns : List Str} {xs : List PyData} (h0 : xs ≠ []) (hl : xs.length ≤ 9) (h : ∀ c ∈ xs, ∃ x, c = .str x ∧ (x = Str.ofString "" ∨ x ∈ ns)) : sortOk xs = true ∧ ¬ sortP xs = [] ∧ (sortP xs).length ≤ 100 ∧ ∀ c ∈ sortP xs, ∃ x, c = .str x ∧ (x = Str.ofString "" ∨ x ∈ ns) := by
  refine ⟨sortOk_strs fun x hx => ?_, fun e => ?_, by rw [len_sortP]; omega, fun c hc => h c (mem_sortP.mp hc)⟩
  · obtain ⟨s, e, _⟩ := h x hx
    exact ⟨s, e⟩
  · have := len_sortP (xs := xs)
    rw [e] at this
    exact h0 (List.length_eq_zero_iff.mp this.symm)
theorem law_calls {ns : List Str} (h0 : ns ≠ []) (h8 : ns.length ≤ 8) {o : O} (ho : isFeedP o) {rest : Store} :
    wpx noE (m__law_calls [.loc 0, .val (.list (ns.map .str))] (o :: rest)) fun d st => ∃ f, isFeedP f ∧ st = f :: rest ∧ ∃ cs, d = .val (.tuple cs) ∧ cs ≠ [] ∧ cs.length ≤ 100 ∧ ∀ c ∈ cs, ∃ x, c = .str x ∧ (x = Str.ofString "" ∨ x ∈ ns) := by
  simp [m__law_calls, b__law_calls]
  refine wp_mono (draw_ok ho (by omega) (by omega)) ?_
  rintro d st ⟨k, f, ⟨hk0, hk1, hf⟩, rfl, rfl⟩
  simp
  refine wp_mono (any_ok hf (by simpa using h0) (by simp; omega)) ?_
  rintro d st ⟨x, f, ⟨hx, hf⟩, rfl, rfl⟩
  obtain ⟨x, hx2, rfl⟩ := List.mem_map.mp hx
  simp
  by_cases h3 : k < 3
  · simp [h3]; exact hf
  · by_cases h5 : k < 5
    · simp [h3, h5]; exact ⟨f, hf, rfl, .inr hx2⟩
    · by_cases h7 : k < 7
      · simp [h3, h5, h7]; exact ⟨f, hf, rfl, .inr hx2⟩
      · simp [h3, h5, h7]
        split
        · have g := sort_good (ns := ns) (xs := ns.map .str) (by simpa using h0) (by simp; omega) (fun c hc => by
            obtain ⟨x, hx, rfl⟩ := List.mem_map.mp hc
            exact ⟨x, rfl, .inr hx⟩)
          exact ⟨g.1, f, hf, rfl, g.2⟩
        · have g := sort_good (ns := ns) (xs := ns.map .str ++ [.str (Str.ofString "")]) (by simp) (by simp; omega) (fun c hc => by
            rcases List.mem_append.mp hc with hc | hc
            · obtain ⟨x, hx, rfl⟩ := List.mem_map.mp hc
              exact ⟨x, rfl, .inr hx⟩
            · rw [List.mem_singleton.mp hc]; exact ⟨_, rfl, .inl rfl⟩)
          exact ⟨by omega, g.1, f, hf, rfl, g.2⟩
def wayG (sz : Nat) (w : PyData) : Prop := ((∃ i : Nat, i < sz ∧ w = .int i) ∨ w = .tuple [.str "back"] ∨ ∃ k, w = .tuple [.str "fail", .str k]) ∧ Lit 400 1 w
theorem wayG.dep {sz : Nat} {w : PyData} (h : wayG sz w) : w.depth ≤ 1 := h.2.2.2
def waysB : B.Env → M Fl := (killS [8, 9] (seqS (asgS (callF m__law_any (aCons (gv 0) (aCons (gv 4) aNil))) (setV 9))
  (ifS (tst (op2 (inF true) (gv 9) (gv 7))) (dropS (methL appF (gv 7) (aCons (gv 9) aNil))) nxS)))
def fE (nm : PyData) (ns : List PyData) (sz : Nat) (all : List PyData) (l5 : Nat) (a6 : Option D) (a7 : Option D) : B.Env := [some (.loc 0), some (.val nm), some (.val (.list ns)), some (.val (.int sz)), some (.val (.list all)), some (.loc l5), a6, a7, none, none, none, none, none]
theorem ways_loop {nm : PyData} {ns all : List PyData} {l5 : Nat} {sz : Nat} {rest : Store} {a6 : Option D} (ha : ∀ w ∈ all, wayG sz w) (h0 : all ≠ []) (hl : all.length ≤ 100) : ∀ (xs ws : List PyData) (o : O), isFeedP o → (∀ w ∈ ws, wayG sz w) → ws ≠ [] → ws.length + xs.length ≤ 50 →
    wpx noE (forF (fun x env => bd (setV 8 (.val x) env) waysB) xs (fE nm ns sz all l5 a6 (some (.loc (rest.length + 1)))) (o :: (rest ++ [.lst ws])))
      fun r st => ∃ f, isFeedP f ∧ ∃ ws2, (∀ w ∈ ws2, wayG sz w) ∧ ws2 ≠ [] ∧ ws2.length ≤ 50 ∧ st = f :: (rest ++ [.lst ws2]) ∧ r = .nx (fE nm ns sz all l5 a6 (some (.loc (rest.length + 1))))
  | [], ws, o, ho, hw, hn, hc => by
    simp only [forF, wp_rt]
    exact ⟨o, ho, ws, hw, hn, by simpa using hc, rfl, trivial⟩
  | x :: xs, ws, o, ho, hw, hn, hc => by
    simp only [forF]
    unfold waysB
    simp [fE]
    refine wp_mono (any_ok ho h0 (by omega)) ?_
    rintro d st ⟨y, f, ⟨hy, hf⟩, rfl, rfl⟩
    have hyg := ha y hy
    have ih1 := ways_loop (nm := nm) (ns := ns) (l5 := l5) (rest := rest) (a6 := a6) ha h0 hl xs ws f hf hw hn (by simp at hc; omega)
    have ih2 := ways_loop (nm := nm) (ns := ns) (l5 := l5) (rest := rest) (a6 := a6) ha h0 hl xs (ws ++ [y]) f hf (fun w h => by
      rcases List.mem_append.mp h with h | h
      · exact hw w h
      · rw [List.mem_singleton.mp h]; exact hyg) (by simp) (by simp at hc ⊢; omega)
    unfold waysB fE at ih1 ih2
    simp
    refine ⟨Nat.le_trans (Nat.min_le_right _ _) (Nat.le_trans hyg.dep (by omega)), ?_⟩
    split
    · simpa using ih1
    · exact ⟨by simp at hc; omega, by simpa using ih2⟩
theorem hand_loop {env : B.Env} {sz : Nat} {rest : Store} (h0 : 0 < sz) (hsz : sz ≤ 40) (he : 12 < env.length) (h3 : env[3]? = some (some (.val (.int sz)))) (hfd : env[0]? = some (some (.loc 0))) : ∀ (ks : List Str) (acc : List PyData) (o : O), isFeedP o → (∀ h ∈ acc, ∃ (k : Str) (i : Nat), i < sz ∧ h = .tuple [.str k, .int i] ∧ Sm 8 k) → acc.length + ks.length ≤ 50 → (∀ k ∈ ks, Sm 8 k) →
    wpx noE (lcF (setV 12) (lcIn yesT (tupE (aCons (gv 12) (aCons (callF m__law_draw (aCons (gv 0) (aCons (gv 3) aNil))) aNil)))) env (ks.map .str) acc (o :: rest))
      fun xs st => ∃ f, isFeedP f ∧ st = f :: rest ∧ (∀ h ∈ xs, ∃ (k : Str) (i : Nat), i < sz ∧ h = .tuple [.str k, .int i] ∧ Sm 8 k) ∧ xs.length ≤ 50
  | [], acc, o, ho, ha, hl, _ => by
    simp only [List.map_nil, lcF, wp_rt]
    exact ⟨o, ho, rfl, ha, by simpa using hl⟩
  | k :: ks, acc, o, ho, ha, hl, hk => by
    have e3 : (env.set 12 (some (.val (.str k))))[3]? = some (some (.val (.int sz))) := by rw [List.getElem?_set_ne (by omega)]; exact h3
    have e0 : (env.set 12 (some (.val (.str k))))[0]? = some (some (.loc 0)) := by rw [List.getElem?_set_ne (by omega)]; exact hfd
    have e12 : (env.set 12 (some (.val (.str k))))[12]? = some (some (.val (.str k))) := by rw [List.getElem?_set_self he]
    simp only [List.map_cons, lcF]
    simp [e3, e0, e12]
    refine wp_mono (draw_ok ho (by omega) (by omega)) ?_
    rintro d st ⟨j, f, ⟨hj0, hj1, hf⟩, rfl, rfl⟩
    have hb : acc.length < 16777216 := by simp at hl; omega
    simp [hb]
    refine hand_loop h0 hsz he h3 hfd ks _ f hf (fun h hm => ?_) (by simp at hl ⊢; omega) (fun x hx => hk x (List.mem_cons_of_mem _ hx))
    rcases List.mem_append.mp hm with hm | hm
    · exact ha h hm
    · rw [List.mem_singleton.mp hm]
      exact ⟨k, j.toNat, by omega, by rw [Int.toNat_of_nonneg hj0], hk k (List.mem_cons_self ..)⟩
def funB1 : B.Env → M Fl := (killS [6, 7, 8, 9, 10, 11] (seqS (asgS (asObj (lstE (aCons (callF m__law_any (aCons (gv 0) (aCons (gv 4) aNil))) aNil))) (setV 7))
  (seqS (forS 100000 (rngI (aCons (callF m__law_draw (aCons (gv 0) (aCons (cD (.val (.int 3))) aNil))) aNil)) (setV 8) waysB)
  (seqS (asgS (asVal (lstE (aCons (tupE aNil) (aCons (tupE aNil) (aCons (tupE (aCons (cD (.val (.str "bad"))) aNil)) (aCons (tupE (aCons (cD (.val (.str ""))) aNil)) (aCons (tupE (aCons (cD (.val (.str "odd"))) (aCons (cD (.val (.str "bad"))) aNil))) (aCons (tupE (aCons (cD (.val (.str ""))) (aCons (cD (.val (.str "bad"))) aNil))) (aCons (tupE (aCons (cD (.val (.str "bad"))) (aCons (cD (.val (.str ""))) aNil))) (aCons (tupE (aCons (cD (.val (.str "back"))) (aCons (cD (.val (.str "odd"))) (aCons (cD (.val (.str ""))) (aCons (cD (.val (.str "bad"))) aNil))))) aNil)))))))))) (setV 10))
  (seqS (asgS (obV false (lcS 100000 [12] (anyI (callF m__law_any (aCons (gv 0) (aCons (gv 10) aNil)))) (setV 12) yesT (tupE (aCons (gv 12) (aCons (callF m__law_draw (aCons (gv 0) (aCons (gv 3) aNil))) aNil))))) (setV 11))
  (dropS (methL appF (gv 5) (aCons (tupE (aCons (callF m__law_calls (aCons (gv 0) (aCons (gv 2) aNil))) (aCons (callF tupleF (aCons (gv 7) aNil)) (aCons (callF tupleF (aCons (gv 11) aNil)) aNil)))) aNil))))))))
def kindsL : List PyData := [.tuple [], .tuple [], .tuple [.str "bad"], .tuple [.str ""], .tuple [.str "odd", .str "bad"], .tuple [.str "", .str "bad"], .tuple [.str "bad", .str ""], .tuple [.str "back", .str "odd", .str "", .str "bad"]]
theorem kinds_ok {x : PyData} (h : x ∈ kindsL) : ∃ ks : List Str, x = .tuple (ks.map .str) ∧ ks.length ≤ 4 ∧ ∀ k ∈ ks, Sm 8 k := by
  have s1 : Sm 8 (Str.ofString "bad") := Sm.lit (by decide +kernel)
  have s2 : Sm 8 (Str.ofString "odd") := Sm.lit (by decide +kernel)
  have s3 : Sm 8 (Str.ofString "back") := Sm.lit (by decide +kernel)
  have s4 : Sm 8 (Str.ofString "") := Sm.lit (by decide +kernel)
  simp only [kindsL, List.mem_cons, List.not_mem_nil, or_false] at h
  rcases h with rfl | rfl | rfl | rfl | rfl | rfl | rfl | rfl
  · exact ⟨[], rfl, by simp, by simp⟩
  · exact ⟨[], rfl, by simp, by simp⟩
  · exact ⟨["bad"], rfl, by simp, by simpa using s1⟩
  · exact ⟨[""], rfl, by simp, by simpa using s4⟩
  · exact ⟨["odd", "bad"], rfl, by simp, by simpa using ⟨s2, s1⟩⟩
  · exact ⟨["", "bad"], rfl, by simp, by simpa using ⟨s4, s1⟩⟩
  · exact ⟨["bad", ""], rfl, by simp, by simpa using ⟨s1, s4⟩⟩
  · exact ⟨["back", "odd", "", "bad"], rfl, by simp, by simpa using ⟨s3, s2, s4, s1⟩⟩
theorem fun_turn {nm : PyData} {ns : List Str} {all : List PyData} {sz k : Nat} {S : Store} {rows : List PyData} (hS : S[k]? = some (.lst rows)) (hr : rows.length ≤ 100) (hns : ∀ n ∈ ns, Sm 8 n) (h0 : ns ≠ []) (h8 : ns.length ≤ 8) (hz : 0 < sz) (hz2 : sz ≤ 40)
    (ha : ∀ w ∈ all, wayG sz w) (ha0 : all ≠ []) (hal : all.length ≤ 100) {o : O} (ho : isFeedP o) {a6 : Option D} :
    wpx noE (funB1 (fE nm (ns.map .str) sz all (k + 1) a6 none) (o :: S)) fun r st => ∃ f row g, isFeedP f ∧ RowG ns sz row ∧ Lit 66000 3 row ∧ r = .nx (fE nm (ns.map .str) sz all (k + 1) none none) ∧ st = f :: (S.set k (.lst (rows ++ [row])) ++ [.lst g]) := by
  have hk : k < S.length := (List.getElem?_eq_some_iff.mp hS).1
  have hg : ∀ x, (S ++ x)[k]? = some (.lst rows) := fun x => by rw [List.getElem?_append_left hk]; exact hS
  have hset : ∀ x y, (S ++ x).set k y = S.set k y ++ x := fun x y => by rw [List.set_append_left _ _ hk]
  unfold funB1 fE
  simp
  refine wp_mono (any_ok ho ha0 (by omega)) ?_
  rintro d st ⟨y, f, ⟨hy, hf⟩, rfl, rfl⟩
  simp
  refine wp_mono (draw_ok hf (by omega) (by omega)) ?_
  rintro d st ⟨j, f, ⟨hj0, hj1, hf⟩, rfl, rfl⟩
  simp
  refine ⟨⟨by omega, by omega⟩, ?_⟩
  have hwl := ways_loop (nm := nm) (ns := ns.map .str) (l5 := k + 1) (rest := S) (a6 := a6) (sz := sz) ha ha0 hal (List.map (fun i => PyData.int (Int.ofNat i)) (List.range j.toNat)) [y] f hf (fun w h => by rw [List.mem_singleton.mp h]; exact ha y hy) (by simp) (by simp; omega)
  unfold fE at hwl
  refine wp_mono hwl ?_
  rintro r st ⟨f, hf, ws2, hw2, hw0, hwl2, rfl, rfl⟩
  simp
  refine wp_mono (any_ok (xs := kindsL) hf (by simp [kindsL]) (by simp [kindsL])) ?_
  rintro d st ⟨x, f, ⟨hx, hf⟩, rfl, rfl⟩
  obtain ⟨ks, rfl, hk4, hks⟩ := kinds_ok hx
  simp
  refine wp_mono (hand_loop hz hz2 (by simp) rfl rfl ks [] f hf (by simp) (by simp; omega) hks) ?_
  rintro hs st ⟨f, hf, rfl, hhs, hhl⟩
  simp [hg]
  refine wp_mono (law_calls h0 h8 hf) ?_
  rintro d st ⟨f, hf, rfl, cs, rfl, hc0, hcl, hcs⟩
  have hrl : rows.length < 16777216 := by omega
  simp [hg, hset, hrl]
  refine ⟨f, hf, _, ?_, ?_, rfl, rfl⟩
  · exact ⟨cs, ws2, hs, rfl, ⟨hc0, hw0⟩, hcs, fun w hw => (hw2 w hw).1, fun x hx => let ⟨k, i, h1, h2, _⟩ := hhs x hx; ⟨k, i, h1, h2⟩, hcl, by omega, by omega⟩
  · have l1 : Lit (100 * (82 + 2) + 3) 1 (.tuple cs) := Lit.tup (fun c hc => by
      obtain ⟨x, rfl, hx⟩ := hcs c hc
      rcases hx with rfl | hx
      · exact Lit.str (show Sm 8 (Str.ofString "") from Sm.lit (by decide +kernel))
      · exact Lit.str (hns x hx)) hcl
    have l2 : Lit (50 * (400 + 2) + 3) 2 (.tuple ws2) := Lit.tup (fun w hw => (hw2 w hw).2) hwl2
    have l3 : Lit (50 * ((2 * (211 + 2) + 3) + 2) + 3) 2 (.tuple hs) := Lit.tup (fun x hx => by
      obtain ⟨k, i, h1, rfl, h3⟩ := hhs x hx
      refine Lit.tup (n := 211) (k := 0) (m := 2) (fun y hy => ?_) (by simp)
      rcases List.mem_cons.mp hy with rfl | hy
      · exact (Lit.str h3).mono (by decide) (Nat.le_refl _)
      · rw [List.mem_singleton.mp hy]; exact Lit.int (by simp; omega)) hhl
    refine (Lit.tup (n := 21653) (k := 2) (m := 3) (fun y hy => ?_) (by simp)).mono (n := 3 * (21653 + 2) + 3) (by decide) (Nat.le_refl _)
    rcases List.mem_cons.mp hy with rfl | hy
    · exact l1.mono (by decide) (by decide)
    · rcases List.mem_cons.mp hy with rfl | hy
      · exact l2.mono (by decide) (by decide)
      · rw [List.mem_singleton.mp hy]; exact l3.mono (by decide) (by decide)
theorem fun_loop {nm : PyData} {ns : List Str} {all : List PyData} {sz k : Nat} (hns : ∀ n ∈ ns, Sm 8 n) (h0 : ns ≠ []) (h8 : ns.length ≤ 8) (hz : 0 < sz) (hz2 : sz ≤ 40)
    (ha : ∀ w ∈ all, wayG sz w) (ha0 : all ≠ []) (hal : all.length ≤ 100) : ∀ (xs rows : List PyData) (S : Store) (o : O), S[k]? = some (.lst rows) → rows.length + xs.length ≤ 100 → (∀ r ∈ rows, RowG ns sz r ∧ Lit 66000 3 r) → isFeedP o →
    wpx noE (forF (fun x env => bd (setV 6 (.val x) env) funB1) xs (fE nm (ns.map .str) sz all (k + 1) none none) (o :: S)) fun r st => ∃ f rows2 S2, isFeedP f ∧ r = .nx (fE nm (ns.map .str) sz all (k + 1) none none) ∧ st = f :: S2 ∧
      S2[k]? = some (.lst rows2) ∧ S2.take k = S.take k ∧ rows2.length = rows.length + xs.length ∧ ∀ r ∈ rows2, RowG ns sz r ∧ Lit 66000 3 r
  | [], rows, S, o, hS, hl, hr, ho => by
    simp only [forF, wp_rt]
    exact ⟨o, rows, S, ho, trivial, rfl, hS, rfl, by simp, hr⟩
  | x :: xs, rows, S, o, hS, hl, hr, ho => by
    have hk : k < S.length := (List.getElem?_eq_some_iff.mp hS).1
    have ht := fun_turn (nm := nm) hS (by simp at hl; omega) hns h0 h8 hz hz2 ha ha0 hal ho (a6 := some (.val x))
    have e1 : wpx noE (bd (setV 6 (.val x) (fE nm (ns.map .str) sz all (k + 1) none none)) funB1 (o :: S)) = wpx noE (funB1 (fE nm (ns.map .str) sz all (k + 1) (some (.val x)) none) (o :: S)) := by
      funext Q
      simp [fE]
    simp only [forF]
    rw [wp_bd, e1]
    refine wp_mono ht ?_
    rintro r st ⟨f, row, g, hf, hrow, hlit, rfl, rfl⟩
    have ih := fun_loop (nm := nm) hns h0 h8 hz hz2 ha ha0 hal xs (rows ++ [row]) (S.set k (.lst (rows ++ [row])) ++ [.lst g]) f (by rw [List.getElem?_append_left (by simpa using hk), List.getElem?_set_self hk]) (by simp at hl ⊢; omega) (fun r h => by
      rcases List.mem_append.mp h with h | h
      · exact hr r h
      · rw [List.mem_singleton.mp h]; exact ⟨hrow, hlit⟩) hf
    refine wp_mono ih ?_
    rintro r st ⟨f, rows2, S2, hf, rfl, rfl, hg, ht2, hl2, hr2⟩
    refine ⟨f, rows2, S2, hf, rfl, rfl, hg, ?_, by simp at hl2 ⊢; omega, hr2⟩
    rw [ht2, List.take_append_of_le_length (by simp; omega), List.take_set_of_le (Nat.le_refl _)]
theorem law_function {n : Str} {ns : List Str} (hnn : Sm 8 n) (hns : ∀ n ∈ ns, Sm 8 n) (h0 : ns ≠ []) (h8 : ns.length ≤ 8) {o : O} {rest : Store} (ho : isFeedP o) (hp : Pl rest) :
    wpx noE (m__law_function [.loc 0, .val (.str n), .val (.list (ns.map .str))] (o :: rest)) fun d st => ∃ f x, isFeedP f ∧ d = .val x ∧ st = f :: rest ∧ FunG ns x ∧ Lit 700000 5 x ∧ ∃ l, x = .tuple [.str n, l] := by
  have hb : b__law_function = (seqS (asgS (op2 addF (cD (.val (.int 1))) (callF m__law_draw (aCons (gv 0) (aCons (cD (.val (.int 5))) aNil)))) (setV 3))
  (seqS (asgS (op2 addF (asVal (lstE (aCons (tupE (aCons (cD (.val (.str "back"))) aNil)) (aCons (tupE (aCons (cD (.val (.str "fail"))) (aCons (callF m__law_any (aCons (gv 0) (aCons (asVal (lstE (aCons (cD (.val (.str "bad"))) (aCons (cD (.val (.str "odd"))) (aCons (cD (.val (.str "back"))) aNil))))) aNil))) aNil))) (aCons (tupE (aCons (cD (.val (.str "fail"))) (aCons (cD (.val (.str "k"))) aNil))) aNil))))) (asVal (rgE (gv 3)))) (setV 4))
  (seqS (asgS (asObj (lstE aNil)) (setV 5))
  (seqS (forS 100000 (rngI (aCons (gv 3) aNil)) (setV 6) funB1)
  (retS (tupE (aCons (gv 1) (aCons (callF tupleF (aCons (gv 5) aNil)) aNil)))))))) := rfl
  have hloop := @fun_loop (.str n) ns
  have hloop : ∀ {all : List PyData} {sz k : Nat}, _ := fun {all sz k} => @hloop all sz k hns h0 h8
  unfold m__law_function
  rw [hb]
  generalize funB1 = FB at hloop ⊢
  simp
  refine wp_mono (draw_ok ho (by omega) (by omega)) ?_
  rintro d st ⟨j, f, ⟨hj0, hj1, hf⟩, rfl, rfl⟩
  obtain ⟨sz, hsz⟩ : ∃ sz : Nat, 1 + j = (sz : Int) := ⟨(1 + j).toNat, by omega⟩
  simp [hsz]
  refine wp_mono (any_ok hf (by simp) (by simp)) ?_
  rintro d st ⟨x, f, ⟨hx, hf⟩, rfl, rfl⟩
  have hx2 : ∃ s, x = .str s ∧ Sm 8 s := by
    simp only [List.mem_cons, List.not_mem_nil, or_false] at hx
    rcases hx with rfl | rfl | rfl
    · exact ⟨_, rfl, Sm.lit (by decide +kernel)⟩
    · exact ⟨_, rfl, Sm.lit (by decide +kernel)⟩
    · exact ⟨_, rfl, Sm.lit (by decide +kernel)⟩
  obtain ⟨s, rfl, hs⟩ := hx2
  simp
  have hall : ∀ w ∈ (PyData.tuple [PyData.str (Str.ofString "back")] :: PyData.tuple [PyData.str (Str.ofString "fail"), PyData.str s] :: PyData.tuple [PyData.str (Str.ofString "fail"), PyData.str (Str.ofString "k")] :: rgP 0 (sz : Int)), wayG sz w := fun w hw => by
    have sb : Sm 8 (Str.ofString "back") := Sm.lit (by decide +kernel)
    have sf : Sm 8 (Str.ofString "fail") := Sm.lit (by decide +kernel)
    have sk : Sm 8 (Str.ofString "k") := Sm.lit (by decide +kernel)
    have lt : ∀ xs : List PyData, xs.length ≤ 2 → (∀ x ∈ xs, ∃ s, x = .str s ∧ Sm 8 s) → Lit 400 1 (.tuple xs) := fun xs hx hs => (Lit.tup (n := 82) (k := 0) (fun x hm => by
      obtain ⟨s, rfl, h⟩ := hs x hm
      exact Lit.str h) hx).mono (by decide) (Nat.le_refl _)
    rcases List.mem_cons.mp hw with rfl | hw
    · exact ⟨.inr (.inl rfl), lt _ (by simp) (by simpa using sb)⟩
    · rcases List.mem_cons.mp hw with rfl | hw
      · exact ⟨.inr (.inr ⟨_, rfl⟩), lt _ (by simp) (by simpa using ⟨sf, hs⟩)⟩
      · rcases List.mem_cons.mp hw with rfl | hw
        · exact ⟨.inr (.inr ⟨_, rfl⟩), lt _ (by simp) (by simpa using ⟨sf, sk⟩)⟩
        · unfold rgP at hw
          obtain ⟨i, hi, rfl⟩ := List.mem_map.mp hw
          have hi := List.mem_range.mp hi
          exact ⟨.inl ⟨i, by omega, by simp⟩, (Lit.int (by simp; omega)).mono (by decide) (Nat.zero_le _)⟩
  have hrl : (rgP 0 (sz : Int)).length = sz := by simp [rgP]
  refine ⟨by simp only [rgB, decide_eq_true_eq]; omega, by omega, ⟨by omega, by omega⟩, ?_⟩
  have hl := hloop (sz := sz) (k := rest.length) (by omega) (by omega) hall (by simp) (by simp [hrl]; omega) (List.map (fun i => PyData.int (Int.ofNat i)) (List.range sz)) [] (rest ++ [.lst []]) f (by simp) (by simp; omega) (by simp) hf
  unfold fE at hl
  refine wp_mono hl ?_
  rintro r st ⟨f, rows, S2, hf, rfl, rfl, hg, ht, hlen, hrows⟩
  have ht2 : S2.take rest.length = rest := by rw [ht]; simp
  have hlen2 : rows.length = sz := by simpa using hlen
  have hok := (feed_pl hf hp).ok (rest.length + 1)
  simp [hg, ht2, hok]
  refine ⟨f, hf, rfl, ⟨n, rows, rfl, ?_, by omega, fun r hr => by rw [hlen2]; exact (hrows r hr).1⟩, ?_⟩
  · intro e; rw [e] at hlen2; simp at hlen2; omega
  · have l1 : Lit (5 * (66000 + 2) + 3) 4 (.tuple rows) := Lit.tup (fun r hr => (hrows r hr).2) (by omega)
    refine (Lit.tup (n := 5 * (66000 + 2) + 3) (k := 4) (m := 2) (fun x hx => ?_) (by simp)).mono (n := 2 * (5 * (66000 + 2) + 3 + 2) + 3) (by decide) (Nat.le_refl _)
    rcases List.mem_cons.mp hx with rfl | hx
    · exact (Lit.str hnn).mono (by decide) (Nat.zero_le _)
    · rw [List.mem_singleton.mp hx]; exact l1
def NmF (f : PyData) : Prop := ∀ n l, f = .tuple [.str n, l] → Sm 8 n
theorem funs_loop {env : B.Env} {ns : List Str} {rest : Store} (hns : ∀ n ∈ ns, Sm 8 n) (h0 : ns ≠ []) (h8 : ns.length ≤ 8) (he : 3 < env.length) (h2 : env[2]? = some (some (.val (.list (ns.map .str))))) (hfd : env[0]? = some (some (.loc 0))) (hp : Pl rest) : ∀ (ks : List Str) (acc : List PyData) (o : O), isFeedP o → (∀ f ∈ acc, FunG ns f ∧ Lit 700000 5 f ∧ NmF f) → acc.length + ks.length ≤ 50 → (∀ k ∈ ks, Sm 8 k) →
    wpx noE (lcF (setV 3) (lcIn yesT (callF m__law_function (aCons (gv 0) (aCons (gv 3) (aCons (gv 2) aNil))))) env (ks.map .str) acc (o :: rest))
      fun xs st => ∃ f, isFeedP f ∧ st = f :: rest ∧ (∀ f ∈ xs, FunG ns f ∧ Lit 700000 5 f ∧ NmF f) ∧ xs.length = acc.length + ks.length ∧ (∀ f ∈ acc, f ∈ xs) ∧ (∀ k ∈ ks, ∃ l, .tuple [.str k, l] ∈ xs) ∧ xs.flatMap nameF = acc.flatMap nameF ++ ks
  | [], acc, o, ho, ha, hl, _ => by
    simp only [List.map_nil, lcF, wp_rt]
    exact ⟨o, ho, rfl, ha, by simp, fun f h => h, by simp, by simp⟩
  | k :: ks, acc, o, ho, ha, hl, hk => by
    have e2 : (env.set 3 (some (.val (.str k))))[2]? = some (some (.val (.list (ns.map .str)))) := by rw [List.getElem?_set_ne (by omega)]; exact h2
    have e0 : (env.set 3 (some (.val (.str k))))[0]? = some (some (.loc 0)) := by rw [List.getElem?_set_ne (by omega)]; exact hfd
    have e3 : (env.set 3 (some (.val (.str k))))[3]? = some (some (.val (.str k))) := by rw [List.getElem?_set_self he]
    simp only [List.map_cons, lcF]
    simp [e3, e0, e2]
    refine wp_mono (law_function (hk k (List.mem_cons_self ..)) hns h0 h8 ho hp) ?_
    rintro d st ⟨f, x, hf, rfl, rfl, hx, hlx, l, hxl⟩
    have hb : acc.length < 16777216 := by simp at hl; omega
    simp [hb]
    refine wp_mono (funs_loop hns h0 h8 he h2 hfd hp ks _ f hf (fun h hm => ?_) (by simp at hl ⊢; omega) (fun x hx => hk x (List.mem_cons_of_mem _ hx))) ?_
    · rcases List.mem_append.mp hm with hm | hm
      · exact ha h hm
      · rw [List.mem_singleton.mp hm]; exact ⟨hx, hlx, fun n' l' e => by rw [hxl] at e; cases e; exact hk k (List.mem_cons_self ..)⟩
    · rintro xs st ⟨f, hf, rfl, hg, hlen, hin, hks, hnm⟩
      exact ⟨f, hf, rfl, hg, by simp at hlen ⊢; omega, fun f h => hin f (List.mem_append_left _ h), ⟨⟨l, by rw [← hxl]; exact hin x (List.mem_append_right _ (List.mem_singleton.mpr rfl))⟩, hks⟩, by rw [hnm]; simp [hxl, nameF]⟩
def namesL : List PyData := [.tuple [.str "main", .str "f", .str "g", .str "h"], .tuple [.str "z", .str "a", .str "zz", .str "back"], .tuple [.str "fail", .str "life", .str "b", .str "aaaaaaaa"]]
theorem names_ok {x : PyData} (h : x ∈ namesL) : ∃ ks : List Str, x = .tuple (ks.map .str) ∧ ks.length = 4 ∧ (ks.Nodup ∧ ∀ k ∈ ks, nmB k = true) ∧ ∀ k ∈ ks, Sm 8 k := by
  have l : ∀ ks : List Str, ks.all (fun x => decide (x.length ≤ 8) && x.cps.toList.all fun c => decide (c < 1114112)) = true → ∀ k ∈ ks, Sm 8 k := fun ks h k hk => Sm.lit (List.all_eq_true.mp h k hk)
  simp only [namesL, List.mem_cons, List.not_mem_nil, or_false] at h
  rcases h with rfl | rfl | rfl
  · exact ⟨["main", "f", "g", "h"], rfl, rfl, ⟨by decide +kernel, by decide +kernel⟩, l _ (by decide +kernel)⟩
  · exact ⟨["z", "a", "zz", "back"], rfl, rfl, ⟨by decide +kernel, by decide +kernel⟩, l _ (by decide +kernel)⟩
  · exact ⟨["fail", "life", "b", "aaaaaaaa"], rfl, rfl, ⟨by decide +kernel, by decide +kernel⟩, l _ (by decide +kernel)⟩
theorem law_program {o : O} {rest : Store} (ho : isFeedP o) (hp : Pl rest) :
    wpx noE (m__law_program [.loc 0] (o :: rest)) fun d st => ∃ f x, isFeedP f ∧ d = .val x ∧ st = f :: rest ∧ GP x := by
  simp [m__law_program, b__law_program]
  refine wp_mono (draw_ok ho (by omega) (by omega)) ?_
  rintro d st ⟨j, f, ⟨hj0, hj1, hf⟩, rfl, rfl⟩
  simp [PyData.depth]
  split
  · refine wp_mono (hands (feed_pl hf hp)) ?_
    rintro d st ⟨rfl, xs, rfl, hx⟩
    obtain ⟨h0, hl, hg⟩ := prgsB_ok hx
    simp
    refine wp_mono (any_ok hf h0 (by omega)) ?_
    rintro d st ⟨x, f, ⟨hx, hf⟩, rfl, rfl⟩
    simp
    exact ⟨f, hf, rfl, hg x hx⟩
  · refine wp_mono (any_ok (xs := namesL) hf (by simp [namesL]) (by simp [namesL])) ?_
    rintro d st ⟨x, f, ⟨hx, hf⟩, rfl, rfl⟩
    obtain ⟨ks, rfl, hk4, hnd, hks⟩ := names_ok hx
    simp
    refine wp_mono (draw_ok hf (by omega) (by omega)) ?_
    rintro d st ⟨i, f, ⟨hi0, hi1, hf⟩, rfl, rfl⟩
    obtain ⟨c, hc⟩ : ∃ c : Nat, 1 + i = (c : Int) := ⟨(1 + i).toNat, by omega⟩
    have hns : ∀ n ∈ ks.take c, Sm 8 n := fun n hn => hks n (List.mem_of_mem_take hn)
    have hlen : (ks.take c).length = c := by rw [List.length_take]; omega
    have h0 : ks.take c ≠ [] := fun e => by rw [e] at hlen; simp at hlen; omega
    simp [hc, cut_to, ← List.map_take]
    refine wp_mono (funs_loop hns h0 (by omega) (by simp) rfl rfl hp (ks.take c) [] f hf (by simp) (by simp; omega) hns) ?_
    rintro xs st ⟨f, hf, rfl, hg, hxl, _, hin, hnm⟩
    simp
    refine ⟨f, hf, rfl, xs, rfl, prg_of (ns := ks.take c) (fun f h => (hg f h).1) hin (fun e => ?_) (by simp at hxl; omega), ?_, fun n l hm => (hg _ hm).2.2 n l rfl, own_of (fun f h => by
      obtain ⟨n, rs, e, _⟩ := (hg f h).1
      exact ⟨n, rs, e⟩) (by rw [hnm]; simpa using hnd.1.sublist (List.take_sublist _ _)) (fun n hn => by
      rw [hnm] at hn
      exact hnd.2 n (List.mem_of_mem_take (by simpa using hn))), (by rw [hnm]; simpa using hnd.1.sublist (List.take_sublist _ _))⟩
    · rw [e] at hxl; simp at hxl; omega
    · exact (Lit.tup (n := 700000) (k := 5) (m := 4) (fun x hx => (hg x hx).2.1) (by simp at hxl; omega)).mono (by decide) (by decide)
end Yk22
namespace Yk22
open PySem L2 B
abbrev WL := List (NestedKey × Int)
def oK : NestedKey := .tup []
def bK : NestedKey := .tup [.text "back"]
def fK (k : Str) : NestedKey := .tup [.text "fail", .text k]
def ws (g : NestedKey → Int) : WL → Int
  | [] => 0
  | p :: r => g p.1 * p.2 + ws g r
theorem ws_app {g : NestedKey → Int} : ∀ {a b : WL}, ws g (a ++ b) = ws g a + ws g b
  | [], b => by simp [ws]
  | p :: a, b => by simp only [List.cons_append, ws, ws_app (a := a)]; omega
theorem ws_scale {g : NestedKey → Int} {m : Int} : ∀ {a : WL}, ws g (a.map fun p => (p.1, m * p.2)) = m * ws g a
  | [] => by simp [ws]
  | p :: a => by
    simp only [List.map_cons, ws, ws_scale (a := a), Int.mul_add]
    rw [Int.mul_left_comm]
theorem ws_nest {g : NestedKey → Int} {B : NestedKey → Int → WL} {h : NestedKey → Int} : ∀ {a : WL}, (∀ p ∈ a, ws g (B p.1 p.2) = h p.1 * p.2) → ws g (a.flatMap fun p => B p.1 p.2) = ws h a
  | [], _ => rfl
  | p :: a, hb => by
    rw [List.flatMap_cons, ws_app, hb p (List.mem_cons_self ..), ws_nest (a := a) fun q hq => hb q (List.mem_cons_of_mem _ hq)]
    rfl
theorem ws_le {g h : NestedKey → Int} : ∀ {a : WL}, (∀ p ∈ a, g p.1 ≤ h p.1 ∧ 0 ≤ p.2) → ws g a ≤ ws h a
  | [], _ => Int.le_refl _
  | p :: a, e => by
    have h1 := e p (List.mem_cons_self ..)
    have h2 := ws_le (a := a) fun q hq => e q (List.mem_cons_of_mem _ hq)
    have h3 := Int.mul_le_mul_of_nonneg_right h1.1 h1.2
    simp only [ws]; omega
theorem ws_mul {g : NestedKey → Int} {m : Int} : ∀ {a : WL}, ws (fun k => m * g k) a = m * ws g a
  | [] => by simp [ws]
  | p :: a => by simp only [ws, ws_mul (a := a), Int.mul_add, Int.mul_assoc]
def vI : PyData → Int
  | .int i => i
  | _ => 0
def toW (kvs : List (NestedKey × PyData)) : WL := kvs.map fun p => (p.1, vI p.2)
structure Dd (KS : List NestedKey) (kvs : List (NestedKey × PyData)) : Prop where
  nd : (kvs.map (·.1)).Nodup
  ks : ∀ p ∈ kvs, p.1 ∈ KS
  nn : ∀ p ∈ kvs, ∃ n : Nat, p.2 = .int n
theorem Dd.nil {KS : List NestedKey} : Dd KS [] := ⟨List.nodup_nil, fun p h => (by cases h), fun p h => (by cases h)⟩
theorem nodup_le {α : Type} [DecidableEq α] : ∀ {l b : List α}, l.Nodup → (∀ x ∈ l, x ∈ b) → l.length ≤ b.length
  | [], _, _, _ => Nat.zero_le _
  | x :: l, b, n, h => by
    have n' := List.nodup_cons.mp n
    have hx : x ∈ b := h x List.mem_cons_self
    have := nodup_le (l := l) (b := b.erase x) n'.2 fun y hy => (List.mem_erase_of_ne (fun e => n'.1 (by rw [← e]; exact hy))).mpr (h y (List.mem_cons_of_mem _ hy))
    have h1 := List.length_erase_of_mem hx
    have h2 := List.length_pos_of_mem hx
    rw [List.length_cons]
    omega
theorem Dd.len {KS : List NestedKey} {kvs : List (NestedKey × PyData)} (h : Dd KS kvs) : kvs.length ≤ KS.length := by
  have := nodup_le h.nd (b := KS) fun x hx => by
    obtain ⟨p, hp, rfl⟩ := List.mem_map.mp hx
    exact h.ks p hp
  simpa using this
def addK (kvs : List (NestedKey × PyData)) (k : NestedKey) (m : Int) : List (NestedKey × PyData) := putN kvs k (.int (vI ((valN kvs k).getD (.int 0)) + m))
theorem valN_cons {j k : NestedKey} {d : PyData} {r : List (NestedKey × PyData)} : valN ((j, d) :: r) k = if j = k then some d else valN r k := by
  by_cases e : j = k
  · simp [valN, e]
  · simp [valN, e]
theorem valN_none {k : NestedKey} : ∀ {kvs : List (NestedKey × PyData)}, (valN kvs k).isSome = true ↔ k ∈ kvs.map (·.1)
  | [] => by simp [valN]
  | (j, d) :: r => by
    rw [valN_cons, List.map_cons, List.mem_cons]
    by_cases e : j = k
    · simp [e]
    · rw [if_neg e, valN_none (kvs := r)]
      exact ⟨.inr, fun h => h.elim (fun h => absurd h.symm e) id⟩
theorem valN_mem {k : NestedKey} {d : PyData} : ∀ {kvs : List (NestedKey × PyData)}, valN kvs k = some d → (k, d) ∈ kvs
  | [], h => by simp [valN] at h
  | (j, c) :: r, h => by
    rw [valN_cons] at h
    by_cases e : j = k
    · rw [if_pos e] at h; cases h; rw [e]; exact List.mem_cons_self ..
    · rw [if_neg e] at h; exact List.mem_cons_of_mem _ (valN_mem h)
theorem ws_at {k : NestedKey} : ∀ {kvs : List (NestedKey × PyData)}, (kvs.map (·.1)).Nodup → ws (fun j => if j = k then 1 else 0) (toW kvs) = vI ((valN kvs k).getD (.int 0))
  | [], _ => rfl
  | (j, d) :: r, h => by
    have h' := List.nodup_cons.mp h
    have ih := ws_at (k := k) h'.2
    rw [valN_cons]
    show (if j = k then 1 else 0) * vI d + ws _ (toW r) = _
    rw [ih]
    by_cases e : j = k
    · have hn : valN r k = none := by
        cases hv : valN r k with
        | none => rfl
        | some c => exact absurd (List.mem_map.mpr ⟨_, valN_mem hv, rfl⟩) (by rw [← e]; exact h'.1)
      rw [if_pos e, if_pos e, hn]
      show 1 * vI d + vI (.int 0) = vI d
      simp [vI]
    · rw [if_neg e, if_neg e]; omega
theorem put_map {k : NestedKey} {d : PyData} {g : NestedKey → Int} : ∀ {kvs : List (NestedKey × PyData)}, (kvs.map (·.1)).Nodup → k ∈ kvs.map (·.1) → ws g (toW (kvs.map fun p => if p.1 = k then (p.1, d) else p)) = ws g (toW kvs) + g k * (vI d - vI ((valN kvs k).getD (.int 0)))
  | [], _, h => by cases h
  | (j, c) :: r, nd, h => by
    have h' := List.nodup_cons.mp nd
    rw [valN_cons, List.map_cons]
    by_cases e : j = k
    · have hr : (r.map fun p => if p.1 = k then (p.1, d) else p) = r := by
        refine (List.map_congr_left fun p hp => ?_).trans (List.map_id r)
        rw [if_neg fun z => h'.1 (by rw [e, ← z]; exact List.mem_map.mpr ⟨p, hp, rfl⟩)]
        rfl
      rw [hr]
      simp only [if_pos e, Option.getD_some]
      show g j * vI d + ws g (toW r) = g j * vI c + ws g (toW r) + _
      rw [e, Int.mul_sub]; omega
    · rcases List.mem_cons.mp h with z | z
      · exact absurd z.symm e
      · have ih := put_map (d := d) (g := g) h'.2 z
        simp only [if_neg e]
        show g j * vI c + ws g (toW (r.map fun p => if p.1 = k then (p.1, d) else p)) = g j * vI c + ws g (toW r) + _
        rw [ih]; omega
theorem keys_put {k : NestedKey} {d : PyData} {kvs : List (NestedKey × PyData)} : (kvs.map fun p => if p.1 = k then (p.1, d) else p).map (·.1) = kvs.map (·.1) := by
  rw [List.map_map]
  refine List.map_congr_left fun p _ => ?_
  show (if p.1 = k then (p.1, d) else p).1 = p.1
  split <;> rfl
theorem toW_app {a b : List (NestedKey × PyData)} : toW (a ++ b) = toW a ++ toW b := List.map_append ..
theorem Dd.at {KS : List NestedKey} {kvs : List (NestedKey × PyData)} (h : Dd KS kvs) (k : NestedKey) : ∃ n : Nat, (valN kvs k).getD (.int 0) = .int n := by
  cases hv : valN kvs k with
  | none => exact ⟨0, rfl⟩
  | some d => obtain ⟨n, e⟩ := h.nn _ (valN_mem hv); exact ⟨n, e⟩
theorem Dd.add {KS : List NestedKey} {kvs : List (NestedKey × PyData)} (h : Dd KS kvs) {k : NestedKey} (hk : k ∈ KS) (m : Nat) : Dd KS (addK kvs k m) ∧ ∀ g, ws g (toW (addK kvs k m)) = ws g (toW kvs) + g k * m := by
  obtain ⟨n, hn⟩ := h.at k
  unfold addK putN
  rw [hn]
  by_cases hs : (valN kvs k).isSome = true
  · rw [if_pos hs]
    have hm := valN_none.mp hs
    refine ⟨⟨by rw [keys_put]; exact h.nd, fun p hp => ?_, fun p hp => ?_⟩, fun g => ?_⟩
    · obtain ⟨q, hq, rfl⟩ := List.mem_map.mp hp
      split
      · exact h.ks q hq
      · exact h.ks q hq
    · obtain ⟨q, hq, rfl⟩ := List.mem_map.mp hp
      split
      · exact ⟨n + m, by simp [vI]⟩
      · exact h.nn q hq
    · rw [put_map h.nd hm, hn]
      simp only [vI]
      rw [show (n : Int) + m - n = m by omega]
  · rw [if_neg hs]
    have hm : k ∉ kvs.map (·.1) := fun z => hs (valN_none.mpr z)
    have h0 : n = 0 := by
      cases hv : valN kvs k with
      | none => rw [hv] at hn; injection hn with e; have e : (0 : Int) = n := e; omega
      | some d => rw [hv] at hs; exact absurd rfl hs
    subst h0
    refine ⟨⟨?_, fun p hp => ?_, fun p hp => ?_⟩, fun g => ?_⟩
    · rw [List.map_append, List.nodup_append]
      refine ⟨h.nd, by simp, fun x hx y hy => ?_⟩
      simp at hy
      rintro rfl
      exact hm (by rw [← hy]; exact hx)
    · rcases List.mem_append.mp hp with hp | hp
      · exact h.ks p hp
      · rw [List.mem_singleton.mp hp]; exact hk
    · rcases List.mem_append.mp hp with hp | hp
      · exact h.nn p hp
      · rw [List.mem_singleton.mp hp]; exact ⟨m, by simp [vI]⟩
    · rw [toW_app, ws_app]
      show _ + (g k * (0 + (m : Int)) + 0) = _
      simp
def Holds (KS : List NestedKey) (kvs : List (NestedKey × PyData)) (L : WL) : Prop := Dd KS kvs ∧ ∀ g, ws g (toW kvs) = ws g L
end Yk22
namespace Yk22
open PySem L2 B
abbrev Sp := Str × Nat
abbrev Tb := (Sp → WL) × (Sp → WL)
def partsP : PyData → List PyData × List PyData × List PyData
  | .tuple [.tuple cs, .tuple ws, .tuple hs] => (cs, ws, hs)
  | _ => ([], [], [])
def spotP (s : Sp) : PyData := .tuple [.str s.1, .int s.2]
def lineA (fs : List PyData) (s : Sp) : List PyData × List PyData × List PyData := partsP ((lineOf fs (spotP s)).getD .none)
def overW (e : NestedKey) (left : Nat) : WL := if left = 0 then [(e, 1)] else []
def bfW (hs : List PyData) (h : Nat → Tb) (s : Sp) (k : Str) (left : Nat) : WL := match hLine k hs with
  | some j => (h left).1 (s.1, j.toNat)
  | none => overW (fK k) left
def wayW (hs : List PyData) (h : Nat → Tb) (s : Sp) (n : Nat) : PyData → WL
  | .int j => (h n).1 (s.1, j.toNat)
  | .tuple [.str _] => overW bK n
  | .tuple [.str _, .str k] => bfW hs h s k n
  | _ => []
def bfrW (hs : List PyData) (h : Nat → Tb) (s : Sp) (left : Nat) : NestedKey → WL
  | .tup [.text _] => (h left).2 s
  | .tup [.text _, .text k] => bfW hs h s k left
  | _ => []
def endW (hs : List PyData) (h : Nat → Tb) (s : Sp) (n u : Nat) (p : NestedKey × Int) : WL := if p.1 = oK then (if u = n then [(oK, p.2)] else []) else (bfrW hs h s (n - u) p.1).map fun q => (q.1, p.2 * q.2)
def innW (hs : List PyData) (h : Nat → Tb) (s : Sp) (n : Nat) (x : Str) (u : Nat) : WL := ((h u).1 (x, 0)).flatMap fun p => endW hs h s n u p
def callW (hs : List PyData) (h : Nat → Tb) (s : Sp) (n : Nat) : PyData → WL
  | .str x => if x = Str.ofString "" then (h n).2 s else (List.range (n + 1)).flatMap fun u => innW hs h s n x u
  | _ => []
def stepT (fs : List PyData) (n : Nat) (h : Nat → Tb) : Tb := (fun s => (lineA fs s).1.flatMap (callW (lineA fs s).2.2 h s n), fun s => (lineA fs s).2.1.flatMap (wayW (lineA fs s).2.2 h s n))
def hist (fs : List PyData) : Nat → Nat → Tb
  | 0 => fun _ => (fun _ => [(oK, 1)], fun _ => [(oK, 1)])
  | n + 1 => fun m => if m ≤ n then hist fs n m else stepT fs n (hist fs n)
def TT (fs : List PyData) (n : Nat) : Tb := hist fs n n
theorem hist_le {fs : List PyData} : ∀ {n m : Nat}, m ≤ n → hist fs n m = TT fs m
  | 0, m, h => by obtain rfl : m = 0 := by omega
                  rfl
  | n + 1, m, h => by
    by_cases e : m ≤ n
    · show (if m ≤ n then hist fs n m else _) = _
      rw [if_pos e]; exact hist_le e
    · obtain rfl : m = n + 1 := by omega
      rfl
theorem flat_congr {α β : Type} {f g : α → List β} : ∀ {l : List α}, (∀ a ∈ l, f a = g a) → l.flatMap f = l.flatMap g
  | [], _ => rfl
  | a :: l, h => by rw [List.flatMap_cons, List.flatMap_cons, h a (List.mem_cons_self ..), flat_congr fun b hb => h b (List.mem_cons_of_mem _ hb)]
theorem step_congr {fs : List PyData} {n : Nat} {h h' : Nat → Tb} (e : ∀ u, u ≤ n → h u = h' u) : stepT fs n h = stepT fs n h' := by
  have bf : ∀ hs s k left, left ≤ n → bfW hs h s k left = bfW hs h' s k left := fun hs s k left hl => by unfold bfW; rw [e left hl]
  have wy : ∀ hs s w, wayW hs h s n w = wayW hs h' s n w := fun hs s w => by
    unfold wayW
    split
    · rw [e n (Nat.le_refl _)]
    · rfl
    · exact bf _ _ _ _ (Nat.le_refl _)
    · rfl
  have br : ∀ hs s left, left ≤ n → ∀ k, bfrW hs h s left k = bfrW hs h' s left k := fun hs s left hl k => by
    unfold bfrW
    split
    · rw [e left hl]
    · exact bf _ _ _ _ hl
    · rfl
  have cl : ∀ hs s c, callW hs h s n c = callW hs h' s n c := fun hs s c => by
    unfold callW
    split
    · split
      · rw [e n (Nat.le_refl _)]
      · refine flat_congr fun u hu => ?_
        have hu : u ≤ n := by have := List.mem_range.mp hu; omega
        unfold innW
        rw [e u hu]
        refine flat_congr fun p _ => ?_
        unfold endW
        rw [br hs s (n - u) (by omega)]
    · rfl
  unfold stepT
  refine Prod.ext (funext fun s => flat_congr fun c _ => cl _ _ _) (funext fun s => flat_congr fun w _ => wy _ _ _)
theorem TT_succ {fs : List PyData} {n : Nat} : TT fs (n + 1) = stepT fs n (TT fs) := by
  show (if n + 1 ≤ n then hist fs n (n + 1) else stepT fs n (hist fs n)) = _
  rw [if_neg (by omega)]
  exact step_congr fun u hu => hist_le hu
def wK : PyData → Option NestedKey
  | .tuple [.str _, .str k] => some (fK k)
  | _ => none
def rowsF : PyData → List PyData
  | .tuple [.str _, .tuple rs] => rs
  | _ => []
def KSp (fs : List PyData) : List NestedKey := oK :: bK :: fs.flatMap fun f => (rowsF f).flatMap fun r => (partsP r).2.1.filterMap wK
theorem line_row {fs : List PyData} (h : PrgP fs) {s : Sp} {r : PyData} (e : lineOf fs (spotP s) = some r) : ∃ rs, rowsOf fs s.1 = some rs ∧ s.2 < rs.length ∧ atI rs (s.2 : Int) = some r ∧ r ∈ rs ∧ RowP fs rs.length r := by
  unfold spotP at e
  simp only [lineOf, Option.bind_eq_some_iff] at e
  obtain ⟨rs, hr, ha⟩ := e
  have hl : s.2 < rs.length := by
    obtain ⟨_, _, _, _, _, z⟩ := L2.atI_get ha
    omega
  obtain ⟨r', hm, e'⟩ := atI_some (xs := rs) (i := (s.2 : Int)) (by omega) (by omega)
  rw [ha] at e'
  cases e'
  exact ⟨rs, hr, hl, ha, hm, (h.rows _ _ hr).2.2 r hm⟩
theorem sp_line {fs : List PyData} (h : PrgP fs) {n : Str} {i : Nat} {rs : List PyData} (hr : rowsOf fs n = some rs) (hi : i < rs.length) : ∃ cs ws hs, lineOf fs (spotP (n, i)) = some (.tuple [.tuple cs, .tuple ws, .tuple hs]) ∧ lineA fs (n, i) = (cs, ws, hs) ∧ RowP fs rs.length (.tuple [.tuple cs, .tuple ws, .tuple hs]) ∧ atI rs (i : Int) = some (.tuple [.tuple cs, .tuple ws, .tuple hs]) := by
  obtain ⟨r, hm, e⟩ := atI_some (xs := rs) (i := (i : Int)) (by omega) (by omega)
  have rp := (h.rows _ _ hr).2.2 r hm
  obtain ⟨cs, ws, hs, rfl, _⟩ := rp.ex
  have hl : lineOf fs (spotP (n, i)) = some (.tuple [.tuple cs, .tuple ws, .tuple hs]) := by simp only [spotP, lineOf, hr, Option.bind_some, e]
  exact ⟨cs, ws, hs, hl, by unfold lineA; rw [hl]; rfl, rp, e⟩
def SpOk (fs : List PyData) (s : Sp) : Prop := ∃ rs, rowsOf fs s.1 = some rs ∧ s.2 < rs.length
theorem lineA_none {fs : List PyData} (h : PrgP fs) {s : Sp} (hs : ¬ SpOk fs s) : lineA fs s = ([], [], []) := by
  unfold lineA
  cases e : lineOf fs (spotP s) with
  | none => rfl
  | some r =>
    obtain ⟨rs, hr, hl, _⟩ := line_row h e
    exact absurd ⟨rs, hr, hl⟩ hs
theorem key_in {fs : List PyData} (h : PrgP fs) {n : Str} {rs : List PyData} {r : PyData} {w : PyData} {k : NestedKey} (hr : rowsOf fs n = some rs) (hm : r ∈ rs) (hw : w ∈ (partsP r).2.1) (hk : wK w = some k) : k ∈ KSp fs := by
  refine List.mem_cons_of_mem _ (List.mem_cons_of_mem _ (List.mem_flatMap.mpr ⟨_, rows_mem h.fn hr, List.mem_flatMap.mpr ⟨r, hm, List.mem_filterMap.mpr ⟨w, hw, hk⟩⟩⟩))
theorem oK_in {fs : List PyData} : oK ∈ KSp fs := List.mem_cons_self ..
theorem bK_in {fs : List PyData} : bK ∈ KSp fs := List.mem_cons_of_mem _ (List.mem_cons_self ..)
theorem flat_len {α β : Type} {f : α → List β} {c : Nat} : ∀ {l : List α}, (∀ a ∈ l, (f a).length ≤ c) → (l.flatMap f).length ≤ l.length * c
  | [], _ => by simp
  | a :: l, h => by
    have h1 := h a (List.mem_cons_self ..)
    have h2 := flat_len (l := l) fun b hb => h b (List.mem_cons_of_mem _ hb)
    rw [List.flatMap_cons, List.length_append, List.length_cons, Nat.succ_mul]
    omega
theorem KS_len {fs : List PyData} (h : PrgP fs) (ho : Own fs) : (KSp fs).length ≤ 40000 := by
  have h1 : (fs.flatMap fun f => (rowsF f).flatMap fun r => (partsP r).2.1.filterMap wK).length ≤ fs.length * 4000 := flat_len fun f hf => by
    obtain ⟨n, rs, rfl⟩ := h.fn f hf
    obtain ⟨_, hl, hrw⟩ := h.rows n rs (ho.1 n rs hf)
    have h2 : ((rowsF (.tuple [.str n, .tuple rs])).flatMap fun r => (partsP r).2.1.filterMap wK).length ≤ rs.length * 100 := flat_len fun r hr => by
      obtain ⟨cs, ws, hs, rfl, _, _, _, _, _, hw, _⟩ := (hrw r hr).ex
      exact Nat.le_trans (List.length_filterMap_le _ _) hw
    omega
  have h3 := h.le
  show (fs.flatMap _).length + 1 + 1 ≤ 40000
  omega
def one : NestedKey → Int := fun _ => 1
def Dn (n : Nat) : Int := (2100 : Int) ^ n
structure Ww (fs : List PyData) (c : Int) (L : WL) : Prop where
  ok : ∀ p ∈ L, p.1 ∈ KSp fs ∧ 0 ≤ p.2
  le : ws one L ≤ c
theorem Dn_pos {n : Nat} : 1 ≤ Dn n := by
  unfold Dn
  have := Int.pow_pos (n := 2100) (m := n) (by decide)
  omega
theorem Dn_add {m n : Nat} : Dn m * Dn n = Dn (m + n) := by unfold Dn; rw [Int.pow_add]
theorem Ww.mono {fs : List PyData} {c d : Int} {L : WL} (h : Ww fs c L) (e : c ≤ d) : Ww fs d L := ⟨h.ok, Int.le_trans h.le e⟩
theorem Ww.flat {α : Type} {fs : List PyData} {c : Int} {f : α → WL} : ∀ {xs : List α}, (∀ x ∈ xs, Ww fs c (f x)) → Ww fs (xs.length * c) (xs.flatMap f)
  | [], _ => ⟨fun p h => by simp at h, by simp [ws]⟩
  | x :: xs, h => by
    have h1 := h x (List.mem_cons_self ..)
    have h2 := Ww.flat (xs := xs) fun y hy => h y (List.mem_cons_of_mem _ hy)
    refine ⟨fun p hp => ?_, ?_⟩
    · rw [List.flatMap_cons] at hp
      rcases List.mem_append.mp hp with hp | hp
      · exact h1.ok p hp
      · exact h2.ok p hp
    · rw [List.flatMap_cons, ws_app, List.length_cons]
      have e : ((xs.length + 1 : Nat) : Int) * c = (xs.length : Int) * c + c := by rw [Int.natCast_add, Int.add_mul]; simp
      rw [e]
      have := h1.le
      have := h2.le
      omega
theorem Ww.nil {fs : List PyData} {c : Int} (h : 0 ≤ c) : Ww fs c [] := ⟨fun p z => (by cases z), h⟩
theorem Ww.over {fs : List PyData} {e : NestedKey} {n : Nat} (h : e ∈ KSp fs) : Ww fs (Dn n) (overW e n) := by
  unfold overW
  split
  · exact ⟨fun p hp => by rw [List.mem_singleton.mp hp]; exact ⟨h, by show (0 : Int) ≤ 1; decide⟩, by show 1 * 1 + 0 ≤ Dn n; have := Dn_pos (n := n); omega⟩
  · exact Ww.nil (by have := Dn_pos (n := n); omega)
theorem Ww.scale {fs : List PyData} {c m : Int} {L : WL} (h : Ww fs c L) (hm : 0 ≤ m) : Ww fs (m * c) (L.map fun q => (q.1, m * q.2)) := by
  refine ⟨fun p hp => ?_, ?_⟩
  · obtain ⟨q, hq, rfl⟩ := List.mem_map.mp hp
    exact ⟨(h.ok q hq).1, Int.mul_nonneg hm (h.ok q hq).2⟩
  · rw [ws_scale]
    exact Int.mul_le_mul_of_nonneg_left h.le hm
theorem Ww.nest {fs : List PyData} {c d : Int} {a : WL} {F : NestedKey × Int → WL} (h : Ww fs d a) (hc : 0 ≤ c) (hF : ∀ p ∈ a, Ww fs (c * p.2) (F p)) : Ww fs (c * d) (a.flatMap F) := by
  have key : ∀ b : WL, (∀ p ∈ b, Ww fs (c * p.2) (F p)) → Ww fs (c * ws one b) (b.flatMap F) := by
    intro b
    induction b with
    | nil => intro _; exact Ww.nil (by simp [ws])
    | cons p b ih =>
      intro hb
      have h1 := hb p (List.mem_cons_self ..)
      have h2 := ih fun q hq => hb q (List.mem_cons_of_mem _ hq)
      refine ⟨fun q hq => ?_, ?_⟩
      · rw [List.flatMap_cons] at hq
        rcases List.mem_append.mp hq with hq | hq
        · exact h1.ok q hq
        · exact h2.ok q hq
      · rw [List.flatMap_cons, ws_app]
        have e : c * ws one (p :: b) = c * p.2 + c * ws one b := by
          show c * (1 * p.2 + ws one b) = _
          rw [Int.one_mul, Int.mul_add]
        rw [e]
        have := h1.le
        have := h2.le
        omega
  exact (key a hF).mono (Int.mul_le_mul_of_nonneg_left h.le hc)
theorem hLine_lt {sz : Nat} {hs : List PyData} {k : Str} {j : Int} (h : ∀ h ∈ hs, ∃ (k : Str) (i : Nat), i < sz ∧ h = .tuple [.str k, .int i]) (e : hLine k hs = some j) : ∃ a : Nat, j = a ∧ a < sz := hLine_mem h e
theorem TT_ok {fs : List PyData} (h : PrgP fs) : ∀ (N n : Nat), n ≤ N → N ≤ 20 → ∀ s, Ww fs (Dn n) ((TT fs n).1 s) ∧ Ww fs (Dn n) ((TT fs n).2 s) := by
  intro N
  induction N with
  | zero =>
    intro n hn _ s
    obtain rfl : n = 0 := by omega
    have w : Ww fs (Dn 0) [(oK, 1)] := ⟨fun p hp => by rw [List.mem_singleton.mp hp]; exact ⟨oK_in, by show (0 : Int) ≤ 1; decide⟩, by show 1 * 1 + 0 ≤ Dn 0; have := Dn_pos (n := 0); omega⟩
    exact ⟨w, w⟩
  | succ N ih =>
    intro n hn hN s
    by_cases hl : n ≤ N
    · exact ih n hl (by omega) s
    obtain rfl : n = N + 1 := by omega
    have ih : ∀ u, u ≤ N → ∀ s, Ww fs (Dn u) ((TT fs u).1 s) ∧ Ww fs (Dn u) ((TT fs u).2 s) := fun u hu s => ih u hu (by omega) s
    rw [TT_succ]
    have up : ((100 * (N + 1) : Nat) : Int) * Dn N ≤ Dn (N + 1) := by
      have e : Dn (N + 1) = 2100 * Dn N := by unfold Dn; rw [Int.pow_succ, Int.mul_comm]
      rw [e]
      have := Dn_pos (n := N)
      exact Int.mul_le_mul_of_nonneg_right (by omega) (by omega)
    have p0 : ∀ n, 0 ≤ Dn n := fun n => by have := Dn_pos (n := n); omega
    by_cases hs : SpOk fs s
    · obtain ⟨rs, hr, hi⟩ := hs
      obtain ⟨cs, ws', hs', hline, hA, rp, _⟩ := sp_line h hr hi
      obtain ⟨_, _, _, e, hne, hcs, hws, hhs, l1, l2, l3⟩ := rp.ex
      cases e
      have hrm : (.tuple [.tuple cs, .tuple ws', .tuple hs'] : PyData) ∈ rs := by
        obtain ⟨r2, hm2, e2⟩ := atI_some (xs := rs) (i := (s.2 : Int)) (by omega) (by omega)
        have e3 : lineOf fs (spotP s) = some r2 := by simp only [spotP, lineOf, hr, Option.bind_some, e2]
        have : lineOf fs (spotP s) = some (.tuple [.tuple cs, .tuple ws', .tuple hs']) := hline
        rw [e3] at this
        cases this
        exact hm2
      have bf : ∀ left, left ≤ N → ∀ k, fK k ∈ KSp fs → Ww fs (Dn left) (bfW hs' (TT fs) s k left) := fun left hl k hk => by
        unfold bfW
        split
        · exact (ih left hl _).1
        · exact Ww.over hk
      have br : ∀ left, left ≤ N → ∀ k, k ∈ KSp fs → Ww fs (Dn left) (bfrW hs' (TT fs) s left k) := fun left hl k hk => by
        unfold bfrW
        split
        · exact (ih left hl _).2
        · rename_i x k2
          by_cases hx : x = "fail"
          · subst hx; exact bf left hl k2 hk
          · exfalso
            have : ∀ K ∈ KSp fs, ∀ x y, K = .tup [.text x, .text y] → x = "fail" := fun K hK x y e => by
              rcases List.mem_cons.mp hK with rfl | hK
              · cases e
              rcases List.mem_cons.mp hK with rfl | hK
              · cases e
              obtain ⟨f, hf, hK⟩ := List.mem_flatMap.mp hK
              obtain ⟨r, hr, hK⟩ := List.mem_flatMap.mp hK
              obtain ⟨w, hw, hK⟩ := List.mem_filterMap.mp hK
              unfold wK at hK
              split at hK
              · cases hK; cases e; rfl
              · cases hK
            exact hx (this _ hk x k2 rfl)
        · exact Ww.nil (p0 _)
      constructor
      · show Ww fs (Dn (N + 1)) ((lineA fs s).1.flatMap (callW (lineA fs s).2.2 (TT fs) s N))
        have hA' : lineA fs s = (cs, ws', hs') := hA
        rw [hA']
        refine (Ww.flat (c := ((N + 1 : Nat) : Int) * Dn N) fun c hc => ?_).mono ?_
        · obtain ⟨x, rfl, _⟩ := hcs c hc
          unfold callW
          simp only
          split
          · refine ((ih N (Nat.le_refl _) s).2).mono ?_
            have := p0 N
            have e : (1 : Int) * Dn N ≤ ((N + 1 : Nat) : Int) * Dn N := Int.mul_le_mul_of_nonneg_right (by omega) this
            omega
          · have := Ww.flat (fs := fs) (c := Dn N) (f := fun u => innW hs' (TT fs) s N x u) (xs := List.range (N + 1)) fun u hu => by
              have hu : u ≤ N := by have := List.mem_range.mp hu; omega
              unfold innW
              have e : Dn (N - u) * Dn u = Dn N := by rw [Dn_add, Nat.sub_add_cancel hu]
              rw [← e]
              have ww := (ih u hu (x, 0)).1
              refine Ww.nest ww (p0 _) fun p hp => ?_
              obtain ⟨hk, hv⟩ := ww.ok p hp
              unfold endW
              split
              · rename_i e1
                split
                · refine ⟨fun q hq => by rw [List.mem_singleton.mp hq]; exact ⟨oK_in, hv⟩, ?_⟩
                  show 1 * p.2 + 0 ≤ Dn (N - u) * p.2
                  have := Int.mul_le_mul_of_nonneg_right (Dn_pos (n := N - u)) hv
                  omega
                · exact Ww.nil (Int.mul_nonneg (p0 _) hv)
              · rw [Int.mul_comm]
                exact (br (N - u) (by omega) p.1 hk).scale hv
            rw [List.length_range] at this
            exact this
        · refine Int.le_trans ?_ up
          rw [← Int.mul_assoc]
          refine Int.mul_le_mul_of_nonneg_right ?_ (p0 N)
          have : (cs.length : Int) ≤ 100 := by omega
          have := Int.mul_le_mul_of_nonneg_right this (show (0 : Int) ≤ ((N + 1 : Nat) : Int) by omega)
          show (cs.length : Int) * ((N + 1 : Nat) : Int) ≤ _
          omega
      · show Ww fs (Dn (N + 1)) ((lineA fs s).2.1.flatMap (wayW (lineA fs s).2.2 (TT fs) s N))
        have hA' : lineA fs s = (cs, ws', hs') := hA
        rw [hA']
        refine (Ww.flat (c := Dn N) fun w hw => ?_).mono ?_
        · rcases hws w hw with ⟨i, hi, rfl⟩ | rfl | ⟨k, rfl⟩
          · exact (ih N (Nat.le_refl _) _).1
          · exact Ww.over bK_in
          · exact bf N (Nat.le_refl _) k (key_in h hr hrm hw rfl)
        · refine Int.le_trans ?_ up
          refine Int.mul_le_mul_of_nonneg_right ?_ (p0 N)
          show (ws'.length : Int) ≤ _
          omega
    · have hA := lineA_none h hs
      constructor
      · show Ww fs (Dn (N + 1)) ((lineA fs s).1.flatMap _)
        rw [hA]; exact Ww.nil (p0 _)
      · show Ww fs (Dn (N + 1)) ((lineA fs s).2.1.flatMap _)
        rw [hA]; exact Ww.nil (p0 _)
end Yk22
namespace Yk22
open PySem L2 B
def skey (s : Sp) : NestedKey := .tup [.text s.1, .num s.2]
def ckey (s : Sp) (u : Nat) : NestedKey := .tup [skey s, .num u]
theorem key_sp {n : Str} {i : Nat} : keyN (.val (.tuple [.str n, .int i])) = some (skey (n, i)) := by
  simp [keyN, GS.nk, GS.nks, skey, NestedKey.depth, NestedKey.depthAll]
theorem key_c {n : Str} {i u : Nat} : keyB (.val (.tuple [.tuple [.str n, .int i], .int u])) = some (ckey (n, i) u) := by
  simp [keyB, nkb, nkbs, ckey, skey, NestedKey.depth, NestedKey.depthAll]
theorem key_o : keyN (.val (.tuple [])) = some oK := by
  simp [keyN, GS.nk, GS.nks, oK, NestedKey.depth, NestedKey.depthAll]
theorem key_b : keyN (.val (.tuple [.str "back"])) = some bK := by
  simp [keyN, GS.nk, GS.nks, bK, NestedKey.depth, NestedKey.depthAll]
theorem key_f {k : Str} : keyN (.val (.tuple [.str "fail", .str k])) = some (fK k) := by
  simp [keyN, GS.nk, GS.nks, fK, NestedKey.depth, NestedKey.depthAll]
theorem ks_cases {fs : List PyData} {k : NestedKey} (h : k ∈ KSp fs) : k = oK ∨ k = bK ∨ ∃ x, k = fK x := by
  rcases List.mem_cons.mp h with rfl | h
  · exact .inl rfl
  rcases List.mem_cons.mp h with rfl | h
  · exact .inr (.inl rfl)
  obtain ⟨f, hf, h⟩ := List.mem_flatMap.mp h
  obtain ⟨r, hr, h⟩ := List.mem_flatMap.mp h
  obtain ⟨w, hw, h⟩ := List.mem_filterMap.mp h
  unfold wK at h
  split at h
  · cases h; exact .inr (.inr ⟨_, rfl⟩)
  · cases h
theorem ks_key {fs : List PyData} {k : NestedKey} (h : k ∈ KSp fs) : keyN (.val k.data) = some k := by
  rcases ks_cases h with rfl | rfl | ⟨x, rfl⟩
  · exact key_o
  · exact key_b
  · exact key_f
theorem over_if {k : NestedKey} {st : Store} (hk : keyN (.val k.data) = some k) (left : Nat) (hs : Cl st) : m_over_if [.val k.data, .val (.int left)] st = .ok (.dv (if left = 0 then [(k, .int 1)] else [])) st := by
  refine of_wp ?_
  by_cases h : left = 0
  · subst h
    simp [m_over_if, b_over_if, f_newDv hk]
    exact ⟨hs, by simp [outT]⟩
  · simp [m_over_if, b_over_if, h]
    exact ⟨hs, by simp [outT]⟩
theorem holds_over {fs : List PyData} {k : NestedKey} (hk : k ∈ KSp fs) (left : Nat) : Holds (KSp fs) (if left = 0 then [(k, .int 1)] else []) (overW k left) := by
  unfold overW
  by_cases h : left = 0
  · rw [if_pos h, if_pos h]
    exact ⟨⟨by simp, fun p hp => by rw [List.mem_singleton.mp hp]; exact hk, fun p hp => ⟨1, by rw [List.mem_singleton.mp hp]; rfl⟩⟩, fun g => rfl⟩
  · rw [if_neg h, if_neg h]
    exact ⟨Dd.nil, fun g => rfl⟩
def cntF (a b d : Nat) : List (Str × D) := [("line_table", .loc a), ("at_call", .loc b), ("at_way", .loc d)]
section
variable {a b d : Nat}
@[simp] theorem cf_lt : (cntF a b d).lookup (Str.ofString "line_table") = some (.loc a) := by simp only [cntF, look_cons]; rfl
@[simp] theorem cf_ac : (cntF a b d).lookup (Str.ofString "at_call") = some (.loc b) := by simp only [cntF, look_cons]; rfl
@[simp] theorem cf_aw : (cntF a b d).lookup (Str.ofString "at_way") = some (.loc d) := by simp only [cntF, look_cons]; rfl
end
def LtOk (fs : List PyData) (LT : List (NestedKey × PyData)) : Prop := ∀ s, SpOk fs s → valN LT (skey s) = lineOf fs (spotP s)
def TbOk (fs : List PyData) (T : Nat → Sp → WL) (P : Sp → Nat → Prop) (A : List (NestedKey × S1)) : Prop := ∀ s u, SpOk fs s → P s u → ∃ kvs, getA A (ckey s u) = some (.dd kvs) ∧ Holds (KSp fs) kvs (T u s)
structure Ob (fs : List PyData) (P : Sp → Nat → Prop) (st : Store) (c : Nat) : Prop where
  ex : ∃ a b d LT AC AW, st[c]? = some (.ins "Counts" (cntF a b d)) ∧ (st[a]? = some (.dn LT) ∧ LtOk fs LT) ∧ (st[b]? = some (.dm AC) ∧ TbOk fs (fun u => (TT fs u).1) P AC) ∧ st[d]? = some (.dm AW) ∧ TbOk fs (fun u => (TT fs u).2) P AW
theorem Ob.app {fs : List PyData} {P : Sp → Nat → Prop} {st : Store} {c : Nat} (h : Ob fs P st c) (more : Store) : Ob fs P (st ++ more) c := by
  obtain ⟨a, b, d, LT, AC, AW, h1, ⟨h2, l⟩, ⟨h3, t⟩, h4, t2⟩ := h.ex
  have up : ∀ {i : Nat} {o : O}, st[i]? = some o → (st ++ more)[i]? = some o := fun {i o} e => by rw [List.getElem?_append_left (List.getElem?_eq_some_iff.mp e).1]; exact e
  exact ⟨a, b, d, LT, AC, AW, up h1, ⟨up h2, l⟩, ⟨up h3, t⟩, up h4, t2⟩
section
variable {fs : List PyData} {P : Sp → Nat → Prop} {st : Store} {c : Nat}
theorem behind_fault (h : PrgP fs) (ho : Ob fs P st c) (hc : Cl st) {n : Str} {i : Nat} (hs : SpOk fs (n, i)) {k : Str} (hk : fK k ∈ KSp fs) {left : Nat} (hl : ∀ s, P s left) :
    ∃ kvs, m_Counts_behind_fault [.loc c, .val (.tuple [.str n, .int i]), .val (.tuple [.str "fail", .str k]), .val (.int left)] st = .ok (.dv kvs) st ∧ Holds (KSp fs) kvs (bfW (lineA fs (n, i)).2.2 (TT fs) (n, i) k left) := by
  obtain ⟨a, b, d, LT, AC, AW, h1, ⟨h2, l⟩, ⟨h3, t⟩, h4, t2⟩ := ho.ex
  obtain ⟨rs, hr, hi⟩ := id hs
  obtain ⟨cs, ws', hs', hline, hA, rp, _⟩ := sp_line h hr hi
  obtain ⟨_, _, _, e, hne, hcs, hws, hhs, l1, l2, l3⟩ := rp.ex
  cases e
  have hv : valN LT (skey (n, i)) = some (.tuple [.tuple cs, .tuple ws', .tuple hs']) := (l _ hs).trans hline
  have hH := handler_line (hand_of hhs) k st
  rw [hA]
  cases hj : hLine k hs' with
  | none =>
    refine ⟨_, ?_, by unfold bfW; simp only [hj]; exact holds_over hk left⟩
    refine of_wp ?_
    have hov := over_if (st := st) (k := fK k) key_f left hc
    have e : (fK k).data = .tuple [.str "fail", .str k] := rfl
    rw [e] at hov
    rw [hj] at hH
    simp [m_Counts_behind_fault, b_Counts_behind_fault, h1, f_dgetN h2 key_sp hv, hH, hov]
    exact ⟨hc, by simp [outT]⟩
  | some j =>
    obtain ⟨j', rfl, hj'⟩ := hLine_lt hhs hj
    obtain ⟨kvs, hg, hh⟩ := t (n, j') left ⟨rs, hr, hj'⟩ (hl _)
    refine ⟨kvs, ?_, ?_⟩
    · refine of_wp ?_
      rw [hj] at hH
      simp [m_Counts_behind_fault, b_Counts_behind_fault, h1, f_dgetN h2 key_sp hv, hH, f_dgetM h3 key_c hg, dOf]
      exact ⟨hc, by simp [outT]⟩
    · unfold bfW
      simp only [hj]
      exact hh
end
end Yk22
namespace Yk22
open PySem L2 B
theorem cf_no {a b d : Nat} {x : Str} (h : x ∉ (["line_table", "at_call", "at_way"] : List Str)) : ∀ (y : Str) (z : D), (y, z) ∈ cntF a b d → ¬ x = y := by
  intro y z hm e
  subst e
  refine h ?_
  simp only [cntF, List.mem_cons, Prod.mk.injEq] at hm ⊢
  rcases hm with ⟨e, _⟩ | ⟨e, _⟩ | ⟨e, _⟩ | hm
  · exact .inl e
  · exact .inr (.inl e)
  · exact .inr (.inr (.inl e))
  · cases hm
section
variable {fs : List PyData} {P : Sp → Nat → Prop} {st : Store} {c : Nat}
theorem behind_frame (h : PrgP fs) (ho : Ob fs P st c) (hc : Cl st) {n : Str} {i : Nat} (hs : SpOk fs (n, i)) {e : NestedKey} (he : e ∈ KSp fs) (hne : e ≠ oK) {left : Nat} (hl : ∀ s, P s left) :
    ∃ kvs, m_Counts_behind_frame [.loc c, .val (.tuple [.str n, .int i]), .val e.data, .val (.int left)] st = .ok (.dv kvs) st ∧ Holds (KSp fs) kvs (bfrW (lineA fs (n, i)).2.2 (TT fs) (n, i) left e) := by
  obtain ⟨a, b, d, LT, AC, AW, h1, ⟨h2, l⟩, ⟨h3, t⟩, h4, t2⟩ := ho.ex
  rcases ks_cases he with rfl | rfl | ⟨x, rfl⟩
  · exact absurd rfl hne
  · obtain ⟨kvs, hg, hh⟩ := t2 (n, i) left hs (hl _)
    refine ⟨kvs, ?_, hh⟩
    refine of_wp ?_
    have e : bK.data = .tuple [.str "back"] := rfl
    rw [e]
    simp [m_Counts_behind_frame, b_Counts_behind_frame, h1, f_dgetM h4 key_c hg, dOf, ev1, dm1]
    exact ⟨dp1, hc, by simp [outT]⟩
  · obtain ⟨kvs, hm, hh⟩ := behind_fault h ho hc hs he hl
    refine ⟨kvs, ?_, hh⟩
    refine of_wp ?_
    have e : (fK x).data = .tuple [.str "fail", .str x] := rfl
    rw [e]
    simp [m_Counts_behind_frame, b_Counts_behind_frame, h1, ev2, dm1, hm]
    exact ⟨cf_no (by decide), hc, by simp [outT]⟩
end
theorem add_to {k : NestedKey} {st : Store} {t : Nat} {kvs : List (NestedKey × PyData)} {m : Int} (hk : keyN (.val k.data) = some k) (ht : st[t]? = some (.dn kvs)) (hl : kvs.length < 100000) (hd : ∃ n : Nat, (valN kvs k).getD (.int 0) = .int n) :
    m_add_to [.loc t, .val k.data, .val (.int m)] st = .ok (.val .none) (st.set t (.dn (addK kvs k m))) := by
  obtain ⟨n, hd⟩ := hd
  have hp : dnP st (.loc t) = some kvs := by simp only [dnP, ht]
  refine of_wp ?_
  simp [m_add_to, b_add_to, f_isDn hp, f_getN2 hp hk, hd, ht, hk]
  refine ⟨by omega, ?_⟩
  unfold addK
  rw [hd]
  rfl
theorem items_loop {KS : List NestedKey} {t cc : Nat} {Bd : Int} {env : B.Env} {f : PyData → B.Env → M Fl}
    (hf : ∀ (k : NestedKey) (v : Nat) (st : Store) (kvs : List (NestedKey × PyData)), st[t]? = some (.dn kvs) → Dd KS kvs → k ∈ KS → (v : Int) ≤ Bd → wpx noE (f (.tuple [k.data, .int v]) env st) fun r s => r = .nx env ∧ s = st.set t (.dn (addK kvs k ((cc * v : Nat) : Int)))) :
    ∀ (items : List (NestedKey × PyData)), (∀ p ∈ items, p.1 ∈ KS ∧ ∃ n : Nat, p.2 = .int n ∧ (n : Int) ≤ Bd) → ∀ (st : Store) (kvs : List (NestedKey × PyData)), st[t]? = some (.dn kvs) → Dd KS kvs →
      wpx noE (forF f (items.map pairN) env st) fun r s => r = .nx env ∧ ∃ kvs', s = st.set t (.dn kvs') ∧ Dd KS kvs' ∧ ∀ g, ws g (toW kvs') = ws g (toW kvs) + cc * ws g (toW items)
  | [], _, st, kvs, ht, hd => by
    simp only [List.map_nil, forF, wp_rt]
    refine ⟨trivial, kvs, ?_, hd, fun g => by simp [toW, ws]⟩
    have hlt := (List.getElem?_eq_some_iff.mp ht)
    exact (List.set_getElem_self hlt.1 ▸ by rw [← hlt.2]; simp)
  | p :: r, h, st, kvs, ht, hd => by
    obtain ⟨k, d⟩ := p
    obtain ⟨hk, v, hv, hb⟩ := h _ (List.mem_cons_self ..)
    obtain rfl : d = .int v := hv
    have hlt := (List.getElem?_eq_some_iff.mp ht).1
    obtain ⟨hd2, hw⟩ := hd.add hk (cc * v)
    have ih := items_loop hf r (fun q hq => h q (List.mem_cons_of_mem _ hq)) (st.set t (.dn (addK kvs k ((cc * v : Nat) : Int)))) _ (List.getElem?_set_self hlt) hd2
    simp only [List.map_cons, forF]
    rw [wp_bd]
    refine wp_mono (hf k v st kvs ht hd hk hb) ?_
    rintro _ _ ⟨rfl, rfl⟩
    refine wp_mono ih ?_
    rintro r2 s ⟨rfl, kvs', rfl, hd', hw'⟩
    refine ⟨rfl, kvs', by rw [List.set_set], hd', fun g => ?_⟩
    rw [hw' g, hw g]
    show ws g (toW kvs) + g k * ((cc * v : Nat) : Int) + cc * ws g (toW r) = ws g (toW kvs) + cc * (g k * (v : Int) + ws g (toW r))
    rw [Int.mul_add, Int.natCast_mul, Int.mul_left_comm]
    omega
end Yk22
namespace Yk22
open PySem L2 B
theorem Holds.items {fs : List PyData} {kvs : List (NestedKey × PyData)} {L : WL} {n : Nat} (h : Holds (KSp fs) kvs L) (w : Ww fs (Dn n) L) : ∀ p ∈ kvs, p.1 ∈ KSp fs ∧ ∃ m : Nat, p.2 = .int m ∧ (m : Int) ≤ Dn n := by
  intro p hp
  obtain ⟨m, hm⟩ := h.1.nn p hp
  refine ⟨h.1.ks p hp, m, hm, ?_⟩
  have h1 : ws (fun j => if j = p.1 then 1 else 0) (toW kvs) ≤ ws one (toW kvs) := ws_le fun q hq => by
    obtain ⟨r, hr, rfl⟩ := List.mem_map.mp hq
    obtain ⟨m2, hm2⟩ := h.1.nn r hr
    refine ⟨?_, by rw [hm2]; show (0 : Int) ≤ (m2 : Int); omega⟩
    show (if r.1 = p.1 then (1 : Int) else 0) ≤ 1
    split <;> decide
  have hat : valN kvs p.1 = some p.2 := by
    have nd := h.1.nd
    clear h h1
    induction kvs with
    | nil => cases hp
    | cons q r ih =>
      obtain ⟨j, d⟩ := q
      rw [valN_cons]
      have nd' := List.nodup_cons.mp nd
      rcases List.mem_cons.mp hp with e | hp
      · subst e; rw [if_pos rfl]
      · rw [if_neg fun e => nd'.1 (List.mem_map.mpr ⟨p, hp, e.symm⟩)]
        exact ih hp nd'.2
  rw [ws_at h.1.nd, hat, h.2 one] at h1
  simp only [Option.getD_some, hm, vI] at h1
  exact Int.le_trans h1 w.le
section
variable {fs : List PyData} {st : Store} {c : Nat}
theorem cl_dn {st : Store} (h : Cl st) {kvs : List (NestedKey × PyData)} : Cl (st ++ [.dn kvs]) := by
  have up : ∀ (o : O) (m n : Nat), m ≤ n → oOk m o = true → oOk n o = true := by
    intro o m n hmn ho
    have sl : ∀ s : S1, s1Ok m s = true → s1Ok n s = true := fun s h => by
      cases s <;> simp [s1Ok] at h ⊢ <;> omega
    have dl : ∀ d : D, dOk m d = true → dOk n d = true := fun d h => by
      cases d <;> simp [dOk] at h ⊢ <;> omega
    cases o with
    | ins C f => exact List.all_eq_true.mpr fun p hp => dl _ (List.all_eq_true.mp ho p hp)
    | lr xs => exact List.all_eq_true.mpr fun p hp => sl _ (List.all_eq_true.mp ho p hp)
    | dr xs => exact List.all_eq_true.mpr fun p hp => sl _ (List.all_eq_true.mp ho p hp)
    | dm xs => exact List.all_eq_true.mpr fun p hp => sl _ (List.all_eq_true.mp ho p hp)
    | _ => rfl
  unfold Cl stOk at *
  rw [List.all_append, Bool.and_eq_true]
  exact ⟨List.all_eq_true.mpr fun o ho => up o st.length _ (by simp) (List.all_eq_true.mp h o ho), rfl⟩
theorem behind_call0 (hc : Cl st) {n : Str} {i : Nat} : ∃ kvs, m_Counts_behind_call [.loc c, .val (.tuple [.str n, .int i]), .val (.int 0)] st = .ok (.dv kvs) st ∧ Holds (KSp fs) kvs ((TT fs 0).2 (n, i)) := by
  refine ⟨[(oK, .int 1)], of_wp ?_, ⟨⟨by simp, fun p hp => by rw [List.mem_singleton.mp hp]; exact oK_in, fun p hp => ⟨1, by rw [List.mem_singleton.mp hp]; rfl⟩⟩, fun g => rfl⟩⟩
  simp [m_Counts_behind_call, b_Counts_behind_call, f_newDv key_o]
  exact ⟨hc, by simp [outT]⟩
theorem wp_ok_ex {α : Type} {r : Res α} {Q : α → Store → Prop} (h : wpx noE r Q) : ∃ a s, r = .ok a s ∧ Q a s := by
  cases r with
  | ok a s => exact ⟨a, s, rfl, by simpa using h⟩
  | exc e s => simp [noE] at h
  | bad => simp at h
theorem take_flat {α β : Type} {f : α → List β} {l : List α} {k : Nat} {x : α} (h : l[k]? = some x) : (l.take (k + 1)).flatMap f = (l.take k).flatMap f ++ f x := by
  have hk := (List.getElem?_eq_some_iff.mp h)
  rw [List.take_succ, h]
  simp
theorem behind_call (h : PrgP fs) (how : Own fs) {N : Nat} (hN : N < 20) (ho : Ob fs (fun _ u => u ≤ N) st c) (hc : Cl st) {n : Str} {i : Nat} (hs : SpOk fs (n, i)) :
    ∃ kvs, m_Counts_behind_call [.loc c, .val (.tuple [.str n, .int i]), .val (.int ((N : Int) + 1))] st = .ok (.dv kvs) st ∧ Holds (KSp fs) kvs ((TT fs (N + 1)).2 (n, i)) := by
  obtain ⟨a, b, d, LT, AC, AW, h1, ⟨h2, l⟩, ⟨h3, t⟩, h4, t2⟩ := id ho.ex
  obtain ⟨rs, hr, hi⟩ := id hs
  obtain ⟨cs, ws', hs', hline, hA, rp, hat⟩ := sp_line h hr hi
  obtain ⟨_, _, _, e, hne, hcs, hws, hhs, l1, l2, l3⟩ := id rp.ex
  cases e
  have hrm : (.tuple [.tuple cs, .tuple ws', .tuple hs'] : PyData) ∈ rs := by
    obtain ⟨r2, hm2, e2⟩ := atI_some (xs := rs) (i := (i : Int)) (by omega) (by have : i < rs.length := hi; omega)
    have e3 : atI rs (i : Int) = some (.tuple [.tuple cs, .tuple ws', .tuple hs']) := hat
    rw [e3] at e2
    cases e2
    exact hm2
  have hv : valN LT (skey (n, i)) = some (.tuple [.tuple cs, .tuple ws', .tuple hs']) := (l _ hs).trans hline
  have KL := KS_len h how
  have TO := fun u (hu : u ≤ 20) => TT_ok h 20 u hu (Nat.le_refl _)
  suffices hw : wpx noE (m_Counts_behind_call [.loc c, .val (.tuple [.str n, .int i]), .val (.int ((N : Int) + 1))] st) fun d s => s = st ∧ ∃ kvs, d = .dv kvs ∧ Holds (KSp fs) kvs ((TT fs (N + 1)).2 (n, i)) by
    obtain ⟨d, s, e, rfl, kvs, rfl, hh⟩ := wp_ok_ex hw
    exact ⟨kvs, e, hh⟩
  have hne0 : ¬ (N : Int) + 1 = 0 := by omega
  have e1 : (N : Int) + 1 - 1 = (N : Int) := by omega
  have up : ∀ {j : Nat} {o : O} {m : Store}, st[j]? = some o → (st ++ m)[j]? = some o := fun {j o m} e => by rw [List.getElem?_append_left (List.getElem?_eq_some_iff.mp e).1]; exact e
  have u1 := fun m => up (m := m) h1
  have u2 := fun m => up (m := m) h2
  have u3 := fun m => up (m := m) h3
  have u4 := fun m => up (m := m) h4
  simp [m_Counts_behind_call, b_Counts_behind_call, hne0, u1, f_dgetN (u2 _) key_sp hv]
  refine wp_forF (I := fun k e s => e = [some (.loc c), some (.val (.tuple [.str n, .int i])), some (.val (.int ((N : Int) + 1))), some (.loc st.length), none, none, none, none] ∧ ∃ kvs, s = st ++ [.dn kvs] ∧ Dd (KSp fs) kvs ∧ ∀ g, ws g (toW kvs) = ws g ((ws'.take k).flatMap (wayW hs' (TT fs) (n, i) N))) _ _ _ ⟨rfl, [], rfl, Dd.nil, fun g => rfl⟩ ?_ ?_
  · rintro k w env s hk ⟨rfl, kvs, rfl, hd, hw⟩
    have hwm := List.mem_of_getElem? hk
    have hcc : Cl (st ++ [.dn kvs]) := cl_dn hc
    have hob := ho.app [.dn kvs]
    -- the found dict's loop
    have loop : ∀ (found : List (NestedKey × PyData)) (L : WL), Holds (KSp fs) found L → Ww fs (Dn N) L → wayW hs' (TT fs) (n, i) N w = L →
        wpx noE (forF (fun x env => bd (setT 2 (setsCons (setV 6) (setsCons (setV 7) setsNil)) (D.val x) env) (killS [6, 7] (dropS (callF m_add_to (aCons (gv 3) (aCons (gv 6) (aCons (gv 7) aNil))))))) (found.map pairN)
          [some (.loc c), some (.val (.tuple [.str n, .int i])), some (.val (.int ((N : Int) + 1))), some (.loc st.length), some (.val w), some (.dv found), none, none] (st ++ [.dn kvs]))
          fun r s => r = .nx [some (.loc c), some (.val (.tuple [.str n, .int i])), some (.val (.int ((N : Int) + 1))), some (.loc st.length), some (.val w), some (.dv found), none, none] ∧ ∃ kvs, s = st ++ [.dn kvs] ∧ Dd (KSp fs) kvs ∧ ∀ g, ws g (toW kvs) = ws g ((ws'.take (k + 1)).flatMap (wayW hs' (TT fs) (n, i) N)) := by
      intro found L hf hL hwL
      refine wp_mono (items_loop (KS := KSp fs) (t := st.length) (cc := 1) (Bd := Dn N) (fun k v s kv hs hkv hk hb => ?_) found (hf.items hL) (st ++ [.dn kvs]) kvs (by simp) hd) ?_
      · have := add_to (m := (v : Int)) (ks_key hk) hs (by have := hkv.len; omega) (hkv.at k)
        simp [this]
      · rintro r s ⟨rfl, kvs2, rfl, hd2, hw2⟩
        refine ⟨rfl, kvs2, by simp, hd2, fun g => ?_⟩
        rw [hw2 g, hw g, take_flat hk, ws_app, hwL, hf.2 g]
        simp
    rcases hws w hwm with ⟨j, hj, rfl⟩ | rfl | ⟨f, rfl⟩
    · obtain ⟨found, hg, hh⟩ := t (n, j) N ⟨rs, hr, hj⟩ (Nat.le_refl _)
      have lp := loop found _ hh (TO N (by omega) (n, j)).1 rfl
      simp [u1, e1, f_dgetM (u3 _) key_c hg, dOf]
      refine wp_mono lp ?_
      rintro r s ⟨rfl, kvs2, rfl, hd2, hw2⟩
      simp
      exact ⟨hd2, hw2⟩
    · have hov := over_if (st := st ++ [.dn kvs]) (k := bK) key_b N hcc
      have eb : bK.data = .tuple [.str "back"] := rfl
      rw [eb] at hov
      have lp := loop _ _ (holds_over bK_in N) (Ww.over bK_in) rfl
      simp [e1, ev1, dm1, hov]
      refine ⟨dp1, wp_mono lp ?_⟩
      rintro r s ⟨rfl, kvs2, rfl, hd2, hw2⟩
      simp
      exact ⟨hd2, hw2⟩
    · have hk2 := key_in h hr hrm (w := .tuple [.str "fail", .str f]) hwm rfl
      obtain ⟨found, hm, hh⟩ := behind_fault h hob hcc hs hk2 (left := N) (fun _ => Nat.le_refl _)
      have hA2 : (lineA fs (n, i)).2.2 = hs' := by rw [show lineA fs (n, i) = (cs, ws', hs') from hA]
      rw [hA2] at hh
      have lw : Ww fs (Dn N) (bfW hs' (TT fs) (n, i) f N) := by
        unfold bfW
        split
        · exact (TO N (by omega) _).1
        · exact Ww.over hk2
      have lp := loop found _ hh lw rfl
      simp [u1, e1, ev2, dm1, hm]
      refine ⟨cf_no (by decide), wp_mono lp ?_⟩
      rintro r s ⟨rfl, kvs2, rfl, hd2, hw2⟩
      simp
      exact ⟨hd2, hw2⟩
  · rintro env s ⟨rfl, kvs, rfl, hd, hw⟩
    have hfin : ∀ g, ws g (toW kvs) = ws g ((TT fs (N + 1)).2 (n, i)) := fun g => by
      rw [hw g, List.take_length, TT_succ]
      show _ = ws g ((lineA fs (n, i)).2.1.flatMap (wayW (lineA fs (n, i)).2.2 (TT fs) (n, i) N))
      rw [show lineA fs (n, i) = (cs, ws', hs') from hA]
    have hg : (st ++ [O.dn kvs])[st.length]? = some (.dn kvs) := by simp
    simp [f_lockM hg]
    exact ⟨hc, hd, hfin⟩
end
end Yk22
namespace Yk22
open PySem L2 B
theorem items_loopG {KS : List NestedKey} {t : Nat} {Bd : Int} {env : B.Env} {st0 : Store} {f : PyData → B.Env → M Fl} {H : (NestedKey → Int) → NestedKey → Int} (ht : t = st0.length)
    (hf : ∀ (k : NestedKey) (v : Nat) (kvs : List (NestedKey × PyData)), Dd KS kvs → k ∈ KS → (v : Int) ≤ Bd → wpx noE (f (.tuple [k.data, .int v]) env (st0 ++ [.dn kvs])) fun r s => r = .nx env ∧ ∃ kvs', s = st0 ++ [.dn kvs'] ∧ Dd KS kvs' ∧ ∀ g, ws g (toW kvs') = ws g (toW kvs) + H g k * v) :
    ∀ (items : List (NestedKey × PyData)), (∀ p ∈ items, p.1 ∈ KS ∧ ∃ n : Nat, p.2 = .int n ∧ (n : Int) ≤ Bd) → ∀ (kvs : List (NestedKey × PyData)), Dd KS kvs →
      wpx noE (forF f (items.map pairN) env (st0 ++ [.dn kvs])) fun r s => r = .nx env ∧ ∃ kvs', s = st0 ++ [.dn kvs'] ∧ Dd KS kvs' ∧ ∀ g, ws g (toW kvs') = ws g (toW kvs) + ws (H g) (toW items)
  | [], _, kvs, hd => by
    simp only [List.map_nil, forF, wp_rt]
    exact ⟨trivial, kvs, rfl, hd, fun g => by simp [toW, ws]⟩
  | p :: r, h, kvs, hd => by
    obtain ⟨k, d⟩ := p
    obtain ⟨hk, v, hv, hb⟩ := h _ (List.mem_cons_self ..)
    obtain rfl : d = .int v := hv
    simp only [List.map_cons, forF]
    rw [wp_bd]
    refine wp_mono (hf k v kvs hd hk hb) ?_
    rintro _ _ ⟨rfl, kvs2, rfl, hd2, hw⟩
    refine wp_mono (items_loopG ht hf r (fun q hq => h q (List.mem_cons_of_mem _ hq)) kvs2 hd2) ?_
    rintro r2 s ⟨rfl, kvs', rfl, hd', hw'⟩
    refine ⟨rfl, kvs', rfl, hd', fun g => ?_⟩
    rw [hw' g, hw g]
    show ws g (toW kvs) + H g k * (v : Int) + ws (H g) (toW r) = ws g (toW kvs) + (H g k * (v : Int) + ws (H g) (toW r))
    omega
theorem Dn_mono {m n : Nat} (h : m ≤ n) : Dn m ≤ Dn n := by
  have e : Dn m * Dn (n - m) = Dn n := by rw [Dn_add]; congr 1; omega
  have h1 := Dn_pos (n := n - m)
  have h2 := Dn_pos (n := m)
  rw [← e]
  have := Int.mul_le_mul_of_nonneg_left h1 (show 0 ≤ Dn m by omega)
  omega
theorem log_ok {v : Nat} (h : (v : Int) ≤ Dn 20) : (v : Int).natAbs.log2 ≤ 300 := by
  rw [Int.natAbs_natCast]
  by_cases h0 : v = 0
  · subst h0; decide
  · have h1 : Dn 20 < ((2 ^ 300 : Nat) : Int) := by decide +kernel
    have h2 : v < 2 ^ 300 := by omega
    have := (Nat.log2_lt h0).mpr h2
    omega
def endH (hs : List PyData) (h : Nat → Tb) (s : Sp) (n u : Nat) (g : NestedKey → Int) (e : NestedKey) : Int := if e = oK then (if u = n then g oK else 0) else ws g (bfrW hs h s (n - u) e)
theorem ws_inn {hs : List PyData} {h : Nat → Tb} {s : Sp} {n u : Nat} {x : Str} {g : NestedKey → Int} : ws g (innW hs h s n x u) = ws (endH hs h s n u g) ((h u).1 (x, 0)) := by
  unfold innW
  refine ws_nest (B := fun k v => endW hs h s n u (k, v)) fun p _ => ?_
  show ws g (endW hs h s n u p) = endH hs h s n u g p.1 * p.2
  unfold endW endH
  split
  · split
    · show g oK * p.2 + 0 = _; omega
    · show (0 : Int) = 0 * p.2; omega
  · rw [ws_scale, Int.mul_comm]
section
variable {fs : List PyData} {st : Store} {c : Nat}
theorem eq_nilT {e : NestedKey} (hk : e = bK ∨ ∃ x, e = fK x) : PyData.eqv e.data (.tuple []) = false := by
  rcases hk with rfl | ⟨x, rfl⟩
  · rfl
  · rfl
theorem dep_nil {e : PyData} : min e.depth (PyData.tuple []).depth ≤ 64 := Nat.le_trans (Nat.min_le_right _ _) (by simp [PyData.depth, PyData.depthAll])
theorem add_call (h : PrgP fs) (how : Own fs) {N : Nat} (hN : N < 20) (ho : Ob fs (fun _ u => u ≤ N) st c) (hc : Cl st) {n : Str} {i : Nat} (hs : SpOk fs (n, i)) {x : Str} (hx : SpOk fs (x, 0)) {kvs : List (NestedKey × PyData)} (hd : Dd (KSp fs) kvs) :
    wpx noE (m_Counts_add_call [.loc c, .val (.tuple [.str n, .int i]), .val (.str x), .val (.int N), .loc st.length] (st ++ [.dn kvs])) fun d s => d = .val .none ∧ ∃ kvs', s = st ++ [.dn kvs'] ∧ Dd (KSp fs) kvs' ∧ ∀ g, ws g (toW kvs') = ws g (toW kvs) + ws g ((List.range (N + 1)).flatMap fun u => innW (lineA fs (n, i)).2.2 (TT fs) (n, i) N x u) := by
  obtain ⟨a, b, d, LT, AC, AW, h1, ⟨h2, l⟩, ⟨h3, t⟩, h4, t2⟩ := id ho.ex
  have KL := KS_len h how
  have TO := fun u (hu : u ≤ 20) => TT_ok h 20 u hu (Nat.le_refl _)
  have up : ∀ {j : Nat} {o : O} {m : Store}, st[j]? = some o → (st ++ m)[j]? = some o := fun {j o m} e => by rw [List.getElem?_append_left (List.getElem?_eq_some_iff.mp e).1]; exact e
  have u1 := fun m => up (m := m) h1
  have u3 := fun m => up (m := m) h3
  have key_c0 : ∀ u : Nat, keyB (.val (.tuple [.tuple [.str x, .int 0], .int u])) = some (ckey (x, 0) u) := fun u => key_c (n := x) (i := 0) (u := u)
  simp [m_Counts_add_call, b_Counts_add_call]
  refine ⟨rgOk.of (by omega) (by omega), ?_⟩
  refine wp_forF (I := fun k e s => e = [some (.loc c), some (.val (.tuple [.str n, .int i])), some (.val (.str x)), some (.val (.int N)), some (.loc st.length), none, none, none, none, none] ∧ ∃ kv, s = st ++ [.dn kv] ∧ Dd (KSp fs) kv ∧ ∀ g, ws g (toW kv) = ws g (toW kvs) + ws g ((List.range k).flatMap fun u => innW (lineA fs (n, i)).2.2 (TT fs) (n, i) N x u)) _ _ _ ⟨rfl, kvs, rfl, hd, fun g => by simp [ws]⟩ ?_ ?_
  · rintro u y env s hk ⟨rfl, kv, rfl, hd1, hw1⟩
    rw [List.getElem?_map] at hk
    obtain ⟨u', hu', rfl⟩ := Option.map_eq_some_iff.mp hk
    obtain ⟨hlt, rfl⟩ : u < N + 1 ∧ u' = u := by
      have h1 := (List.getElem?_eq_some_iff.mp hu')
      obtain ⟨h1, h2⟩ := h1
      rw [List.getElem_range] at h2
      exact ⟨by simpa using h1, h2.symm⟩
    obtain ⟨found, hg, hh⟩ := t (x, 0) u' hx (show u' ≤ N by omega)
    have e1 : (N : Int) - (u' : Int) = ((N - u' : Nat) : Int) := by omega
    simp [u1, f_dgetM (u3 _) (key_c0 u') hg, dOf]
    refine wp_mono (items_loopG (KS := KSp fs) (t := st.length) (Bd := Dn 20) (H := endH (lineA fs (n, i)).2.2 (TT fs) (n, i) N u') rfl (fun k v kv2 hd2 hkk hb => ?_) found (fun p hp => ?_) kv hd1) ?_
    · rcases ks_cases hkk with rfl | hnk
      · have eo : oK.data = .tuple [] := rfl
        rw [eo]
        by_cases hu : u' = N
        · subst hu
          have hg2 : (st ++ [O.dn kv2])[st.length]? = some (.dn kv2) := by simp
          have ha := add_to (k := oK) (m := (v : Int)) (by exact key_o) hg2 (by have := hd2.len; omega) (hd2.at _)
          rw [eo] at ha
          obtain ⟨hd3, hw3⟩ := hd2.add (k := oK) oK_in v
          simp [PyData.eqv, PyData.eqvAll, PyData.depth, PyData.depthAll, ha]
          refine ⟨hd3, fun g => ?_⟩
          rw [hw3 g]
          unfold endH
          simp
        · have hne : ¬ (u' : Int) = (N : Int) := by omega
          simp [PyData.eqv, PyData.eqvAll, PyData.depth, PyData.depthAll, hne]
          refine ⟨hd2, fun g => ?_⟩
          unfold endH
          simp [hu]
      · have hno : k ≠ oK := by
          rcases hnk with rfl | ⟨y, rfl⟩
          · intro e; cases e
          · intro e; cases e
        obtain ⟨f2, hm, hh2⟩ := behind_frame h (ho.app [.dn kv2]) (cl_dn hc) hs hkk hno (left := N - u') (fun _ => Nat.sub_le _ _)
        have hb2 : Ww fs (Dn (N - u')) (bfrW (lineA fs (n, i)).2.2 (TT fs) (n, i) (N - u') k) := by
          rcases hnk with rfl | ⟨y, rfl⟩
          · exact (TO _ (by omega) _).2
          · show Ww fs _ (bfW (lineA fs (n, i)).2.2 (TT fs) (n, i) y (N - u'))
            unfold bfW
            split
            · exact (TO _ (by omega) _).1
            · exact Ww.over hkk
        simp [eq_nilT hnk, dep_nil, u1, e1, hm]
        refine ⟨cf_no (by decide), ?_⟩
        refine wp_mono (items_loop (KS := KSp fs) (t := st.length) (cc := v) (Bd := Dn 20) (fun k2 v2 s2 kv3 hs2 hd3 hk2 hb3 => ?_) f2 (fun p hp => ?_) (st ++ [.dn kv2]) kv2 (by simp) hd2) ?_
        · have ha := add_to (m := (v : Int) * (v2 : Int)) (ks_key hk2) hs2 (by have := hd3.len; omega) (hd3.at k2)
          have hl1 := log_ok hb
          have hl2 := log_ok hb3
          simp only [Int.natAbs_natCast] at hl1 hl2
          simp [ha]
          omega
        · obtain ⟨q1, m2, q2, q3⟩ := hh2.items hb2 p hp
          exact ⟨q1, m2, q2, Int.le_trans q3 (Dn_mono (by omega))⟩
        · rintro r s ⟨rfl, kv4, rfl, hd4, hw4⟩
          simp
          refine ⟨hd4, fun g => ?_⟩
          rw [hw4 g, hh2.2 g]
          unfold endH
          rw [if_neg hno, Int.mul_comm]
    · obtain ⟨q1, m2, q2, q3⟩ := hh.items (TO u' (by omega) (x, 0)).1 p hp
      exact ⟨q1, m2, q2, Int.le_trans q3 (Dn_mono (by omega))⟩
    · rintro r s ⟨rfl, kv5, rfl, hd5, hw5⟩
      simp
      refine ⟨hd5, fun g => ?_⟩
      rw [hw5 g, hw1 g, List.range_succ, List.flatMap_append, ws_app, hh.2]
      simp only [List.flatMap_cons, List.flatMap_nil, List.append_nil]
      rw [ws_inn]
      omega
  · rintro env s ⟨rfl, kv, rfl, hd1, hw1⟩
    simp
    refine ⟨hd1, fun g => ?_⟩
    rw [hw1 g]
    simp
end
end Yk22
namespace Yk22
open PySem L2 B
section
variable {fs : List PyData} {st : Store} {c : Nat}
theorem from_spot0 (hc : Cl st) {n : Str} {i : Nat} : ∃ kvs, m_Counts_from_spot [.loc c, .val (.tuple [.str n, .int i]), .val (.int 0)] st = .ok (.dv kvs) st ∧ Holds (KSp fs) kvs ((TT fs 0).1 (n, i)) := by
  refine ⟨[(oK, .int 1)], of_wp ?_, ⟨⟨by simp, fun p hp => by rw [List.mem_singleton.mp hp]; exact oK_in, fun p hp => ⟨1, by rw [List.mem_singleton.mp hp]; rfl⟩⟩, fun g => rfl⟩⟩
  simp [m_Counts_from_spot, b_Counts_from_spot, f_newDv key_o]
  exact ⟨hc, by simp [outT]⟩
theorem from_spot (h : PrgP fs) (how : Own fs) {N : Nat} (hN : N < 20) (ho : Ob fs (fun _ u => u ≤ N) st c) (hc : Cl st) {n : Str} {i : Nat} (hs : SpOk fs (n, i)) :
    ∃ kvs, m_Counts_from_spot [.loc c, .val (.tuple [.str n, .int i]), .val (.int ((N : Int) + 1))] st = .ok (.dv kvs) st ∧ Holds (KSp fs) kvs ((TT fs (N + 1)).1 (n, i)) := by
  obtain ⟨a, b, d, LT, AC, AW, h1, ⟨h2, l⟩, ⟨h3, t⟩, h4, t2⟩ := id ho.ex
  obtain ⟨rs, hr, hi⟩ := id hs
  obtain ⟨cs, ws', hs', hline, hA, rp, hat⟩ := sp_line h hr hi
  obtain ⟨_, _, _, e, hne, hcs, hws, hhs, l1, l2, l3⟩ := id rp.ex
  cases e
  have hv : valN LT (skey (n, i)) = some (.tuple [.tuple cs, .tuple ws', .tuple hs']) := (l _ hs).trans hline
  have KL := KS_len h how
  have TO := fun u (hu : u ≤ 20) => TT_ok h 20 u hu (Nat.le_refl _)
  suffices hw : wpx noE (m_Counts_from_spot [.loc c, .val (.tuple [.str n, .int i]), .val (.int ((N : Int) + 1))] st) fun d s => s = st ∧ ∃ kvs, d = .dv kvs ∧ Holds (KSp fs) kvs ((TT fs (N + 1)).1 (n, i)) by
    obtain ⟨d, s, e, rfl, kvs, rfl, hh⟩ := wp_ok_ex hw
    exact ⟨kvs, e, hh⟩
  have hne0 : ¬ (N : Int) + 1 = 0 := by omega
  have e1 : (N : Int) + 1 - 1 = (N : Int) := by omega
  have up : ∀ {j : Nat} {o : O} {m : Store}, st[j]? = some o → (st ++ m)[j]? = some o := fun {j o m} e => by rw [List.getElem?_append_left (List.getElem?_eq_some_iff.mp e).1]; exact e
  have u1 := fun m => up (m := m) h1
  have u2 := fun m => up (m := m) h2
  have u3 := fun m => up (m := m) h3
  have u4 := fun m => up (m := m) h4
  simp [m_Counts_from_spot, b_Counts_from_spot, hne0, u1, f_dgetN (u2 _) key_sp hv]
  refine wp_forF (I := fun k e s => e = [some (.loc c), some (.val (.tuple [.str n, .int i])), some (.val (.int ((N : Int) + 1))), some (.loc st.length), none, none, none] ∧ ∃ kvs, s = st ++ [.dn kvs] ∧ Dd (KSp fs) kvs ∧ ∀ g, ws g (toW kvs) = ws g ((cs.take k).flatMap (callW hs' (TT fs) (n, i) N))) _ _ _ ⟨rfl, [], rfl, Dd.nil, fun g => rfl⟩ ?_ ?_
  · rintro k w env s hk ⟨rfl, kvs, rfl, hd, hw⟩
    have hwm := List.mem_of_getElem? hk
    have hcc : Cl (st ++ [.dn kvs]) := cl_dn hc
    obtain ⟨x, rfl, hx⟩ := hcs w hwm
    by_cases hx0 : x = Str.ofString ""
    · subst hx0
      obtain ⟨found, hg, hh⟩ := t2 (n, i) N hs (Nat.le_refl _)
      have hL := (TO N (by omega) (n, i)).2
      simp [u1, e1, f_dgetM (u4 _) key_c hg, dOf]
      refine wp_mono (items_loop (KS := KSp fs) (t := st.length) (cc := 1) (Bd := Dn N) (fun k v s kv hs hkv hk hb => ?_) found (hh.items hL) (st ++ [.dn kvs]) kvs (by simp) hd) ?_
      · have := add_to (m := (v : Int)) (ks_key hk) hs (by have := hkv.len; omega) (hkv.at k)
        simp [this]
      · rintro r s ⟨rfl, kvs2, rfl, hd2, hw2⟩
        simp
        refine ⟨hd2, fun g => ?_⟩
        have e2 : callW hs' (TT fs) (n, i) N (.str (Str.ofString "")) = (TT fs N).2 (n, i) := by unfold callW; simp
        rw [hw2 g, hw g, take_flat hk, ws_app, e2, hh.2 g]
        simp
    · have hx1 : SpOk fs (x, 0) := by
        rcases hx with e | ⟨rs2, hr2, hn2⟩
        · exact absurd e hx0
        · exact ⟨rs2, hr2, List.length_pos_iff.mpr hn2⟩
      have hac := add_call h how hN ho hc hs hx1 hd
      have hA2 : (lineA fs (n, i)).2.2 = hs' := by rw [show lineA fs (n, i) = (cs, ws', hs') from hA]
      rw [hA2] at hac
      simp [u1, e1, hx0]
      refine ⟨cf_no (by decide), ?_⟩
      refine wp_mono hac ?_
      rintro dd s ⟨rfl, kvs2, rfl, hd2, hw2⟩
      simp
      refine ⟨hd2, fun g => ?_⟩
      have e2 : callW hs' (TT fs) (n, i) N (.str x) = (List.range (N + 1)).flatMap fun u => innW hs' (TT fs) (n, i) N x u := by
        show (if x = Str.ofString "" then _ else _) = _
        rw [if_neg hx0]
      rw [hw2 g, hw g, take_flat hk, ws_app, e2]
  · rintro env s ⟨rfl, kvs, rfl, hd, hw⟩
    have hfin : ∀ g, ws g (toW kvs) = ws g ((TT fs (N + 1)).1 (n, i)) := fun g => by
      rw [hw g, List.take_length, TT_succ]
      show _ = ws g ((lineA fs (n, i)).1.flatMap (callW (lineA fs (n, i)).2.2 (TT fs) (n, i) N))
      rw [show lineA fs (n, i) = (cs, ws', hs') from hA]
    have hg : (st ++ [O.dn kvs])[st.length]? = some (.dn kvs) := by simp
    simp [f_lockM hg]
    exact ⟨hc, hd, hfin⟩
end
end Yk22
namespace Yk22
open PySem L2 B
theorem by_ {p q r : Prop} (f : p → q) (k : q → r) (h : p) : r := k (f h)
theorem noX_k {α : Type} {m : M α} {st st' : Store} {a : α} (h : m st = .ok a st') : noX m st = .ok a st' := by unfold noX; rw [h]
theorem dnF_inv {g : D → B.Env → M B.Env} {inner : B.Env → List (NestedKey × PyData) → M (List (NestedKey × PyData))} {env : B.Env} {st : Store} : ∀ {xs : List PyData} (I : Nat → List (NestedKey × PyData) → Prop),
    (∀ k x acc, xs[k]? = some x → I k acc → ∃ env' acc', g (.val x) env st = .ok env' st ∧ inner env' acc st = .ok acc' st ∧ I (k + 1) acc') → ∀ acc, I 0 acc → ∃ acc', dnF g inner env xs acc st = .ok acc' st ∧ I xs.length acc'
  | [], I, _, acc, h0 => ⟨acc, rfl, h0⟩
  | x :: r, I, hs, acc, h0 => by
    obtain ⟨env', acc', h1, h2, h3⟩ := hs 0 x acc rfl h0
    obtain ⟨a2, h4, h5⟩ := dnF_inv (g := g) (inner := inner) (env := env) (st := st) (xs := r) (fun k => I (k + 1)) (fun k y acc hk hi => hs (k + 1) y acc (by simpa using hk) hi) acc' h3
    refine ⟨a2, ?_, h5⟩
    show bd (noX (g (.val x) env)) (fun env' => bd (inner env' acc) fun acc' => dnF g inner env r acc') st = _
    rw [bd_ok (noX_k h1), bd_ok h2]
    exact h4
theorem valN_put {k j : NestedKey} {d : PyData} {kvs : List (NestedKey × PyData)} : valN (putN kvs k d) j = if k = j then some d else valN kvs j := by
  unfold putN
  by_cases hs : (valN kvs k).isSome = true
  · rw [if_pos hs]
    have hm := valN_none.mp hs
    clear hs
    induction kvs with
    | nil => cases hm
    | cons p r ih =>
      obtain ⟨i, c⟩ := p
      rw [List.map_cons]
      show valN ((if i = k then (i, d) else (i, c)) :: r.map fun p => if p.1 = k then (p.1, d) else p) j = _
      by_cases e : i = k
      · rw [if_pos e]
        subst e
        rw [valN_cons]
        by_cases e2 : i = j
        · rw [if_pos e2, if_pos e2]
        · rw [if_neg e2, if_neg e2, valN_cons, if_neg e2]
          by_cases hr : i ∈ r.map (·.1)
          · have := ih hr
            rw [if_neg e2] at this
            exact this
          · congr 1
            refine (List.map_congr_left fun q hq => ?_).trans (List.map_id r)
            rw [if_neg fun z => hr (List.mem_map.mpr ⟨q, hq, z⟩)]
            rfl
      · rw [if_neg e]
        have hr : k ∈ r.map (·.1) := by
          rcases List.mem_cons.mp hm with z | z
          · exact absurd z.symm e
          · exact z
        rw [valN_cons, valN_cons, ih hr]
        by_cases e2 : k = j
        · subst e2; rw [if_neg e, if_pos rfl, if_pos rfl]
        · rw [if_neg e2, if_neg e2]
  · rw [if_neg hs]
    have hn : valN kvs k = none := by
      cases h : valN kvs k with
      | none => rfl
      | some d => rw [h] at hs; exact absurd rfl hs
    clear hs
    induction kvs with
    | nil => rw [List.nil_append, valN_cons]
    | cons p r ih =>
      obtain ⟨i, c⟩ := p
      rw [valN_cons] at hn
      by_cases e : i = k
      · rw [if_pos e] at hn; cases hn
      · rw [if_neg e] at hn
        rw [List.cons_append, valN_cons, valN_cons, ih hn]
        by_cases e2 : i = j
        · rw [if_pos e2, if_pos e2]
          by_cases e3 : k = j
          · exact absurd (e2.trans e3.symm) e
          · rw [if_neg e3]
        · rw [if_neg e2, if_neg e2]
theorem putN_len {k : NestedKey} {d : PyData} {kvs : List (NestedKey × PyData)} : (putN kvs k d).length ≤ kvs.length + 1 := by
  unfold putN
  split <;> simp
theorem putN_mem {k : NestedKey} {d : PyData} {kvs : List (NestedKey × PyData)} {p : NestedKey × PyData} (h : p ∈ putN kvs k d) : p ∈ kvs ∨ p = (k, d) := by
  unfold putN at h
  split at h
  · obtain ⟨q, hq, rfl⟩ := List.mem_map.mp h
    by_cases e : q.1 = k
    · rw [if_pos e, e]; exact .inr rfl
    · rw [if_neg e]; exact .inl hq
  · rcases List.mem_append.mp h with h | h
    · exact .inl h
    · exact .inr (List.mem_singleton.mp h)
theorem skey_inj {s t : Sp} (h : skey s = skey t) : s = t := by
  unfold skey at h
  injection h with h
  injection h with h1 h
  injection h with h2 _
  injection h1 with h1
  injection h2 with h2
  exact Prod.ext h1 (by omega)
structure LtI (fs : List PyData) (done : Str → Nat → Prop) (acc : List (NestedKey × PyData)) : Prop where
  ok : ∀ p ∈ acc, ∃ s, SpOk fs s ∧ p.1 = skey s ∧ lineOf fs (spotP s) = some p.2
  all : ∀ n i, done n i → (valN acc (skey (n, i))).isSome = true
theorem LtI.put {fs : List PyData} {done : Str → Nat → Prop} {acc : List (NestedKey × PyData)} (h : LtI fs done acc) {n : Str} {i : Nat} {d : PyData} (hs : SpOk fs (n, i)) (hd : lineOf fs (spotP (n, i)) = some d) : LtI fs (fun m j => done m j ∨ (m = n ∧ j = i)) (putN acc (skey (n, i)) d) := by
  refine ⟨fun p hp => ?_, fun m j hj => ?_⟩
  · rcases putN_mem hp with hp | rfl
    · exact h.ok p hp
    · exact ⟨_, hs, rfl, hd⟩
  · rw [valN_put]
    rcases hj with hj | ⟨rfl, rfl⟩
    · split
      · rfl
      · exact h.all m j hj
    · rw [if_pos rfl]; rfl
theorem LtI.lt {fs : List PyData} {done : Str → Nat → Prop} {acc : List (NestedKey × PyData)} (h : LtI fs done acc) (ha : ∀ s, SpOk fs s → done s.1 s.2) : LtOk fs acc := fun s hs => by
  have h1 := h.all _ _ (ha s hs)
  cases e : valN acc (skey s) with
  | none => rw [show (s.1, s.2) = s from rfl, e] at h1; cases h1
  | some d =>
    obtain ⟨t, _, ht, hl⟩ := h.ok _ (valN_mem e)
    have := skey_inj ht
    subst this
    exact hl.symm
theorem enumP_at {xs : List PyData} {k : Nat} {x : PyData} (h : (enumP xs)[k]? = some x) : ∃ d, xs[k]? = some d ∧ x = .tuple [.int k, d] := by
  unfold enumP at h
  rw [List.getElem?_map] at h
  obtain ⟨i, hi, rfl⟩ := Option.map_eq_some_iff.mp h
  obtain ⟨h1, h2⟩ := List.getElem?_eq_some_iff.mp hi
  rw [List.getElem_range] at h2
  subst h2
  have hl : k < xs.length := by simpa using h1
  exact ⟨xs[k], List.getElem?_eq_getElem hl, by rw [List.getD_eq_getElem?_getD, List.getElem?_eq_getElem hl]; rfl⟩
theorem line_table {fs : List PyData} (h : PrgP fs) (how : Own fs) {env : B.Env} {st : Store} (he : env.length = 6) : ∃ LT, dnF (setT 2 (setsCons (setV 2) (setsCons (setV 3) setsNil))) (dnIn2 100000 [4, 5] yesT (enumA (aCons (gv 3) aNil)) (setT 2 (setsCons (setV 4) (setsCons (setV 5) setsNil))) yesT (tupE (aCons (gv 2) (aCons (gv 4) aNil))) (gv 5) (dnL 100000)) env fs [] st = .ok LT st ∧
    LtI fs (fun n i => SpOk fs (n, i)) LT ∧ LT.length ≤ 320 := by
  have hh := fun hs => dnF_inv (g := setT 2 (setsCons (setV 2) (setsCons (setV 3) setsNil))) (inner := dnIn2 100000 [4, 5] yesT (enumA (aCons (gv 3) aNil)) (setT 2 (setsCons (setV 4) (setsCons (setV 5) setsNil))) yesT (tupE (aCons (gv 2) (aCons (gv 4) aNil))) (gv 5) (dnL 100000)) (env := env) (st := st) (xs := fs)
    (fun k acc => LtI fs (fun n i => ∃ rs, .tuple [.str n, .tuple rs] ∈ fs.take k ∧ i < rs.length) acc ∧ acc.length ≤ 40 * k) hs [] ⟨⟨fun p hp => (by cases hp), fun n i hd => (by obtain ⟨rs, h, _⟩ := hd; simp at h)⟩, Nat.zero_le _⟩
  refine by_ hh ?_ ?_
  · rintro ⟨LT, e, hi, hl⟩
    refine ⟨LT, e, ⟨hi.ok, fun n i hs => ?_⟩, by have := h.le; omega⟩
    obtain ⟨rs, hr, hl2⟩ := hs
    exact hi.all n i ⟨rs, by rw [List.take_length]; exact rows_mem h.fn hr, hl2⟩
  · rintro k f acc hk ⟨hi, hl⟩
    have hfm := List.mem_of_getElem? hk
    obtain ⟨n, rs, rfl⟩ := h.fn f hfm
    have hr := how.1 n rs hfm
    obtain ⟨_, hrl, _⟩ := h.rows n rs hr
    let env1 := (env.set 2 (some (.val (.str n)))).set 3 (some (.val (.tuple rs)))
    have g3 : env1[3]? = some (some (.val (.tuple rs))) := by simp [env1, he]
    have hh2 := fun hs => dnF_inv (g := setT 2 (setsCons (setV 4) (setsCons (setV 5) setsNil))) (inner := dnIn yesT (tupE (aCons (gv 2) (aCons (gv 4) aNil))) (gv 5)) (env := kill [4, 5] env1) (st := st) (xs := enumP rs)
      (fun j acc => LtI fs (fun m i => (∃ rs, .tuple [.str m, .tuple rs] ∈ fs.take k ∧ i < rs.length) ∨ (m = n ∧ i < j)) acc ∧ acc.length ≤ 40 * k + j) hs acc ⟨⟨hi.ok, fun m i hd => hi.all m i (hd.elim id fun z => by omega)⟩, hl⟩
    refine by_ hh2 ?_ ?_
    · rintro ⟨acc', e2, hi2, hl2⟩
      refine ⟨env1, acc', ?_, ?_, ⟨hi2.ok, fun m i hd => hi2.all m i ?_⟩, ?_⟩
      · simp [env1, setT, setsCons, setsNil, setV, bd, rt]
      · have e3 : (enumA (aCons (gv 3) aNil)) env1 st = .ok (.fix (enumP rs)) st := by
          simp [enumA, aCons, aNil, bd, gv, g3, rt, enumFA]
        show bd (noX (yesT env1)) _ st = _
        rw [bd_ok (noX_k (show yesT env1 st = .ok true st from rfl)), if_pos rfl, bd_ok (noX_k e3)]
        exact e2
      · obtain ⟨rs2, hm, hi3⟩ := hd
        rw [List.take_succ, hk] at hm
        rcases List.mem_append.mp hm with hm | hm
        · exact .inl ⟨rs2, hm, hi3⟩
        · simp at hm
          obtain ⟨rfl, rfl⟩ := hm
          refine .inr ⟨rfl, ?_⟩
          simp only [enumP, List.length_map, List.length_range]
          exact hi3
      · simp only [enumP, List.length_map, List.length_range] at hl2
        omega
    · rintro j x acc hj ⟨hi, hl⟩
      obtain ⟨d, hd, rfl⟩ := enumP_at hj
      have hjl := (List.getElem?_eq_some_iff.mp hd).1
      have hs : SpOk fs (n, j) := ⟨rs, hr, hjl⟩
      have hline : lineOf fs (spotP (n, j)) = some d := by
        simp only [spotP, lineOf, hr, Option.bind_some]
        exact L2.atI_nat hd
      let env2 := ((kill [4, 5] env1).set 4 (some (.val (.int j)))).set 5 (some (.val d))
      refine ⟨env2, putN acc (skey (n, j)) d, ?_, ?_, ?_, ?_⟩
      · simp [env2, setT, setsCons, setsNil, setV, bd, rt]
      · have g2 : env2[2]? = some (some (.val (.str n))) := by simp [env2, env1, kill, he]
        have g4 : env2[4]? = some (some (.val (.int j))) := by simp [env2, env1, kill, he]
        have g5 : env2[5]? = some (some (.val d)) := by simp [env2, env1, kill, he]
        have e4 : tupE (aCons (gv 2) (aCons (gv 4) aNil)) env2 st = .ok (.val (.tuple [.str n, .int j])) st := by
          refine of_wp ?_
          simp [g2, g4]
        have e5 : gv 5 env2 st = .ok (.val d) st := by
          refine of_wp ?_
          simp [g5]
        show bd (noX (yesT env2)) _ st = _
        rw [bd_ok (noX_k (show yesT env2 st = .ok true st from rfl)), if_pos rfl, bd_ok (noX_k e4), bd_ok (noX_k e5)]
        simp only [key_sp]
        rw [if_pos (by rw [sizeLine_eq]; have := h.le; have := List.getElem?_eq_some_iff.mp hk |>.1; omega)]
        rfl
      · have := hi.put hs hline
        refine ⟨this.ok, fun m i hd => this.all m i ?_⟩
        rcases hd with hd | ⟨rfl, hd⟩
        · exact .inl (.inl hd)
        · by_cases e : i = j
          · exact .inr ⟨rfl, e⟩
          · exact .inl (.inr ⟨rfl, by omega⟩)
      · have := putN_len (k := skey (n, j)) (d := d) (kvs := acc)
        omega
end Yk22
namespace Yk22
open PySem L2 B
def cS (st : Store) (LT : List (NestedKey × PyData)) (AC AW : List (NestedKey × S1)) : Store := st ++ [.ins "Counts" (cntF (st.length + 1) (st.length + 2) (st.length + 3)), .dn LT, .dm AC, .dm AW]
theorem counts_init {fs : List PyData} (h : PrgP fs) (how : Own fs) {st : Store} : ∃ LT, m_Counts___init__ [.loc st.length, .val (.tuple fs)] (st ++ [.ins "Counts" []]) = .ok (.val .none) (cS st LT [] []) ∧ LtI fs (fun n i => SpOk fs (n, i)) LT ∧ LT.length ≤ 320 := by
  obtain ⟨LT, e, hi, hl⟩ := line_table h how (env := kill [2, 3, 4, 5] [some (.loc st.length), some (.val (.tuple fs)), none, none, none, none]) (st := st ++ [.ins "Counts" []]) (by rfl)
  refine ⟨LT, of_wp ?_, hi, hl⟩
  have e2 : dnL 100000 (setT 2 (setsCons (setV 2) (setsCons (setV 3) setsNil))) (dnIn2 100000 [4, 5] yesT (enumA (aCons (gv 3) aNil)) (setT 2 (setsCons (setV 4) (setsCons (setV 5) setsNil))) yesT (tupE (aCons (gv 2) (aCons (gv 4) aNil))) (gv 5) (dnL 100000)) [some (.loc st.length), some (.val (.tuple fs)), none, none, none, none] (.fix fs) [] (st ++ [.ins "Counts" []]) = .ok LT (st ++ [.ins "Counts" []]) := e
  simp [m_Counts___init__, b_Counts___init__]
  rw [e2]
  simp [putD, cS, cntF]
theorem getA_cons {α : Type} {j k : NestedKey} {d : α} {r : List (NestedKey × α)} : getA ((j, d) :: r) k = if j = k then some d else getA r k := by
  by_cases e : j = k
  · simp [getA, e]
  · simp [getA, e]
theorem getA_an {kvs : List (NestedKey × S1)} {k : NestedKey} : (kvs.any fun kv => decide (kv.1 = k)) = (getA kvs k).isSome := by
  unfold getA
  rw [Option.isSome_map]
  induction kvs with
  | nil => rfl
  | cons p r ih =>
    by_cases e : p.1 = k
    · simp [e]
    · simp only [List.any_cons, List.find?_cons, e, decide_false, Bool.false_or, ih]
theorem getA_put {k j : NestedKey} {d : S1} {kvs : List (NestedKey × S1)} : getA (putA kvs k d) j = if k = j then some d else getA kvs j := by
  have hany : (kvs.any fun kv => decide (kv.1 = k)) = (getA kvs k).isSome := getA_an
  unfold putA
  rw [hany]
  by_cases hs : (getA kvs k).isSome = true
  · rw [if_pos hs]
    clear hany
    induction kvs with
    | nil => cases hs
    | cons p r ih =>
      obtain ⟨i, c⟩ := p
      rw [List.map_cons]
      show getA ((if i = k then (i, d) else (i, c)) :: r.map fun p => if p.1 = k then (p.1, d) else p) j = _
      rw [getA_cons] at hs
      by_cases e : i = k
      · rw [if_pos e]
        subst e
        rw [getA_cons, getA_cons]
        by_cases e2 : i = j
        · rw [if_pos e2, if_pos e2]
        · rw [if_neg e2, if_neg e2, if_neg e2]
          by_cases hr : (getA r i).isSome = true
          · have := ih hr
            rw [if_neg e2] at this
            exact this
          · have hany : (r.any fun kv => decide (kv.1 = i)) = false := by rw [getA_an]; simpa using hr
            congr 1
            refine (List.map_congr_left fun q hq => ?_).trans (List.map_id r)
            rw [if_neg fun z => ?_]
            · rfl
            · have := List.any_eq_false.mp hany q hq
              simp [z] at this
      · rw [if_neg e] at hs ⊢
        rw [getA_cons, getA_cons, ih hs]
        by_cases e2 : k = j
        · subst e2; rw [if_neg e, if_pos rfl, if_pos rfl]
        · rw [if_neg e2, if_neg e2]
  · rw [if_neg hs]
    have hn : getA kvs k = none := by
      cases h : getA kvs k with
      | none => rfl
      | some d => rw [h] at hs; exact absurd rfl hs
    clear hs hany
    induction kvs with
    | nil => rw [List.nil_append, getA_cons]
    | cons p r ih =>
      obtain ⟨i, c⟩ := p
      rw [getA_cons] at hn
      by_cases e : i = k
      · rw [if_pos e] at hn; cases hn
      · rw [if_neg e] at hn
        rw [List.cons_append, getA_cons, getA_cons, ih hn]
        by_cases e2 : i = j
        · rw [if_pos e2, if_pos e2]
          by_cases e3 : k = j
          · exact absurd (e2.trans e3.symm) e
          · rw [if_neg e3]
        · rw [if_neg e2, if_neg e2]
theorem putA_len {k : NestedKey} {d : S1} {kvs : List (NestedKey × S1)} : (putA kvs k d).length ≤ kvs.length + 1 := by
  unfold putA
  split <;> simp
theorem putA_mem {k : NestedKey} {d : S1} {kvs : List (NestedKey × S1)} {p : NestedKey × S1} (h : p ∈ putA kvs k d) : p ∈ kvs ∨ p.2 = d := by
  unfold putA at h
  split at h
  · obtain ⟨q, hq, rfl⟩ := List.mem_map.mp h
    by_cases e : q.1 = k
    · rw [if_pos e]; exact .inr rfl
    · rw [if_neg e]; exact .inl hq
  · rcases List.mem_append.mp h with h | h
    · exact .inl h
    · exact .inr (by rw [List.mem_singleton.mp h])
theorem ckey_inj {s t : Sp} {u v : Nat} (h : ckey s u = ckey t v) : s = t ∧ u = v := by
  unfold ckey at h
  injection h with h
  injection h with h1 h
  injection h with h2 _
  injection h2 with h2
  exact ⟨skey_inj h1, by omega⟩
theorem TbOk.put {fs : List PyData} {T : Nat → Sp → WL} {P Q : Sp → Nat → Prop} {A : List (NestedKey × S1)} (h : TbOk fs T P A) {s : Sp} {u : Nat} {kvs : List (NestedKey × PyData)} (hk : Holds (KSp fs) kvs (T u s)) (hQ : ∀ t v, Q t v → P t v ∨ (t = s ∧ v = u)) : TbOk fs T Q (putA A (ckey s u) (.dd kvs)) := fun t v ht hq => by
  rw [getA_put]
  by_cases e : ckey s u = ckey t v
  · obtain ⟨rfl, rfl⟩ := ckey_inj e
    rw [if_pos e]
    exact ⟨kvs, rfl, hk⟩
  · rw [if_neg e]
    rcases hQ t v hq with hp | ⟨rfl, rfl⟩
    · exact h t v ht hp
    · exact absurd rfl e
theorem TbOk.mono {fs : List PyData} {T : Nat → Sp → WL} {P Q : Sp → Nat → Prop} {A : List (NestedKey × S1)} (h : TbOk fs T P A) (hQ : ∀ t v, Q t v → P t v) : TbOk fs T Q A := fun t v ht hq => h t v ht (hQ t v hq)
def AllDd (A : List (NestedKey × S1)) : Prop := ∀ p ∈ A, ∃ kvs, p.2 = .dd kvs
theorem AllDd.put {A : List (NestedKey × S1)} (h : AllDd A) {k : NestedKey} {kvs : List (NestedKey × PyData)} : AllDd (putA A k (.dd kvs)) := fun p hp => (putA_mem hp).elim (h p) fun e => ⟨kvs, e⟩
theorem oOk_up {o : O} {m n : Nat} (hmn : m ≤ n) (ho : oOk m o = true) : oOk n o = true := by
  have sl : ∀ s : S1, s1Ok m s = true → s1Ok n s = true := fun s h => by
    cases s <;> simp [s1Ok] at h ⊢ <;> omega
  have dl : ∀ d : D, dOk m d = true → dOk n d = true := fun d h => by
    cases d <;> simp [dOk] at h ⊢ <;> omega
  cases o with
  | ins C f => exact List.all_eq_true.mpr fun p hp => dl _ (List.all_eq_true.mp ho p hp)
  | lr xs => exact List.all_eq_true.mpr fun p hp => sl _ (List.all_eq_true.mp ho p hp)
  | dr xs => exact List.all_eq_true.mpr fun p hp => sl _ (List.all_eq_true.mp ho p hp)
  | dm xs => exact List.all_eq_true.mpr fun p hp => sl _ (List.all_eq_true.mp ho p hp)
  | _ => rfl
theorem Cl.app {st more : Store} (h : Cl st) (hm : ∀ o ∈ more, oOk (st.length + more.length) o = true) : Cl (st ++ more) := by
  unfold Cl stOk at *
  rw [List.all_append, Bool.and_eq_true, List.length_append]
  exact ⟨List.all_eq_true.mpr fun o ho => oOk_up (by omega) (List.all_eq_true.mp h o ho), List.all_eq_true.mpr hm⟩
theorem AllDd.ok {A : List (NestedKey × S1)} (h : AllDd A) (n : Nat) : oOk n (.dm A) = true := List.all_eq_true.mpr fun p hp => by
  obtain ⟨kvs, e⟩ := h p hp
  rw [e]; rfl
theorem cS_cl {st : Store} {LT : List (NestedKey × PyData)} {AC AW : List (NestedKey × S1)} (h : Cl st) (h1 : AllDd AC) (h2 : AllDd AW) : Cl (cS st LT AC AW) := by
  refine Cl.app h fun o ho => ?_
  simp only [List.mem_cons, List.not_mem_nil, or_false] at ho
  rcases ho with rfl | rfl | rfl | rfl
  · simp [oOk, fOk, cntF, dOk]
  · rfl
  · exact h1.ok _
  · exact h2.ok _
theorem cS_ob {fs : List PyData} {P : Sp → Nat → Prop} {st : Store} {LT : List (NestedKey × PyData)} {AC AW : List (NestedKey × S1)} (hl : LtOk fs LT) (h1 : TbOk fs (fun u => (TT fs u).1) P AC) (h2 : TbOk fs (fun u => (TT fs u).2) P AW) : Ob fs P (cS st LT AC AW) st.length := by
  refine ⟨st.length + 1, st.length + 2, st.length + 3, LT, AC, AW, ?_, ⟨?_, hl⟩, ⟨?_, h1⟩, ?_, h2⟩ <;> simp [cS, List.getElem?_append_right]
end Yk22
namespace Yk22
open PySem L2 B
theorem Ob.mono {fs : List PyData} {P Q : Sp → Nat → Prop} {st : Store} {c : Nat} (h : Ob fs P st c) (hQ : ∀ t v, Q t v → P t v) : Ob fs Q st c := by
  obtain ⟨a, b, d, LT, AC, AW, h1, h2, ⟨h3, t⟩, h4, t2⟩ := h.ex
  exact ⟨a, b, d, LT, AC, AW, h1, h2, ⟨h3, t.mono hQ⟩, h4, t2.mono hQ⟩
section
variable {fs : List PyData} {st : Store}
theorem behind_any (h : PrgP fs) (how : Own fs) {m : Nat} (hm : m ≤ 20) {c : Nat} (ho : Ob fs (fun _ u => u < m) st c) (hc : Cl st) {n : Str} {i : Nat} (hs : SpOk fs (n, i)) :
    ∃ kvs, m_Counts_behind_call [.loc c, .val (.tuple [.str n, .int i]), .val (.int m)] st = .ok (.dv kvs) st ∧ Holds (KSp fs) kvs ((TT fs m).2 (n, i)) := by
  cases m with
  | zero => exact behind_call0 hc
  | succ N => exact behind_call h how (by omega) (ho.mono fun _ v hv => by omega) hc hs
theorem from_any (h : PrgP fs) (how : Own fs) {m : Nat} (hm : m ≤ 20) {c : Nat} (ho : Ob fs (fun _ u => u < m) st c) (hc : Cl st) {n : Str} {i : Nat} (hs : SpOk fs (n, i)) :
    ∃ kvs, m_Counts_from_spot [.loc c, .val (.tuple [.str n, .int i]), .val (.int m)] st = .ok (.dv kvs) st ∧ Holds (KSp fs) kvs ((TT fs m).1 (n, i)) := by
  cases m with
  | zero => exact from_spot0 hc
  | succ N => exact from_spot h how (by omega) (ho.mono fun _ v hv => by omega) hc hs
structure Tabs (fs : List PyData) (P : Sp → Nat → Prop) (b : Nat) (AC AW : List (NestedKey × S1)) : Prop where
  t1 : TbOk fs (fun u => (TT fs u).1) P AC
  t2 : TbOk fs (fun u => (TT fs u).2) P AW
  a1 : AllDd AC
  a2 : AllDd AW
  l1 : AC.length ≤ b
  l2 : AW.length ≤ b
theorem counts_fill (h : PrgP fs) (how : Own fs) {LT : List (NestedKey × PyData)} (hi : LtI fs (fun n i => SpOk fs (n, i)) LT) (hl : LT.length ≤ 320) (hc : Cl st) {C : Nat} (hC : C ≤ 20) :
    wpx noE (m_Counts_fill [.loc st.length, .val (.int C)] (cS st LT [] [])) fun d s => d = .val .none ∧ ∃ AC AW, s = cS st LT AC AW ∧ Tabs fs (fun _ u => u ≤ C) 10000 AC AW := by
  have hlt : LtOk fs LT := hi.lt fun s hs => hs
  have g0 : ∀ AC AW, (cS st LT AC AW)[st.length]? = some (.ins "Counts" (cntF (st.length + 1) (st.length + 2) (st.length + 3))) := fun AC AW => by simp [cS, List.getElem?_append_right]
  have g1 : ∀ AC AW, (cS st LT AC AW)[st.length + 1]? = some (.dn LT) := fun AC AW => by simp [cS, List.getElem?_append_right]
  have g2 : ∀ AC AW, (cS st LT AC AW)[st.length + 2]? = some (.dm AC) := fun AC AW => by simp [cS, List.getElem?_append_right]
  have g3 : ∀ AC AW, (cS st LT AC AW)[st.length + 3]? = some (.dm AW) := fun AC AW => by simp [cS, List.getElem?_append_right]
  have s2 : ∀ AC AW X, (cS st LT AC AW).set (st.length + 2) (.dm X) = cS st LT X AW := fun AC AW X => by simp [cS, List.set_append_right]
  have s3 : ∀ AC AW X, (cS st LT AC AW).set (st.length + 3) (.dm X) = cS st LT AC X := fun AC AW X => by simp [cS, List.set_append_right]
  have ls : ∀ AC AW, listN [.loc (st.length + 1)] (cS st LT AC AW) = .ok (LT.map (·.1.data)) (cS st LT AC AW) := fun AC AW => by simp only [listN, dnP, g1]
  simp [m_Counts_fill, b_Counts_fill]
  refine ⟨rgOk.of (by omega) (by omega), ?_⟩
  refine wp_forF (I := fun m e s => e = [some (.loc st.length), some (.val (.int C)), none, none] ∧ ∃ AC AW, s = cS st LT AC AW ∧ Tabs fs (fun _ u => u < m) (320 * m) AC AW) _ _ _ ⟨rfl, [], [], rfl, ⟨fun s u _ hu => absurd hu (Nat.not_lt_zero u), fun s u _ hu => absurd hu (Nat.not_lt_zero u), fun p hp => (by cases hp), fun p hp => (by cases hp), Nat.zero_le _, Nat.zero_le _⟩⟩ ?_ ?_
  · rintro m y env s hk ⟨rfl, AC, AW, rfl, T⟩
    rw [List.getElem?_map] at hk
    obtain ⟨u', hu', rfl⟩ := Option.map_eq_some_iff.mp hk
    obtain ⟨hlt2, rfl⟩ : m < C + 1 ∧ u' = m := by
      obtain ⟨h1, h2⟩ := (List.getElem?_eq_some_iff.mp hu')
      rw [List.getElem_range] at h2
      exact ⟨by simpa using h1, h2.symm⟩
    simp [g0, ls]
    refine wp_forF (I := fun k e s => e = [some (.loc st.length), some (.val (.int C)), some (.val (.int u')), none] ∧ ∃ AC AW, s = cS st LT AC AW ∧ Tabs fs (fun s u => u < u' ∨ (u = u' ∧ skey s ∈ (LT.map (·.1)).take k)) (320 * u' + k) AC AW) _ _ _ ⟨rfl, AC, AW, rfl, ⟨T.t1.mono fun t v hv => ?_, T.t2.mono fun t v hv => ?_, T.a1, T.a2, T.l1, T.l2⟩⟩ ?_ ?_
    · simpa using hv
    · simpa using hv
    · rintro k x env s hk2 ⟨rfl, AC, AW, rfl, T⟩
      rw [List.getElem?_map] at hk2
      obtain ⟨p, hp, rfl⟩ := Option.map_eq_some_iff.mp hk2
      have hkl := (List.getElem?_eq_some_iff.mp hp).1
      obtain ⟨⟨n, i⟩, hs, hsk, hline⟩ := hi.ok p (List.mem_of_getElem? hp)
      have hdat : p.1.data = .tuple [.str n, .int i] := by rw [hsk]; rfl
      rw [hdat]
      have hcl := cS_cl (LT := LT) hc T.a1 T.a2
      have hob : Ob fs (fun _ u => u < u') (cS st LT AC AW) st.length := cS_ob hlt (T.t1.mono fun t v hv => .inl hv) (T.t2.mono fun t v hv => .inl hv)
      obtain ⟨kv1, hm1, hh1⟩ := behind_any h how (by omega) hob hcl hs
      have T2 : TbOk fs (fun u => (TT fs u).2) (fun s u => u < u' ∨ (u = u' ∧ skey s ∈ (LT.map (·.1)).take (k + 1))) (putA AW (ckey (n, i) u') (.dd kv1)) := T.t2.put hh1 fun t v hv => by
        rcases hv with hv | ⟨rfl, hv⟩
        · exact .inl (.inl hv)
        · rw [List.take_succ, List.getElem?_map, hp] at hv
          rcases List.mem_append.mp hv with hv | hv
          · exact .inl (.inr ⟨rfl, hv⟩)
          · simp at hv
            exact .inr ⟨skey_inj (hv.trans hsk), rfl⟩
      have hcl2 := cS_cl (LT := LT) hc T.a1 (T.a2.put (k := ckey (n, i) u') (kvs := kv1))
      have hob2 : Ob fs (fun _ u => u < u') (cS st LT AC (putA AW (ckey (n, i) u') (.dd kv1))) st.length := cS_ob hlt (T.t1.mono fun t v hv => .inl hv) (T2.mono fun t v hv => .inl hv)
      obtain ⟨kv2, hm2, hh2⟩ := from_any h how (by omega) hob2 hcl2 hs
      have T1 : TbOk fs (fun u => (TT fs u).1) (fun s u => u < u' ∨ (u = u' ∧ skey s ∈ (LT.map (·.1)).take (k + 1))) (putA AC (ckey (n, i) u') (.dd kv2)) := T.t1.put hh2 fun t v hv => by
        rcases hv with hv | ⟨rfl, hv⟩
        · exact .inl (.inl hv)
        · rw [List.take_succ, List.getElem?_map, hp] at hv
          rcases List.mem_append.mp hv with hv | hv
          · exact .inl (.inr ⟨rfl, hv⟩)
          · simp at hv
            exact .inr ⟨skey_inj (hv.trans hsk), rfl⟩
      have L1 := T.l1
      have L2 := T.l2
      have n1 : AW.length < sizeLine := by rw [sizeLine_eq]; omega
      have n2 : AC.length < sizeLine := by rw [sizeLine_eq]; omega
      have p1 := putA_len (k := ckey (n, i) u') (d := .dd kv1) (kvs := AW)
      have p2 := putA_len (k := ckey (n, i) u') (d := .dd kv2) (kvs := AC)
      simp [g0, hm1, f_dputMk (v := .dv kv1) (d := .dd kv1) rfl (g3 _ _) key_c n1, s3, hm2, f_dputMk (v := .dv kv2) (d := .dd kv2) rfl (g2 _ _) key_c n2, s2]
      exact ⟨cf_no (by decide), cf_no (by decide), _, _, rfl, ⟨T1, T2, T.a1.put, T.a2.put, by omega, by omega⟩⟩
    · rintro env s ⟨rfl, AC, AW, rfl, T⟩
      have hall : ∀ t v, SpOk fs t → v < u' + 1 → v < u' ∨ (v = u' ∧ skey t ∈ (LT.map (·.1)).take (LT.map (·.1.data)).length) := fun t v ht hv => by
        by_cases e : v < u'
        · exact .inl e
        · refine .inr ⟨by omega, ?_⟩
          rw [List.take_of_length_le (by simp)]
          exact valN_none.mp (hi.all t.1 t.2 ht)
      simp
      refine ⟨AC, AW, rfl, ⟨fun t v ht hv => T.t1 t v ht (hall t v ht hv), fun t v ht hv => T.t2 t v ht (hall t v ht hv), T.a1, T.a2, Nat.le_trans T.l1 ?_, Nat.le_trans T.l2 ?_⟩⟩
      · simp; omega
      · simp; omega
  · rintro env s ⟨rfl, AC, AW, rfl, T⟩
    simp
    refine ⟨AC, AW, rfl, ⟨T.t1.mono fun t v hv => ?_, T.t2.mono fun t v hv => ?_, T.a1, T.a2, Nat.le_trans T.l1 ?_, Nat.le_trans T.l2 ?_⟩⟩
    · simp; omega
    · simp; omega
    · simp; omega
    · simp; omega
def runsW (fs : List PyData) (n : Str) (C : Nat) : Int := ws one ((TT fs C).1 (n, 0))
theorem vals_int {KS : List NestedKey} {kvs : List (NestedKey × PyData)} (h : Dd KS kvs) : kvs.map (·.2) = (kvs.map fun p => vI p.2).map PyData.int := by
  rw [List.map_map]
  refine List.map_congr_left fun p hp => ?_
  obtain ⟨n, e⟩ := h.nn p hp
  show p.2 = .int (vI p.2)
  rw [e]; rfl
theorem ws_one : ∀ {kvs : List (NestedKey × PyData)}, ws one (toW kvs) = (kvs.map fun p => vI p.2).sum
  | [] => rfl
  | p :: r => by
    show 1 * vI p.2 + ws one (toW r) = vI p.2 + _
    rw [ws_one (kvs := r), Int.one_mul]
    rfl
theorem how_many {n : Str} {l : PyData} {r : List PyData} (h : PrgP (.tuple [.str n, l] :: r)) (how : Own (.tuple [.str n, l] :: r)) (hc : Cl st) {C : Nat} (hC : C ≤ 20) :
    m_how_many_runs [.val (.tuple (.tuple [.str n, l] :: r)), .val (.int C)] st = .ok (.val (.int (runsW (.tuple [.str n, l] :: r) n C))) st := by
  obtain ⟨LT, hinit, hi, hl⟩ := counts_init h how (st := st)
  have hfill := counts_fill h how hi hl hc hC
  obtain ⟨d, s, e, rfl, AC, AW, rfl, T⟩ := wp_ok_ex hfill
  obtain ⟨rs, hr⟩ := h.first n l r rfl
  have hs : SpOk (.tuple [.str n, l] :: r) (n, 0) := ⟨rs, hr, List.length_pos_iff.mpr (h.rows n rs hr).1⟩
  obtain ⟨kvs, hg, hh⟩ := T.t1 (n, 0) C hs (Nat.le_refl _)
  have g0 : ∀ AC AW, (cS st LT AC AW)[st.length]? = some (.ins "Counts" (cntF (st.length + 1) (st.length + 2) (st.length + 3))) := fun AC AW => by simp [cS, List.getElem?_append_right]
  have g2 : (cS st LT AC AW)[st.length + 2]? = some (.dm AC) := by simp [cS, List.getElem?_append_right]
  have tk : (cS st LT AC AW).take st.length = st := by simp [cS]
  have key_c0 : keyB (.val (.tuple [.tuple [.str n, .int 0], .int C])) = some (ckey (n, 0) C) := key_c (n := n) (i := 0) (u := C)
  refine of_wp ?_
  simp [m_how_many_runs, b_how_many_runs, hinit, g0, e, f_dgetM g2 key_c0 hg, dOf, f_sumI (vals_int hh.1), tk]
  refine ⟨cf_no (by decide), hc, ?_⟩
  unfold runsW
  rw [← hh.2 one, ws_one]
end
end Yk22
namespace Yk22
open PySem L2 B
def lkey (s : Sp) (bl : Bool) : NestedKey := .tup [skey s, .num (if bl = true then 1 else 0)]
theorem key_l {n : Str} {i : Nat} {bl : Bool} : keyB (.val (.tuple [.tuple [.str n, .int i], .bool bl])) = some (lkey (n, i) bl) := by
  cases bl <;> simp [keyB, nkb, nkbs, lkey, skey, NestedKey.depth, NestedKey.depthAll]
theorem key_l0 {n : Str} {bl : Bool} : keyB (.val (.tuple [.tuple [.str n, .int 0], .bool bl])) = some (lkey (n, 0) bl) := key_l (i := 0)
theorem lkey_inj {s t : Sp} {a b : Bool} (h : lkey s a = lkey t b) : s = t ∧ a = b := by
  unfold lkey at h
  injection h with h
  injection h with h1 h
  injection h with h2 _
  refine ⟨skey_inj h1, ?_⟩
  cases a <;> cases b <;> simp at h2 ⊢
def TS (fs : List PyData) (bl : Bool) (u : Nat) (s : Sp) : WL := if bl = true then (TT fs u).2 s else (TT fs u).1 s
structure LO (fs : List PyData) (N : Nat) (st : Store) (b : Nat) : Prop where
  ex : ∃ A, st[b]? = some (.dm A) ∧ ∀ s, SpOk fs s → ∀ bl, ∃ j xs, getA A (lkey s bl) = some (.l j) ∧ st[j]? = some (.lr xs) ∧ ∀ u, u ≤ N → ∃ kvs, xs[u]? = some (.dd kvs) ∧ Holds (KSp fs) kvs (TS fs bl u s)
theorem LO.app {fs : List PyData} {N : Nat} {st : Store} {b : Nat} (h : LO fs N st b) (more : Store) : LO fs N (st ++ more) b := by
  obtain ⟨A, h1, h2⟩ := h.ex
  have up : ∀ {i : Nat} {o : O}, st[i]? = some o → (st ++ more)[i]? = some o := fun {i o} e => by rw [List.getElem?_append_left (List.getElem?_eq_some_iff.mp e).1]; exact e
  refine ⟨A, up h1, fun s hs bl => ?_⟩
  obtain ⟨j, xs, e1, e2, e3⟩ := h2 s hs bl
  exact ⟨j, xs, e1, up e2, e3⟩
theorem LO.get {fs : List PyData} {N : Nat} {st : Store} {b : Nat} (h : LO fs N st b) {s : Sp} (hs : SpOk fs s) (bl : Bool) {u : Nat} (hu : u ≤ N) : ∃ A j xs kvs, (st[b]? = some (.dm A) ∧ getA A (lkey s bl) = some (.l j)) ∧ (prtR st (.loc j) = some xs ∧ atI xs (u : Int) = some (.dd kvs)) ∧ Holds (KSp fs) kvs (TS fs bl u s) := by
  obtain ⟨A, h1, h2⟩ := h.ex
  obtain ⟨j, xs, e1, e2, e3⟩ := h2 s hs bl
  obtain ⟨kvs, e4, e5⟩ := e3 u hu
  exact ⟨A, j, xs, kvs, ⟨h1, e1⟩, ⟨by simp only [prtR, e2], L2.atI_nat e4⟩, e5⟩
section
variable {fs : List PyData} {st0 : Store}
theorem merged (h : PrgP fs) (how : Own fs) {more : List (NestedKey × PyData)} (hm : ∀ p ∈ more, p.1 ∈ KSp fs ∧ ∃ n : Nat, p.2 = .int n ∧ (n : Int) ≤ Dn 20) {times : Nat} (ht : (times : Int) ≤ Dn 20) {kvs : List (NestedKey × PyData)} (hd : Dd (KSp fs) kvs) :
    wpx noE (m__law_merged [.loc st0.length, .dv more, .val (.int times)] (st0 ++ [.dn kvs])) fun d s => d = .val .none ∧ ∃ kvs', s = st0 ++ [.dn kvs'] ∧ Dd (KSp fs) kvs' ∧ ∀ g, ws g (toW kvs') = ws g (toW kvs) + times * ws g (toW more) := by
  have KL := KS_len h how
  simp [m__law_merged, b__law_merged]
  refine wp_mono (items_loop (KS := KSp fs) (t := st0.length) (cc := times) (Bd := Dn 20) (fun k v s kv hs hkv hk hb => ?_) more hm (st0 ++ [.dn kvs]) kvs (by simp) hd) ?_
  · obtain ⟨n, hn⟩ := hkv.at k
    have hp : dnP s (.loc st0.length) = some kv := by simp only [dnP, hs]
    have hl1 := log_ok ht
    have hl2 := log_ok hb
    simp only [Int.natAbs_natCast] at hl1 hl2
    have hll := hkv.len
    have e : kv.length < 16777216 := by omega
    simp [f_isDn hp, f_getN2 hp (ks_key hk), hn, hs, ks_key hk, e]
    refine ⟨by omega, ?_⟩
    unfold addK
    rw [hn, Int.mul_comm]
    rfl
  · rintro r s ⟨rfl, kv, rfl, hd2, hw2⟩
    simp
    exact ⟨hd2, hw2⟩
theorem TS_ok (h : PrgP fs) {u : Nat} (hu : u ≤ 20) (bl : Bool) (s : Sp) : Ww fs (Dn u) (TS fs bl u s) := by
  cases bl
  · exact (TT_ok h 20 u hu (Nat.le_refl _) s).1
  · exact (TT_ok h 20 u hu (Nat.le_refl _) s).2
theorem Holds.its {kvs : List (NestedKey × PyData)} {L : WL} {n : Nat} (hh : Holds (KSp fs) kvs L) (w : Ww fs (Dn n) L) (hn : n ≤ 20) : ∀ p ∈ kvs, p.1 ∈ KSp fs ∧ ∃ m : Nat, p.2 = .int m ∧ (m : Int) ≤ Dn 20 := fun p hp => by
  obtain ⟨q1, m2, q2, q3⟩ := hh.items w p hp
  exact ⟨q1, m2, q2, Int.le_trans q3 (Dn_mono hn)⟩
theorem in_two {a b c : Str} : inAny (.str a) [.str b, .str c] = (decide (b = a) || decide (c = a)) := by simp [inAny]
theorem hands_loop (h : PrgP fs) (how : Own fs) {N : Nat} (hN : N ≤ 20) {b : Nat} (ho : LO fs N st0 b) {n : Str} {sz : Nat} (hsp : ∀ i, i < sz → SpOk fs (n, i)) {k : Str} {left times : Nat} (hl : left ≤ N) (ht : (times : Int) ≤ Dn 20) {kvs : List (NestedKey × PyData)} (hd : Dd (KSp fs) kvs) {e1 : Option D} {i : Nat} :
    ∀ (hs : List PyData), (∀ h ∈ hs, ∃ (k : Str) (i : Nat), i < sz ∧ h = .tuple [.str k, .int i]) →
    wpx noE (forF (fun x env => bd (setT 2 (setsCons (setV 7) (setsCons (setV 8) setsNil)) (D.val x) env) (killS [7, 8] (ifS (tst (op2 (inF false) (gv 7) (tupE (aCons (cD (.val (.str ""))) (aCons (op2 ixF (gv 4) (cD (.val (.int 1)))) aNil))))) (seqS (dropS (callF m__law_merged (aCons (gv 0) (aCons (op2 ixRF (op2 dgetM (gv 2) (tupE (aCons (tupE (aCons (op2 ixF (gv 3) (cD (.val (.int 0)))) (aCons (gv 8) aNil))) (aCons (cD (.val (.bool false))) aNil)))) (gv 5)) (aCons (gv 6) aNil)))))
      (retS (cD (.val .none)))) nxS))) hs
      [some (.loc st0.length), e1, some (.loc b), some (.val (.tuple [.str n, .int i])), some (.val (.tuple [.str "fail", .str k])), some (.val (.int left)), some (.val (.int times)), none, none] (st0 ++ [.dn kvs])) fun r s =>
      (hLine k hs = none ∧ r = .nx [some (.loc st0.length), e1, some (.loc b), some (.val (.tuple [.str n, .int i])), some (.val (.tuple [.str "fail", .str k])), some (.val (.int left)), some (.val (.int times)), none, none] ∧ s = st0 ++ [.dn kvs]) ∨
      (∃ j : Nat, hLine k hs = some (j : Int) ∧ r = .rt (.val .none) ∧ ∃ kvs', s = st0 ++ [.dn kvs'] ∧ Dd (KSp fs) kvs' ∧ ∀ g, ws g (toW kvs') = ws g (toW kvs) + times * ws g ((TT fs left).1 (n, j)))
  | [], _ => by
    simp only [forF, wp_rt]
    exact .inl ⟨by simp [hLine], trivial, trivial⟩
  | t :: ts, hh => by
    obtain ⟨k2, j, hj, rfl⟩ := hh t (List.mem_cons_self ..)
    have ih := hands_loop h how hN ho (n := n) hsp (k := k) (left := left) (times := times) hl ht hd (e1 := e1) (i := i) ts fun q hq => hh q (List.mem_cons_of_mem _ hq)
    have up : ∀ {j : Nat} {o : O} {m : Store}, st0[j]? = some o → (st0 ++ m)[j]? = some o := fun {j o m} e => by rw [List.getElem?_append_left (List.getElem?_eq_some_iff.mp e).1]; exact e
    obtain ⟨A, jj, xs, kv, ⟨g1, g2⟩, ⟨g3, g4⟩, g5⟩ := (ho.app [.dn kvs]).get (hsp j hj) false hl
    have hmg := merged (st0 := st0) h how (g5.its (TS_ok h (by omega) false _) (by omega)) ht hd
    simp only [forF]
    by_cases hk : k2 = Str.ofString "" ∨ k2 = k
    · have hline : hLine k (.tuple [.str k2, .int j] :: ts) = some (j : Int) := by
        simp only [hLine]
        rw [if_pos (hk.symm)]
      have hin : (Str.ofString "" = k2 ∨ k = k2) := hk.imp Eq.symm Eq.symm
      simp [in_two, PyData.depth, PyData.depthAll, hin, f_dgetM g1 key_l g2, dOf, f_ixR g3 g4]
      refine wp_mono hmg ?_
      rintro d s ⟨rfl, kv2, rfl, hd2, hw2⟩
      simp [hline]
      refine ⟨j, rfl, hd2, fun g => ?_⟩
      rw [hw2 g, g5.2 g]
      rfl
    · have hline : hLine k (.tuple [.str k2, .int j] :: ts) = hLine k ts := by
        simp only [hLine]
        rw [if_neg fun z => hk z.symm]
      have hin : ¬ (Str.ofString "" = k2 ∨ k = k2) := fun z => hk (z.imp Eq.symm Eq.symm)
      rw [hline]
      simp [in_two, PyData.depth, PyData.depthAll, hin]
      exact ih
end
end Yk22
namespace Yk22
open PySem L2 B
section
variable {fs : List PyData} {st0 : Store}
theorem end_into (h : PrgP fs) (how : Own fs) {N : Nat} (hN : N ≤ 20) {b : Nat} (ho : LO fs N st0 b) (hc : Cl st0) {n : Str} {i : Nat} (hs : SpOk fs (n, i)) {e : NestedKey} (he : e ∈ KSp fs) (hne : e ≠ oK) {left times : Nat} (hl : left ≤ N) (ht : (times : Int) ≤ Dn 20) {kvs : List (NestedKey × PyData)} (hd : Dd (KSp fs) kvs) :
    wpx noE (m__law_end_into [.loc st0.length, .val (.tuple fs), .loc b, .val (.tuple [.str n, .int i]), .val e.data, .val (.int left), .val (.int times)] (st0 ++ [.dn kvs])) fun d s => d = .val .none ∧ ∃ kvs', s = st0 ++ [.dn kvs'] ∧ Dd (KSp fs) kvs' ∧ ∀ g, ws g (toW kvs') = ws g (toW kvs) + times * ws g (bfrW (lineA fs (n, i)).2.2 (TT fs) (n, i) left e) := by
  have KL := KS_len h how
  rcases ks_cases he with rfl | rfl | ⟨x, rfl⟩
  · exact absurd rfl hne
  · have eb : bK.data = .tuple [.str "back"] := rfl
    rw [eb]
    obtain ⟨A, jj, xs, kv, ⟨g1, g2⟩, ⟨g3, g4⟩, g5⟩ := (ho.app [.dn kvs]).get hs true hl
    have hmg := merged (st0 := st0) h how (g5.its (TS_ok h (by omega) true _) (by omega)) ht hd
    simp [m__law_end_into, b__law_end_into, ev1, dm1, f_dgetM g1 key_l g2, dOf, f_ixR g3 g4]
    refine ⟨dp1, wp_mono hmg ?_⟩
    rintro d s ⟨rfl, kv2, rfl, hd2, hw2⟩
    simp
    refine ⟨hd2, fun g => ?_⟩
    rw [hw2 g, g5.2 g]
    rfl
  · have ef : (fK x).data = .tuple [.str "fail", .str x] := rfl
    rw [ef]
    obtain ⟨rs, hr, hi⟩ := id hs
    obtain ⟨cs, ws', hs', hline, hA, rp, hat⟩ := sp_line h hr hi
    obtain ⟨_, _, _, e, _, hcs, hws, hhs, l1, l2, l3⟩ := id rp.ex
    cases e
    have hll := law_lineC h hr hat (cl_dn hc (kvs := kvs))
    have hA2 : (lineA fs (n, i)).2.2 = hs' := by rw [show lineA fs (n, i) = (cs, ws', hs') from hA]
    rw [hA2]
    have lp := hands_loop (st0 := st0) h how hN ho (n := n) (sz := rs.length) (fun j hj => ⟨rs, hr, hj⟩) (k := x) (left := left) (times := times) hl ht hd (e1 := some (.val (.tuple fs))) (i := i) hs' hhs
    simp [m__law_end_into, b__law_end_into, ev2, dm1, hll]
    refine wp_mono lp ?_
    rintro r s (⟨hj, rfl, rfl⟩ | ⟨j, hj, rfl, kv2, rfl, hd2, hw2⟩)
    · obtain ⟨nn, hn⟩ := hd.at (fK x)
      have hg : (st0 ++ [O.dn kvs])[st0.length]? = some (.dn kvs) := by simp
      have hp : dnP (st0 ++ [.dn kvs]) (.loc st0.length) = some kvs := by simp only [dnP, hg]
      have hlen := hd.len
      have hlt : kvs.length < 16777216 := by omega
      have hbf : bfW hs' (TT fs) (n, i) x left = overW (fK x) left := by unfold bfW; simp only [hj]
      have e3 : bfrW hs' (TT fs) (n, i) left (fK x) = overW (fK x) left := hbf
      by_cases h0 : left = 0
      · subst h0
        obtain ⟨hd3, hw3⟩ := hd.add (k := fK x) he times
        simp [f_isDn hp, f_getN2 hp key_f, hn, key_f, hlt]
        have hadd : putN kvs (fK x) (.int ((nn : Int) + times)) = addK kvs (fK x) times := by unfold addK; rw [hn]; rfl
        rw [hadd]
        refine ⟨hd3, fun g => ?_⟩
        rw [hw3 g, e3]
        show _ = _ + (times : Int) * (g (fK x) * 1 + 0)
        rw [Int.mul_one, Int.add_zero, Int.mul_comm]
      · have h1 : ¬ (left : Int) = 0 := by omega
        simp [h0]
        refine ⟨hd, fun g => ?_⟩
        rw [e3]
        unfold overW
        rw [if_neg h0]
        simp [ws]
    · simp
      refine ⟨hd2, fun g => ?_⟩
      rw [hw2 g]
      have e3 : bfrW hs' (TT fs) (n, i) left (fK x) = (TT fs left).1 (n, j) := by
        show bfW hs' (TT fs) (n, i) x left = _
        unfold bfW
        simp only [hj]
        rfl
      rw [e3]
theorem due_cell (h : PrgP fs) (how : Own fs) {N : Nat} (hN : N < 20) {b : Nat} (ho : LO fs N st0 b) (hc : Cl st0) {n : Str} {i : Nat} (hs : SpOk fs (n, i)) :
    ∃ kvs, m__law_due_cell [.val (.tuple fs), .loc b, .val (.tuple [.str n, .int i]), .val (.int ((N : Int) + 1))] st0 = .ok (.dv kvs) st0 ∧ Holds (KSp fs) kvs ((TT fs (N + 1)).2 (n, i)) := by
  have KL := KS_len h how
  obtain ⟨rs, hr, hi⟩ := id hs
  obtain ⟨cs, ws', hs', hline, hA, rp, hat⟩ := sp_line h hr hi
  obtain ⟨_, _, _, e, _, hcs, hws, hhs, l1, l2, l3⟩ := id rp.ex
  cases e
  have hrm : (.tuple [.tuple cs, .tuple ws', .tuple hs'] : PyData) ∈ rs := by
    obtain ⟨r2, hm2, e2⟩ := atI_some (xs := rs) (i := (i : Int)) (by omega) (by have : i < rs.length := hi; omega)
    have e3 : atI rs (i : Int) = some (.tuple [.tuple cs, .tuple ws', .tuple hs']) := hat
    rw [e3] at e2
    cases e2
    exact hm2
  have hA2 : (lineA fs (n, i)).2.2 = hs' := by rw [show lineA fs (n, i) = (cs, ws', hs') from hA]
  suffices hw : wpx noE (m__law_due_cell [.val (.tuple fs), .loc b, .val (.tuple [.str n, .int i]), .val (.int ((N : Int) + 1))] st0) fun d s => s = st0 ∧ ∃ kvs, d = .dv kvs ∧ Holds (KSp fs) kvs ((TT fs (N + 1)).2 (n, i)) by
    obtain ⟨d, s, e, rfl, kvs, rfl, hh⟩ := wp_ok_ex hw
    exact ⟨kvs, e, hh⟩
  have e1 : (N : Int) + 1 - 1 = (N : Int) := by omega
  have hll := fun kvs => law_lineC h hr hat (cl_dn hc (kvs := kvs))
  simp [m__law_due_cell, b__law_due_cell, hll]
  refine wp_forF (I := fun k e s => e = [some (.val (.tuple fs)), some (.loc b), some (.val (.tuple [.str n, .int i])), some (.val (.int ((N : Int) + 1))), some (.loc st0.length), none] ∧ ∃ kvs, s = st0 ++ [.dn kvs] ∧ Dd (KSp fs) kvs ∧ ∀ g, ws g (toW kvs) = ws g ((ws'.take k).flatMap (wayW hs' (TT fs) (n, i) N))) _ _ _ ⟨rfl, [], rfl, Dd.nil, fun g => rfl⟩ ?_ ?_
  · rintro k w env s hk ⟨rfl, kvs, rfl, hd, hw⟩
    have hwm := List.mem_of_getElem? hk
    rcases hws w hwm with ⟨j, hj, rfl⟩ | rfl | ⟨f, rfl⟩
    · obtain ⟨A, jj, xs, kv, ⟨g1, g2⟩, ⟨g3, g4⟩, g5⟩ := (ho.app [.dn kvs]).get (s := (n, j)) ⟨rs, hr, hj⟩ false (Nat.le_refl _)
      have hmg := merged (st0 := st0) h how (times := 1) (g5.its (TS_ok h (by omega) false _) (by omega)) (Dn_pos (n := 20)) hd
      simp [e1, f_dgetM g1 key_l g2, dOf, f_ixR g3 g4]
      refine wp_mono hmg ?_
      rintro d s ⟨rfl, kv2, rfl, hd2, hw2⟩
      simp
      refine ⟨hd2, fun g => ?_⟩
      rw [hw2 g, hw g, take_flat hk, ws_app, g5.2 g]
      simp [TS, wayW]
    · by_cases h0 : N = 0
      · subst h0
        obtain ⟨nn, hn⟩ := hd.at bK
        have hg : (st0 ++ [O.dn kvs])[st0.length]? = some (.dn kvs) := by simp
        have hp : dnP (st0 ++ [.dn kvs]) (.loc st0.length) = some kvs := by simp only [dnP, hg]
        have hlen := hd.len
        have hlt : kvs.length < 16777216 := by omega
        obtain ⟨hd3, hw3⟩ := hd.add (k := bK) bK_in 1
        simp [ev1, dm1, f_isDn hp, f_getN2 hp key_b, hn, key_b, hlt]
        have hadd : putN kvs bK (.int ((nn : Int) + 1)) = addK kvs bK ((1 : Nat) : Int) := by unfold addK; rw [hn]; rfl
        rw [hadd]
        refine ⟨dp1, hd3, fun g => ?_⟩
        rw [hw3 g, hw g, take_flat hk, ws_app]
        show _ = _ + (g bK * 1 + 0)
        simp
      · have h1 : ¬ (N : Int) + 1 = 1 := by omega
        simp [ev1, dm1, h1]
        refine ⟨dp1, hd, fun g => ?_⟩
        rw [hw g, take_flat hk, ws_app]
        have e3 : wayW hs' (TT fs) (n, i) N (.tuple [.str "back"]) = [] := by show overW bK N = []; unfold overW; rw [if_neg h0]
        rw [e3]
        simp [ws]
    · have hk2 := key_in h hr hrm (w := .tuple [.str "fail", .str f]) hwm rfl
      have hei := end_into (st0 := st0) h how (by omega) ho hc hs hk2 (by intro z; cases z) (left := N) (times := 1) (Nat.le_refl _) (Dn_pos (n := 20)) hd
      have ef : (fK f).data = .tuple [.str "fail", .str f] := rfl
      rw [ef, hA2] at hei
      simp [e1, ev2, dm1]
      refine wp_mono hei ?_
      rintro d s ⟨rfl, kv2, rfl, hd2, hw2⟩
      simp
      refine ⟨hd2, fun g => ?_⟩
      rw [hw2 g, hw g, take_flat hk, ws_app]
      show _ + ((1 : Nat) : Int) * ws g (bfW hs' (TT fs) (n, i) f N) = _ + ws g (bfW hs' (TT fs) (n, i) f N)
      simp
  · rintro env s ⟨rfl, kvs, rfl, hd, hw⟩
    have hfin : ∀ g, ws g (toW kvs) = ws g ((TT fs (N + 1)).2 (n, i)) := fun g => by
      rw [hw g, List.take_length, TT_succ]
      show _ = ws g ((lineA fs (n, i)).2.1.flatMap (wayW (lineA fs (n, i)).2.2 (TT fs) (n, i) N))
      rw [show lineA fs (n, i) = (cs, ws', hs') from hA]
    have hg : (st0 ++ [O.dn kvs])[st0.length]? = some (.dn kvs) := by simp
    simp [f_lockM hg]
    exact ⟨hc, hd, hfin⟩
end
end Yk22
namespace Yk22
open PySem L2 B
def sm (f : Nat → Int) : Nat → Int
  | 0 => 0
  | k + 1 => sm f k + f k
theorem sm_shift {f : Nat → Int} : ∀ {k : Nat}, sm (fun j => f (j + 1)) k + f 0 = sm f (k + 1)
  | 0 => by simp [sm]
  | k + 1 => by
    have := sm_shift (f := f) (k := k)
    show sm (fun j => f (j + 1)) k + f (k + 1) + f 0 = sm f (k + 1) + f (k + 1)
    omega
theorem sm_add {f g : Nat → Int} : ∀ {k : Nat}, sm (fun j => f j + g j) k = sm f k + sm g k
  | 0 => rfl
  | k + 1 => by
    show sm (fun j => f j + g j) k + (f k + g k) = (sm f k + f k) + (sm g k + g k)
    rw [sm_add (k := k)]; omega
theorem sm_zero {f : Nat → Int} : ∀ {k : Nat}, (∀ j, j < k → f j = 0) → sm f k = 0
  | 0, _ => rfl
  | k + 1, h => by
    show sm f k + f k = 0
    rw [sm_zero fun j hj => h j (by omega), h k (by omega)]
    rfl
theorem ws_range {g : NestedKey → Int} {F : Nat → WL} : ∀ {k : Nat}, ws g ((List.range k).flatMap F) = sm (fun u => ws g (F u)) k
  | 0 => rfl
  | k + 1 => by
    rw [List.range_succ, List.flatMap_append, ws_app, ws_range]
    simp [sm]
theorem ws_plus {a b : NestedKey → Int} : ∀ {L : WL}, ws (fun k => a k + b k) L = ws a L + ws b L
  | [] => rfl
  | p :: L => by
    show (a p.1 + b p.1) * p.2 + ws _ L = (a p.1 * p.2 + ws a L) + (b p.1 * p.2 + ws b L)
    rw [ws_plus (L := L), Int.add_mul]; omega
def indO : NestedKey → Int := fun j => if j = oK then 1 else 0
def endN (hs : List PyData) (h : Nat → Tb) (s : Sp) (left : Nat) (g : NestedKey → Int) (e : NestedKey) : Int := if e = oK then 0 else ws g (bfrW hs h s left e)
theorem endH_split {hs : List PyData} {h : Nat → Tb} {s : Sp} {n u : Nat} {g : NestedKey → Int} {L : WL} : ws (endH hs h s n u g) L = (if u = n then g oK else 0) * ws indO L + ws (endN hs h s (n - u) g) L := by
  have e : endH hs h s n u g = fun k => (if u = n then g oK else 0) * indO k + endN hs h s (n - u) g k := by
    funext k
    unfold endH indO endN
    by_cases hk : k = oK
    · rw [if_pos hk, if_pos hk, if_pos hk]; omega
    · rw [if_neg hk, if_neg hk, if_neg hk]; omega
  rw [e, ws_plus, ws_mul]
theorem call_sum {fs hs : List PyData} {s : Sp} {N : Nat} {x : Str} {g : NestedKey → Int} : ws g ((List.range (N + 1)).flatMap fun u => innW hs (TT fs) s N x u) = g oK * ws indO ((TT fs N).1 (x, 0)) + sm (fun j => ws (endN hs (TT fs) s (N - (j + 1)) g) ((TT fs (j + 1)).1 (x, 0))) N := by
  rw [ws_range]
  have e : (fun u => ws g (innW hs (TT fs) s N x u)) = fun u => (if u = N then g oK else 0) * ws indO ((TT fs u).1 (x, 0)) + ws (endN hs (TT fs) s (N - u) g) ((TT fs u).1 (x, 0)) := by
    funext u
    rw [ws_inn, endH_split]
  rw [e, sm_add]
  have z : sm (fun u => (if u = N then g oK else 0) * ws indO ((TT fs u).1 (x, 0))) N = 0 := sm_zero fun j hj => by
    rw [if_neg (by omega)]; simp
  have f0 : ws (endN hs (TT fs) s (N - 0) g) ((TT fs 0).1 (x, 0)) = 0 := by
    show endN hs (TT fs) s (N - 0) g oK * 1 + 0 = 0
    unfold endN
    rw [if_pos rfl]; rfl
  have sh := sm_shift (f := fun u => ws (endN hs (TT fs) s (N - u) g) ((TT fs u).1 (x, 0))) (k := N)
  rw [← sh, f0]
  show sm (fun u => (if u = N then g oK else 0) * ws indO ((TT fs u).1 (x, 0))) N + (if N = N then g oK else 0) * ws indO ((TT fs N).1 (x, 0)) + _ = _
  rw [z, if_pos rfl]
  omega
section
variable {fs : List PyData} {st0 : Store}
theorem call_cell (h : PrgP fs) (how : Own fs) {N : Nat} (hN : N < 20) {b : Nat} (ho : LO fs N st0 b) (hc : Cl st0) {n : Str} {i : Nat} (hs : SpOk fs (n, i)) :
    ∃ kvs, m__law_call_cell [.val (.tuple fs), .loc b, .val (.tuple [.str n, .int i]), .val (.int ((N : Int) + 1))] st0 = .ok (.dv kvs) st0 ∧ Holds (KSp fs) kvs ((TT fs (N + 1)).1 (n, i)) := by
  have KL := KS_len h how
  obtain ⟨rs, hr, hi⟩ := id hs
  obtain ⟨cs, ws', hs', hline, hA, rp, hat⟩ := sp_line h hr hi
  obtain ⟨_, _, _, e, _, hcs, hws, hhs, l1, l2, l3⟩ := id rp.ex
  cases e
  have hA2 : (lineA fs (n, i)).2.2 = hs' := by rw [show lineA fs (n, i) = (cs, ws', hs') from hA]
  suffices hw : wpx noE (m__law_call_cell [.val (.tuple fs), .loc b, .val (.tuple [.str n, .int i]), .val (.int ((N : Int) + 1))] st0) fun d s => s = st0 ∧ ∃ kvs, d = .dv kvs ∧ Holds (KSp fs) kvs ((TT fs (N + 1)).1 (n, i)) by
    obtain ⟨d, s, e, rfl, kvs, rfl, hh⟩ := wp_ok_ex hw
    exact ⟨kvs, e, hh⟩
  have e1 : (N : Int) + 1 - 1 = (N : Int) := by omega
  have hll := fun kvs => law_lineC h hr hat (cl_dn hc (kvs := kvs))
  simp [m__law_call_cell, b__law_call_cell, hll]
  refine wp_forF (I := fun k e s => (∃ x5, e = [some (.val (.tuple fs)), some (.loc b), some (.val (.tuple [.str n, .int i])), some (.val (.int ((N : Int) + 1))), some (.loc st0.length), x5, none, none, none, none]) ∧ ∃ kvs, s = st0 ++ [.dn kvs] ∧ Dd (KSp fs) kvs ∧ ∀ g, ws g (toW kvs) = ws g ((cs.take k).flatMap (callW hs' (TT fs) (n, i) N))) _ _ _ ⟨⟨_, rfl⟩, [], rfl, Dd.nil, fun g => rfl⟩ ?_ ?_
  · rintro k w env s hk ⟨⟨x5, rfl⟩, kvs, rfl, hd, hw⟩
    have hwm := List.mem_of_getElem? hk
    obtain ⟨x, rfl, hx⟩ := hcs w hwm
    by_cases hx0 : x = Str.ofString ""
    · subst hx0
      obtain ⟨A, jj, xs, kv, ⟨g1, g2⟩, ⟨g3, g4⟩, g5⟩ := (ho.app [.dn kvs]).get hs true (Nat.le_refl _)
      have hmg := merged (st0 := st0) h how (times := 1) (g5.its (TS_ok h (by omega) true _) (by omega)) (Dn_pos (n := 20)) hd
      simp [e1, f_dgetM g1 key_l g2, dOf, f_ixR g3 g4]
      refine wp_mono hmg ?_
      rintro d s ⟨rfl, kv2, rfl, hd2, hw2⟩
      simp
      refine ⟨hd2, fun g => ?_⟩
      rw [hw2 g, hw g, take_flat hk, ws_app, g5.2 g]
      simp [TS, callW]
    · have hx1 : SpOk fs (x, 0) := by
        rcases hx with e | ⟨rs2, hr2, hn2⟩
        · exact absurd e hx0
        · exact ⟨rs2, hr2, List.length_pos_iff.mpr hn2⟩
      obtain ⟨A, t1, t2⟩ := id ho.ex
      obtain ⟨jj, xs, g2, g3, g4⟩ := t2 (x, 0) hx1 false
      obtain ⟨kN, gN, hhN⟩ := g4 N (Nat.le_refl _)
      have up : ∀ {j : Nat} {o : O} {m : Store}, st0[j]? = some o → (st0 ++ m)[j]? = some o := fun {j o m} e => by rw [List.getElem?_append_left (List.getElem?_eq_some_iff.mp e).1]; exact e
      have pr : ∀ m, prtR (st0 ++ m) (.loc jj) = some xs := fun m => by simp only [prtR, up (m := m) g3]
      obtain ⟨nn, hn⟩ := hd.at oK
      obtain ⟨nv, hnv⟩ := hhN.1.at oK
      have hg : (st0 ++ [O.dn kvs])[st0.length]? = some (.dn kvs) := by simp
      have hp : dnP (st0 ++ [.dn kvs]) (.loc st0.length) = some kvs := by simp only [dnP, hg]
      have hp2 : dnP (st0 ++ [.dn kvs]) (.dv kN) = some kN := rfl
      have hlen := hd.len
      have hlt : kvs.length < 16777216 := by omega
      obtain ⟨hd3, hw3⟩ := hd.add (k := oK) oK_in nv
      have hadd : putN kvs oK (.int ((nn : Int) + nv)) = addK kvs oK nv := by unfold addK; rw [hn]; rfl
      simp [e1, hx0, f_dgetM (up t1) key_l0 g2, dOf, f_isDn hp, f_getN2 hp key_o, hn, f_ixR (pr _) (L2.atI_nat gN), f_isDn hp2, f_getN2 hp2 key_o, hnv, key_o, hlt, hadd]
      refine ⟨⟨rgOk.of (by omega) (by omega), rgOk.of (by omega) (by omega)⟩, ?_⟩
      refine wp_forF (I := fun j e s => e = [some (.val (.tuple fs)), some (.loc b), some (.val (.tuple [.str n, .int i])), some (.val (.int ((N : Int) + 1))), some (.loc st0.length), some (.val (.str x)), some (.loc jj), none, none, none] ∧ ∃ kv, s = st0 ++ [.dn kv] ∧ Dd (KSp fs) kv ∧ ∀ g, ws g (toW kv) = ws g (toW kvs) + g oK * ws indO ((TT fs N).1 (x, 0)) + sm (fun j => ws (endN hs' (TT fs) (n, i) (N - (j + 1)) g) ((TT fs (j + 1)).1 (x, 0))) j) _ _ _ ⟨rfl, _, rfl, hd3, fun g => ?_⟩ ?_ ?_
      · rw [hw3 g]
        have : (nv : Int) = ws indO ((TT fs N).1 (x, 0)) := by
          have h1 := ws_at (k := oK) hhN.1.nd
          rw [hnv] at h1
          have h2 := hhN.2 indO
          have h3 : ws indO (toW kN) = (nv : Int) := h1
          rw [← h3, h2]
          rfl
        rw [this]
        show _ = _ + _ + 0
        omega
      · rintro j y env s hk2 ⟨rfl, kv, rfl, hd4, hw4⟩
        rw [List.getElem?_map] at hk2
        obtain ⟨u', hu', rfl⟩ := Option.map_eq_some_iff.mp hk2
        obtain ⟨hlt2, rfl⟩ : j < N ∧ u' = j := by
          obtain ⟨h1, h2⟩ := (List.getElem?_eq_some_iff.mp hu')
          rw [List.getElem_range] at h2
          exact ⟨by simpa using h1, h2.symm⟩
        obtain ⟨kj, gj, hhj⟩ := g4 (u' + 1) (by omega)
        have ej : (1 : Int) + (u' : Int) = ((u' + 1 : Nat) : Int) := by omega
        have el : (N : Int) - (1 + (u' : Int)) = ((N - (u' + 1) : Nat) : Int) := by omega
        have gat : atI xs ((1 : Int) + (u' : Int)) = some (.dd kj) := by rw [ej]; exact L2.atI_nat gj
        simp [f_ixR (pr _) gat]
        refine wp_mono (items_loopG (KS := KSp fs) (t := st0.length) (Bd := Dn 20) (H := endN hs' (TT fs) (n, i) (N - (u' + 1))) rfl (fun k2 v kv2 hd5 hkk hb => ?_) kj (hhj.its (TS_ok h (by omega) false _) (by omega)) kv hd4) ?_
        · rcases ks_cases hkk with rfl | hnk
          · have eo : oK.data = .tuple [] := rfl
            rw [eo]
            simp [PyData.eqv, PyData.eqvAll, PyData.depth, PyData.depthAll]
            refine ⟨hd5, fun g => ?_⟩
            unfold endN
            simp
          · have hno : k2 ≠ oK := by
              rcases hnk with rfl | ⟨y, rfl⟩
              · intro e; cases e
              · intro e; cases e
            have hei := end_into (st0 := st0) h how (by omega) ho hc hs hkk hno (left := N - (u' + 1)) (times := v) (Nat.sub_le _ _) hb hd5
            rw [hA2] at hei
            simp [eq_nilT hnk, dep_nil, e1, el]
            refine wp_mono hei ?_
            rintro d s ⟨rfl, kv6, rfl, hd6, hw6⟩
            simp
            refine ⟨hd6, fun g => ?_⟩
            rw [hw6 g]
            unfold endN
            rw [if_neg hno, Int.mul_comm]
        · rintro r s ⟨rfl, kv7, rfl, hd7, hw7⟩
          simp
          refine ⟨hd7, fun g => ?_⟩
          rw [hw7 g, hw4 g, hhj.2]
          show _ = _ + _ + (sm _ u' + _)
          simp only [TS]
          simp
          omega
      · rintro env s ⟨rfl, kv, rfl, hd4, hw4⟩
        simp
        refine ⟨hd4, fun g => ?_⟩
        have e2 : callW hs' (TT fs) (n, i) N (.str x) = (List.range (N + 1)).flatMap fun u => innW hs' (TT fs) (n, i) N x u := by
          show (if x = Str.ofString "" then _ else _) = _
          rw [if_neg hx0]
        rw [hw4 g, hw g, take_flat hk, ws_app, e2, call_sum]
        simp
        omega
  · rintro env s ⟨⟨x5, rfl⟩, kvs, rfl, hd, hw⟩
    have hfin : ∀ g, ws g (toW kvs) = ws g ((TT fs (N + 1)).1 (n, i)) := fun g => by
      rw [hw g, List.take_length, TT_succ]
      show _ = ws g ((lineA fs (n, i)).1.flatMap (callW (lineA fs (n, i)).2.2 (TT fs) (n, i) N))
      rw [show lineA fs (n, i) = (cs, ws', hs') from hA]
    have hg : (st0 ++ [O.dn kvs])[st0.length]? = some (.dn kvs) := by simp
    simp [f_lockM hg]
    exact ⟨hc, hd, hfin⟩
end
end Yk22
namespace Yk22
open PySem L2 B
def spF : PyData → List Sp
  | .tuple [.str n, .tuple rs] => (List.range rs.length).map fun i => (n, i)
  | _ => []
def sps (fs : List PyData) : List Sp := fs.flatMap spF
theorem sps_names : ∀ {fs : List PyData}, (∀ f ∈ fs, isFn f) → ∀ s ∈ sps fs, s.1 ∈ fs.flatMap nameF
  | [], _, s, h => by cases h
  | f :: fs, hf, s, h => by
    obtain ⟨n, rs, rfl⟩ := hf f (List.mem_cons_self ..)
    unfold sps at h
    rw [List.flatMap_cons] at h
    rcases List.mem_append.mp h with h | h
    · obtain ⟨i, _, rfl⟩ := List.mem_map.mp h
      exact List.mem_flatMap.mpr ⟨_, List.mem_cons_self .., by simp [nameF]⟩
    · have := sps_names (fun g hg => hf g (List.mem_cons_of_mem _ hg)) s h
      rw [List.flatMap_cons]
      exact List.mem_append_right _ this
theorem sps_nodup : ∀ {fs : List PyData}, (∀ f ∈ fs, isFn f) → (fs.flatMap nameF).Nodup → (sps fs).Nodup
  | [], _, _ => List.nodup_nil
  | f :: fs, hf, hn => by
    obtain ⟨n, rs, rfl⟩ := hf f (List.mem_cons_self ..)
    have hf' : ∀ g ∈ fs, isFn g := fun g hg => hf g (List.mem_cons_of_mem _ hg)
    rw [List.flatMap_cons] at hn
    have hn' : (n :: fs.flatMap nameF).Nodup := by simpa [nameF] using hn
    obtain ⟨h1, h2⟩ := List.nodup_cons.mp hn'
    unfold sps
    rw [List.flatMap_cons, List.nodup_append]
    refine ⟨?_, sps_nodup hf' h2, fun a ha b hb e => ?_⟩
    · show ((List.range rs.length).map fun i => (n, i)).Nodup
      unfold List.Nodup
      rw [List.pairwise_map]
      exact List.nodup_range.imp fun {a b} h e => h (Prod.mk.inj e).2
    · obtain ⟨i, _, rfl⟩ := List.mem_map.mp ha
      have := sps_names hf' b hb
      rw [← e] at this
      exact h1 this
theorem sps_ok {fs : List PyData} (h : PrgP fs) (how : Own fs) {s : Sp} : s ∈ sps fs ↔ SpOk fs s := by
  constructor
  · intro hs
    obtain ⟨f, hf, hs⟩ := List.mem_flatMap.mp hs
    obtain ⟨n, rs, rfl⟩ := h.fn f hf
    obtain ⟨i, hi, rfl⟩ := List.mem_map.mp hs
    exact ⟨rs, how.1 n rs hf, List.mem_range.mp hi⟩
  · rintro ⟨rs, hr, hi⟩
    exact List.mem_flatMap.mpr ⟨_, rows_mem h.fn hr, List.mem_map.mpr ⟨s.2, List.mem_range.mpr hi, rfl⟩⟩
theorem sps_len {fs : List PyData} (h : PrgP fs) (how : Own fs) : (sps fs).length ≤ 320 := by
  have h1 : (sps fs).length ≤ fs.length * 40 := flat_len fun f hf => by
    obtain ⟨n, rs, rfl⟩ := h.fn f hf
    obtain ⟨_, hl, _⟩ := h.rows n rs (how.1 n rs hf)
    show ((List.range rs.length).map fun i => (n, i)).length ≤ 40
    simpa using hl
  have := h.le
  omega
def b2 (bl : Bool) : Nat := if bl = true then 1 else 0
def ltX (st0 : Store) (xs : List PyData) (A : List (NestedKey × S1)) (ls : List O) : Store := st0 ++ (.lst xs :: .dm A :: ls)
abbrev ltS (st0 : Store) (ss : List Sp) (A : List (NestedKey × S1)) (ls : List O) : Store := ltX st0 (ss.map spotP) A ls
section
variable {st0 : Store} {xs ys : List PyData} {A B : List (NestedKey × S1)} {ls ms : List O}
theorem lx0 : (ltX st0 xs A ls)[st0.length]? = some (.lst xs) := by simp [ltX]
theorem lx1 : (ltX st0 xs A ls)[st0.length + 1]? = some (.dm A) := by simp [ltX, List.getElem?_append_right]
theorem lx2 {q : Nat} : (ltX st0 xs A ls)[st0.length + 2 + q]? = ls[q]? := by
  unfold ltX
  rw [List.getElem?_append_right (by omega), show st0.length + 2 + q - st0.length = q + 1 + 1 by omega]
  rfl
theorem lxs0 : (ltX st0 xs A ls).set st0.length (.lst ys) = ltX st0 ys A ls := by simp [ltX]
theorem lxs1 : (ltX st0 xs A ls).set (st0.length + 1) (.dm B) = ltX st0 xs B ls := by simp [ltX, List.set_append_right]
theorem lxs2 {q : Nat} {o : O} : (ltX st0 xs A ls).set (st0.length + 2 + q) o = ltX st0 xs A (ls.set q o) := by
  unfold ltX
  rw [List.set_append_right _ _ (by omega), show st0.length + 2 + q - st0.length = q + 1 + 1 by omega]
  rfl
theorem lxp : ltX st0 xs A ls ++ ms = ltX st0 xs A (ls ++ ms) := by simp [ltX]
theorem lxl : (ltX st0 xs A ls).length = st0.length + 2 + ls.length := by simp [ltX]; omega
end
def dO : List (NestedKey × PyData) := [(oK, .int 1)]
structure PT (st0 : Store) (ss : List Sp) (A : List (NestedKey × S1)) (n : Nat) : Prop where
  tb : ∀ idx s, ss[idx]? = some s → ∀ bl, getA A (lkey s bl) = some (.l (st0.length + 2 + (2 * idx + b2 bl)))
  al : ∀ p ∈ A, ∃ j, p.2 = .l j ∧ j < st0.length + 2 + n
  la : A.length ≤ 2 * ss.length
  ln : n = 2 * ss.length
theorem PT.step {st0 : Store} {ss : List Sp} {A : List (NestedKey × S1)} {n : Nat} (h : PT st0 ss A n) {s : Sp} (hs : s ∉ ss) : PT st0 (ss ++ [s]) (putA (putA A (lkey s false) (.l (st0.length + 2 + n))) (lkey s true) (.l (st0.length + 2 + (n + 1)))) (n + 2) := by
  have hn := h.ln
  refine ⟨fun idx t ht bl => ?_, fun p hp => ?_, ?_, by rw [List.length_append]; simp; omega⟩
  · rw [getA_put, getA_put]
    by_cases hi : idx < ss.length
    · rw [List.getElem?_append_left hi] at ht
      have hts : t ≠ s := fun e => hs (by rw [← e]; exact List.mem_of_getElem? ht)
      rw [if_neg fun e => hts (lkey_inj e).1.symm, if_neg fun e => hts (lkey_inj e).1.symm]
      exact h.tb idx t ht bl
    · obtain ⟨rfl, rfl⟩ : idx = ss.length ∧ t = s := by
        rw [List.getElem?_append_right (by omega)] at ht
        have := (List.getElem?_eq_some_iff.mp ht)
        obtain ⟨h1, h2⟩ := this
        have h3 : idx - ss.length = 0 := by simp at h1; omega
        refine ⟨by omega, ?_⟩
        simp [h3] at h2
        exact h2.symm
      cases bl
      · rw [if_neg (fun e => by have := (lkey_inj e).2; cases this), if_pos rfl]
        simp [b2]; omega
      · rw [if_pos rfl]
        simp [b2]; omega
  · rcases putA_mem hp with hp | e
    · rcases putA_mem hp with hp | e
      · obtain ⟨j, e, hj⟩ := h.al p hp
        exact ⟨j, e, by omega⟩
      · exact ⟨_, e, by omega⟩
    · exact ⟨_, e, by omega⟩
  · have h1 := putA_len (k := lkey s false) (d := .l (st0.length + 2 + n)) (kvs := A)
    have h2 := putA_len (k := lkey s true) (d := .l (st0.length + 2 + (n + 1))) (kvs := putA A (lkey s false) (.l (st0.length + 2 + n)))
    have h3 := h.la
    rw [List.length_append]
    simp only [List.length_cons, List.length_nil]
    omega
section
variable {fs : List PyData} {st0 : Store}
theorem counts_start (h : PrgP fs) (how : Own fs) (hnd : (fs.flatMap nameF).Nodup) {M : Int} :
    wpx noE (forF (fun x env => bd (setT 2 (setsCons (setV 4) (setsCons (setV 5) setsNil)) (D.val x) env) (killS [4, 5, 6] (forS 100000 (rngI (aCons (callF lenF (aCons (gv 5) aNil)) aNil)) (setV 6) (killS [6] (seqS (dropS (methL appF (gv 2) (aCons (tupE (aCons (gv 4) (aCons (gv 6) aNil))) aNil)))
  (seqS (dputM (gv 3) (tupE (aCons (tupE (aCons (gv 4) (aCons (gv 6) aNil))) (aCons (cD (.val (.bool false))) aNil))) (newLr (aCons (dispV (pCons (tupE aNil) (cD (.val (.int 1))) pNil)) aNil)))
  (dputM (gv 3) (tupE (aCons (tupE (aCons (gv 4) (aCons (gv 6) aNil))) (aCons (cD (.val (.bool true))) aNil))) (newLr (aCons (dispV (pCons (tupE aNil) (cD (.val (.int 1))) pNil)) aNil))))))))) fs
      [some (.val (.tuple fs)), some (.val (.int M)), some (.loc st0.length), some (.loc (st0.length + 1)), none, none, none, none, none, none, none, none] (ltS st0 [] [] [])) fun r s => r = .nx [some (.val (.tuple fs)), some (.val (.int M)), some (.loc st0.length), some (.loc (st0.length + 1)), none, none, none, none, none, none, none, none] ∧
      ∃ A, s = ltS st0 (sps fs) A (List.replicate (2 * (sps fs).length) (.lr [.dd dO])) ∧ PT st0 (sps fs) A (2 * (sps fs).length) := by
  have hND := sps_nodup h.fn hnd
  have hL := sps_len h how
  refine wp_forF (I := fun k e s => e = [some (.val (.tuple fs)), some (.val (.int M)), some (.loc st0.length), some (.loc (st0.length + 1)), none, none, none, none, none, none, none, none] ∧ ∃ A, s = ltS st0 (sps (fs.take k)) A (List.replicate (2 * (sps (fs.take k)).length) (.lr [.dd dO])) ∧ PT st0 (sps (fs.take k)) A (2 * (sps (fs.take k)).length)) _ _ _ ⟨rfl, [], rfl, ⟨fun idx s e => (by cases e), fun p hp => (by cases hp), Nat.zero_le _, rfl⟩⟩ ?_ ?_
  · rintro k f env s hk ⟨rfl, A, rfl, hp⟩
    obtain ⟨n, rs, rfl⟩ := h.fn f (List.mem_of_getElem? hk)
    have htk : sps (fs.take (k + 1)) = sps (fs.take k) ++ (List.range rs.length).map fun i => (n, i) := take_flat (f := spF) hk
    have hpre : ∀ j, j ≤ rs.length → (sps (fs.take k) ++ (List.range j).map fun i => (n, i)).Nodup ∧ (sps (fs.take k) ++ (List.range j).map fun i => (n, i)).length ≤ 320 := fun j hj => by
      have e1 : sps fs = sps (fs.take (k + 1)) ++ sps (fs.drop (k + 1)) := by
        unfold sps; rw [← List.flatMap_append, List.take_append_drop]
      have sub : (sps (fs.take k) ++ (List.range j).map fun i => (n, i)).Sublist (sps fs) := by
        rw [e1, htk]
        refine List.Sublist.trans ?_ (List.sublist_append_left _ _)
        refine List.Sublist.append (List.Sublist.refl _) (List.Sublist.map _ ?_)
        exact List.range_sublist.mpr hj
      exact ⟨hND.sublist sub, Nat.le_trans sub.length_le hL⟩
    have hrl : rs.length ≤ 320 := by have := (hpre rs.length (Nat.le_refl _)).2; simp at this; omega
    simp
    refine ⟨rgOk.of (by omega) (by omega), ?_⟩
    refine wp_forF (I := fun j e s => e = [some (.val (.tuple fs)), some (.val (.int M)), some (.loc st0.length), some (.loc (st0.length + 1)), some (.val (.str n)), some (.val (.tuple rs)), none, none, none, none, none, none] ∧ ∃ A, s = ltS st0 (sps (fs.take k) ++ (List.range j).map fun i => (n, i)) A (List.replicate (2 * (sps (fs.take k) ++ (List.range j).map fun i => (n, i)).length) (.lr [.dd dO])) ∧ PT st0 (sps (fs.take k) ++ (List.range j).map fun i => (n, i)) A (2 * (sps (fs.take k) ++ (List.range j).map fun i => (n, i)).length)) _ _ _ ⟨rfl, A, by simp, by simpa using hp⟩ ?_ ?_
    · rintro j y env s hk2 ⟨rfl, A, rfl, hp⟩
      rw [List.getElem?_map] at hk2
      obtain ⟨u', hu', rfl⟩ := Option.map_eq_some_iff.mp hk2
      obtain ⟨hlt, rfl⟩ : j < rs.length ∧ u' = j := by
        obtain ⟨h1, h2⟩ := (List.getElem?_eq_some_iff.mp hu')
        rw [List.getElem_range] at h2
        exact ⟨by simpa using h1, h2.symm⟩
      have hnx := (hpre (u' + 1) hlt)
      rw [List.range_succ, List.map_append, ← List.append_assoc] at hnx ⊢
      generalize hss : sps (fs.take k) ++ (List.range u').map (fun i => (n, i)) = ss at hp hnx ⊢
      have hnew : (n, u') ∉ ss := by
        have := (List.nodup_append.mp hnx.1).2.2
        intro hm
        exact this _ hm _ (by simp) rfl
      have hlen : ss.length ≤ 320 := by have := hnx.2; simp at this; omega
      have hst := hp.step hnew
      have hla := hp.la
      have p1 := putA_len (k := lkey (n, u') false) (d := .l (st0.length + 2 + 2 * ss.length)) (kvs := A)
      have c1 : A.length < sizeLine := by rw [sizeLine_eq]; omega
      have c2 : (putA A (lkey (n, u') false) (.l (st0.length + 2 + 2 * ss.length))).length < sizeLine := by rw [sizeLine_eq]; omega
      have hnl : ∀ kvs, sQs [D.dv kvs] = some [.dd kvs] := fun kvs => rfl
      have e3 : List.map spotP ss ++ [PyData.tuple [.str n, .int u']] = List.map spotP (ss ++ [(n, u')]) := by simp [spotP]
      have hl3 : ss.length < 16777216 := by omega
      simp [lx0, lxs0, hl3, f_newDv key_o, f_newLr (hnl _), lxp, lxl, e3]
      rw [f_dputMk (d := .l (st0.length + 2 + 2 * ss.length)) rfl lx1 key_l c1]
      simp [f_newDv key_o, f_newLr (hnl _), lxp, lxl, lxs1]
      rw [f_dputMk (d := .l (st0.length + 2 + (2 * ss.length + 1))) rfl lx1 key_l c2]
      simp [lxs1]
      have er : List.replicate (2 * ss.length) (O.lr [S1.dd dO]) ++ [O.lr [S1.dd [(oK, PyData.int 1)]], O.lr [S1.dd [(oK, PyData.int 1)]]] = List.replicate (2 * (ss.length + 1)) (O.lr [S1.dd dO]) := by
        rw [show 2 * (ss.length + 1) = 2 * ss.length + 2 by omega, ← List.replicate_append_replicate]
        rfl
      have e4 : (ss ++ [(n, u')]).length = ss.length + 1 := by simp
      refine ⟨_, ?_, by rw [← show 2 * ss.length + 2 = 2 * (ss.length + 1) by omega]; exact hst⟩
      rw [er]
      simp [ltS]
    · rintro env s ⟨rfl, A, rfl, hp⟩
      have el : (List.map (fun i : Nat => PyData.int (i : Int)) (List.range rs.length)).length = rs.length := by simp
      rw [el, ← htk] at hp ⊢
      simp
      exact ⟨A, rfl, hp⟩
  · rintro env s ⟨rfl, A, rfl, hp⟩
    rw [List.take_length] at hp ⊢
    exact ⟨rfl, A, rfl, hp⟩
end
end Yk22
namespace Yk22
open PySem L2 B
theorem lcOR_map {g : D → B.Env → M B.Env} {fe : B.Env → M D} {n : Nat} {env : B.Env} {st : Store} {xs : List PyData} (hst : st[n]? = some (.lst xs)) {F : Nat → List (NestedKey × PyData) → Prop} (hx : ∀ i x, xs[i]? = some x → ∃ env' kv, g (.val x) env st = .ok env' st ∧ fe env' st = .ok (.dv kv) st ∧ F i kv) (hl : xs.length ≤ 320) :
    ∀ (m i : Nat) (acc : List S1), xs.length + 1 ≤ m + i → i ≤ xs.length → acc.length = i → (∀ j, j < i → ∃ kv, acc[j]? = some (.dd kv) ∧ F j kv) →
    ∃ ys, lcOR g (lcInR yesT fe) n env m i acc st = .ok ys st ∧ ys.length = xs.length ∧ ∀ j, j < xs.length → ∃ kv, ys[j]? = some (.dd kv) ∧ F j kv := by
  intro m
  induction m with
  | zero => intro i acc h1 h2; omega
  | succ m ih =>
    intro i acc h1 h2 h3 h4
    unfold lcOR
    simp only [hst]
    cases hi : xs[i]? with
    | none =>
      have : xs.length ≤ i := List.getElem?_eq_none_iff.mp hi
      obtain rfl : i = xs.length := by omega
      exact ⟨acc, rfl, h3, h4⟩
    | some x =>
      obtain ⟨env', kv, e1, e2, e3⟩ := hx i x hi
      have hil := (List.getElem?_eq_some_iff.mp hi).1
      simp only
      rw [bd_ok (noX_k e1)]
      have e4 : lcInR yesT fe env' acc st = .ok (acc ++ [.dd kv]) st := by
        show bd (noX (yesT env')) _ st = _
        rw [bd_ok (noX_k (show yesT env' st = .ok true st from rfl)), if_pos rfl, bd_ok (noX_k e2)]
        simp only
        rw [if_pos (by rw [sizeLine_eq]; omega)]
        rfl
      rw [bd_ok e4]
      refine ih (i + 1) (acc ++ [.dd kv]) (by omega) (by omega) (by simp [h3]) fun j hj => ?_
      by_cases hji : j < i
      · rw [List.getElem?_append_left (by omega)]
        exact h4 j hji
      · obtain rfl : j = i := by omega
        exact ⟨kv, by rw [List.getElem?_append_right (by omega), h3]; simp, e3⟩
structure CT (fs : List PyData) (ls : List O) (len : Nat → Nat) : Prop where
  at' : ∀ idx s, (sps fs)[idx]? = some s → ∀ bl, ∃ xs, ls[2 * idx + b2 bl]? = some (.lr xs) ∧ xs.length = len idx ∧ ∀ u, u < len idx → ∃ kvs, xs[u]? = some (.dd kvs) ∧ Holds (KSp fs) kvs (TS fs bl u s)
  ok : ∀ o ∈ ls, ∃ xs, o = .lr xs ∧ ∀ x ∈ xs, ∃ kvs, x = S1.dd kvs
section
variable {fs : List PyData} {st0 : Store} {A : List (NestedKey × S1)} {ls : List O} {len : Nat → Nat}
theorem CT.lo (h : PrgP fs) (how : Own fs) (c : CT fs ls len) {n : Nat} (p : PT st0 (sps fs) A n) {xs : List PyData} {N : Nat} (hN : ∀ i, N < len i) : LO fs N (ltX st0 xs A ls) (st0.length + 1) := by
  refine ⟨A, lx1, fun s hs bl => ?_⟩
  obtain ⟨idx, hidx⟩ := List.getElem?_of_mem ((sps_ok h how).mpr hs)
  obtain ⟨ys, e1, e2, e3⟩ := c.at' idx s hidx bl
  exact ⟨_, ys, p.tb idx s hidx bl, by rw [lx2]; exact e1, fun u hu => e3 u (Nat.lt_of_le_of_lt hu (hN idx))⟩
theorem CT.cl (c : ∀ o ∈ ls, ∃ xs, o = O.lr xs ∧ ∀ x ∈ xs, ∃ kvs, x = S1.dd kvs) {n : Nat} {ss : List Sp} (p : PT st0 ss A n) (hn : n ≤ ls.length) (hc : Cl st0) {xs : List PyData} : Cl (ltX st0 xs A ls) := by
  refine Cl.app hc fun o ho => ?_
  rcases List.mem_cons.mp ho with rfl | ho
  · rfl
  rcases List.mem_cons.mp ho with rfl | ho
  · refine List.all_eq_true.mpr fun q hq => ?_
    obtain ⟨j, e, hj⟩ := p.al q hq
    rw [e]
    simp only [s1Ok, decide_eq_true_eq, List.length_cons]
    omega
  · obtain ⟨ys, rfl, hy⟩ := c o ho
    refine List.all_eq_true.mpr fun q hq => ?_
    obtain ⟨kvs, rfl⟩ := hy q hq
    rfl
theorem CT.more (c : CT fs ls len) {ms : List O} (hm : ∀ o ∈ ms, ∃ xs, o = O.lr xs ∧ ∀ x ∈ xs, ∃ kvs, x = S1.dd kvs) : CT fs (ls ++ ms) len := by
  refine ⟨fun idx s hs bl => ?_, fun o ho => (List.mem_append.mp ho).elim (c.ok o) (hm o)⟩
  obtain ⟨xs, e1, e2⟩ := c.at' idx s hs bl
  exact ⟨xs, by rw [List.getElem?_append_left (List.getElem?_eq_some_iff.mp e1).1]; exact e1, e2⟩
theorem CT.grow (c : CT fs ls len) {idx : Nat} {s : Sp} (hs : (sps fs)[idx]? = some s) {xs ys : List S1} (hx : ls[2 * idx]? = some (.lr xs)) (hy : ls[2 * idx + 1]? = some (.lr ys)) {k1 k2 : List (NestedKey × PyData)} (h1 : Holds (KSp fs) k1 (TS fs false (len idx) s)) (h2 : Holds (KSp fs) k2 (TS fs true (len idx) s)) :
    CT fs ((ls.set (2 * idx) (.lr (xs ++ [.dd k1]))).set (2 * idx + 1) (.lr (ys ++ [.dd k2]))) (fun i => if i = idx then len idx + 1 else len i) := by
  have hl1 := (List.getElem?_eq_some_iff.mp hx).1
  have hl2 := (List.getElem?_eq_some_iff.mp hy).1
  refine ⟨fun i t ht bl => ?_, fun o ho => ?_⟩
  · obtain ⟨zs, e1, e2, e3⟩ := c.at' i t ht bl
    by_cases hi : i = idx
    · subst hi
      rw [hs] at ht
      cases ht
      rw [if_pos rfl]
      have app : ∀ {w : List S1} {k : List (NestedKey × PyData)}, w.length = len i → (∀ u, u < len i → ∃ kvs, w[u]? = some (.dd kvs) ∧ Holds (KSp fs) kvs (TS fs bl u s)) → Holds (KSp fs) k (TS fs bl (len i) s) → (w ++ [S1.dd k]).length = len i + 1 ∧ ∀ u, u < len i + 1 → ∃ kvs, (w ++ [S1.dd k])[u]? = some (.dd kvs) ∧ Holds (KSp fs) kvs (TS fs bl u s) := fun {w k} hw hall hk => by
        refine ⟨by simp [hw], fun u hu => ?_⟩
        by_cases hul : u < len i
        · rw [List.getElem?_append_left (by omega)]
          exact hall u hul
        · obtain rfl : u = len i := by omega
          exact ⟨k, by rw [List.getElem?_append_right (by omega), hw]; simp, hk⟩
      cases bl
      · have e1' : ls[2 * i]? = some (.lr zs) := e1
        rw [hx] at e1'
        cases e1'
        refine ⟨xs ++ [.dd k1], ?_, app e2 e3 h1⟩
        show (((ls.set (2 * i) _).set (2 * i + 1) _))[2 * i + 0]? = _
        rw [List.getElem?_set_ne (by omega), Nat.add_zero, List.getElem?_set_self hl1]
      · have e1' : ls[2 * i + 1]? = some (.lr zs) := e1
        rw [hy] at e1'
        cases e1'
        refine ⟨ys ++ [.dd k2], ?_, app e2 e3 h2⟩
        show (((ls.set (2 * i) _).set (2 * i + 1) _))[2 * i + 1]? = _
        rw [List.getElem?_set_self (by simpa using hl2)]
    · rw [if_neg hi]
      refine ⟨zs, ?_, e2, e3⟩
      have hb : b2 bl ≤ 1 := by cases bl <;> simp [b2]
      rw [List.getElem?_set_ne (by omega), List.getElem?_set_ne (by omega)]
      exact e1
  · have okx : ∀ {q : Nat} {w : List S1} {k : List (NestedKey × PyData)}, ls[q]? = some (.lr w) → ∀ x ∈ w ++ [S1.dd k], ∃ kvs, x = S1.dd kvs := fun {q w k} hq x hxm => by
      obtain ⟨w', e, hw⟩ := c.ok _ (List.mem_of_getElem? hq)
      cases e
      rcases List.mem_append.mp hxm with hxm | hxm
      · exact hw x hxm
      · exact ⟨k, List.mem_singleton.mp hxm⟩
    rcases List.mem_or_eq_of_mem_set ho with ho | rfl
    · rcases List.mem_or_eq_of_mem_set ho with ho | rfl
      · exact c.ok o ho
      · exact ⟨_, rfl, okx hx⟩
    · exact ⟨_, rfl, okx hy⟩
end
end Yk22
namespace Yk22
open PySem L2 B
section
variable {fs : List PyData} {st0 : Store} {A : List (NestedKey × S1)}
theorem round_cells {f : List D → M D} {ls : List O} {N : Nat} {a1 a4 a5 a6 a8 a9 a10 a11 : Option D} {env : B.Env} (bl : Bool) (h : PrgP fs) (how : Own fs)
    (hf : ∀ n i, SpOk fs (n, i) → ∃ kvs, f [.val (.tuple fs), .loc (st0.length + 1), .val (.tuple [.str n, .int i]), .val (.int ((N : Int) + 1))] (ltX st0 ((sps fs).map spotP) A ls) = .ok (.dv kvs) (ltX st0 ((sps fs).map spotP) A ls) ∧ Holds (KSp fs) kvs (TS fs bl (N + 1) (n, i)))
    (he : env = [some (.val (.tuple fs)), a1, some (.loc st0.length), some (.loc (st0.length + 1)), a4, a5, a6, some (.val (.int ((N : Int) + 1))), a8, a9, a10, a11]) :
    ∃ ys : List S1, lrObj (lcSR 100000 [10] (anyI (gv 2)) (setV 10) yesT (callF f (aCons (gv 0) (aCons (gv 3) (aCons (gv 10) (aCons (gv 7) aNil)))))) env (ltX st0 ((sps fs).map spotP) A ls) = .ok (.loc (st0.length + 2 + ls.length)) (ltX st0 ((sps fs).map spotP) A (ls ++ [.lr ys])) ∧ ys.length = (sps fs).length ∧
      ∀ (idx : Nat) (s : Sp), (sps fs)[idx]? = some s → ∃ kv, (ys : List S1)[idx]? = some (S1.dd kv) ∧ Holds (KSp fs) kv (TS fs bl (N + 1) s) := by
  subst he
  have hL := sps_len h how
  obtain ⟨ys, h1, h2, h3⟩ := lcOR_map (g := setV 10) (fe := callF f (aCons (gv 0) (aCons (gv 3) (aCons (gv 10) (aCons (gv 7) aNil))))) (n := st0.length) (env := kill [10] [some (.val (.tuple fs)), a1, some (.loc st0.length), some (.loc (st0.length + 1)), a4, a5, a6, some (.val (.int ((N : Int) + 1))), a8, a9, a10, a11]) (st := ltX st0 ((sps fs).map spotP) A ls) (xs := (sps fs).map spotP) lx0
    (F := fun i kv => ∃ s, (sps fs)[i]? = some s ∧ Holds (KSp fs) kv (TS fs bl (N + 1) s)) (fun i x hx => by
      rw [List.getElem?_map] at hx
      obtain ⟨s, hs, rfl⟩ := Option.map_eq_some_iff.mp hx
      obtain ⟨n, k⟩ := s
      have hsp := (sps_ok h how).mp (List.mem_of_getElem? hs)
      obtain ⟨kvs, e, hh⟩ := hf n k hsp
      refine ⟨(kill [10] [some (.val (.tuple fs)), a1, some (.loc st0.length), some (.loc (st0.length + 1)), a4, a5, a6, some (.val (.int ((N : Int) + 1))), a8, a9, a10, a11]).set 10 (some (.val (.tuple [.str n, .int k]))), kvs, rfl, ?_, (n, k), hs, hh⟩
      refine of_wp ?_
      simp [kill, e]) (by simpa using hL) 100000 0 [] (by simp; omega) (Nat.zero_le _) rfl (fun j hj => absurd hj (Nat.not_lt_zero j))
  refine ⟨ys, ?_, by simpa using h2, fun idx s hs => ?_⟩
  · have ea : anyI (gv 2) [some (.val (.tuple fs)), a1, some (.loc st0.length), some (.loc (st0.length + 1)), a4, a5, a6, some (.val (.int ((N : Int) + 1))), a8, a9, a10, a11] (ltX st0 ((sps fs).map spotP) A ls) = .ok (.obj st0.length) (ltX st0 ((sps fs).map spotP) A ls) := by
      show bd (gv 2 _) _ _ = _
      have : gv 2 [some (.val (.tuple fs)), a1, some (.loc st0.length), some (.loc (st0.length + 1)), a4, a5, a6, some (.val (.int ((N : Int) + 1))), a8, a9, a10, a11] (ltX st0 ((sps fs).map spotP) A ls) = .ok (.loc st0.length) (ltX st0 ((sps fs).map spotP) A ls) := of_wp (by simp)
      rw [bd_ok this]
      unfold srcOf
      simp only [lx0]
    show bd (lcSR 100000 [10] (anyI (gv 2)) (setV 10) yesT (callF f (aCons (gv 0) (aCons (gv 3) (aCons (gv 10) (aCons (gv 7) aNil))))) _) _ _ = _
    have eb : lcSR 100000 [10] (anyI (gv 2)) (setV 10) yesT (callF f (aCons (gv 0) (aCons (gv 3) (aCons (gv 10) (aCons (gv 7) aNil))))) [some (.val (.tuple fs)), a1, some (.loc st0.length), some (.loc (st0.length + 1)), a4, a5, a6, some (.val (.int ((N : Int) + 1))), a8, a9, a10, a11] (ltX st0 ((sps fs).map spotP) A ls) = .ok ys (ltX st0 ((sps fs).map spotP) A ls) := by
      show bd (anyI (gv 2) _) _ _ = _
      rw [bd_ok ea]
      exact noX_k h1
    rw [bd_ok eb]
    show Res.ok _ _ = _
    rw [lxp, lxl]
  · have hi : idx < ((sps fs).map spotP).length := by rw [List.length_map]; exact (List.getElem?_eq_some_iff.mp hs).1
    obtain ⟨kv, e1, s', hs', hh⟩ := h3 idx hi
    rw [hs] at hs'
    cases hs'
    exact ⟨kv, e1, hh⟩
end
end Yk22
namespace Yk22
open PySem L2 B
section
variable {fs : List PyData} {st0 : Store} {A : List (NestedKey × S1)}
theorem TS_t {u : Nat} {s : Sp} : TS fs true u s = (TT fs u).2 s := by unfold TS; rw [if_pos rfl]
theorem TS_f {u : Nat} {s : Sp} : TS fs false u s = (TT fs u).1 s := by unfold TS; rw [if_neg Bool.false_ne_true]
theorem calls_round (h : PrgP fs) (how : Own fs) {ls : List O} {N : Nat} (hN : N < 20) (hlo : LO fs N (ltX st0 ((sps fs).map spotP) A ls) (st0.length + 1)) (hcl : Cl (ltX st0 ((sps fs).map spotP) A ls)) (a1 a4 a5 a6 a8 a9 a10 a11 : Option D) :
    ∃ ys : List S1, lrObj (lcSR 100000 [10] (anyI (gv 2)) (setV 10) yesT (callF m__law_call_cell (aCons (gv 0) (aCons (gv 3) (aCons (gv 10) (aCons (gv 7) aNil)))))) [some (.val (.tuple fs)), a1, some (.loc st0.length), some (.loc (st0.length + 1)), a4, a5, a6, some (.val (.int ((N : Int) + 1))), a8, a9, a10, a11] (ltX st0 ((sps fs).map spotP) A ls) = .ok (.loc (st0.length + 2 + ls.length)) (ltX st0 ((sps fs).map spotP) A (ls ++ [.lr ys])) ∧ ys.length = (sps fs).length ∧
      ∀ (idx : Nat) (s : Sp), (sps fs)[idx]? = some s → ∃ kv, (ys : List S1)[idx]? = some (S1.dd kv) ∧ Holds (KSp fs) kv (TS fs false (N + 1) s) :=
  round_cells (st0 := st0) (A := A) (f := m__law_call_cell) (ls := ls) (N := N) false h how (fun n i hs => by
    obtain ⟨kvs, e, hh⟩ := call_cell h how hN hlo hcl hs
    exact ⟨kvs, e, by rw [TS_f]; exact hh⟩) rfl
theorem dues_round (h : PrgP fs) (how : Own fs) {ls : List O} {N : Nat} (hN : N < 20) (hlo : LO fs N (ltX st0 ((sps fs).map spotP) A ls) (st0.length + 1)) (hcl : Cl (ltX st0 ((sps fs).map spotP) A ls)) (a1 a4 a5 a6 a8 a9 a10 a11 : Option D) :
    ∃ ys : List S1, lrObj (lcSR 100000 [10] (anyI (gv 2)) (setV 10) yesT (callF m__law_due_cell (aCons (gv 0) (aCons (gv 3) (aCons (gv 10) (aCons (gv 7) aNil)))))) [some (.val (.tuple fs)), a1, some (.loc st0.length), some (.loc (st0.length + 1)), a4, a5, a6, some (.val (.int ((N : Int) + 1))), a8, a9, a10, a11] (ltX st0 ((sps fs).map spotP) A ls) = .ok (.loc (st0.length + 2 + ls.length)) (ltX st0 ((sps fs).map spotP) A (ls ++ [.lr ys])) ∧ ys.length = (sps fs).length ∧
      ∀ (idx : Nat) (s : Sp), (sps fs)[idx]? = some s → ∃ kv, (ys : List S1)[idx]? = some (S1.dd kv) ∧ Holds (KSp fs) kv (TS fs true (N + 1) s) :=
  round_cells (st0 := st0) (A := A) (f := m__law_due_cell) (ls := ls) (N := N) true h how (fun n i hs => by
    obtain ⟨kvs, e, hh⟩ := due_cell h how hN hlo hcl hs
    exact ⟨kvs, e, by rw [TS_t]; exact hh⟩) rfl
end
end Yk22
namespace Yk22
open PySem L2 B
section
variable {fs : List PyData} {st0 : Store} {A : List (NestedKey × S1)}
theorem grow_loop (h : PrgP fs) (how : Own fs) {n : Nat} (hp : PT st0 (sps fs) A n) {ls : List O} {N : Nat} (hct : CT fs ls (fun _ => N + 1)) {ys zs : List S1} (hy : ∀ (idx : Nat) (s : Sp), (sps fs)[idx]? = some s → ∃ kv, ys[idx]? = some (S1.dd kv) ∧ Holds (KSp fs) kv (TS fs false (N + 1) s)) (hz : ∀ (idx : Nat) (s : Sp), (sps fs)[idx]? = some s → ∃ kv, zs[idx]? = some (S1.dd kv) ∧ Holds (KSp fs) kv (TS fs true (N + 1) s)) (hN : N < 20) {a1 a4 a5 x10 a11 : Option D} {a7 : D} :
    wpx noE (forXo (fun x env => bd (setT 2 (setsCons (setV 6) (setsCons (setV 10) setsNil)) x env) (killS [6] (seqS (dropS (methR appQ (op2 dgetM (gv 3) (tupE (aCons (gv 10) (aCons (cD (.val (.bool false))) aNil)))) (aCons (op2 ixRF (gv 8) (gv 6)) aNil)))
      (dropS (methR appQ (op2 dgetM (gv 3) (tupE (aCons (gv 10) (aCons (cD (.val (.bool true))) aNil)))) (aCons (op2 ixRF (gv 9) (gv 6)) aNil)))))) (enAt st0.length) 100000 0
      [some (.val (.tuple fs)), a1, some (.loc st0.length), some (.loc (st0.length + 1)), a4, a5, none, some a7, some (.loc (st0.length + 2 + ls.length)), some (.loc (st0.length + 2 + (ls.length + 1))), x10, a11] (ltX st0 ((sps fs).map spotP) A (ls ++ [.lr ys, .lr zs])))
      fun r s => ∃ x10, r = .nx [some (.val (.tuple fs)), a1, some (.loc st0.length), some (.loc (st0.length + 1)), a4, a5, none, some a7, some (.loc (st0.length + 2 + ls.length)), some (.loc (st0.length + 2 + (ls.length + 1))), x10, a11] ∧ ∃ ls', s = ltX st0 ((sps fs).map spotP) A (ls' ++ [.lr ys, .lr zs]) ∧ ls'.length = ls.length ∧ CT fs ls' (fun _ => N + 2) := by
  have hL := sps_len h how
  refine wp_forX (n := (sps fs).length) (I := fun k e s => (∃ x10, e = [some (.val (.tuple fs)), a1, some (.loc st0.length), some (.loc (st0.length + 1)), a4, a5, none, some a7, some (.loc (st0.length + 2 + ls.length)), some (.loc (st0.length + 2 + (ls.length + 1))), x10, a11]) ∧ ∃ ls', s = ltX st0 ((sps fs).map spotP) A (ls' ++ [.lr ys, .lr zs]) ∧ ls'.length = ls.length ∧ CT fs ls' (fun i => if i < k then N + 2 else N + 1)) ?_ ?_ 100000 0 _ _ ⟨⟨x10, rfl⟩, ls, rfl, rfl, ?_⟩ (Nat.zero_le _) (by omega)
  · rintro k env s ⟨⟨x, rfl⟩, ls', rfl, hlen, hc⟩ hk
    refine ⟨fun e => ?_, fun hlt => ?_⟩
    · rw [enAt_at lx0, List.getElem?_eq_none (by rw [List.length_map]; omega)]
      rfl
    · obtain ⟨sp, hs⟩ : ∃ sp, (sps fs)[k]? = some sp := ⟨_, List.getElem?_eq_getElem hlt⟩
      obtain ⟨n1, i1⟩ := sp
      have hx : ((sps fs).map spotP)[k]? = some (.tuple [.str n1, .int i1]) := by rw [List.getElem?_map, hs]; rfl
      refine ⟨.val (.tuple [.int k, .tuple [.str n1, .int i1]]), by rw [enAt_at lx0, hx]; rfl, ?_⟩
      obtain ⟨xs1, g1, l1, _⟩ := hc.at' k _ hs false
      obtain ⟨xs2, g2, l2, _⟩ := hc.at' k _ hs true
      rw [if_neg (Nat.lt_irrefl k)] at l1 l2
      obtain ⟨kv1, q1, q2⟩ := hy k _ hs
      obtain ⟨kv2, p1, p2⟩ := hz k _ hs
      have t1 := hp.tb k _ hs false
      have t2 := hp.tb k _ hs true
      have b1 : b2 false = 0 := rfl
      have b3 : b2 true = 1 := rfl
      rw [b1, Nat.add_zero] at g1 t1
      rw [b3] at g2 t2
      have hl1 := (List.getElem?_eq_some_iff.mp g1).1
      have hl2 := (List.getElem?_eq_some_iff.mp g2).1
      have pr1 : prtR (ltX st0 ((sps fs).map spotP) A (ls' ++ [.lr ys, .lr zs])) (.loc (st0.length + 2 + 2 * k)) = some xs1 := by
        simp only [prtR, lx2]
        rw [List.getElem?_append_left hl1, g1]
      have pc1 : prtR (ltX st0 ((sps fs).map spotP) A (ls' ++ [.lr ys, .lr zs])) (.loc (st0.length + 2 + ls.length)) = some ys := by
        simp only [prtR, lx2]
        rw [← hlen, List.getElem?_append_right (Nat.le_refl _), Nat.sub_self]
        rfl
      let l3 := ls'.set (2 * k) (.lr (xs1 ++ [.dd kv1]))
      have set1 : (ltX st0 ((sps fs).map spotP) A (ls' ++ [.lr ys, .lr zs])).set (st0.length + 2 + 2 * k) (.lr (xs1 ++ [.dd kv1])) = ltX st0 ((sps fs).map spotP) A (l3 ++ [.lr ys, .lr zs]) := by
        rw [lxs2, List.set_append_left _ _ hl1]
      have hl3 : l3.length = ls.length := by simp [l3, hlen]
      have pr2 : prtR (ltX st0 ((sps fs).map spotP) A (l3 ++ [.lr ys, .lr zs])) (.loc (st0.length + 2 + (2 * k + 1))) = some xs2 := by
        simp only [prtR, lx2]
        rw [List.getElem?_append_left (by rw [hl3, ← hlen]; exact hl2), List.getElem?_set_ne (by omega), g2]
      have pc2 : prtR (ltX st0 ((sps fs).map spotP) A (l3 ++ [.lr ys, .lr zs])) (.loc (st0.length + 2 + (ls.length + 1))) = some zs := by
        simp only [prtR, lx2]
        rw [← hl3, List.getElem?_append_right (by omega), show l3.length + 1 - l3.length = 1 by omega]
        rfl
      have set2 : (ltX st0 ((sps fs).map spotP) A (l3 ++ [.lr ys, .lr zs])).set (st0.length + 2 + (2 * k + 1)) (.lr (xs2 ++ [.dd kv2])) = ltX st0 ((sps fs).map spotP) A (l3.set (2 * k + 1) (.lr (xs2 ++ [.dd kv2])) ++ [.lr ys, .lr zs]) := by
        rw [lxs2, List.set_append_left _ _ (by rw [hl3, ← hlen]; exact hl2)]
      have sz1 : xs1.length < sizeLine := by rw [sizeLine_eq]; omega
      have sz2 : xs2.length < sizeLine := by rw [sizeLine_eq]; omega
      have cg := hc.grow hs g1 g2 (k1 := kv1) (k2 := kv2) (by rw [if_neg (Nat.lt_irrefl k)]; exact q2) (by rw [if_neg (Nat.lt_irrefl k)]; exact p2)
      simp [f_dgetM lx1 key_l t1, dOf, f_ixR pc1 (L2.atI_nat q1), f_isLR pr1, f_appQ (d := .dv kv1) (s := .dd kv1) pr1 rfl sz1, set1, f_dgetM lx1 key_l t2, f_ixR pc2 (L2.atI_nat p1), f_isLR pr2, f_appQ (d := .dv kv2) (s := .dd kv2) pr2 rfl sz2, set2]
      refine ⟨_, rfl, by rw [List.length_set]; exact hl3, ?_⟩
      have ef : (fun i => if i < k + 1 then N + 2 else N + 1) = fun i => if i = k then (if k < k then N + 2 else N + 1) + 1 else (if i < k then N + 2 else N + 1) := by
        funext i
        by_cases e1 : i = k
        · subst e1; rw [if_pos (by omega), if_pos rfl, if_neg (by omega)]
        · rw [if_neg e1]
          by_cases e2 : i < k
          · rw [if_pos (by omega), if_pos e2]
          · rw [if_neg (by omega), if_neg e2]
      rw [ef]
      exact cg
  · rintro env s ⟨⟨x, rfl⟩, ls', rfl, hlen, hc⟩
    refine ⟨x, rfl, ls', rfl, hlen, ?_⟩
    refine ⟨fun idx s hs bl => ?_, hc.ok⟩
    have hi := (List.getElem?_eq_some_iff.mp hs).1
    have := hc.at' idx s hs bl
    rw [if_pos hi] at this
    exact this
  · refine ⟨fun idx s hs bl => ?_, hct.ok⟩
    rw [if_neg (Nat.not_lt_zero idx)]
    exact hct.at' idx s hs bl
end
end Yk22
namespace Yk22
open PySem L2 B
section
variable {fs : List PyData} {st0 : Store} {A : List (NestedKey × S1)}
theorem lr_ok {ys : List S1} {m : Nat} {F : Nat → Sp → List (NestedKey × PyData) → Prop} (hl : ys.length = (sps fs).length) (hy : ∀ (idx : Nat) (s : Sp), (sps fs)[idx]? = some s → ∃ kv, ys[idx]? = some (S1.dd kv) ∧ F idx s kv) : ∃ xs, (O.lr ys) = .lr xs ∧ ∀ x ∈ xs, ∃ kvs, x = S1.dd kvs := ⟨ys, rfl, fun x hx => by
  obtain ⟨i, hi⟩ := List.getElem?_of_mem hx
  have hil := (List.getElem?_eq_some_iff.mp hi).1
  obtain ⟨kv, e, _⟩ := hy i _ (List.getElem?_eq_getElem (by omega))
  rw [hi] at e
  exact ⟨kv, Option.some.inj e⟩⟩
def rdEnv (fs : List PyData) (M : Int) (l : Nat) (x10 : Option D) : B.Env := [some (.val (.tuple fs)), some (.val (.int M)), some (.loc l), some (.loc (l + 1)), none, none, none, none, none, none, x10, none]
theorem round (h : PrgP fs) (how : Own fs) {n : Nat} (hp : PT st0 (sps fs) A n) (hc : Cl st0) {M : Int} {x10 : Option D} {ls : List O} {N : Nat} (hN : N < 20) (hct : CT fs ls (fun _ => N + 1)) (hll : n ≤ ls.length) :
    wpx noE ((killS [6, 7, 8, 9] (seqS (asgS (lrObj (lcSR 100000 [10] (anyI (gv 2)) (setV 10) yesT (callF m__law_call_cell (aCons (gv 0) (aCons (gv 3) (aCons (gv 10) (aCons (gv 7) aNil))))))) (setV 8))
  (seqS (asgS (lrObj (lcSR 100000 [10] (anyI (gv 2)) (setV 10) yesT (callF m__law_due_cell (aCons (gv 0) (aCons (gv 3) (aCons (gv 10) (aCons (gv 7) aNil))))))) (setV 9))
  (forX 100000 (enI (aCons (gv 2) aNil)) (setT 2 (setsCons (setV 6) (setsCons (setV 10) setsNil))) (killS [6] (seqS (dropS (methR appQ (op2 dgetM (gv 3) (tupE (aCons (gv 10) (aCons (cD (.val (.bool false))) aNil)))) (aCons (op2 ixRF (gv 8) (gv 6)) aNil)))
  (dropS (methR appQ (op2 dgetM (gv 3) (tupE (aCons (gv 10) (aCons (cD (.val (.bool true))) aNil)))) (aCons (op2 ixRF (gv 9) (gv 6)) aNil))))))))) ((rdEnv fs M st0.length x10).set 7 (some (.val (.int ((N : Int) + 1))))) (ltX st0 ((sps fs).map spotP) A ls))
      fun r s => ∃ x10, r = .nx (rdEnv fs M st0.length x10) ∧ ∃ ls', s = ltX st0 ((sps fs).map spotP) A ls' ∧ CT fs ls' (fun _ => N + 2) ∧ n ≤ ls'.length := by
  have hlo := hct.lo h how hp (xs := (sps fs).map spotP) (N := N) (fun i => Nat.lt_succ_self _)
  have hcl := CT.cl (xs := (sps fs).map spotP) hct.ok hp hll hc
  obtain ⟨ys, q1, q2, q3⟩ := calls_round h how hN hlo hcl (some (.val (.int M))) none none none none none x10 none
  have okys := lr_ok (m := 0) q2 q3
  have hct2 := hct.more (ms := [.lr ys]) fun o ho => by rw [List.mem_singleton.mp ho]; exact okys
  have hlo2 := hct2.lo h how hp (xs := (sps fs).map spotP) (N := N) (fun i => Nat.lt_succ_self _)
  have hcl2 := CT.cl (xs := (sps fs).map spotP) hct2.ok hp (by rw [List.length_append]; omega) hc
  obtain ⟨zs, p1, p2, p3⟩ := dues_round h how hN hlo2 hcl2 (some (.val (.int M))) none none none (some (.loc (st0.length + 2 + ls.length))) none x10 none
  have okzs := lr_ok (m := 0) p2 p3
  have el : (ls ++ [O.lr ys]).length = ls.length + 1 := by simp
  have ea : ls ++ [O.lr ys] ++ [O.lr zs] = ls ++ [.lr ys, .lr zs] := by simp
  rw [el, ea] at p1
  have gl := grow_loop h how hp hct q3 p3 hN (a1 := some (.val (.int M))) (a4 := none) (a5 := none) (x10 := x10) (a11 := none) (a7 := .val (.int ((N : Int) + 1)))
  simp [rdEnv, q1, p1, f_enSrc lx0]
  refine wp_mono gl ?_
  rintro r s ⟨y10, rfl, ls', rfl, hlen, hc'⟩
  simp
  refine ⟨_, rfl, hc'.more fun o ho => ?_, by simp; omega⟩
  rcases List.mem_cons.mp ho with rfl | ho
  · exact okys
  · rw [List.mem_singleton.mp ho]; exact okzs
end
end Yk22
namespace Yk22
open PySem L2 B
section
variable {st0 : Store}
theorem ct0 {fs : List PyData} : CT fs (List.replicate (2 * (sps fs).length) (.lr [.dd dO])) (fun _ => 0 + 1) := by
  refine ⟨fun idx s hs bl => ?_, fun o ho => ?_⟩
  · have hi := (List.getElem?_eq_some_iff.mp hs).1
    refine ⟨[.dd dO], ?_, rfl, fun u hu => ⟨dO, ?_, ?_⟩⟩
    · rw [List.getElem?_replicate, if_pos]
      cases bl <;> simp [b2] <;> omega
    · obtain rfl : u = 0 := by omega
      rfl
    · obtain rfl : u = 0 := by omega
      refine ⟨⟨by simp [dO], fun p hp => by rw [List.mem_singleton.mp hp]; exact oK_in, fun p hp => ⟨1, by rw [List.mem_singleton.mp hp]; rfl⟩⟩, fun g => ?_⟩
      cases bl <;> rfl
  · have := (List.mem_replicate.mp ho).2
    exact ⟨_, this, fun x hx => ⟨dO, List.mem_singleton.mp hx⟩⟩
theorem law_counts {n : Str} {l : PyData} {r : List PyData} (h : PrgP (.tuple [.str n, l] :: r)) (how : Own (.tuple [.str n, l] :: r)) (hnd : ((.tuple [.str n, l] :: r : List PyData).flatMap nameF).Nodup) (hc : Cl st0) {M : Nat} (hM : M ≤ 20) :
    m__law_counts [.val (.tuple (.tuple [.str n, l] :: r)), .val (.int M)] st0 = .ok (.val (.list ((List.range (M + 1)).map fun u => .int (runsW (.tuple [.str n, l] :: r) n u)))) st0 := by
  obtain ⟨rs0, hr0⟩ := h.first n l r rfl
  have hs0 : SpOk (.tuple [.str n, l] :: r) (n, 0) := ⟨rs0, hr0, List.length_pos_iff.mpr (h.rows n rs0 hr0).1⟩
  have h00 : atI (.tuple [.str n, l] :: r : List PyData) 0 = some (.tuple [.str n, l]) := atI_0
  generalize hfs : (.tuple [.str n, l] :: r : List PyData) = fs at *
  have hL := sps_len h how
  refine of_wp ?_
  simp [m__law_counts, b__law_counts]
  refine wp_mono (counts_start (st0 := st0) h how hnd) ?_
  rintro r2 s ⟨rfl, A, rfl, hp⟩
  simp
  refine ⟨⟨rgOk.of (by omega) (by omega), rgOk.of (by omega) (by omega)⟩, ?_⟩
  refine wp_forF (I := fun N e s => (∃ x10, e = rdEnv fs M st0.length x10) ∧ ∃ ls, s = ltX st0 ((sps fs).map spotP) A ls ∧ CT fs ls (fun _ => N + 1) ∧ 2 * (sps fs).length ≤ ls.length) _ _ _ ⟨⟨_, rfl⟩, _, rfl, ct0, by simp⟩ ?_ ?_
  · rintro N y env s hk ⟨⟨x10, rfl⟩, ls, rfl, hct, hll⟩
    rw [List.getElem?_map] at hk
    obtain ⟨u', hu', rfl⟩ := Option.map_eq_some_iff.mp hk
    obtain ⟨hlt, rfl⟩ : N < M ∧ u' = N := by
      obtain ⟨h1, h2⟩ := (List.getElem?_eq_some_iff.mp hu')
      rw [List.getElem_range] at h2
      exact ⟨by simpa using h1, h2.symm⟩
    have e1 : (1 : Int) + (u' : Int) = (u' : Int) + 1 := by omega
    have rd := round (st0 := st0) h how hp hc (M := M) (x10 := x10) (by omega) hct hll
    show wpx noE (bd (setV 7 (D.val (.int (1 + (u' : Int)))) (rdEnv fs M st0.length x10)) _ _) _
    rw [e1]
    have es : setV 7 (D.val (.int ((u' : Int) + 1))) (rdEnv fs M st0.length x10) (ltX st0 ((sps fs).map spotP) A ls) = .ok ((rdEnv fs M st0.length x10).set 7 (some (.val (.int ((u' : Int) + 1))))) (ltX st0 ((sps fs).map spotP) A ls) := rfl
    rw [bd_ok es]
    refine wp_mono rd ?_
    rintro r2 s ⟨y10, rfl, ls', rfl, hc', hn'⟩
    simp
    exact ⟨⟨_, rfl⟩, ls', rfl, hc', hn'⟩
  · rintro env s ⟨⟨x10, rfl⟩, ls, rfl, hct, hll⟩
    have eM : (List.map (fun k : Nat => PyData.int (1 + (k : Int))) (List.range M)).length = M := by simp
    rw [eM] at hct
    obtain ⟨idx, hidx⟩ := List.getElem?_of_mem ((sps_ok h how).mpr hs0)
    obtain ⟨xs, g1, g2, g3⟩ := hct.at' idx _ hidx false
    have t1 := hp.tb idx _ hidx false
    have pr : prtR (ltX st0 ((sps fs).map spotP) A ls) (.loc (st0.length + 2 + (2 * idx + b2 false))) = some xs := by simp only [prtR, lx2, g1]
    have hcl := CT.cl (xs := (sps fs).map spotP) hct.ok hp hll hc
    have key_l0' : keyB (.val (.tuple [.tuple [.str n, .int 0], .bool false])) = some (lkey (n, 0) false) := key_l0
    simp [rdEnv, h00, f_dgetM lx1 key_l0' t1, dOf, f_lrSrc pr]
    refine lcX_map (ds := xs.map S1.d) (f := fun u => .int (runsW fs n u)) (fun i => ?_) (fun i d hd => ?_) ?_ ?_ (m := 100000) ?_
    · show (match prtR _ _ with
        | some xs => some (xs[i]?.map S1.d)
        | none => none) = _
      rw [pr, List.getElem?_map]
    · rw [List.getElem?_map] at hd
      obtain ⟨x, hx, rfl⟩ := Option.map_eq_some_iff.mp hd
      have hi := (List.getElem?_eq_some_iff.mp hx).1
      obtain ⟨kvs, e1, hh⟩ := g3 i (by omega)
      rw [hx] at e1
      cases e1
      have hsum : (kvs.map fun p => vI p.2).sum = runsW fs n i := by
        unfold runsW
        rw [← ws_one, hh.2 one, TS_f]
      simp [f_sumI (vals_int hh.1), ← hsum]
    · rw [List.length_map, g2]; simp; omega
    · rw [List.length_map, g2]
      have tk : (ltX st0 ((sps fs).map spotP) A ls).take st0.length = st0 := by simp [ltX]
      simp [tk]
      exact hc
    · rw [List.length_map, g2]; omega
end
end Yk22
namespace Yk22
open PySem L2 B
theorem runs_nat {fs : List PyData} (h : PrgP fs) {n : Str} {C : Nat} (hC : C ≤ 20) : 0 ≤ runsW fs n C ∧ runsW fs n C ≤ Dn 20 := by
  have w := (TT_ok h 20 C hC (Nat.le_refl _) (n, 0)).1
  refine ⟨?_, Int.le_trans w.le (Dn_mono hC)⟩
  have z : ws (fun _ => 0) ((TT fs C).1 (n, 0)) = 0 := by
    generalize (TT fs C).1 (n, 0) = L
    induction L with
    | nil => rfl
    | cons p r ih => show 0 * p.2 + ws _ r = 0; rw [ih]; omega
  rw [← z]
  exact ws_le fun p hp => ⟨by show (0 : Int) ≤ 1; decide, (w.ok p hp).2⟩
theorem _root_.B.Pl.cl {st : Store} (h : Pl st) : Cl st := h.ok _
theorem int_shows {v : Int} (h0 : 0 ≤ v) (h1 : v ≤ Dn 20) : (PyData.int v).showable = true ∧ (PyData.int v).shown.length ≤ 16777216 ∧ (PyData.int v).depth ≤ 64 := by
  have h2 : Dn 20 < ((2 ^ 300 : Nat) : Int) := by decide +kernel
  have h3 : v.natAbs < 2 ^ 300 := by omega
  have := (Sz.int (i := v) (k := 300) (by decide) (by decide) h3).fits (by decide) (by decide)
  rwa [sizeLine_eq] at this
theorem law_right {n : Str} {l : PyData} {r : List PyData} (h : PrgP (.tuple [.str n, l] :: r)) (how : Own (.tuple [.str n, l] :: r)) (hnd : ((.tuple [.str n, l] :: r : List PyData).flatMap nameF).Nodup) {o : O} {rest : Store} (ho : isFeedP o) (hp : Pl rest) {M : Nat} (h1 : 1 ≤ M) (hM : M ≤ 20) :
    wpx noE (m__law_right [.loc 0, .val (.tuple (.tuple [.str n, l] :: r)), .val (.int M)] (o :: rest)) fun d s => d = .val (.bool true) ∧ ∃ f, isFeedP f ∧ s = f :: rest := by
  have hcl := fun (f : O) (hf : isFeedP f) => (feed_pl hf hp).cl
  have hm := fun (f : O) (hf : isFeedP f) (C : Nat) (hC : C ≤ 20) => how_many h how (hcl f hf) hC
  have hlc := law_counts h how hnd (hcl o ho) hM
  have hat : ∀ C : Nat, C ≤ M → atI ((List.range (M + 1)).map fun u => PyData.int (runsW (.tuple [.str n, l] :: r) n u)) (C : Int) = some (.int (runsW (.tuple [.str n, l] :: r) n C)) := fun C hC => L2.atI_nat (by rw [List.getElem?_map, List.getElem?_range (by omega)]; rfl)
  generalize hfs : (.tuple [.str n, l] :: r : List PyData) = fs at *
  simp [m__law_right, b__law_right, hlc]
  refine wp_mono (draw_ok ho (by omega) (by omega)) ?_
  rintro d s ⟨i, f, ⟨hi0, hi1, hf⟩, rfl, rfl⟩
  simp
  have hrp := fun (C : Nat) (hC : C ≤ 20) => int_shows (runs_nat h (n := n) hC).1 (runs_nat h (n := n) hC).2
  refine wp_forF (I := fun k e s => e = [some (.loc 0), some (.val (.tuple fs)), some (.val (.int M)), some (.val (.list (List.map (fun u => PyData.int (runsW fs n u)) (List.range (M + 1))))), none] ∧ s = f :: rest) _ _ _ ⟨rfl, rfl⟩ ?_ ?_
  · rintro k x env s hk ⟨rfl, rfl⟩
    have hx : ∃ C : Nat, C ≤ M ∧ x = .int C := by
      have hxm := List.mem_of_getElem? hk
      simp only [List.mem_cons, List.not_mem_nil, or_false] at hxm
      rcases hxm with rfl | rfl | rfl | rfl
      · exact ⟨M, Nat.le_refl _, rfl⟩
      · exact ⟨M - 1, by omega, by congr 1; omega⟩
      · exact ⟨i.toNat, by omega, by congr 1; omega⟩
      · exact ⟨M, Nat.le_refl _, rfl⟩
    obtain ⟨C, hC, rfl⟩ := hx
    have rp := hrp C (by omega)
    simp [hm f hf C (by omega), hat C hC, rp]
  · rintro env s ⟨rfl, rfl⟩
    have rp := hrp M hM
    have pk : pick [1, 0] [D.val (PyData.int M), D.val (PyData.tuple fs)] = [D.val (PyData.tuple fs), D.val (PyData.int M)] := rfl
    simp [pk, hm f hf M hM, hat M (Nat.le_refl _), rp]
    exact hf
end Yk22
namespace Yk22
open PySem L2 B
def lineTwo : PyData := .tuple [.tuple [.str ""], .tuple [.int 0, .tuple [.str "back"], .tuple [.str "fail", .str "k"]], .tuple [.tuple [.str "k", .int 0]]]
def fsTwo : List PyData := [.tuple [.str "two", .tuple [lineTwo]]]
theorem two_good : GP (.tuple fsTwo) := goodB_ok (by decide +kernel)
theorem two_prg : PrgP fsTwo ∧ Own fsTwo ∧ (fsTwo.flatMap nameF).Nodup := by
  obtain ⟨fs, e, h1, _, _, h2, h3⟩ := two_good
  cases e
  exact ⟨h1, h2, h3⟩
theorem two_line : lineA fsTwo ("two", 0) = ([.str ""], [.int 0, .tuple [.str "back"], .tuple [.str "fail", .str "k"]], [.tuple [.str "k", .int 0]]) := by
  obtain ⟨h1, h2, _⟩ := two_prg
  obtain ⟨cs, ws, hs, _, hA, _, hat⟩ := sp_line h1 (n := "two") (i := 0) (h2.1 "two" [lineTwo] (List.mem_cons_self ..)) (by decide)
  have e : atI [lineTwo] (((0 : Nat) : Int)) = some lineTwo := L2.atI_nat rfl
  rw [e] at hat
  unfold lineTwo at hat
  cases hat
  exact hA
def aT (n : Nat) : Int := ws one ((TT fsTwo n).1 ("two", 0))
def bT (n : Nat) : Int := ws one ((TT fsTwo n).2 ("two", 0))
theorem aT_s (n : Nat) : aT (n + 1) = bT n := by
  unfold aT bT
  rw [TT_succ]
  show ws one ((lineA fsTwo ("two", 0)).1.flatMap _) = _
  rw [two_line]
  simp [callW]
theorem bT_s (n : Nat) : bT (n + 1) = 2 * aT n + (if n = 0 then 1 else 0) := by
  unfold aT bT
  rw [TT_succ]
  show ws one ((lineA fsTwo ("two", 0)).2.1.flatMap _) = _
  rw [two_line]
  simp only [List.flatMap_cons, List.flatMap_nil, List.append_nil, ws_app]
  have e1 : wayW [PyData.tuple [.str "k", .int 0]] (TT fsTwo) ("two", 0) n (.int 0) = (TT fsTwo n).1 ("two", 0) := rfl
  have e2 : wayW [PyData.tuple [.str "k", .int 0]] (TT fsTwo) ("two", 0) n (.tuple [.str "back"]) = overW bK n := rfl
  have e3 : wayW [PyData.tuple [.str "k", .int 0]] (TT fsTwo) ("two", 0) n (.tuple [.str "fail", .str "k"]) = (TT fsTwo n).1 ("two", 0) := by
    show bfW [PyData.tuple [.str "k", .int 0]] (TT fsTwo) ("two", 0) "k" n = _
    unfold bfW
    simp [hLine]
  rw [e1, e2, e3]
  have e4 : ws one (overW bK n) = if n = 0 then 1 else 0 := by
    unfold overW
    split
    · rfl
    · rfl
  rw [e4]
  omega
theorem aT_ss (n : Nat) : aT (n + 2) = 2 * aT n + (if n = 0 then 1 else 0) := (aT_s (n + 1)).trans (bT_s n)
theorem two_vals : aT 0 = 1 ∧ aT 1 = 1 ∧ aT 2 = 3 ∧ aT 3 = 2 ∧ aT 20 = 1536 := by
  have a0 : aT 0 = 1 := rfl
  have a1 : aT 1 = 1 := (aT_s 0).trans rfl
  have a2 : aT 2 = 3 := by rw [aT_ss 0, a0]; rfl
  have a3 : aT 3 = 2 := by rw [aT_ss 1, a1]; rfl
  have a4 : aT 4 = 6 := by rw [aT_ss 2, a2]; rfl
  have a6 : aT 6 = 12 := by rw [aT_ss 4, a4]; rfl
  have a8 : aT 8 = 24 := by rw [aT_ss 6, a6]; rfl
  have a10 : aT 10 = 48 := by rw [aT_ss 8, a8]; rfl
  have a12 : aT 12 = 96 := by rw [aT_ss 10, a10]; rfl
  have a14 : aT 14 = 192 := by rw [aT_ss 12, a12]; rfl
  have a16 : aT 16 = 384 := by rw [aT_ss 14, a14]; rfl
  have a18 : aT 18 = 768 := by rw [aT_ss 16, a16]; rfl
  have a20 : aT 20 = 1536 := by rw [aT_ss 18, a18]; rfl
  exact ⟨a0, a1, a2, a3, a20⟩
def lawB : B.Env → M Fl := (killS [3, 4, 5] (seqS (parN [4, 5] (aCons (op2 ixF (asVal (lstE (aCons (cD (.val (.int 3))) (aCons (cD (.val (.int 5))) (aCons (cD (.val (.int 8))) (aCons (cD (.val (.int 8))) (aCons (cD (.val (.int 12))) (aCons (cD (.val (.int 20))) aNil)))))))) (callF m__law_draw (aCons (gv 1) (aCons (cD (.val (.int 6))) aNil)))) (aCons (callF reprF (aCons (gv 3) aNil)) aNil)))
  (seqS (ifS (tst (op2 gtF (callF sumF (aCons (asVal (lcS 100000 [7, 8] (anyI (gv 3)) (setT 2 (setsCons (setV 7) (setsCons (setV 8) setsNil))) yesT (callF lenF (aCons (gv 8) aNil)))) aNil)) (cD (.val (.int 6))))) (asgS (callF min2F (aCons (gv 4) (aCons (cD (.val (.int 8))) aNil))) (setV 4)) nxS)
  (ifS (orT (notT (truT (callF m__law_right (aCons (gv 1) (aCons (gv 3) (aCons (gv 4) aNil)))))) (tst (op2 neF (callF reprF (aCons (gv 3) aNil)) (gv 5)))) (retS (cD (.val (.bool false)))) nxS))))
def flen : PyData → PyData
  | .tuple [_, .tuple rs] => .int rs.length
  | _ => .none
theorem flen_int {fs : List PyData} (h : ∀ f ∈ fs, isFn f) : fs.map flen = (fs.map fun f => vI (flen f)).map PyData.int := by
  rw [List.map_map]
  refine List.map_congr_left fun f hf => ?_
  obtain ⟨n, rs, rfl⟩ := h f hf
  rfl
theorem law_turn {p : PyData} (hp : GP p) {o : O} (ho : isFeedP o) {a0 a2 a6 a7 a8 a9 : Option D} :
    wpx noE (lawB [a0, some (.loc 0), a2, some (.val p), none, none, a6, a7, a8, a9] [o]) fun r s => r = .nx [a0, some (.loc 0), a2, none, none, none, a6, a7, a8, a9] ∧ ∃ f, isFeedP f ∧ s = [f] := by
  have hfit := hp.fits
  obtain ⟨fs, rfl, h, hlit, hnm, how, hnd⟩ := hp
  obtain ⟨n, l, r, rfl⟩ := GP.first h
  unfold lawB
  simp
  refine wp_mono (draw_ok ho (by omega) (by omega)) ?_
  rintro d s ⟨j, f, ⟨hj0, hj1, hf⟩, rfl, rfl⟩
  have hM : ∃ M : Nat, atI [PyData.int 3, .int 5, .int 8, .int 8, .int 12, .int 20] j = some (.int M) ∧ 1 ≤ M ∧ M ≤ 20 := by
    obtain ⟨j', rfl⟩ : ∃ j' : Nat, j = j' := ⟨j.toNat, by omega⟩
    have hj2 : j' < 6 := by omega
    match j', hj2 with
    | 0, _ => exact ⟨3, rfl, by decide, by decide⟩
    | 1, _ => exact ⟨5, rfl, by decide, by decide⟩
    | 2, _ => exact ⟨8, rfl, by decide, by decide⟩
    | 3, _ => exact ⟨8, rfl, by decide, by decide⟩
    | 4, _ => exact ⟨12, rfl, by decide, by decide⟩
    | 5, _ => exact ⟨20, rfl, by decide, by decide⟩
  obtain ⟨M, hMa, hM1, hM2⟩ := hM
  simp [hMa, hfit]
  have hfn := h.fn
  have hle := h.le
  have hright := fun (f : O) (hf : isFeedP f) (M : Nat) (h1 : 1 ≤ M) (h2 : M ≤ 20) => law_right h how hnd hf Pl.nil h1 h2
  generalize hfs : (PyData.tuple [PyData.str n, l] :: r : List PyData) = fs at *
  refine lc_map flen (fun x hx => ?_) (by rw [sizeLine_eq]; omega) ?_
  · obtain ⟨n1, rs1, rfl⟩ := hfn x hx
    simp [flen]
  · simp [f_sumI (flen_int hfn)]
    split
    · obtain ⟨M', e, h1, h2⟩ : ∃ M' : Nat, (if (8 : Int) < (M : Int) then (8 : Int) else (M : Int)) = (M' : Int) ∧ 1 ≤ M' ∧ M' ≤ 20 := by
        split
        · exact ⟨8, rfl, by decide, by decide⟩
        · exact ⟨M, rfl, hM1, hM2⟩
      simp only [e]
      refine wp_mono (hright f hf M' h1 h2) ?_
      rintro d s ⟨rfl, f2, hf2, rfl⟩
      simp [hfit]
      exact hf2
    · refine wp_mono (hright f hf M hM1 hM2) ?_
      rintro d s ⟨rfl, f2, hf2, rfl⟩
      simp [hfit]
      exact hf2
theorem law_all {xs : List PyData} (hx : ∀ x ∈ xs, GP x) {a0 a2 a6 a7 a8 a9 : Option D} {o : O} (ho : isFeedP o) :
    wpx noE (forF (fun x env => bd (setV 3 (.val x) env) lawB) xs [a0, some (.loc 0), a2, none, none, none, a6, a7, a8, a9] [o]) fun r s => r = .nx [a0, some (.loc 0), a2, none, none, none, a6, a7, a8, a9] ∧ ∃ f, isFeedP f ∧ s = [f] := by
  refine wp_forF (I := fun k e s => e = [a0, some (.loc 0), a2, none, none, none, a6, a7, a8, a9] ∧ ∃ f, isFeedP f ∧ s = [f]) _ _ _ ⟨rfl, o, ho, rfl⟩ ?_ ?_
  · rintro k x env s hk ⟨rfl, f, hf, rfl⟩
    have es : setV 3 (D.val x) [a0, some (.loc 0), a2, none, none, none, a6, a7, a8, a9] [f] = .ok [a0, some (.loc 0), a2, some (.val x), none, none, a6, a7, a8, a9] [f] := rfl
    rw [bd_ok es]
    refine wp_mono (law_turn (hx x (List.mem_of_getElem? hk)) hf) ?_
    rintro r s ⟨rfl, f2, hf2, rfl⟩
    exact ⟨rfl, f2, hf2, rfl⟩
  · rintro env s ⟨rfl, f, hf, rfl⟩
    exact ⟨rfl, f, hf, rfl⟩
def tailB : B.Env → M Fl := (seqS (asgS (tupE (aCons (tupE (aCons (cD (.val (.str "two"))) (aCons (tupE (aCons (tupE (aCons (tupE (aCons (cD (.val (.str ""))) aNil)) (aCons (tupE (aCons (cD (.val (.int 0))) (aCons (tupE (aCons (cD (.val (.str "back"))) aNil)) (aCons (tupE (aCons (cD (.val (.str "fail"))) (aCons (cD (.val (.str "k"))) aNil))) aNil)))) (aCons (tupE (aCons (tupE (aCons (cD (.val (.str "k"))) (aCons (cD (.val (.int 0))) aNil))) aNil)) aNil)))) aNil)) aNil))) aNil)) (setV 6))
  (retS (op2 eqF (asVal (lcS 100000 [9] (anyI (tupE (aCons (cD (.val (.int 0))) (aCons (cD (.val (.int 1))) (aCons (cD (.val (.int 2))) (aCons (cD (.val (.int 3))) (aCons (cD (.val (.int 20))) aNil))))))) (setV 9) yesT (callF m_how_many_runs (aCons (gv 6) (aCons (gv 9) aNil))))) (asVal (lstE (aCons (cD (.val (.int 1))) (aCons (cD (.val (.int 1))) (aCons (cD (.val (.int 3))) (aCons (cD (.val (.int 2))) (aCons (cD (.val (.int 1536))) aNil))))))))))
def fTwo : PyData → PyData
  | .int C => .int (aT C.toNat)
  | _ => .none
theorem tail_ok {a0 a1 a2 a3 a4 a5 a6 a7 a8 a9 : Option D} {o : O} (ho : isFeedP o) : wpx noE (tailB [a0, a1, a2, a3, a4, a5, a6, a7, a8, a9] [o]) fun r s => r = .rt (.val (.bool true)) ∧ s = [o] := by
  obtain ⟨h, how, hnd⟩ := two_prg
  have hm : ∀ (C : Nat), C ≤ 20 → m_how_many_runs [.val (.tuple fsTwo), .val (.int C)] [o] = .ok (.val (.int (aT C))) [o] := fun C hC => how_many (st := [o]) (n := "two") (l := .tuple [lineTwo]) (r := []) h how (feed_pl ho Pl.nil).cl hC
  obtain ⟨v0, v1, v2, v3, v20⟩ := two_vals
  have e0 : (PyData.tuple [PyData.tuple [PyData.str (Str.ofString "two"), PyData.tuple [PyData.tuple [PyData.tuple [PyData.str (Str.ofString "")], PyData.tuple [PyData.int 0, PyData.tuple [PyData.str (Str.ofString "back")], PyData.tuple [PyData.str (Str.ofString "fail"), PyData.str (Str.ofString "k")]], PyData.tuple [PyData.tuple [PyData.str (Str.ofString "k"), PyData.int 0]]]]]]) = PyData.tuple fsTwo := rfl
  unfold tailB
  simp
  rw [e0]
  refine lc_map fTwo (fun x hx => ?_) (by rw [sizeLine_eq]; decide) ?_
  · obtain ⟨C, hC, rfl⟩ : ∃ C : Nat, C ≤ 20 ∧ x = .int C := by
      simp only [List.mem_cons, List.not_mem_nil, or_false] at hx
      rcases hx with rfl | rfl | rfl | rfl | rfl
      · exact ⟨0, by decide, rfl⟩
      · exact ⟨1, by decide, rfl⟩
      · exact ⟨2, by decide, rfl⟩
      · exact ⟨3, by decide, rfl⟩
      · exact ⟨20, by decide, rfl⟩
    simp [hm C hC, fTwo]
  · have e1 : List.map fTwo [PyData.int 0, .int 1, .int 2, .int 3, .int 20] = [.int 1, .int 1, .int 3, .int 2, .int 1536] := by
      show [PyData.int (aT 0), .int (aT 1), .int (aT 2), .int (aT 3), .int (aT 20)] = _
      rw [v0, v1, v2, v3, v20]
    rw [e1]
    simp [PyData.eqv, PyData.eqvAll, PyData.depth, PyData.depthAll]
theorem main (ns : List Int) (hn : ns.length ≤ 63) : ∃ st, m_law [.frz (ns.map PyData.int)] [] = .ok (.val (.bool true)) st := by
  refine wp_end ?_
  have hb : b_law = (seqS (asgS (callF m__law_feed (aCons (gv 0) aNil)) (setV 1))
  (seqS (asgS (asVal (lstE (aCons (callF m__law_program (aCons (gv 1) aNil)) (aCons (callF m__law_program (aCons (gv 1) aNil)) (aCons (callF m__law_any (aCons (gv 1) (aCons (callF m__law_hands aNil) aNil))) aNil))))) (setV 2))
  (seqS (forS 100000 (anyI (gv 2)) (setV 3) lawB)
  (seqS (ifS (andT (tst (op2 eqF (callF m__law_draw (aCons (gv 1) (aCons (cD (.val (.int 8))) aNil))) (cD (.val (.int 0))))) (notT (truT (callF m__law_right (aCons (gv 1) (aCons (callF m__law_great aNil) (aCons (cD (.val (.int 5))) aNil))))))) (retS (cD (.val (.bool false)))) nxS)
  tailB)))) := rfl
  have hall := @law_all
  have htl := @tail_ok
  unfold m_law
  rw [hb]
  generalize lawB = LB at hall ⊢
  generalize tailB = TB at htl ⊢
  simp [feed_ok ns hn]
  refine wp_mono (law_program (o := feedP ns 0 0 0) ⟨ns, 0, 0, 0, rfl⟩ Pl.nil) ?_
  rintro d st ⟨f, x, hf, rfl, rfl, hx⟩
  simp
  refine wp_mono (law_program hf Pl.nil) ?_
  rintro d st ⟨f, y, hf, rfl, rfl, hy⟩
  simp
  refine wp_mono (hands (feed_pl hf Pl.nil)) ?_
  rintro d st ⟨rfl, zs, rfl, hz⟩
  obtain ⟨z0, zl, hz⟩ := prgsB_ok hz
  simp
  refine wp_mono (any_ok hf z0 (by omega)) ?_
  rintro d st ⟨z, f, ⟨hzm, hf⟩, rfl, rfl⟩
  have hz := hz z hzm
  simp
  refine wp_mono (hall (xs := [x, y, z]) (fun w hw => ?_) hf) ?_
  · simp only [List.mem_cons, List.not_mem_nil, or_false] at hw
    rcases hw with rfl | rfl | rfl
    · exact hx
    · exact hy
    · exact hz
  rintro r st ⟨rfl, f, hf, rfl⟩
  simp
  refine wp_mono (draw_ok hf (by omega) (by omega)) ?_
  rintro d st ⟨j, f, ⟨hj0, hj1, hf⟩, rfl, rfl⟩
  simp [PyData.depth]
  split
  · refine wp_mono (great (feed_pl hf Pl.nil)) ?_
    rintro d st ⟨rfl, g, rfl, hg⟩
    obtain ⟨fs, rfl, h, _, _, how, hnd⟩ := goodB_ok hg
    obtain ⟨n, l, r, rfl⟩ := GP.first h
    simp
    refine wp_mono (law_right (M := 5) h how hnd hf Pl.nil (by decide) (by decide)) ?_
    rintro d st ⟨rfl, f, hf, rfl⟩
    simp
    refine wp_mono (htl hf) ?_
    rintro r st ⟨rfl, rfl⟩
    simp
    try decide
  · refine wp_mono (htl hf) ?_
    rintro r st ⟨rfl, rfl⟩
    simp
    try decide
end Yk22
namespace Yk22
open PySem L2 B
def txt_mk {P : Program} {K : W.Frag} {h : Heap} {mg : Str → Option Value} (X : K.In h) (G : h.Ns mainGlobals mg)
    {C_Counts : Addr}
    {f0 : Addr} {od0 an0 : Option Addr} {sl0 : Array (Option Value)} {oc0 kV0 dc0 pm0 ct0 : Value}
    {cd0 : Value}
    {f1 : Addr} {od1 an1 : Option Addr} {sl1 : Array (Option Value)} {oc1 kV1 dc1 pm1 ct1 : Value}
    {cd1 : Value}
    {f2 : Addr} {od2 an2 : Option Addr} {sl2 : Array (Option Value)} {oc2 kV2 dc2 pm2 ct2 : Value}
    {cd2 : Value}
    {f3 : Addr} {od3 an3 : Option Addr} {sl3 : Array (Option Value)} {oc3 kV3 dc3 pm3 ct3 cd3 : Value}
    {f4 : Addr} {od4 an4 : Option Addr} {sl4 : Array (Option Value)} {oc4 kV4 dc4 pm4 ct4 : Value}
    {cd4 : Value}
    {f5 : Addr} {od5 an5 : Option Addr} {sl5 : Array (Option Value)} {oc5 kV5 dc5 pm5 ct5 : Value}
    {cd5 : Value}
    {f6 : Addr} {od6 an6 : Option Addr} {sl6 : Array (Option Value)} {oc6 kV6 dc6 pm6 ct6 : Value}
    {cd6 : Value}
    {f7 : Addr} {od7 an7 : Option Addr} {sl7 : Array (Option Value)} {oc7 kV7 dc7 pm7 ct7 : Value}
    {cd7 : Value}
    {f8 : Addr} {od8 an8 : Option Addr} {sl8 : Array (Option Value)} {oc8 kV8 dc8 pm8 ct8 : Value}
    {cd8 : Value}
    {f9 : Addr} {od9 an9 : Option Addr} {sl9 : Array (Option Value)} {oc9 kV9 dc9 pm9 ct9 : Value}
    {cd9 : Value}
    {f10 : Addr} {od10 an10 : Option Addr} {sl10 : Array (Option Value)} {oc10 kV10 dc10 pm10 ct10 cd10 : Value}
    {f11 : Addr} {od11 an11 : Option Addr} {sl11 : Array (Option Value)} {oc11 kV11 dc11 pm11 ct11 : Value}
    {cd11 : Value}
    {f12 : Addr} {od12 an12 : Option Addr} {sl12 : Array (Option Value)} {oc12 kV12 dc12 pm12 ct12 : Value}
    {cd12 : Value}
    {f13 : Addr} {od13 an13 : Option Addr} {sl13 : Array (Option Value)} {oc13 kV13 dc13 pm13 ct13 cd13 : Value}
    {f14 : Addr} {od14 an14 : Option Addr} {sl14 : Array (Option Value)} {oc14 kV14 dc14 pm14 ct14 cd14 : Value}
    {f15 : Addr} {od15 an15 : Option Addr} {sl15 : Array (Option Value)} {oc15 kV15 dc15 pm15 ct15 : Value}
    {cd15 : Value}
    {f16 : Addr} {od16 an16 : Option Addr} {sl16 : Array (Option Value)} {oc16 kV16 dc16 pm16 ct16 : Value}
    {cd16 : Value}
    {f17 : Addr} {od17 an17 : Option Addr} {sl17 : Array (Option Value)} {oc17 kV17 dc17 pm17 ct17 : Value}
    {cd17 : Value}
    {f18 : Addr} {od18 an18 : Option Addr} {sl18 : Array (Option Value)} {oc18 kV18 dc18 pm18 ct18 cd18 : Value}
    {f19 : Addr} {od19 an19 : Option Addr} {sl19 : Array (Option Value)} {oc19 kV19 dc19 pm19 ct19 : Value}
    {cd19 : Value}
    {f20 : Addr} {od20 an20 : Option Addr} {sl20 : Array (Option Value)} {oc20 kV20 dc20 pm20 ct20 : Value}
    {cd20 : Value}
    {f21 : Addr} {od21 an21 : Option Addr} {sl21 : Array (Option Value)} {oc21 kV21 dc21 pm21 ct21 cd21 : Value}
    {f22 : Addr} {od22 an22 : Option Addr} {sl22 : Array (Option Value)} {oc22 kV22 dc22 pm22 ct22 : Value}
    {cd22 : Value}
    {f23 : Addr} {od23 an23 : Option Addr} {sl23 : Array (Option Value)} {oc23 kV23 dc23 pm23 ct23 cd23 : Value}
    {f24 : Addr} {od24 an24 : Option Addr} {sl24 : Array (Option Value)} {oc24 kV24 dc24 pm24 ct24 : Value}
    {cd24 : Value}
    {f25 : Addr} {od25 an25 : Option Addr} {sl25 : Array (Option Value)} {oc25 kV25 dc25 pm25 ct25 : Value}
    {cd25 : Value}
    {f26 : Addr} {od26 an26 : Option Addr} {sl26 : Array (Option Value)} {oc26 kV26 dc26 pm26 ct26 : Value}
    {cd26 : Value}
    (gc_Counts : PySem.W.nsIn K mainGlobals "Counts" = some (some (.ref C_Counts)))
    (kpg_Counts : PySem.W.plainGet K C_Counts Str.empty = true)
    (khd_Counts : PySem.W.hasDictIn K C_Counts = true)
    (kpo_Counts : PySem.W.plainOver K C_Counts = true)
    (ksa_Counts : PySem.W.findIn K (.ref C_Counts) "__setattr__" = some (some (.builtin "object.__setattr__")))
    (kmi_Counts : PySem.W.makesIn K C_Counts = true)
    (kkc_Counts : PySem.W.keepIn K (.ref C_Counts) = true)
    (kna_Counts_at_call : PySem.W.findIn K (.ref C_Counts) "at_call" = some none)
    (kna_Counts_at_way : PySem.W.findIn K (.ref C_Counts) "at_way" = some none)
    (kna_Counts_line_table : PySem.W.findIn K (.ref C_Counts) "line_table" = some none)
    (a0 : PySem.W.nsIn K mainGlobals "handler_line" = some (some (.ref f0)))
    (l0 : K.lookup f0 = some ⟨oc0, od0, .func (PySem.W.fnOf "handler_line" "handler_line" (defArgs s_handler_line) (defBody s_handler_line) (defScope s_handler_line) .none kV0 dc0 pm0 an0 cd0 ct0), sl0⟩)
    (c0 : PySem.W.codeIn K cd0 "handler_line" = true)
    (k0 : PySem.W.keepIn K (.ref f0) = true)
    (a1 : PySem.W.nsIn K mainGlobals "add_to" = some (some (.ref f1)))
    (l1 : K.lookup f1 = some ⟨oc1, od1, .func (PySem.W.fnOf "add_to" "add_to" (defArgs s_add_to) (defBody s_add_to) (defScope s_add_to) .none kV1 dc1 pm1 an1 cd1 ct1), sl1⟩)
    (c1 : PySem.W.codeIn K cd1 "add_to" = true)
    (k1 : PySem.W.keepIn K (.ref f1) = true)
    (a2 : PySem.W.nsIn K mainGlobals "over_if" = some (some (.ref f2)))
    (l2 : K.lookup f2 = some ⟨oc2, od2, .func (PySem.W.fnOf "over_if" "over_if" (defArgs s_over_if) (defBody s_over_if) (defScope s_over_if) .none kV2 dc2 pm2 an2 cd2 ct2), sl2⟩)
    (c2 : PySem.W.codeIn K cd2 "over_if" = true)
    (k2 : PySem.W.keepIn K (.ref f2) = true)
    (me3 : PySem.W.findIn K (.ref C_Counts) "__init__" = some (some (.ref f3)))
    (l3 : K.lookup f3 = some ⟨oc3, od3, .func (PySem.W.fnOf "__init__" "Counts.__init__" (defArgs s_Counts___init__) (defBody s_Counts___init__) (defScope s_Counts___init__) .none kV3 dc3 pm3 an3 cd3 ct3), sl3⟩)
    (c3 : PySem.W.codeIn K cd3 "Counts.__init__" = true)
    (k3 : PySem.W.keepIn K (.ref f3) = true)
    (fn3 : PySem.W.isFn K (.ref f3) = true)
    (a4 : PySem.W.nsIn K mainGlobals "_law_feed" = some (some (.ref f4)))
    (l4 : K.lookup f4 = some ⟨oc4, od4, .func (PySem.W.fnOf "_law_feed" "_law_feed" (defArgs s__law_feed) (defBody s__law_feed) (defScope s__law_feed) .none kV4 dc4 pm4 an4 cd4 ct4), sl4⟩)
    (c4 : PySem.W.codeIn K cd4 "_law_feed" = true)
    (k4 : PySem.W.keepIn K (.ref f4) = true)
    (a5 : PySem.W.nsIn K mainGlobals "_law_draw" = some (some (.ref f5)))
    (l5 : K.lookup f5 = some ⟨oc5, od5, .func (PySem.W.fnOf "_law_draw" "_law_draw" (defArgs s__law_draw) (defBody s__law_draw) (defScope s__law_draw) .none kV5 dc5 pm5 an5 cd5 ct5), sl5⟩)
    (c5 : PySem.W.codeIn K cd5 "_law_draw" = true)
    (k5 : PySem.W.keepIn K (.ref f5) = true)
    (a6 : PySem.W.nsIn K mainGlobals "_law_line" = some (some (.ref f6)))
    (l6 : K.lookup f6 = some ⟨oc6, od6, .func (PySem.W.fnOf "_law_line" "_law_line" (defArgs s__law_line) (defBody s__law_line) (defScope s__law_line) .none kV6 dc6 pm6 an6 cd6 ct6), sl6⟩)
    (c6 : PySem.W.codeIn K cd6 "_law_line" = true)
    (k6 : PySem.W.keepIn K (.ref f6) = true)
    (a7 : PySem.W.nsIn K mainGlobals "_law_hands" = some (some (.ref f7)))
    (l7 : K.lookup f7 = some ⟨oc7, od7, .func (PySem.W.fnOf "_law_hands" "_law_hands" (defArgs s__law_hands) (defBody s__law_hands) (defScope s__law_hands) .none kV7 dc7 pm7 an7 cd7 ct7), sl7⟩)
    (c7 : PySem.W.codeIn K cd7 "_law_hands" = true)
    (k7 : PySem.W.keepIn K (.ref f7) = true)
    (a8 : PySem.W.nsIn K mainGlobals "_law_great" = some (some (.ref f8)))
    (l8 : K.lookup f8 = some ⟨oc8, od8, .func (PySem.W.fnOf "_law_great" "_law_great" (defArgs s__law_great) (defBody s__law_great) (defScope s__law_great) .none kV8 dc8 pm8 an8 cd8 ct8), sl8⟩)
    (c8 : PySem.W.codeIn K cd8 "_law_great" = true)
    (k8 : PySem.W.keepIn K (.ref f8) = true)
    (a9 : PySem.W.nsIn K mainGlobals "_law_merged" = some (some (.ref f9)))
    (l9 : K.lookup f9 = some ⟨oc9, od9, .func (PySem.W.fnOf "_law_merged" "_law_merged" (defArgs s__law_merged) (defBody s__law_merged) (defScope s__law_merged) .none kV9 dc9 pm9 an9 cd9 ct9), sl9⟩)
    (c9 : PySem.W.codeIn K cd9 "_law_merged" = true)
    (k9 : PySem.W.keepIn K (.ref f9) = true)
    (me10 : PySem.W.findIn K (.ref C_Counts) "behind_fault" = some (some (.ref f10)))
    (l10 : K.lookup f10 = some ⟨oc10, od10, .func (PySem.W.fnOf "behind_fault" "Counts.behind_fault" (defArgs s_Counts_behind_fault) (defBody s_Counts_behind_fault) (defScope s_Counts_behind_fault) .none kV10 dc10 pm10 an10 cd10 ct10), sl10⟩)
    (c10 : PySem.W.codeIn K cd10 "Counts.behind_fault" = true)
    (k10 : PySem.W.keepIn K (.ref f10) = true)
    (fn10 : PySem.W.isFn K (.ref f10) = true)
    (a11 : PySem.W.nsIn K mainGlobals "_law_any" = some (some (.ref f11)))
    (l11 : K.lookup f11 = some ⟨oc11, od11, .func (PySem.W.fnOf "_law_any" "_law_any" (defArgs s__law_any) (defBody s__law_any) (defScope s__law_any) .none kV11 dc11 pm11 an11 cd11 ct11), sl11⟩)
    (c11 : PySem.W.codeIn K cd11 "_law_any" = true)
    (k11 : PySem.W.keepIn K (.ref f11) = true)
    (a12 : PySem.W.nsIn K mainGlobals "_law_end_into" = some (some (.ref f12)))
    (l12 : K.lookup f12 = some ⟨oc12, od12, .func (PySem.W.fnOf "_law_end_into" "_law_end_into" (defArgs s__law_end_into) (defBody s__law_end_into) (defScope s__law_end_into) .none kV12 dc12 pm12 an12 cd12 ct12), sl12⟩)
    (c12 : PySem.W.codeIn K cd12 "_law_end_into" = true)
    (k12 : PySem.W.keepIn K (.ref f12) = true)
    (me13 : PySem.W.findIn K (.ref C_Counts) "behind_call" = some (some (.ref f13)))
    (l13 : K.lookup f13 = some ⟨oc13, od13, .func (PySem.W.fnOf "behind_call" "Counts.behind_call" (defArgs s_Counts_behind_call) (defBody s_Counts_behind_call) (defScope s_Counts_behind_call) .none kV13 dc13 pm13 an13 cd13 ct13), sl13⟩)
    (c13 : PySem.W.codeIn K cd13 "Counts.behind_call" = true)
    (k13 : PySem.W.keepIn K (.ref f13) = true)
    (fn13 : PySem.W.isFn K (.ref f13) = true)
    (me14 : PySem.W.findIn K (.ref C_Counts) "behind_frame" = some (some (.ref f14)))
    (l14 : K.lookup f14 = some ⟨oc14, od14, .func (PySem.W.fnOf "behind_frame" "Counts.behind_frame" (defArgs s_Counts_behind_frame) (defBody s_Counts_behind_frame) (defScope s_Counts_behind_frame) .none kV14 dc14 pm14 an14 cd14 ct14), sl14⟩)
    (c14 : PySem.W.codeIn K cd14 "Counts.behind_frame" = true)
    (k14 : PySem.W.keepIn K (.ref f14) = true)
    (fn14 : PySem.W.isFn K (.ref f14) = true)
    (a15 : PySem.W.nsIn K mainGlobals "_law_calls" = some (some (.ref f15)))
    (l15 : K.lookup f15 = some ⟨oc15, od15, .func (PySem.W.fnOf "_law_calls" "_law_calls" (defArgs s__law_calls) (defBody s__law_calls) (defScope s__law_calls) .none kV15 dc15 pm15 an15 cd15 ct15), sl15⟩)
    (c15 : PySem.W.codeIn K cd15 "_law_calls" = true)
    (k15 : PySem.W.keepIn K (.ref f15) = true)
    (a16 : PySem.W.nsIn K mainGlobals "_law_due_cell" = some (some (.ref f16)))
    (l16 : K.lookup f16 = some ⟨oc16, od16, .func (PySem.W.fnOf "_law_due_cell" "_law_due_cell" (defArgs s__law_due_cell) (defBody s__law_due_cell) (defScope s__law_due_cell) .none kV16 dc16 pm16 an16 cd16 ct16), sl16⟩)
    (c16 : PySem.W.codeIn K cd16 "_law_due_cell" = true)
    (k16 : PySem.W.keepIn K (.ref f16) = true)
    (a17 : PySem.W.nsIn K mainGlobals "_law_call_cell" = some (some (.ref f17)))
    (l17 : K.lookup f17 = some ⟨oc17, od17, .func (PySem.W.fnOf "_law_call_cell" "_law_call_cell" (defArgs s__law_call_cell) (defBody s__law_call_cell) (defScope s__law_call_cell) .none kV17 dc17 pm17 an17 cd17 ct17), sl17⟩)
    (c17 : PySem.W.codeIn K cd17 "_law_call_cell" = true)
    (k17 : PySem.W.keepIn K (.ref f17) = true)
    (me18 : PySem.W.findIn K (.ref C_Counts) "add_call" = some (some (.ref f18)))
    (l18 : K.lookup f18 = some ⟨oc18, od18, .func (PySem.W.fnOf "add_call" "Counts.add_call" (defArgs s_Counts_add_call) (defBody s_Counts_add_call) (defScope s_Counts_add_call) .none kV18 dc18 pm18 an18 cd18 ct18), sl18⟩)
    (c18 : PySem.W.codeIn K cd18 "Counts.add_call" = true)
    (k18 : PySem.W.keepIn K (.ref f18) = true)
    (fn18 : PySem.W.isFn K (.ref f18) = true)
    (a19 : PySem.W.nsIn K mainGlobals "_law_function" = some (some (.ref f19)))
    (l19 : K.lookup f19 = some ⟨oc19, od19, .func (PySem.W.fnOf "_law_function" "_law_function" (defArgs s__law_function) (defBody s__law_function) (defScope s__law_function) .none kV19 dc19 pm19 an19 cd19 ct19), sl19⟩)
    (c19 : PySem.W.codeIn K cd19 "_law_function" = true)
    (k19 : PySem.W.keepIn K (.ref f19) = true)
    (a20 : PySem.W.nsIn K mainGlobals "_law_counts" = some (some (.ref f20)))
    (l20 : K.lookup f20 = some ⟨oc20, od20, .func (PySem.W.fnOf "_law_counts" "_law_counts" (defArgs s__law_counts) (defBody s__law_counts) (defScope s__law_counts) .none kV20 dc20 pm20 an20 cd20 ct20), sl20⟩)
    (c20 : PySem.W.codeIn K cd20 "_law_counts" = true)
    (k20 : PySem.W.keepIn K (.ref f20) = true)
    (me21 : PySem.W.findIn K (.ref C_Counts) "from_spot" = some (some (.ref f21)))
    (l21 : K.lookup f21 = some ⟨oc21, od21, .func (PySem.W.fnOf "from_spot" "Counts.from_spot" (defArgs s_Counts_from_spot) (defBody s_Counts_from_spot) (defScope s_Counts_from_spot) .none kV21 dc21 pm21 an21 cd21 ct21), sl21⟩)
    (c21 : PySem.W.codeIn K cd21 "Counts.from_spot" = true)
    (k21 : PySem.W.keepIn K (.ref f21) = true)
    (fn21 : PySem.W.isFn K (.ref f21) = true)
    (a22 : PySem.W.nsIn K mainGlobals "_law_program" = some (some (.ref f22)))
    (l22 : K.lookup f22 = some ⟨oc22, od22, .func (PySem.W.fnOf "_law_program" "_law_program" (defArgs s__law_program) (defBody s__law_program) (defScope s__law_program) .none kV22 dc22 pm22 an22 cd22 ct22), sl22⟩)
    (c22 : PySem.W.codeIn K cd22 "_law_program" = true)
    (k22 : PySem.W.keepIn K (.ref f22) = true)
    (me23 : PySem.W.findIn K (.ref C_Counts) "fill" = some (some (.ref f23)))
    (l23 : K.lookup f23 = some ⟨oc23, od23, .func (PySem.W.fnOf "fill" "Counts.fill" (defArgs s_Counts_fill) (defBody s_Counts_fill) (defScope s_Counts_fill) .none kV23 dc23 pm23 an23 cd23 ct23), sl23⟩)
    (c23 : PySem.W.codeIn K cd23 "Counts.fill" = true)
    (k23 : PySem.W.keepIn K (.ref f23) = true)
    (fn23 : PySem.W.isFn K (.ref f23) = true)
    (a24 : PySem.W.nsIn K mainGlobals "how_many_runs" = some (some (.ref f24)))
    (l24 : K.lookup f24 = some ⟨oc24, od24, .func (PySem.W.fnOf "how_many_runs" "how_many_runs" (defArgs s_how_many_runs) (defBody s_how_many_runs) (defScope s_how_many_runs) .none kV24 dc24 pm24 an24 cd24 ct24), sl24⟩)
    (c24 : PySem.W.codeIn K cd24 "how_many_runs" = true)
    (k24 : PySem.W.keepIn K (.ref f24) = true)
    (a25 : PySem.W.nsIn K mainGlobals "_law_right" = some (some (.ref f25)))
    (l25 : K.lookup f25 = some ⟨oc25, od25, .func (PySem.W.fnOf "_law_right" "_law_right" (defArgs s__law_right) (defBody s__law_right) (defScope s__law_right) .none kV25 dc25 pm25 an25 cd25 ct25), sl25⟩)
    (c25 : PySem.W.codeIn K cd25 "_law_right" = true)
    (k25 : PySem.W.keepIn K (.ref f25) = true)
    (a26 : PySem.W.nsIn K mainGlobals "law" = some (some (.ref f26)))
    (l26 : K.lookup f26 = some ⟨oc26, od26, .func (PySem.W.fnOf "law" "law" (defArgs s_law) (defBody s_law) (defScope s_law) .none kV26 dc26 pm26 an26 cd26 ct26), sl26⟩)
    (c26 : PySem.W.codeIn K cd26 "law" = true)
    (k26 : PySem.W.keepIn K (.ref f26) = true)
    (z_dict : PySem.W.nsIn K mainGlobals "dict" = some none)
    (z_enumerate : PySem.W.nsIn K mainGlobals "enumerate" = some none)
    (z_int : PySem.W.nsIn K mainGlobals "int" = some none)
    (z_isinstance : PySem.W.nsIn K mainGlobals "isinstance" = some none)
    (z_len : PySem.W.nsIn K mainGlobals "len" = some none)
    (z_list : PySem.W.nsIn K mainGlobals "list" = some none)
    (z_min : PySem.W.nsIn K mainGlobals "min" = some none)
    (z_range : PySem.W.nsIn K mainGlobals "range" = some none)
    (z_repr : PySem.W.nsIn K mainGlobals "repr" = some none)
    (z_sorted : PySem.W.nsIn K mainGlobals "sorted" = some none)
    (z_sum : PySem.W.nsIn K mainGlobals "sum" = some none)
    (z_tuple : PySem.W.nsIn K mainGlobals "tuple" = some none)
    : Txt P K mg := {
    a_Counts := C_Counts, g_Counts := PySem.W.mg_of X G gc_Counts, c_Counts := ⟨kpg_Counts, khd_Counts, kpo_Counts, ksa_Counts⟩, no_Counts_at_call := kna_Counts_at_call, no_Counts_at_way := kna_Counts_at_way, no_Counts_line_table := kna_Counts_line_table
    a_handler_line := f0, d_handler_line := _, p_handler_line := ⟨fun_mk (st := s_handler_line) l0 c0 k0, PySem.W.mg_of X G a0, (fun_mk (st := s_handler_line) l0 c0 k0).binds (ps := ["handlers", "kind"]) fun _ _ _ _ _ _ us hl => match us, hl with | [_, _], _ => rfl⟩
    a_add_to := f1, d_add_to := _, p_add_to := ⟨fun_mk (st := s_add_to) l1 c1 k1, PySem.W.mg_of X G a1, (fun_mk (st := s_add_to) l1 c1 k1).binds (ps := ["totals", "outcome", "many"]) fun _ _ _ _ _ _ us hl => match us, hl with | [_, _, _], _ => rfl⟩
    a_over_if := f2, d_over_if := _, p_over_if := ⟨fun_mk (st := s_over_if) l2 c2 k2, PySem.W.mg_of X G a2, (fun_mk (st := s_over_if) l2 c2 k2).binds (ps := ["end", "left"]) fun _ _ _ _ _ _ us hl => match us, hl with | [_, _], _ => rfl⟩
    a_Counts___init__ := f3, d_Counts___init__ := _, p_Counts___init__ := ⟨funW_mk0 (st := s_Counts___init__) l3 c3 k3, ⟨kmi_Counts, me3, fn3, kkc_Counts⟩, [], .nil, (fun_mk (st := s_Counts___init__) l3 c3 k3).binds (ps := ["self", "program"]) fun _ _ _ _ _ _ us hl => match us, hl with | [_, _], _ => rfl⟩
    a__law_feed := f4, d__law_feed := _, p__law_feed := ⟨fun_mk (st := s__law_feed) l4 c4 k4, PySem.W.mg_of X G a4, (fun_mk (st := s__law_feed) l4 c4 k4).binds (ps := ["_law_script"]) fun _ _ _ _ _ _ us hl => match us, hl with | [_], _ => rfl⟩
    a__law_draw := f5, d__law_draw := _, p__law_draw := ⟨fun_mk (st := s__law_draw) l5 c5 k5, PySem.W.mg_of X G a5, (fun_mk (st := s__law_draw) l5 c5 k5).binds (ps := ["_law_feed_here", "_law_many"]) fun _ _ _ _ _ _ us hl => match us, hl with | [_, _], _ => rfl⟩
    a__law_line := f6, d__law_line := _, p__law_line := ⟨fun_mk (st := s__law_line) l6 c6 k6, PySem.W.mg_of X G a6, (fun_mk (st := s__law_line) l6 c6 k6).binds (ps := ["_law_prog", "_law_spot"]) fun _ _ _ _ _ _ us hl => match us, hl with | [_, _], _ => rfl⟩
    a__law_hands := f7, d__law_hands := _, p__law_hands := ⟨fun_mk (st := s__law_hands) l7 c7 k7, PySem.W.mg_of X G a7, (fun_mk (st := s__law_hands) l7 c7 k7).binds (ps := []) fun _ _ _ _ _ _ us hl => match us, hl with | [], _ => rfl⟩
    a__law_great := f8, d__law_great := _, p__law_great := ⟨fun_mk (st := s__law_great) l8 c8 k8, PySem.W.mg_of X G a8, (fun_mk (st := s__law_great) l8 c8 k8).binds (ps := []) fun _ _ _ _ _ _ us hl => match us, hl with | [], _ => rfl⟩
    a__law_merged := f9, d__law_merged := _, p__law_merged := ⟨fun_mk (st := s__law_merged) l9 c9 k9, PySem.W.mg_of X G a9, (fun_mk (st := s__law_merged) l9 c9 k9).binds (ps := ["_law_cell", "_law_more", "_law_times"]) fun _ _ _ _ _ _ us hl => match us, hl with | [_, _, _], _ => rfl⟩
    a_Counts_behind_fault := f10, d_Counts_behind_fault := _, p_Counts_behind_fault := ⟨fun_mk (st := s_Counts_behind_fault) l10 c10 k10, ⟨me10, fn10, k10⟩, (fun_mk (st := s_Counts_behind_fault) l10 c10 k10).binds (ps := ["self", "spot", "end", "left"]) fun _ _ _ _ _ _ us hl => match us, hl with | [_, _, _, _], _ => rfl⟩
    a__law_any := f11, d__law_any := _, p__law_any := ⟨fun_mk (st := s__law_any) l11 c11 k11, PySem.W.mg_of X G a11, (fun_mk (st := s__law_any) l11 c11 k11).binds (ps := ["_law_feed_here", "_law_some"]) fun _ _ _ _ _ _ us hl => match us, hl with | [_, _], _ => rfl⟩
    a__law_end_into := f12, d__law_end_into := _, p__law_end_into := ⟨fun_mk (st := s__law_end_into) l12 c12 k12, PySem.W.mg_of X G a12, (fun_mk (st := s__law_end_into) l12 c12 k12).binds (ps := ["_law_cell", "_law_prog", "_law_tables", "_law_spot", "_law_end", "_law_left", "_law_times"]) fun _ _ _ _ _ _ us hl => match us, hl with | [_, _, _, _, _, _, _], _ => rfl⟩
    a_Counts_behind_call := f13, d_Counts_behind_call := _, p_Counts_behind_call := ⟨fun_mk (st := s_Counts_behind_call) l13 c13 k13, ⟨me13, fn13, k13⟩, (fun_mk (st := s_Counts_behind_call) l13 c13 k13).binds (ps := ["self", "spot", "many"]) fun _ _ _ _ _ _ us hl => match us, hl with | [_, _, _], _ => rfl⟩
    a_Counts_behind_frame := f14, d_Counts_behind_frame := _, p_Counts_behind_frame := ⟨fun_mk (st := s_Counts_behind_frame) l14 c14 k14, ⟨me14, fn14, k14⟩, (fun_mk (st := s_Counts_behind_frame) l14 c14 k14).binds (ps := ["self", "spot", "end", "left"]) fun _ _ _ _ _ _ us hl => match us, hl with | [_, _, _, _], _ => rfl⟩
    a__law_calls := f15, d__law_calls := _, p__law_calls := ⟨fun_mk (st := s__law_calls) l15 c15 k15, PySem.W.mg_of X G a15, (fun_mk (st := s__law_calls) l15 c15 k15).binds (ps := ["_law_feed_here", "_law_titles"]) fun _ _ _ _ _ _ us hl => match us, hl with | [_, _], _ => rfl⟩
    a__law_due_cell := f16, d__law_due_cell := _, p__law_due_cell := ⟨fun_mk (st := s__law_due_cell) l16 c16 k16, PySem.W.mg_of X G a16, (fun_mk (st := s__law_due_cell) l16 c16 k16).binds (ps := ["_law_prog", "_law_tables", "_law_spot", "_law_n"]) fun _ _ _ _ _ _ us hl => match us, hl with | [_, _, _, _], _ => rfl⟩
    a__law_call_cell := f17, d__law_call_cell := _, p__law_call_cell := ⟨fun_mk (st := s__law_call_cell) l17 c17 k17, PySem.W.mg_of X G a17, (fun_mk (st := s__law_call_cell) l17 c17 k17).binds (ps := ["_law_prog", "_law_tables", "_law_spot", "_law_n"]) fun _ _ _ _ _ _ us hl => match us, hl with | [_, _, _, _], _ => rfl⟩
    a_Counts_add_call := f18, d_Counts_add_call := _, p_Counts_add_call := ⟨fun_mk (st := s_Counts_add_call) l18 c18 k18, ⟨me18, fn18, k18⟩, (fun_mk (st := s_Counts_add_call) l18 c18 k18).binds (ps := ["self", "spot", "name", "many", "totals"]) fun _ _ _ _ _ _ us hl => match us, hl with | [_, _, _, _, _], _ => rfl⟩
    a__law_function := f19, d__law_function := _, p__law_function := ⟨fun_mk (st := s__law_function) l19 c19 k19, PySem.W.mg_of X G a19, (fun_mk (st := s__law_function) l19 c19 k19).binds (ps := ["_law_feed_here", "_law_title", "_law_titles"]) fun _ _ _ _ _ _ us hl => match us, hl with | [_, _, _], _ => rfl⟩
    a__law_counts := f20, d__law_counts := _, p__law_counts := ⟨fun_mk (st := s__law_counts) l20 c20 k20, PySem.W.mg_of X G a20, (fun_mk (st := s__law_counts) l20 c20 k20).binds (ps := ["_law_prog", "_law_most"]) fun _ _ _ _ _ _ us hl => match us, hl with | [_, _], _ => rfl⟩
    a_Counts_from_spot := f21, d_Counts_from_spot := _, p_Counts_from_spot := ⟨fun_mk (st := s_Counts_from_spot) l21 c21 k21, ⟨me21, fn21, k21⟩, (fun_mk (st := s_Counts_from_spot) l21 c21 k21).binds (ps := ["self", "spot", "many"]) fun _ _ _ _ _ _ us hl => match us, hl with | [_, _, _], _ => rfl⟩
    a__law_program := f22, d__law_program := _, p__law_program := ⟨fun_mk (st := s__law_program) l22 c22 k22, PySem.W.mg_of X G a22, (fun_mk (st := s__law_program) l22 c22 k22).binds (ps := ["_law_feed_here"]) fun _ _ _ _ _ _ us hl => match us, hl with | [_], _ => rfl⟩
    a_Counts_fill := f23, d_Counts_fill := _, p_Counts_fill := ⟨fun_mk (st := s_Counts_fill) l23 c23 k23, ⟨me23, fn23, k23⟩, (fun_mk (st := s_Counts_fill) l23 c23 k23).binds (ps := ["self", "count"]) fun _ _ _ _ _ _ us hl => match us, hl with | [_, _], _ => rfl⟩
    a_how_many_runs := f24, d_how_many_runs := _, p_how_many_runs := ⟨fun_mk (st := s_how_many_runs) l24 c24 k24, PySem.W.mg_of X G a24, (fun_mk (st := s_how_many_runs) l24 c24 k24).binds (ps := ["program", "count"]) fun _ _ _ _ _ _ us hl => match us, hl with | [_, _], _ => rfl⟩
    a__law_right := f25, d__law_right := _, p__law_right := ⟨fun_mk (st := s__law_right) l25 c25 k25, PySem.W.mg_of X G a25, (fun_mk (st := s__law_right) l25 c25 k25).binds (ps := ["_law_feed_here", "_law_prog", "_law_many"]) fun _ _ _ _ _ _ us hl => match us, hl with | [_, _, _], _ => rfl⟩
    a_law := f26, d_law := _, p_law := ⟨fun_mk (st := s_law) l26 c26 k26, PySem.W.mg_of X G a26, (fun_mk (st := s_law) l26 c26 k26).binds (ps := ["_law_script"]) fun _ _ _ _ _ _ us hl => match us, hl with | [_], _ => rfl⟩
    n_dict := PySem.W.mg_none_of X G z_dict
    n_enumerate := PySem.W.mg_none_of X G z_enumerate
    n_int := PySem.W.mg_none_of X G z_int
    n_isinstance := PySem.W.mg_none_of X G z_isinstance
    n_len := PySem.W.mg_none_of X G z_len
    n_list := PySem.W.mg_none_of X G z_list
    n_min := PySem.W.mg_none_of X G z_min
    n_range := PySem.W.mg_none_of X G z_range
    n_repr := PySem.W.mg_none_of X G z_repr
    n_sorted := PySem.W.mg_none_of X G z_sorted
    n_sum := PySem.W.mg_none_of X G z_sum
    n_tuple := PySem.W.mg_none_of X G z_tuple
  }
end Yk22
def PySem.W.Fast.tw13405151030831195878 : Unit := ()
def PySem.W.Fast.tw12941645070024090762 : Unit := ()
def PySem.W.Fast.tw4771609717848255370 : Unit := ()
def PySem.W.Fast.tw15991723027334529004 : Unit := ()
def PySem.W.Fast.tw11195059586695434449 : Unit := ()
def PySem.W.Fast.tw17811697843889400049 : Unit := ()
def PySem.W.Fast.tw2799460220996283700 : Unit := ()
def PySem.W.Fast.tw13465681853478718518 : Unit := ()
open PySem PySem.W PyProof.Rows in
set_option maxRecDepth 100000 in
set_option maxHeartbeats 0 in
theorem PySem.Challenge.cw_outandover_k22_runs_counted_holds : PySem.Challenge.rw_outandover_k22_runs_counted.Holds := by
  w_on; o_law; k_head; (case hw => w_witness2)
  k_fill
  refine B.lawEnds (l := PySem.Challenge.rw_outandover_k22_runs_counted) (m := Yk22.m_law) (k := 10) (x := "_law_script") rfl (by decide) rfl ⟨rfl, by decide, by decide⟩ (fun w h Y => PySem.W.kIn_of Y) ?F Yk22.main
  case F =>
    intro w mg mb fa h mean KX TT hmg
    letI := B.Gd.no
    refine' (fun (T : Yk22.Txt PySem.Challenge.rw_outandover_k22_runs_counted.prog _ mg) => ?fin) (Yk22.txt_mk KX TT.g ?gc_Counts ?kpg_Counts ?khd_Counts ?kpo_Counts ?ksa_Counts ?kmi_Counts ?kkc_Counts ?kna_Counts_at_call ?kna_Counts_at_way ?kna_Counts_line_table ?a0 ?l0 ?c0 ?k0 ?a1 ?l1 ?c1 ?k1 ?a2 ?l2 ?c2 ?k2 ?me3 ?l3 ?c3 ?k3 ?fn3 ?a4 ?l4 ?c4 ?k4 ?a5 ?l5 ?c5 ?k5 ?a6 ?l6 ?c6 ?k6 ?a7 ?l7 ?c7 ?k7 ?a8 ?l8 ?c8 ?k8 ?a9 ?l9 ?c9 ?k9 ?me10 ?l10 ?c10 ?k10 ?fn10 ?a11 ?l11 ?c11 ?k11 ?a12 ?l12 ?c12 ?k12 ?me13 ?l13 ?c13 ?k13 ?fn13 ?me14 ?l14 ?c14 ?k14 ?fn14 ?a15 ?l15 ?c15 ?k15 ?a16 ?l16 ?c16 ?k16 ?a17 ?l17 ?c17 ?k17 ?me18 ?l18 ?c18 ?k18 ?fn18 ?a19 ?l19 ?c19 ?k19 ?a20 ?l20 ?c20 ?k20 ?me21 ?l21 ?c21 ?k21 ?fn21 ?a22 ?l22 ?c22 ?k22 ?me23 ?l23 ?c23 ?k23 ?fn23 ?a24 ?l24 ?c24 ?k24 ?a25 ?l25 ?c25 ?k25 ?a26 ?l26 ?c26 ?k26 ?z_dict ?z_enumerate ?z_int ?z_isinstance ?z_len ?z_list ?z_min ?z_range ?z_repr ?z_sorted ?z_sum ?z_tuple)
    (case gc_Counts => k_is)
    (case kpg_Counts => k_is)
    (case khd_Counts => k_is)
    (case kpo_Counts => k_is)
    (case ksa_Counts => k_is)
    (case kmi_Counts => k_is)
    (case kkc_Counts => k_is)
    (case kna_Counts_at_call => k_is)
    (case kna_Counts_at_way => k_is)
    (case kna_Counts_line_table => k_is)
    (case a0 => k_is)
    (case l0 => k_is)
    (case c0 => k_is)
    (case k0 => k_is)
    (case a1 => k_is)
    (case l1 => k_is)
    (case c1 => k_is)
    (case k1 => k_is)
    (case a2 => k_is)
    (case l2 => k_is)
    (case c2 => k_is)
    (case k2 => k_is)
    (case me3 => k_is)
    (case l3 => k_is)
    (case c3 => k_is)
    (case k3 => k_is)
    (case fn3 => k_is)
    (case a4 => k_is)
    (case l4 => k_is)
    (case c4 => k_is)
    (case k4 => k_is)
    (case a5 => k_is)
    (case l5 => k_is)
    (case c5 => k_is)
    (case k5 => k_is)
    (case a6 => k_is)
    (case l6 => k_is)
    (case c6 => k_is)
    (case k6 => k_is)
    (case a7 => k_is)
    (case l7 => k_is)
    (case c7 => k_is)
    (case k7 => k_is)
    (case a8 => k_is)
    (case l8 => k_is)
    (case c8 => k_is)
    (case k8 => k_is)
    (case a9 => k_is)
    (case l9 => k_is)
    (case c9 => k_is)
    (case k9 => k_is)
    (case me10 => k_is)
    (case l10 => k_is)
    (case c10 => k_is)
    (case k10 => k_is)
    (case fn10 => k_is)
    (case a11 => k_is)
    (case l11 => k_is)
    (case c11 => k_is)
    (case k11 => k_is)
    (case a12 => k_is)
    (case l12 => k_is)
    (case c12 => k_is)
    (case k12 => k_is)
    (case me13 => k_is)
    (case l13 => k_is)
    (case c13 => k_is)
    (case k13 => k_is)
    (case fn13 => k_is)
    (case me14 => k_is)
    (case l14 => k_is)
    (case c14 => k_is)
    (case k14 => k_is)
    (case fn14 => k_is)
    (case a15 => k_is)
    (case l15 => k_is)
    (case c15 => k_is)
    (case k15 => k_is)
    (case a16 => k_is)
    (case l16 => k_is)
    (case c16 => k_is)
    (case k16 => k_is)
    (case a17 => k_is)
    (case l17 => k_is)
    (case c17 => k_is)
    (case k17 => k_is)
    (case me18 => k_is)
    (case l18 => k_is)
    (case c18 => k_is)
    (case k18 => k_is)
    (case fn18 => k_is)
    (case a19 => k_is)
    (case l19 => k_is)
    (case c19 => k_is)
    (case k19 => k_is)
    (case a20 => k_is)
    (case l20 => k_is)
    (case c20 => k_is)
    (case k20 => k_is)
    (case me21 => k_is)
    (case l21 => k_is)
    (case c21 => k_is)
    (case k21 => k_is)
    (case fn21 => k_is)
    (case a22 => k_is)
    (case l22 => k_is)
    (case c22 => k_is)
    (case k22 => k_is)
    (case me23 => k_is)
    (case l23 => k_is)
    (case c23 => k_is)
    (case k23 => k_is)
    (case fn23 => k_is)
    (case a24 => k_is)
    (case l24 => k_is)
    (case c24 => k_is)
    (case k24 => k_is)
    (case a25 => k_is)
    (case l25 => k_is)
    (case c25 => k_is)
    (case k25 => k_is)
    (case a26 => k_is)
    (case l26 => k_is)
    (case c26 => k_is)
    (case k26 => k_is)
    (case z_dict => k_is)
    (case z_enumerate => k_is)
    (case z_int => k_is)
    (case z_isinstance => k_is)
    (case z_len => k_is)
    (case z_list => k_is)
    (case z_min => k_is)
    (case z_range => k_is)
    (case z_repr => k_is)
    (case z_sorted => k_is)
    (case z_sum => k_is)
    (case z_tuple => k_is)
    letI := Yk22.nmOf w T
    have e := hmg.symm.trans T.p_law.g
    cases e
    exact ⟨⟨Yk22.nmOf w T, T.d_law, Yk22.csOf T, rfl, (fun p hp => absurd hp (by simp [Yk22.csOf])), (fun p hp => absurd hp (by simp [Yk22.csOf])), (fun p hp => absurd hp (by simp [Yk22.csOf])), fun s u => B.binds1 T.p_law.F s u, fun base _ _ hB => Yk22.ok_law T hB⟩⟩
