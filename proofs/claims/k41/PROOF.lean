import PyProof.Rows.All
import Wide.All
import OpenK.AllK
import Wide.FinOn
import HandS.ForMost
import HandS.Exc
import HandS.ExcInit
import HandS.WordsExc
import HandS.Wide
import HandS.TupAny
import HandS.IsInst
import HandS.Flow
import HandS.Style
import HandS.SortInts
import KE.DataEq
import KE.SortData
import HandS.Star
import HandS.ClsMeth
import KE.GoesEnum
import HandS.Zip
import HandS.RaiseMore
import HandS.TupSets
import HandS.Defaults
import PyProof.ReprRoads
import HandS.Sort
import PyProof.FitsInt
import PySem.Challenge.RW_onceburst_k41_fastest_arrivals
set_option Elab.async false
set_option linter.all false
set_option maxRecDepth 100000
set_option maxHeartbeats 4000000
/-! Values as trees over a store of mutable things, and how the abstract heap bears them. -/
namespace DY
open PySem PySem.Spec PyProof.Rows L2

/-- what a node is -/
inductive Hd where
  | lst | tup | scr | ktp
  | dk (ks : List Key) | dt (ks : List (List Key))
  | ins (c : Nat) (ns : List Str)
  deriving DecidableEq

/-- data: h k is the k-th thing of the store -/
inductive D where
  | non | bl (b : Bool) | int (i : Int) | str (s : Str) | h (k : Nat) | nd (t : Hd) (xs : List D)

abbrev Store := List D
abbrev DEnv := List (Option D)
/-- an exception: its class, its attributes -/
structure Ex where
  c : Nat
  ns : List Str
  xs : List D

inductive Res (A : Type) where
  | ok (a : A) (st : Store)
  | er (e : Ex) (st : Store)
  | no

@[simp] def Res.bind {A B : Type} (r : Res A) (k : A → Store → Res B) : Res B :=
  match r with
  | .ok a s => k a s
  | .er e s => .er e s
  | .no => .no

/-- what is fixed: the written part, where the classes stand -/
structure Gd where
  K : PySem.W.Frag
  cls : Nat → Addr

def KLs (K : PySem.W.Frag) (a : Addr) (xs : List V) : Prop :=
  ∃ (o : Obj) (its : Array Value) (n : Nat), K.lookup a = some o ∧ o.cls = .type "list" ∧ o.dict = none ∧ o.data = .seq its n ∧ its.size ≤ sizeLine ∧ Vals xs its.toList
def KTs (K : PySem.W.Frag) (a : Addr) (xs : List V) : Prop :=
  ∃ (o : Obj) (its : Array Value) (n : Nat), K.lookup a = some o ∧ o.cls = .type "tuple" ∧ o.data = .seq its n ∧ its.size ≤ sizeLine ∧ Vals xs its.toList

/-- the address is no mutable thing -/
def Nin (Z r : List Addr) (a : Addr) : Prop := a ∉ Z ∧ a ∉ r

/-- what stands at a frozen node -/
def Hat (g : Gd) (Z r : List Addr) (H : Hp) (a : Addr) (t : Hd) (vs : List V) : Prop :=
  match t with
  | .lst => Nin Z r a ∧ H a = some (.lst vs)
  | .tup => Nin Z r a ∧ H a = some (.tup vs)
  | .ktp => (Nin Z r a ∧ Rd H a (.tup vs)) ∨ KTs g.K a vs
  | .scr => (Nin Z r a ∧ Rd H a (.lst vs)) ∨ KLs g.K a vs
  | .dk ks => Nin Z r a ∧ (ks.length = vs.length ∧ ks.Nodup) ∧ H a = some (.dK (ks.zip vs))
  | .dt ks => Nin Z r a ∧ (ks.length = vs.length ∧ ks.Nodup) ∧ H a = some (.dT (ks.zip vs))
  | .ins c ns => Nin Z r a ∧ (ns.length = vs.length ∧ ns.Nodup) ∧ ∃ dx, H a = some (.ins (g.cls c) dx (ns.zip vs))

/-- what stands at a mutable thing -/
def HatM (g : Gd) (H : Hp) (a : Addr) (t : Hd) (vs : List V) : Prop :=
  match t with
  | .lst => H a = some (.lst vs)
  | .tup => False
  | .scr => False
  | .ktp => False
  | .dk ks => (ks.length = vs.length ∧ ks.Nodup) ∧ H a = some (.dK (ks.zip vs))
  | .dt ks => (ks.length = vs.length ∧ ks.Nodup) ∧ H a = some (.dT (ks.zip vs))
  | .ins c ns => (ns.length = vs.length ∧ ns.Nodup) ∧ ∃ dx, H a = some (.ins (g.cls c) dx (ns.zip vs))

section
variable (g : Gd) (Z r : List Addr) (H : Hp)
mutual
def Rep : D → V → Prop
  | .non, v => v = .non
  | .bl b, v => v = .bl b
  | .int i, v => v = .int i
  | .str s, v => v = .str s
  | .h k, v => ∃ a, v = .ref a ∧ r[k]? = some a
  | .nd t xs, v => ∃ a vs, v = .ref a ∧ Hat g Z r H a t vs ∧ RepL xs vs
def RepL : List D → List V → Prop
  | [], vs => vs = []
  | d :: ds, vs => ∃ v q, vs = v :: q ∧ Rep d v ∧ RepL ds q
end
def Cell (d : D) (a : Addr) : Prop := ∃ t xs vs, d = .nd t xs ∧ HatM g H a t vs ∧ RepL g Z r H xs vs
/-- the store is borne -/
structure Rl (st : Store) : Prop where
  len : r.length = st.length
  nd : r.Nodup
  z : ∀ a ∈ Z, a ∉ r ∧ ∃ o, H a = some o
  cell : ∀ (k : Nat) (d : D), st[k]? = some d → ∃ a, r[k]? = some a ∧ Cell g Z r H d a
end

/-- the store may have grown and turned, all else stands -/
structure Ext (r : List Addr) (H : Hp) (r' : List Addr) (H' : Hp) : Prop where
  pre : ∃ q, r' = r ++ q
  keep : ∀ a o, H a = some o → a ∉ r → H' a = some o ∧ a ∉ r'

theorem Ext.refl (r : List Addr) (H : Hp) : Ext r H r H := ⟨⟨[], by simp⟩, fun a o h n => ⟨h, n⟩⟩
theorem Ext.trans {r r1 r2 : List Addr} {H H1 H2 : Hp} (a : Ext r H r1 H1) (b : Ext r1 H1 r2 H2) : Ext r H r2 H2 := by
  obtain ⟨q1, e1⟩ := a.pre
  obtain ⟨q2, e2⟩ := b.pre
  refine ⟨⟨q1 ++ q2, by rw [e2, e1, List.append_assoc]⟩, fun x o h n => ?_⟩
  obtain ⟨h1, n1⟩ := a.keep x o h n
  exact b.keep x o h1 n1
theorem Ext.get {r r1 : List Addr} {H H1 : Hp} (a : Ext r H r1 H1) {k : Nat} {x : Addr} (h : r[k]? = some x) : r1[k]? = some x := by
  obtain ⟨q, e⟩ := a.pre
  have hk : k < r.length := (List.getElem?_eq_some_iff.mp h).1
  rw [e, List.getElem?_append_left hk]; exact h
theorem Rd.some {H : Hp} {a : Addr} {u : HO} (h : Rd H a u) : ∃ o, H a = some o := by
  rcases h with h | ⟨o, h⟩
  · exact ⟨_, h⟩
  · exact ⟨_, h⟩
theorem Ext.rd {r r1 : List Addr} {H H1 : Hp} (e : Ext r H r1 H1) {Z : List Addr} {a : Addr} {u : HO} (n : Nin Z r a) (h : Rd H a u) : Nin Z r1 a ∧ Rd H1 a u := by
  rcases h with h | ⟨o, h⟩
  · obtain ⟨h1, n1⟩ := e.keep a _ h n.2
    exact ⟨⟨n.1, n1⟩, .inl h1⟩
  · obtain ⟨h1, n1⟩ := e.keep a _ h n.2
    exact ⟨⟨n.1, n1⟩, .inr ⟨o, h1⟩⟩
theorem Ext.at' {r r1 : List Addr} {H H1 : Hp} (e : Ext r H r1 H1) {Z : List Addr} {a : Addr} {u : HO} (n : Nin Z r a) (h : H a = some u) : Nin Z r1 a ∧ H1 a = some u := by
  obtain ⟨h1, n1⟩ := e.keep a _ h n.2
  exact ⟨⟨n.1, n1⟩, h1⟩
theorem Hat.ext {g : Gd} {Z r r1 : List Addr} {H H1 : Hp} (e : Ext r H r1 H1) {a : Addr} {t : Hd} {vs : List V} (h : Hat g Z r H a t vs) : Hat g Z r1 H1 a t vs := by
  cases t with
  | lst => exact e.at' h.1 h.2
  | scr => rcases h with ⟨n, h⟩ | h
           · exact .inl (e.rd n h)
           · exact .inr h
  | tup => exact e.at' h.1 h.2
  | ktp => rcases h with ⟨n, h⟩ | h
           · exact .inl (e.rd n h)
           · exact .inr h
  | dk ks => obtain ⟨n, l, h⟩ := h; obtain ⟨n1, h1⟩ := e.at' n h; exact ⟨n1, l, h1⟩
  | dt ks => obtain ⟨n, l, h⟩ := h; obtain ⟨n1, h1⟩ := e.at' n h; exact ⟨n1, l, h1⟩
  | ins c ns => obtain ⟨n, l, dx, h⟩ := h; obtain ⟨n1, h1⟩ := e.at' n h; exact ⟨n1, l, dx, h1⟩
mutual
theorem Rep.ext {g : Gd} {Z r r1 : List Addr} {H H1 : Hp} (e : Ext r H r1 H1) : ∀ (d : D) {v : V}, Rep g Z r H d v → Rep g Z r1 H1 d v
  | .non, _, h => h
  | .bl _, _, h => h
  | .int _, _, h => h
  | .str _, _, h => h
  | .h k, _, h => by obtain ⟨a, e1, e2⟩ := h; exact ⟨a, e1, e.get e2⟩
  | .nd t xs, _, h => by obtain ⟨a, vs, e1, h1, h2⟩ := h; exact ⟨a, vs, e1, h1.ext e, RepL.ext e xs h2⟩
theorem RepL.ext {g : Gd} {Z r r1 : List Addr} {H H1 : Hp} (e : Ext r H r1 H1) : ∀ (ds : List D) {vs : List V}, RepL g Z r H ds vs → RepL g Z r1 H1 ds vs
  | [], _, h => h
  | d :: ds, _, h => by obtain ⟨v, q, e1, h1, h2⟩ := h; exact ⟨v, q, e1, Rep.ext e d h1, RepL.ext e ds h2⟩
end

section
variable {g : Gd} {Z r : List Addr} {H : Hp}
theorem RepL.length : ∀ {ds : List D} {vs : List V}, RepL g Z r H ds vs → ds.length = vs.length
  | [], _, h => by cases h; rfl
  | d :: ds, _, h => by obtain ⟨v, q, e1, h1, h2⟩ := h; subst e1; simp [RepL.length h2]
theorem RepL.get : ∀ {ds : List D} {vs : List V} {i : Nat} {d : D}, RepL g Z r H ds vs → ds[i]? = some d → ∃ v, vs[i]? = some v ∧ Rep g Z r H d v
  | [], _, _, _, h, e => by simp at e
  | d :: ds, _, 0, _, h, e => by
    obtain ⟨v, q, e1, h1, h2⟩ := h; subst e1
    simp at e; subst e; exact ⟨v, by simp, h1⟩
  | d :: ds, _, i + 1, _, h, e => by
    obtain ⟨v, q, e1, h1, h2⟩ := h; subst e1
    simp at e
    obtain ⟨w, a, b⟩ := RepL.get h2 e
    exact ⟨w, by simpa using a, b⟩
theorem RepL.append : ∀ {ds es : List D} {vs ws : List V}, RepL g Z r H ds vs → RepL g Z r H es ws → RepL g Z r H (ds ++ es) (vs ++ ws)
  | [], _, _, _, h, h' => by cases h; simpa using h'
  | d :: ds, _, _, _, h, h' => by
    obtain ⟨v, q, e1, h1, h2⟩ := h; subst e1
    exact ⟨v, q ++ _, rfl, h1, RepL.append h2 h'⟩
theorem RepL.take : ∀ {ds : List D} {vs : List V} (n : Nat), RepL g Z r H ds vs → RepL g Z r H (ds.take n) (vs.take n)
  | _, _, 0, _ => by simp [RepL]
  | [], _, n + 1, h => by cases h; simp [RepL]
  | d :: ds, _, n + 1, h => by
    obtain ⟨v, q, e1, h1, h2⟩ := h; subst e1
    exact ⟨v, _, by simp, h1, RepL.take n h2⟩
theorem RepL.drop : ∀ {ds : List D} {vs : List V} (n : Nat), RepL g Z r H ds vs → RepL g Z r H (ds.drop n) (vs.drop n)
  | _, _, 0, h => by simpa using h
  | [], _, n + 1, h => by cases h; simp [RepL]
  | d :: ds, _, n + 1, h => by
    obtain ⟨v, q, e1, h1, h2⟩ := h; subst e1
    simpa using RepL.drop n h2
theorem RepL.set {d : D} {v : V} (hd : Rep g Z r H d v) : ∀ {ds : List D} {vs : List V} (n : Nat), RepL g Z r H ds vs → RepL g Z r H (ds.set n d) (vs.set n v)
  | [], _, _, h => by cases h; simp [RepL]
  | e :: ds, _, 0, h => by
    obtain ⟨w, q, e1, h1, h2⟩ := h; subst e1
    exact ⟨v, q, rfl, hd, h2⟩
  | e :: ds, _, n + 1, h => by
    obtain ⟨w, q, e1, h1, h2⟩ := h; subst e1
    exact ⟨w, _, rfl, h1, RepL.set hd n h2⟩
theorem RepL.one {d : D} {v : V} (h : Rep g Z r H d v) : RepL g Z r H [d] [v] := ⟨v, [], rfl, h, rfl⟩
theorem RepL.reverse : ∀ {ds : List D} {vs : List V}, RepL g Z r H ds vs → RepL g Z r H ds.reverse vs.reverse
  | [], _, h => by cases h; simp [RepL]
  | d :: ds, _, h => by
    obtain ⟨v, q, e1, h1, h2⟩ := h; subst e1
    simp only [List.reverse_cons]
    exact RepL.append (RepL.reverse h2) (RepL.one h1)
theorem RepL.erase : ∀ {ds : List D} {vs : List V} (n : Nat), RepL g Z r H ds vs → RepL g Z r H (ds.eraseIdx n) (vs.eraseIdx n)
  | [], _, _, h => by cases h; simp [RepL]
  | d :: ds, _, 0, h => by obtain ⟨v, q, e1, h1, h2⟩ := h; subst e1; simpa using h2
  | d :: ds, _, n + 1, h => by
    obtain ⟨v, q, e1, h1, h2⟩ := h; subst e1
    exact ⟨v, _, by simp, h1, RepL.erase n h2⟩
theorem RepL.ints : ∀ (ns : List Int), RepL g Z r H (ns.map D.int) (ns.map V.int)
  | [] => rfl
  | n :: ns => ⟨_, _, rfl, rfl, RepL.ints ns⟩
theorem RepL.replicate {d : D} {v : V} (h : Rep g Z r H d v) : ∀ n : Nat, RepL g Z r H (List.replicate n d) (List.replicate n v)
  | 0 => rfl
  | n + 1 => ⟨v, _, rfl, h, RepL.replicate h n⟩

/-- frozen lists and tuples may be read -/
theorem Hat.lst {a : Addr} {vs : List V} (h : Hat g Z r H a .lst vs) : SqL g.K H a vs := .inl (.inl h.2)
theorem Hat.scr {a : Addr} {vs : List V} (h : Hat g Z r H a .scr vs) : SqL g.K H a vs := by
  rcases h with ⟨_, h⟩ | h
  · exact .inl h
  · exact .inr h
theorem Hat.tup {a : Addr} {vs : List V} (h : Hat g Z r H a .tup vs) : SqT g.K H a vs := .inl (.inl h.2)
theorem Hat.ktp {a : Addr} {vs : List V} (h : Hat g Z r H a .ktp vs) : SqT g.K H a vs := by
  rcases h with ⟨_, h⟩ | h
  · exact .inl h
  · exact .inr h

theorem Rl.free {st : Store} (R : Rl g Z r H st) {p : Addr} (h : H p = none) : p ∉ Z ∧ p ∉ r := by
  refine ⟨fun m => ?_, fun m => ?_⟩
  · obtain ⟨_, o, e⟩ := R.z p m; rw [h] at e; cases e
  · obtain ⟨k, hk, e⟩ := List.getElem_of_mem m
    have hk' : k < st.length := by rw [← R.len]; exact hk
    obtain ⟨a, ea, t, xs, vs, _, hm, _⟩ := R.cell k st[k] (List.getElem?_eq_getElem hk')
    have : r[k]? = some p := by rw [List.getElem?_eq_getElem hk, e]
    rw [this] at ea; cases ea
    cases t with
    | lst => rw [show H p = some (.lst vs) from hm] at h; cases h
    | tup => exact hm
    | scr => exact hm
    | ktp => exact hm
    | dk ks => obtain ⟨_, q⟩ := hm; rw [q] at h; cases h
    | dt ks => obtain ⟨_, q⟩ := hm; rw [q] at h; cases h
    | ins c ns => obtain ⟨_, _, q⟩ := hm; rw [q] at h; cases h
end

/-- a change at an address that is not tracked as frozen and is no cell: Rep stands -/
theorem Hat.off {g : Gd} {Z r : List Addr} {H : Hp} {p : Addr} {o : HO} {a : Addr} {t : Hd} {vs : List V} (hp : ¬ Nin Z r p) (h : Hat g Z r H a t vs) : Hat g Z r (upd H p o) a t vs := by
  have ne : ∀ {b : Addr}, Nin Z r b → b ≠ p := fun n e => hp (e ▸ n)
  have rd : ∀ {b : Addr} {u : HO}, Nin Z r b → Rd H b u → Rd (upd H p o) b u := fun n q => by
    rcases q with q | ⟨x, q⟩
    · exact .inl (by rw [upd_ne (ne n)]; exact q)
    · exact .inr ⟨x, by rw [upd_ne (ne n)]; exact q⟩
  cases t with
  | lst => obtain ⟨n, h⟩ := h; exact ⟨n, by rw [upd_ne (ne n)]; exact h⟩
  | scr => rcases h with ⟨n, h⟩ | h
           · exact .inl ⟨n, rd n h⟩
           · exact .inr h
  | tup => obtain ⟨n, h⟩ := h; exact ⟨n, by rw [upd_ne (ne n)]; exact h⟩
  | ktp => rcases h with ⟨n, h⟩ | h
           · exact .inl ⟨n, rd n h⟩
           · exact .inr h
  | dk ks => obtain ⟨n, l, h⟩ := h; exact ⟨n, l, by rw [upd_ne (ne n)]; exact h⟩
  | dt ks => obtain ⟨n, l, h⟩ := h; exact ⟨n, l, by rw [upd_ne (ne n)]; exact h⟩
  | ins c ns => obtain ⟨n, l, dx, h⟩ := h; exact ⟨n, l, dx, by rw [upd_ne (ne n)]; exact h⟩
mutual
theorem Rep.off {g : Gd} {Z r : List Addr} {H : Hp} {p : Addr} {o : HO} (hp : ¬ Nin Z r p) : ∀ (d : D) {v : V}, Rep g Z r H d v → Rep g Z r (upd H p o) d v
  | .non, _, h => h
  | .bl _, _, h => h
  | .int _, _, h => h
  | .str _, _, h => h
  | .h k, _, h => h
  | .nd t xs, _, h => by obtain ⟨a, vs, e1, h1, h2⟩ := h; exact ⟨a, vs, e1, h1.off hp, RepL.off hp xs h2⟩
theorem RepL.off {g : Gd} {Z r : List Addr} {H : Hp} {p : Addr} {o : HO} (hp : ¬ Nin Z r p) : ∀ (ds : List D) {vs : List V}, RepL g Z r H ds vs → RepL g Z r (upd H p o) ds vs
  | [], _, h => h
  | d :: ds, _, h => by obtain ⟨v, q, e1, h1, h2⟩ := h; exact ⟨v, q, e1, Rep.off hp d h1, RepL.off hp ds h2⟩
end
/-- another list of forbidden addresses, another store -/
theorem Hat.turn {g : Gd} {Z r Z' r' : List Addr} {H : Hp} (f : ∀ a, Nin Z r a → (∃ o, H a = some o) → Nin Z' r' a) {a : Addr} {t : Hd} {vs : List V} (h : Hat g Z r H a t vs) : Hat g Z' r' H a t vs := by
  cases t with
  | lst => obtain ⟨n, h⟩ := h; exact ⟨f a n ⟨_, h⟩, h⟩
  | scr => rcases h with ⟨n, h⟩ | h
           · exact .inl ⟨f a n (Rd.some h), h⟩
           · exact .inr h
  | tup => obtain ⟨n, h⟩ := h; exact ⟨f a n ⟨_, h⟩, h⟩
  | ktp => rcases h with ⟨n, h⟩ | h
           · exact .inl ⟨f a n (Rd.some h), h⟩
           · exact .inr h
  | dk ks => obtain ⟨n, l, h⟩ := h; exact ⟨f a n ⟨_, h⟩, l, h⟩
  | dt ks => obtain ⟨n, l, h⟩ := h; exact ⟨f a n ⟨_, h⟩, l, h⟩
  | ins c ns => obtain ⟨n, l, dx, h⟩ := h; exact ⟨f a n ⟨_, h⟩, l, dx, h⟩
mutual
theorem Rep.turn {g : Gd} {Z r Z' r' : List Addr} {H : Hp} (f : ∀ a, Nin Z r a → (∃ o, H a = some o) → Nin Z' r' a) (hr : ∀ (k : Nat) a, r[k]? = some a → r'[k]? = some a) : ∀ (d : D) {v : V}, Rep g Z r H d v → Rep g Z' r' H d v
  | .non, _, h => h
  | .bl _, _, h => h
  | .int _, _, h => h
  | .str _, _, h => h
  | .h k, _, h => by obtain ⟨a, e1, e2⟩ := h; exact ⟨a, e1, hr k a e2⟩
  | .nd t xs, _, h => by obtain ⟨a, vs, e1, h1, h2⟩ := h; exact ⟨a, vs, e1, h1.turn f, RepL.turn f hr xs h2⟩
theorem RepL.turn {g : Gd} {Z r Z' r' : List Addr} {H : Hp} (f : ∀ a, Nin Z r a → (∃ o, H a = some o) → Nin Z' r' a) (hr : ∀ (k : Nat) a, r[k]? = some a → r'[k]? = some a) : ∀ (ds : List D) {vs : List V}, RepL g Z r H ds vs → RepL g Z' r' H ds vs
  | [], _, h => h
  | d :: ds, _, h => by obtain ⟨v, q, e1, h1, h2⟩ := h; exact ⟨v, q, e1, Rep.turn f hr d h1, RepL.turn f hr ds h2⟩
end

section
variable {g : Gd} {Z r : List Addr} {H : Hp} {st : Store}
/-- a new thing at p that nobody knows -/
theorem Ext.new {p : Addr} {o : HO} (h : H p = none) : Ext r H r (upd H p o) :=
  ⟨⟨[], by simp⟩, fun a u e n => ⟨by rw [upd_ne (ne_of_none e h)]; exact e, n⟩⟩
theorem HatM.some {a : Addr} {t : Hd} {vs : List V} (h : HatM g H a t vs) : ∃ o, H a = some o := by
  cases t with
  | lst => exact ⟨_, h⟩
  | tup => exact h.elim
  | scr => exact h.elim
  | ktp => exact h.elim
  | dk ks => exact ⟨_, h.2⟩
  | dt ks => exact ⟨_, h.2⟩
  | ins c ns => obtain ⟨_, dx, h⟩ := h; exact ⟨_, h⟩
theorem HatM.keep {H' : Hp} {a : Addr} {t : Hd} {vs : List V} (e : H' a = H a) (h : HatM g H a t vs) : HatM g H' a t vs := by
  cases t with
  | lst => exact e.trans h
  | tup => exact h.elim
  | scr => exact h.elim
  | ktp => exact h.elim
  | dk ks => exact ⟨h.1, e.trans h.2⟩
  | dt ks => exact ⟨h.1, e.trans h.2⟩
  | ins c ns => obtain ⟨l, dx, h⟩ := h; exact ⟨l, dx, e.trans h⟩
theorem Rl.new {p : Addr} {o : HO} (R : Rl g Z r H st) (h : H p = none) : Rl g Z r (upd H p o) st := by
  refine ⟨R.len, R.nd, fun a m => ?_, fun k d e => ?_⟩
  · obtain ⟨n, u, e⟩ := R.z a m
    exact ⟨n, u, by rw [upd_ne (ne_of_none e h)]; exact e⟩
  · obtain ⟨a, ea, t, xs, vs, ed, hm, hx⟩ := R.cell k d e
    obtain ⟨u, eu⟩ := hm.some
    exact ⟨a, ea, t, xs, vs, ed, hm.keep (upd_ne (ne_of_none eu h)), RepL.ext (Ext.new h) xs hx⟩
/-- a new thing that is kept in the store -/
theorem Ext.grow {p : Addr} {o : HO} (h : H p = none) : Ext r H (r ++ [p]) (upd H p o) :=
  ⟨⟨[p], rfl⟩, fun a u e n => by
    have ne := ne_of_none e h
    exact ⟨by rw [upd_ne ne]; exact e, by simp [n, ne]⟩⟩
theorem Rl.grow {p : Addr} {o : HO} {t : Hd} {xs : List D} {vs : List V} (R : Rl g Z r H st) (h : H p = none) (hm : HatM g (upd H p o) p t vs) (hx : RepL g Z r H xs vs) :
    Rl g Z (r ++ [p]) (upd H p o) (st ++ [.nd t xs]) := by
  have fr := R.free h
  refine ⟨by simp [R.len], ?_, fun a m => ?_, fun k d e => ?_⟩
  · refine List.nodup_append.mpr ⟨R.nd, by simp, ?_⟩
    intro a ha b hb; simp at hb; subst hb; intro e; subst e; exact fr.2 ha
  · obtain ⟨n, u, e⟩ := R.z a m
    have ne := ne_of_none e h
    exact ⟨by simp [n, ne], u, by rw [upd_ne ne]; exact e⟩
  · by_cases hk : k < st.length
    · rw [List.getElem?_append_left hk] at e
      obtain ⟨a, ea, t', xs', vs', ed, hm', hx'⟩ := R.cell k d e
      obtain ⟨u, eu⟩ := hm'.some
      have hk' : k < r.length := by rw [R.len]; exact hk
      exact ⟨a, by rw [List.getElem?_append_left hk']; exact ea, t', xs', vs', ed, hm'.keep (upd_ne (ne_of_none eu h)), RepL.ext (Ext.grow h) xs' hx'⟩
    · have hk2 : k = st.length := by
        have := (List.getElem?_eq_some_iff.mp e).1
        simp at this; omega
      subst hk2
      simp at e; subst e
      exact ⟨p, by rw [← R.len]; simp, t, xs, vs, rfl, hm, RepL.ext (Ext.grow h) xs hx⟩
/-- a thing of the store is written -/
theorem Ext.write {k : Nat} {a : Addr} {o : HO} (h : r[k]? = some a) : Ext r H r (upd H a o) :=
  ⟨⟨[], by simp⟩, fun b u e n => ⟨by rw [upd_ne (show b ≠ a from fun z => n (by rw [z]; exact List.mem_of_getElem? h))]; exact e, n⟩⟩
theorem Rl.write {k : Nat} {a : Addr} {o : HO} {t : Hd} {xs : List D} {vs : List V} (R : Rl g Z r H st) (h : r[k]? = some a) (hm : HatM g (upd H a o) a t vs) (hx : RepL g Z r H xs vs) :
    Rl g Z r (upd H a o) (st.set k (.nd t xs)) := by
  have hna : ¬ Nin Z r a := fun n => n.2 (List.mem_of_getElem? h)
  refine ⟨by simp [R.len], R.nd, fun b m => ?_, fun j d e => ?_⟩
  · obtain ⟨n, u, e⟩ := R.z b m
    exact ⟨n, u, by rw [upd_ne (show b ≠ a from fun z => n (by rw [z]; exact List.mem_of_getElem? h))]; exact e⟩
  · by_cases hj : j = k
    · subst hj
      have hk' : j < st.length := by rw [← R.len]; exact (List.getElem?_eq_some_iff.mp h).1
      rw [List.getElem?_set_self hk'] at e
      cases e
      exact ⟨a, h, t, xs, vs, rfl, hm, RepL.off hna xs hx⟩
    · rw [List.getElem?_set_ne (Ne.symm hj)] at e
      obtain ⟨b, eb, t', xs', vs', ed, hm', hx'⟩ := R.cell j d e
      have ne : b ≠ a := fun z => by
        subst z
        obtain ⟨h1, e1⟩ := List.getElem?_eq_some_iff.mp eb
        obtain ⟨h2, e2⟩ := List.getElem?_eq_some_iff.mp h
        exact hj ((List.getElem_inj R.nd).mp (e1.trans e2.symm))
      exact ⟨b, eb, t', xs', vs', ed, hm'.keep (upd_ne ne), RepL.off hna xs' hx'⟩
end

/-- the names' values -/
structure EnvR (g : Gd) (Z r : List Addr) (H : Hp) (env : DEnv) (sg : L2.St) : Prop where
  len : env.length = sg.length
  at_ : ∀ (i : Nat) (d : D), env[i]? = some (some d) → ∃ v, sg[i]? = some (some v) ∧ Rep g Z r H d v
theorem EnvR.ext {g : Gd} {Z r r1 : List Addr} {H H1 : Hp} {env : DEnv} {sg : L2.St} (E : EnvR g Z r H env sg) (e : Ext r H r1 H1) : EnvR g Z r1 H1 env sg :=
  ⟨E.len, fun i d h => let ⟨v, a, b⟩ := E.at_ i d h; ⟨v, a, Rep.ext e d b⟩⟩
theorem EnvR.set {g : Gd} {Z r : List Addr} {H : Hp} {env : DEnv} {sg : L2.St} (E : EnvR g Z r H env sg) (i : Nat) {d : D} {v : V} (h : Rep g Z r H d v) : EnvR g Z r H (env.set i (some d)) (sg.set i (some v)) := by
  refine ⟨by simp [E.len], fun j e hj => ?_⟩
  by_cases hij : j = i
  · subst hij
    have hl : j < env.length := by
      have := (List.getElem?_eq_some_iff.mp hj).1
      simpa using this
    rw [List.getElem?_set_self hl] at hj
    cases hj
    exact ⟨v, by rw [List.getElem?_set_self (by rw [← E.len]; exact hl)], h⟩
  · rw [List.getElem?_set_ne (Ne.symm hij)] at hj ⊢
    exact E.at_ j e hj
end DY

set_option Elab.async false
set_option linter.all false
set_option maxRecDepth 100000
set_option maxHeartbeats 4000000
/-! Expressions by what they compute on data. -/
namespace DY
open PySem PySem.Spec PyProof.Rows L2

/-- an exception of e's class with its attributes -/
def RepX (g : Gd) (Z r : List Addr) (H : Hp) (e : Ex) (cls : Value) (d : Option Addr) : Prop :=
  cls = .ref (g.cls e.c) ∧ ((d = none ∧ e.ns = [] ∧ e.xs = []) ∨ ∃ dx vs, d = some dx ∧ e.ns.length = vs.length ∧ Nin Z r dx ∧ H dx = some (.xd (e.ns.zip vs)) ∧ RepL g Z r H e.xs vs)

/-- the result stands as it is told, whatever addresses it takes -/
def Post {A B : Type} (g : Gd) (Z r : List Addr) (H : Hp) (RA : List Addr → Hp → A → B → Prop) (x : Res A) (Q : B → Hp → Prop) (W : Value → Option Addr → Hp → Prop) : Prop :=
  match x with
  | .ok a st => ∀ r' H' b, Ext r H r' H' → Rl g Z r' H' st → RA r' H' a b → Q b H'
  | .er e st => ∀ r' H' cls d, Ext r H r' H' → Rl g Z r' H' st → RepX g Z r' H' e cls d → W cls d H'
  | .no => False
theorem Post.ext {A B : Type} {g : Gd} {Z r r1 : List Addr} {H H1 : Hp} {RA : List Addr → Hp → A → B → Prop} {x : Res A} {Q : B → Hp → Prop} {W : Value → Option Addr → Hp → Prop}
    (e : Ext r H r1 H1) (h : Post g Z r H RA x Q W) : Post g Z r1 H1 RA x Q W := by
  cases x with
  | ok a st => exact fun r' H' b e' R q => h r' H' b (e.trans e') R q
  | er x st => exact fun r' H' c d e' R q => h r' H' c d (e.trans e') R q
  | no => exact h
theorem Post.bind {A B C F : Type} {g : Gd} {Z r : List Addr} {H : Hp} {RA : List Addr → Hp → A → B → Prop} {RC : List Addr → Hp → C → F → Prop} {x : Res A} {k : A → Store → Res C} {Q : B → Hp → Prop} {QC : F → Hp → Prop} {W : Value → Option Addr → Hp → Prop}
    (h : Post g Z r H RC (x.bind k) QC W)
    (hk : ∀ a st r' H' b, x = .ok a st → Ext r H r' H' → Rl g Z r' H' st → RA r' H' a b → Post g Z r' H' RC (k a st) QC W → Q b H') : Post g Z r H RA x Q W := by
  cases x with
  | ok a st => exact fun r' H' b e R q => hk a st r' H' b rfl e R q (Post.ext e h)
  | er x st => exact h
  | no => exact h
theorem Post.imp {A B : Type} {g : Gd} {Z r : List Addr} {H : Hp} {RA : List Addr → Hp → A → B → Prop} {x : Res A} {Q Q' : B → Hp → Prop} {W : Value → Option Addr → Hp → Prop}
    (h : Post g Z r H RA x Q W) (f : ∀ b H', Q b H' → Q' b H') : Post g Z r H RA x Q' W := by
  cases x with
  | ok a st => exact fun r' H' b e R q => f b H' (h r' H' b e R q)
  | er x st => exact h
  | no => exact h

abbrev RV (g : Gd) (Z : List Addr) : List Addr → Hp → D → V → Prop := fun r H => Rep g Z r H
abbrev RVs (g : Gd) (Z : List Addr) : List Addr → Hp → List D → List V → Prop := fun r H => RepL g Z r H
abbrev RB : List Addr → Hp → Bool → Bool → Prop := fun _ _ a b => a = b

abbrev SemE := DEnv → Store → Res D
abbrev SemA := DEnv → Store → Res (List D)
abbrev SemT := DEnv → Store → Res Bool

def rdE (g : Gd) (W : WX) (f : SemE) : TE := fun sg H Q => ∃ Z r env st, EnvR g Z r H env sg ∧ Rl g Z r H st ∧ Post g Z r H (RV g Z) (f env st) Q (fun c d H' => W c d sg H')
def rdA (g : Gd) (W : WX) (f : SemA) : TA := fun sg H Q => ∃ Z r env st, EnvR g Z r H env sg ∧ Rl g Z r H st ∧ Post g Z r H (RVs g Z) (f env st) Q (fun c d H' => W c d sg H')
def rdT (g : Gd) (W : WX) (f : SemT) : TT := fun sg H Q => ∃ Z r env st, EnvR g Z r H env sg ∧ Rl g Z r H st ∧ Post g Z r H RB (f env st) Q (fun c d H' => W c d sg H')

/-- e computes f -/
structure SE (X : Cx) (cl : Nat → Addr) (W : WX) (e : Expr) (f : SemE) : Prop where
  run : PE X e (rdE ⟨X.K, cl⟩ W f)
structure SA (X : Cx) (cl : Nat → Addr) (W : WX) (es : List Expr) (f : SemA) : Prop where
  run : PA X es (rdA ⟨X.K, cl⟩ W f)
structure ST (X : Cx) (cl : Nat → Addr) (W : WX) (e : Expr) (f : SemT) : Prop where
  run : PT X e (rdT ⟨X.K, cl⟩ W f)
/-- a part of a conjunction -/
structure SW (X : Cx) (cl : Nat → Addr) (W : WX) (e : Expr) (f : SemT) : Prop where
  run : PW X e (rdT ⟨X.K, cl⟩ W f)

theorem _root_.L2.PE.imp {X : Cx} {e : Expr} {t t' : TE} (h : PE X e t) (f : ∀ sg H Q, t' sg H Q → t sg H Q) : PE X e t' := ⟨fun pins s sg H Q I q => h.run pins s sg H Q I (f sg H Q q)⟩
theorem _root_.L2.PA.imp {X : Cx} {e : List Expr} {t t' : TA} (h : PA X e t) (f : ∀ sg H Q, t' sg H Q → t sg H Q) : PA X e t' := ⟨fun pos pins s sg H Q I q => h.run pos pins s sg H Q I (f sg H Q q)⟩
theorem _root_.L2.PT.imp {X : Cx} {e : Expr} {t t' : TT} (h : PT X e t) (f : ∀ sg H Q, t' sg H Q → t sg H Q) : PT X e t' := ⟨fun pins s sg H Q I q => h.run pins s sg H Q I (f sg H Q q)⟩
theorem _root_.L2.PW.imp {X : Cx} {e : Expr} {t t' : TT} (h : PW X e t) (f : ∀ sg H Q, t' sg H Q → t sg H Q) : PW X e t' := ⟨fun wh pins s sg H Q I q => h.run wh pins s sg H Q I (f sg H Q q)⟩

/-! ### the store read -/
/-- what stands at a datum -/
def seen (st : Store) : D → Option (Hd × List D)
  | .nd t xs => some (t, xs)
  | .h k => match st[k]? with
    | some (.nd t xs) => some (t, xs)
    | _ => none
  | _ => none
/-- a list's items -/
def lst? (st : Store) (d : D) : Option (List D) := match seen st d with
  | some (.lst, xs) => some xs
  | some (.scr, xs) => some xs
  | _ => none
/-- of a list that may be joined with another one -/
def lstX? (st : Store) (d : D) : Option (List D) := match seen st d with
  | some (.lst, xs) => some xs
  | _ => none
def tup? (st : Store) (d : D) : Option (List D) := match seen st d with
  | some (.tup, xs) => some xs
  | some (.ktp, xs) => some xs
  | _ => none
def tupX? (st : Store) (d : D) : Option (List D) := match seen st d with
  | some (.tup, xs) => some xs
  | _ => none

section
variable {g : Gd} {Z r : List Addr} {H : Hp} {st : Store} {d : D} {v : V} {xs : List D}
/-- what is read stands there -/
theorem seen_ok (R : Rl g Z r H st) (h : Rep g Z r H d v) {t : Hd} (e : seen st d = some (t, xs)) : ∃ a vs, v = .ref a ∧ RepL g Z r H xs vs ∧ (Hat g Z r H a t vs ∨ HatM g H a t vs) := by
  cases d with
  | nd t' ys =>
    cases e
    obtain ⟨a, vs, e1, h1, h2⟩ := h
    exact ⟨a, vs, e1, h2, .inl h1⟩
  | h k =>
    obtain ⟨a, e1, e2⟩ := h
    have e' : (match st[k]? with | some (.nd t xs) => some (t, xs) | _ => none) = some (t, xs) := e
    cases hk : st[k]? with
    | none => rw [hk] at e'; cases e'
    | some c =>
      rw [hk] at e'
      cases c with
      | nd t' ys =>
        cases e'
        obtain ⟨b, eb, t2, ys2, vs, ed, hm, hx⟩ := R.cell k _ hk
        cases ed
        rw [e2] at eb; cases eb
        exact ⟨a, vs, e1, hx, .inr hm⟩
      | non => cases e'
      | bl b => cases e'
      | int i => cases e'
      | str s => cases e'
      | h j => cases e'
  | non => cases e
  | bl b => cases e
  | int i => cases e
  | str s => cases e
theorem lst_ok (R : Rl g Z r H st) (h : Rep g Z r H d v) (e : lst? st d = some xs) : ∃ a vs, v = .ref a ∧ RepL g Z r H xs vs ∧ SqL g.K H a vs := by
  unfold lst? at e
  split at e
  · rename_i ys es
    cases e
    obtain ⟨a, vs, e1, h2, h3⟩ := seen_ok R h es
    refine ⟨a, vs, e1, h2, ?_⟩
    rcases h3 with h3 | h3
    · exact Hat.lst h3
    · exact SqL.of h3
  · rename_i ys es
    cases e
    obtain ⟨a, vs, e1, h2, h3⟩ := seen_ok R h es
    refine ⟨a, vs, e1, h2, ?_⟩
    rcases h3 with h3 | h3
    · exact Hat.scr h3
    · exact h3.elim
  · cases e
theorem lstX_ok (R : Rl g Z r H st) (h : Rep g Z r H d v) (e : lstX? st d = some xs) : ∃ a vs, v = .ref a ∧ RepL g Z r H xs vs ∧ H a = some (.lst vs) := by
  unfold lstX? at e
  split at e
  · rename_i ys es
    cases e
    obtain ⟨a, vs, e1, h2, h3⟩ := seen_ok R h es
    refine ⟨a, vs, e1, h2, ?_⟩
    rcases h3 with h3 | h3
    · exact h3.2
    · exact h3
  · cases e
theorem tup_ok (R : Rl g Z r H st) (h : Rep g Z r H d v) (e : tup? st d = some xs) : ∃ a vs, v = .ref a ∧ RepL g Z r H xs vs ∧ SqT g.K H a vs := by
  unfold tup? at e
  split at e
  · rename_i ys es
    cases e
    obtain ⟨a, vs, e1, h2, h3⟩ := seen_ok R h es
    refine ⟨a, vs, e1, h2, ?_⟩
    rcases h3 with h3 | h3
    · exact Hat.tup h3
    · exact h3.elim
  · rename_i ys es
    cases e
    obtain ⟨a, vs, e1, h2, h3⟩ := seen_ok R h es
    refine ⟨a, vs, e1, h2, ?_⟩
    rcases h3 with h3 | h3
    · exact Hat.ktp h3
    · exact h3.elim
  · cases e
theorem tupX_ok (R : Rl g Z r H st) (h : Rep g Z r H d v) (e : tupX? st d = some xs) : ∃ a vs, v = .ref a ∧ RepL g Z r H xs vs ∧ H a = some (.tup vs) := by
  unfold tupX? at e
  split at e
  · rename_i ys es
    cases e
    obtain ⟨a, vs, e1, h2, h3⟩ := seen_ok R h es
    refine ⟨a, vs, e1, h2, ?_⟩
    rcases h3 with h3 | h3
    · exact h3.2
    · exact h3.elim
  · cases e
end

/-! ### leaves -/
section
variable {X : Cx} {cl : Nat → Addr} {W : WX}
@[simp] def dConst (d : D) : SemE := fun _ st => .ok d st
@[simp] def dVar (i : Nat) : SemE := fun env st => match env[i]? with
  | some (some d) => .ok d st
  | _ => .no
theorem post_ok {A B : Type} {g : Gd} {Z r : List Addr} {H : Hp} {RA : List Addr → Hp → A → B → Prop} {a : A} {st : Store} {Q : B → Hp → Prop} {W' : Value → Option Addr → Hp → Prop} {b : B}
    (h : Post g Z r H RA (.ok a st) Q W') (R : Rl g Z r H st) (q : RA r H a b) : Q b H := h r H b (Ext.refl r H) R q
theorem se_int {i : Int} {j : Nat} {pos : Pos} : SE X cl W (.Constant (.int i) j pos) (dConst (.int i)) := ⟨pe_int.imp fun sg H Q ⟨Z, r, env, st, E, R, h⟩ => post_ok h R rfl⟩
theorem se_bl {b : Bool} {j : Nat} {pos : Pos} : SE X cl W (.Constant (.bool b) j pos) (dConst (.bl b)) := ⟨pe_bl.imp fun sg H Q ⟨Z, r, env, st, E, R, h⟩ => post_ok h R rfl⟩
theorem se_non {j : Nat} {pos : Pos} : SE X cl W (.Constant .none j pos) (dConst .non) := ⟨pe_non.imp fun sg H Q ⟨Z, r, env, st, E, R, h⟩ => post_ok h R rfl⟩
theorem se_str {x : Str} {j : Nat} {pos : Pos} : SE X cl W (.Constant (.str x) j pos) (dConst (.str x)) := ⟨pe_str.imp fun sg H Q ⟨Z, r, env, st, E, R, h⟩ => post_ok h R rfl⟩
theorem se_var (i : Nat) {x : Str} {pos : Pos} (hN : X.N[i]? = some x := by rfl) (hv : Vis X.env.scope x := by first | exact Or.inl rfl | exact Or.inr (Or.inl rfl) | exact Or.inr (Or.inr rfl))
    (hd : (x == ("__debug__" : Str)) = false := by decide +kernel) (hcd : (x == ("__classdict__" : Str)) = false := by decide +kernel) : SE X cl W (.Name x pos) (dVar i) := by
  refine ⟨(pe_var hN hv hd hcd).imp fun sg H Q ⟨Z, r, env, st, E, R, h⟩ => ?_⟩
  unfold dVar at h
  cases he : env[i]? with
  | none => rw [he] at h; exact h.elim
  | some o =>
    cases o with
    | none => rw [he] at h; exact h.elim
    | some d =>
      rw [he] at h
      obtain ⟨v, e1, q⟩ := E.at_ i d he
      exact ⟨v, e1, post_ok h R q⟩
/-- a module's constant -/
theorem se_glob {x : Str} {v : V} {u : Value} {d : D} {pos : Pos} (hg : Gl X x) (hm : X.mg x = some u) (rv : RelV v u) (hd : ∀ Z r H, Rep ⟨X.K, cl⟩ Z r H d v) (hdb : (x == ("__debug__" : Str)) = false := by decide +kernel) : SE X cl W (.Name x pos) (dConst d) :=
  ⟨(pe_glob hg hm rv hdb).imp fun sg H Q ⟨Z, r, env, st, E, R, h⟩ => post_ok h R (hd Z r H)⟩

/-! ### operators -/
@[simp] def dBin (op : D → D → Store → Res D) (fa fb : SemE) : SemE := fun env st => (fa env st).bind fun x st1 => (fb env st1).bind fun y st2 => op x y st2
/-- what an operator does on values is what op does on data -/
structure OpS (X : Cx) (cl : Nat → Addr) (f : Value → Value → Sem Value) (op : D → D → Store → Res D) : Prop where
  ex : ∃ rr : R2, OpR X f rr ∧ ∀ {Z r : List Addr} {H : Hp} {st : Store} {x y : D} {v u : V} {Q : VK} {W' : Value → Option Addr → Hp → Prop}, Rl ⟨X.K, cl⟩ Z r H st → Rep ⟨X.K, cl⟩ Z r H x v → Rep ⟨X.K, cl⟩ Z r H y u →
    Post ⟨X.K, cl⟩ Z r H (RV ⟨X.K, cl⟩ Z) (op x y st) Q W' → rr v u H Q
theorem rd_bin {rr : R2} {op : D → D → Store → Res D} {fa fb : SemE} {W : WX} (hop : ∀ {Z r : List Addr} {H : Hp} {st : Store} {x y : D} {v u : V} {Q : VK} {W' : Value → Option Addr → Hp → Prop}, Rl ⟨X.K, cl⟩ Z r H st → Rep ⟨X.K, cl⟩ Z r H x v → Rep ⟨X.K, cl⟩ Z r H y u →
    Post ⟨X.K, cl⟩ Z r H (RV ⟨X.K, cl⟩ Z) (op x y st) Q W' → rr v u H Q) (sg : L2.St) (H : Hp) (Q : VK) (h : rdE ⟨X.K, cl⟩ W (dBin op fa fb) sg H Q) : tOp rr (rdE ⟨X.K, cl⟩ W fa) (rdE ⟨X.K, cl⟩ W fb) sg H Q := by
  obtain ⟨Z, r, env, st, E, R, h⟩ := h
  refine ⟨Z, r, env, st, E, R, Post.bind h fun x st1 r1 H1 v _ e1 R1 q1 h1 => ?_⟩
  refine ⟨Z, r1, env, st1, E.ext e1, R1, Post.bind h1 fun y st2 r2 H2 u _ e2 R2 q2 h2 => ?_⟩
  exact hop R2 (Rep.ext e2 x q1) q2 h2
theorem se_bin {op : Operator} {o : D → D → Store → Res D} (ho : OpS X cl (binaryOp op) o) {a b : Expr} {fa fb : SemE} {pos : Pos} (ha : SE X cl W a fa) (hb : SE X cl W b fb) : SE X cl W (.BinOp a op b pos) (dBin o fa fb) := by
  obtain ⟨rr, hr, hop⟩ := ho.ex
  exact ⟨(pe_op hr ha.run hb.run).imp (rd_bin hop)⟩
theorem se_cmp {op : CmpOp} {o : D → D → Store → Res D} (ho : OpS X cl (compareOp op) o) {a b : Expr} {fa fb : SemE} {pos : Pos} (ha : SE X cl W a fa) (hb : SE X cl W b fb) (hm : behindInMarks op b = false := by rfl) : SE X cl W (.Compare a [op] [b] pos) (dBin o fa fb) := by
  obtain ⟨rr, hr, hop⟩ := ho.ex
  exact ⟨(pe_cmpR hr ha.run hb.run hm).imp (rd_bin hop)⟩
/-- a value's bool -/
@[simp] def dBool (f : SemE) : SemT := fun env st => (f env st).bind fun x st1 => match x with
  | .bl b => .ok b st1
  | _ => .no
theorem rd_bool {g : Gd} {f : SemE} {W : WX} {t : TE} (ht : ∀ sg H Q, rdE g W f sg H Q → t sg H Q) (sg : L2.St) (H : Hp) (Q : Bool → Hp → Prop) (h : rdT g W (dBool f) sg H Q) : tTest t sg H Q := by
  obtain ⟨Z, r, env, st, E, R, h⟩ := h
  refine ht sg H _ ⟨Z, r, env, st, E, R, Post.bind h fun x st1 r1 H1 v _ e1 R1 q1 h1 => ?_⟩
  cases x with
  | bl b => exact ⟨b, q1, post_ok h1 R1 rfl⟩
  | non => exact h1.elim
  | int i => exact h1.elim
  | str s => exact h1.elim
  | h k => exact h1.elim
  | nd t xs => exact h1.elim
theorem st_cmp {op : CmpOp} {o : D → D → Store → Res D} (ho : OpS X cl (compareOp op) o) {a b : Expr} {fa fb : SemE} {pos : Pos} (ha : SE X cl W a fa) (hb : SE X cl W b fb) (hm : behindInMarks op b = false := by rfl) : ST X cl W (.Compare a [op] [b] pos) (dBool (dBin o fa fb)) := by
  obtain ⟨rr, hr, hop⟩ := ho.ex
  exact ⟨(pt_cmpR hr ha.run hb.run hm).imp (rd_bool (rd_bin hop))⟩
/-- any expression whose value is a bool -/
theorem st_val {e : Expr} {f : SemE} (h : SE X cl W e f) (he : ∀ whole, isTrue e X.env whole = (do let v ← whole; standAt e.pos; holding [v] (truthy v)) := by intro _; rfl) : ST X cl W e (dBool f) :=
  ⟨(pt_val h.run he).imp (rd_bool fun _ _ _ q => q)⟩
/-- a op1 b op2 c -/
@[simp] def dChain (o o' : D → D → Store → Res D) (fa fb fc : SemE) : SemE := fun env st => (fa env st).bind fun x st1 => (fb env st1).bind fun y st2 => (o x y st2).bind fun z st3 => match z with
  | .bl true => (fc env st3).bind fun w st4 => o' y w st4
  | .bl false => .ok (.bl false) st3
  | _ => .no
theorem rd_chain {rr rr' : R2} {o o' : D → D → Store → Res D} {fa fb fc : SemE} {W : WX} (hop : ∀ {Z r : List Addr} {H : Hp} {st : Store} {x y : D} {v u : V} {Q : VK} {W' : Value → Option Addr → Hp → Prop}, Rl ⟨X.K, cl⟩ Z r H st → Rep ⟨X.K, cl⟩ Z r H x v → Rep ⟨X.K, cl⟩ Z r H y u →
    Post ⟨X.K, cl⟩ Z r H (RV ⟨X.K, cl⟩ Z) (o x y st) Q W' → rr v u H Q) (hop' : ∀ {Z r : List Addr} {H : Hp} {st : Store} {x y : D} {v u : V} {Q : VK} {W' : Value → Option Addr → Hp → Prop}, Rl ⟨X.K, cl⟩ Z r H st → Rep ⟨X.K, cl⟩ Z r H x v → Rep ⟨X.K, cl⟩ Z r H y u →
    Post ⟨X.K, cl⟩ Z r H (RV ⟨X.K, cl⟩ Z) (o' x y st) Q W' → rr' v u H Q) (sg : L2.St) (H : Hp) (Q : VK) (h : rdE ⟨X.K, cl⟩ W (dChain o o' fa fb fc) sg H Q) : tChain rr rr' (rdE ⟨X.K, cl⟩ W fa) (rdE ⟨X.K, cl⟩ W fb) (rdE ⟨X.K, cl⟩ W fc) sg H Q := by
  obtain ⟨Z, r, env, st, E, R, h⟩ := h
  refine ⟨Z, r, env, st, E, R, Post.bind h fun x st1 r1 H1 v _ e1 R1 q1 h1 => ?_⟩
  refine ⟨Z, r1, env, st1, E.ext e1, R1, Post.bind h1 fun y st2 r2 H2 u _ e2 R2 q2 h2 => ?_⟩
  refine hop R2 (Rep.ext e2 x q1) q2 (Post.bind h2 fun z st3 r3 H3 zv _ e3 R3 q3 h3 => ?_)
  cases z with
  | bl b =>
    refine ⟨b, q3, ?_⟩
    cases b with
    | true =>
      rw [if_pos rfl]
      refine ⟨Z, r3, env, st3, E.ext ((e1.trans e2).trans e3), R3, Post.bind h3 fun w st4 r4 H4 wv _ e4 R4 q4 h4 => ?_⟩
      exact hop' R4 (Rep.ext (e3.trans e4) y q2) q4 h4
    | false =>
      rw [if_neg (by decide)]
      exact post_ok h3 R3 rfl
  | non => exact h3.elim
  | int i => exact h3.elim
  | str s => exact h3.elim
  | h k => exact h3.elim
  | nd t xs => exact h3.elim
theorem se_chain {op op' : CmpOp} {o o' : D → D → Store → Res D} (ho : OpS X cl (compareOp op) o) (ho' : OpS X cl (compareOp op') o') {a b c : Expr} {fa fb fc : SemE} {pos : Pos} (ha : SE X cl W a fa) (hb : SE X cl W b fb) (hc : SE X cl W c fc)
    (hm : lastMarks [op, op'] [b, c] = false := by with_unfolding_all rfl) : SE X cl W (.Compare a [op, op'] [b, c] pos) (dChain o o' fa fb fc) := by
  obtain ⟨rr, hr, hop⟩ := ho.ex
  obtain ⟨rr', hr', hop'⟩ := ho'.ex
  exact ⟨(pe_chain hr hr' ha.run hb.run hc.run hm).imp (rd_chain hop hop')⟩
theorem st_chain {op op' : CmpOp} {o o' : D → D → Store → Res D} (ho : OpS X cl (compareOp op) o) (ho' : OpS X cl (compareOp op') o') {a b c : Expr} {fa fb fc : SemE} {pos : Pos} (ha : SE X cl W a fa) (hb : SE X cl W b fb) (hc : SE X cl W c fc)
    (hm : lastMarks [op, op'] [b, c] = false := by with_unfolding_all rfl) : ST X cl W (.Compare a [op, op'] [b, c] pos) (dBool (dChain o o' fa fb fc)) := by
  obtain ⟨rr, hr, hop⟩ := ho.ex
  obtain ⟨rr', hr', hop'⟩ := ho'.ex
  exact ⟨(pt_chain hr hr' ha.run hb.run hc.run hm).imp (rd_bool (rd_chain hop hop'))⟩

/-! ### and, or, not, if else -/
@[simp] def dAnd (fa fb : SemT) : SemT := fun env st => (fa env st).bind fun x st1 => if x = true then fb env st1 else .ok false st1
@[simp] def dOr (fa fb : SemT) : SemT := fun env st => (fa env st).bind fun x st1 => if x = true then .ok true st1 else fb env st1
@[simp] def dNot (fa : SemT) : SemT := fun env st => (fa env st).bind fun x st1 => .ok (!x) st1
theorem rd_and {g : Gd} {fa fb : SemT} (sg : L2.St) (H : Hp) (Q : Bool → Hp → Prop) (h : rdT g W (dAnd fa fb) sg H Q) : tAnd (rdT g W fa) (rdT g W fb) sg H Q := by
  obtain ⟨Z, r, env, st, E, R, h⟩ := h
  refine ⟨Z, r, env, st, E, R, Post.bind h fun x st1 r1 H1 v _ e1 R1 q1 h1 => ?_⟩
  cases q1
  cases x with
  | true => rw [if_pos rfl] at h1 ⊢; exact ⟨Z, r1, env, st1, E.ext e1, R1, h1⟩
  | false => rw [if_neg (by decide)] at h1 ⊢; exact post_ok h1 R1 rfl
theorem rd_or {g : Gd} {fa fb : SemT} (sg : L2.St) (H : Hp) (Q : Bool → Hp → Prop) (h : rdT g W (dOr fa fb) sg H Q) : tOr (rdT g W fa) (rdT g W fb) sg H Q := by
  obtain ⟨Z, r, env, st, E, R, h⟩ := h
  refine ⟨Z, r, env, st, E, R, Post.bind h fun x st1 r1 H1 v _ e1 R1 q1 h1 => ?_⟩
  cases q1
  cases x with
  | true => rw [if_pos rfl] at h1 ⊢; exact post_ok h1 R1 rfl
  | false => rw [if_neg (by decide)] at h1 ⊢; exact ⟨Z, r1, env, st1, E.ext e1, R1, h1⟩
theorem SW.st {e : Expr} {f : SemT} (h : SW X cl W e f) : ST X cl W e f := ⟨h.run.pt⟩
variable {a b c : Expr} {rest : List Expr} {pos : Pos}
theorem sw_and1 {fa : SemT} (ha : ST X cl W a fa) : SW X cl W (.BoolOp .And [a] pos) fa := ⟨pw_and1 ha.run⟩
theorem sw_or1 {fa : SemT} (ha : ST X cl W a fa) : SW X cl W (.BoolOp .Or [a] pos) fa := ⟨pw_or1 ha.run⟩
theorem sw_and {fa fb : SemT} (ha : ST X cl W a fa) (hb : SW X cl W (.BoolOp .And (b :: rest) pos) fb) : SW X cl W (.BoolOp .And (a :: b :: rest) pos) (dAnd fa fb) := ⟨(pw_and ha.run hb.run).imp (rd_and (W := W))⟩
theorem sw_or {fa fb : SemT} (ha : ST X cl W a fa) (hb : SW X cl W (.BoolOp .Or (b :: rest) pos) fb) : SW X cl W (.BoolOp .Or (a :: b :: rest) pos) (dOr fa fb) := ⟨(pw_or ha.run hb.run).imp (rd_or (W := W))⟩
theorem st_not {fa : SemT} (ha : ST X cl W a fa) : ST X cl W (.UnaryOp .Not a pos) (dNot fa) := by
  refine ⟨(pt_not ha.run).imp fun sg H Q ⟨Z, r, env, st, E, R, h⟩ => ?_⟩
  refine ⟨Z, r, env, st, E, R, Post.bind h fun x st1 r1 H1 v _ e1 R1 q1 h1 => ?_⟩
  cases q1
  exact post_ok h1 R1 rfl
/-- as values -/
@[simp] def dAndV (fa fb : SemE) : SemE := fun env st => (fa env st).bind fun x st1 => match x with
  | .bl true => fb env st1
  | .bl false => .ok (.bl false) st1
  | _ => .no
@[simp] def dOrV (fa fb : SemE) : SemE := fun env st => (fa env st).bind fun x st1 => match x with
  | .bl true => .ok (.bl true) st1
  | .bl false => fb env st1
  | _ => .no
@[simp] def dNotV (fa : SemE) : SemE := fun env st => (fa env st).bind fun x st1 => match x with
  | .bl b => .ok (.bl (!b)) st1
  | _ => .no
theorem se_one {op : BoolOp} {fa : SemE} (h : SE X cl W a fa) : SE X cl W (.BoolOp op [a] pos) fa := ⟨pe_one h.run⟩
theorem se_and {fa fb : SemE} (ha : SE X cl W a fa) (hb : SE X cl W (.BoolOp .And (b :: rest) pos) fb) : SE X cl W (.BoolOp .And (a :: b :: rest) pos) (dAndV fa fb) := by
  refine ⟨(pe_and ha.run hb.run).imp fun sg H Q ⟨Z, r, env, st, E, R, h⟩ => ?_⟩
  refine ⟨Z, r, env, st, E, R, Post.bind h fun x st1 r1 H1 v _ e1 R1 q1 h1 => ?_⟩
  cases x with
  | bl b =>
    refine ⟨b, q1, ?_⟩
    cases b with
    | true => rw [if_pos rfl]; exact ⟨Z, r1, env, st1, E.ext e1, R1, h1⟩
    | false => rw [if_neg (by decide)]; exact post_ok h1 R1 rfl
  | non => exact h1.elim
  | int i => exact h1.elim
  | str s => exact h1.elim
  | h k => exact h1.elim
  | nd t xs => exact h1.elim
theorem se_or {fa fb : SemE} (ha : SE X cl W a fa) (hb : SE X cl W (.BoolOp .Or (b :: rest) pos) fb) : SE X cl W (.BoolOp .Or (a :: b :: rest) pos) (dOrV fa fb) := by
  refine ⟨(pe_or ha.run hb.run).imp fun sg H Q ⟨Z, r, env, st, E, R, h⟩ => ?_⟩
  refine ⟨Z, r, env, st, E, R, Post.bind h fun x st1 r1 H1 v _ e1 R1 q1 h1 => ?_⟩
  cases x with
  | bl b =>
    refine ⟨b, q1, ?_⟩
    cases b with
    | true => rw [if_pos rfl]; exact post_ok h1 R1 rfl
    | false => rw [if_neg (by decide)]; exact ⟨Z, r1, env, st1, E.ext e1, R1, h1⟩
  | non => exact h1.elim
  | int i => exact h1.elim
  | str s => exact h1.elim
  | h k => exact h1.elim
  | nd t xs => exact h1.elim
theorem se_not {fa : SemE} (ha : SE X cl W a fa) : SE X cl W (.UnaryOp .Not a pos) (dNotV fa) := by
  refine ⟨(pe_not ha.run).imp fun sg H Q ⟨Z, r, env, st, E, R, h⟩ => ?_⟩
  refine ⟨Z, r, env, st, E, R, Post.bind h fun x st1 r1 H1 v _ e1 R1 q1 h1 => ?_⟩
  cases x with
  | bl b => exact ⟨b, q1, post_ok h1 R1 rfl⟩
  | non => exact h1.elim
  | int i => exact h1.elim
  | str s => exact h1.elim
  | h k => exact h1.elim
  | nd t xs => exact h1.elim
@[simp] def dIfE (ft : SemT) (fa fb : SemE) : SemE := fun env st => (ft env st).bind fun x st1 => if x = true then fa env st1 else fb env st1
theorem se_ifE {ft : SemT} {fa fb : SemE} (hc : ST X cl W c ft) (ha : SE X cl W a fa) (hb : SE X cl W b fb) : SE X cl W (.IfExp c a b pos) (dIfE ft fa fb) := by
  refine ⟨(pe_ifExp hc.run ha.run hb.run).imp fun sg H Q ⟨Z, r, env, st, E, R, h⟩ => ?_⟩
  refine ⟨Z, r, env, st, E, R, Post.bind h fun x st1 r1 H1 v _ e1 R1 q1 h1 => ?_⟩
  cases q1
  cases x with
  | true => rw [if_pos rfl] at h1 ⊢; exact ⟨Z, r1, env, st1, E.ext e1, R1, h1⟩
  | false => rw [if_neg (by decide)] at h1 ⊢; exact ⟨Z, r1, env, st1, E.ext e1, R1, h1⟩
/-! ### argument lists, displays -/
@[simp] def dNil : SemA := fun _ st => .ok [] st
@[simp] def dCons (fa : SemE) (fr : SemA) : SemA := fun env st => (fa env st).bind fun x st1 => (fr env st1).bind fun xs st2 => .ok (x :: xs) st2
theorem sa_nil : SA X cl W [] dNil := ⟨pa_nil.imp fun sg H Q ⟨Z, r, env, st, E, R, h⟩ => post_ok h R rfl⟩
theorem sa_cons {e : Expr} {es : List Expr} {fa : SemE} {fr : SemA} (ha : SE X cl W e fa) (hr : SA X cl W es fr) (hs : starEach (e :: es) X.env = (false, eval e X.env) :: starEach es X.env := by rfl) : SA X cl W (e :: es) (dCons fa fr) := by
  refine ⟨(pa_cons ha.run hr.run hs).imp fun sg H Q ⟨Z, r, env, st, E, R, h⟩ => ?_⟩
  refine ⟨Z, r, env, st, E, R, Post.bind h fun x st1 r1 H1 v _ e1 R1 q1 h1 => ?_⟩
  refine ⟨Z, r1, env, st1, E.ext e1, R1, Post.bind h1 fun xs st2 r2 H2 vs _ e2 R2 q2 h2 => ?_⟩
  exact post_ok h2 R2 ⟨v, vs, rfl, Rep.ext e2 x q1, q2⟩
abbrev szL : Nat := sizeLine
@[simp] def dTup (f : SemA) : SemE := fun env st => (f env st).bind fun xs st1 => if xs.length ≤ szL then .ok (.nd .tup xs) st1 else .no
/-- a list that stays as it is -/
@[simp] def dLst (f : SemA) : SemE := fun env st => (f env st).bind fun xs st1 => if xs.length ≤ szL then .ok (.nd .lst xs) st1 else .no
/-- a list that will be changed -/
@[simp] def dLstM (f : SemA) : SemE := fun env st => (f env st).bind fun xs st1 => if xs.length ≤ szL then .ok (.h st1.length) (st1 ++ [.nd .lst xs]) else .no
section
variable {g : Gd} {Z r : List Addr} {H : Hp} {st : Store} {xs : List D} {vs : List V} {p : Addr}
theorem new_lst (R : Rl g Z r H st) (hx : RepL g Z r H xs vs) (hp : H p = none) : Rep g Z r (upd H p (.lst vs)) (.nd .lst xs) (.ref p) :=
  ⟨p, vs, rfl, ⟨R.free hp, upd_same⟩, RepL.ext (Ext.new hp) xs hx⟩
theorem new_tup (R : Rl g Z r H st) (hx : RepL g Z r H xs vs) (hp : H p = none) : Rep g Z r (upd H p (.tup vs)) (.nd .tup xs) (.ref p) :=
  ⟨p, vs, rfl, ⟨R.free hp, upd_same⟩, RepL.ext (Ext.new hp) xs hx⟩
theorem new_lstM (R : Rl g Z r H st) (hx : RepL g Z r H xs vs) (hp : H p = none) : Rl g Z (r ++ [p]) (upd H p (.lst vs)) (st ++ [.nd .lst xs]) ∧ Rep g Z (r ++ [p]) (upd H p (.lst vs)) (.h st.length) (.ref p) :=
  ⟨R.grow hp (show HatM g (upd H p (.lst vs)) p .lst vs from upd_same) hx, p, rfl, by rw [← R.len]; simp⟩
end
theorem se_tup {es : List Expr} {f : SemA} {k : Nat} (h : SA X cl W es f) : SE X cl W (.Tuple es k pos) (dTup f) := by
  refine ⟨(pe_tup h.run).imp fun sg H Q ⟨Z, r, env, st, E, R, h⟩ => ?_⟩
  refine ⟨Z, r, env, st, E, R, Post.bind h fun xs st1 r1 H1 vs _ e1 R1 q1 h1 => ?_⟩
  split at h1
  · rename_i hl
    exact ⟨by rw [← RepL.length q1]; exact hl, fun p hp => h1 r1 _ _ (Ext.new hp) (R1.new hp) (new_tup R1 q1 hp)⟩
  · exact h1.elim
theorem se_lst {es : List Expr} {f : SemA} (h : SA X cl W es f) : SE X cl W (.List es pos) (dLst f) := by
  refine ⟨(pe_lst h.run).imp fun sg H Q ⟨Z, r, env, st, E, R, h⟩ => ?_⟩
  refine ⟨Z, r, env, st, E, R, Post.bind h fun xs st1 r1 H1 vs _ e1 R1 q1 h1 => ?_⟩
  split at h1
  · rename_i hl
    exact ⟨by rw [← RepL.length q1]; exact hl, fun p hp => h1 r1 _ _ (Ext.new hp) (R1.new hp) (new_lst R1 q1 hp)⟩
  · exact h1.elim
theorem se_lstM {es : List Expr} {f : SemA} (h : SA X cl W es f) : SE X cl W (.List es pos) (dLstM f) := by
  refine ⟨(pe_lst h.run).imp fun sg H Q ⟨Z, r, env, st, E, R, h⟩ => ?_⟩
  refine ⟨Z, r, env, st, E, R, Post.bind h fun xs st1 r1 H1 vs _ e1 R1 q1 h1 => ?_⟩
  split at h1
  · rename_i hl
    exact ⟨by rw [← RepL.length q1]; exact hl, fun p hp => let ⟨a, b⟩ := new_lstM R1 q1 hp; h1 _ _ _ (Ext.grow hp) a b⟩
  · exact h1.elim
end
end DY

set_option Elab.async false
set_option linter.all false
set_option maxRecDepth 100000
set_option maxHeartbeats 4000000
/-! Operators on data. -/
namespace DY
open PySem PySem.Spec PyProof.Rows L2

section
variable {X : Cx} {cl : Nat → Addr}
/-- two data ints -/
@[simp] def onI (C : Int → Int → Prop) [∀ i j, Decidable (C i j)] (f : Int → Int → D) : D → D → Store → Res D := fun x y st => match x, y with
  | .int i, .int j => if C i j then .ok (f i j) st else .no
  | _, _ => .no
theorem int_of {g : Gd} {Z r : List Addr} {H : Hp} {i : Int} {v : V} (h : Rep g Z r H (.int i) v) : v = .int i := h
theorem ops_int {f : Value → Value → Sem Value} {C : Int → Int → Prop} [∀ i j, Decidable (C i j)] {k : Int → Int → Int} (ho : OpR X f (rI C fun i j => .int (k i j))) : OpS X cl f (onI C fun i j => .int (k i j)) := by
  refine ⟨_, ho, fun {Z r H st x y v u Q W'} R hx hy h => ?_⟩
  unfold onI at h
  split at h
  · rename_i i j
    split at h
    · rename_i hc
      exact ⟨i, j, hx, hy, hc, post_ok h R rfl⟩
    · exact h.elim
  · exact h.elim
instance (i j : Int) : Decidable (CMul i j) := by unfold CMul; infer_instance
instance (i j : Int) : Decidable (CMulW i j) := by unfold CMulW; infer_instance
instance (i j : Int) : Decidable (CDiv i j) := by unfold CDiv; infer_instance
instance (i j : Int) : Decidable (CDivW i j) := by unfold CDivW; infer_instance
instance (i j : Int) : Decidable (CPow i j) := by unfold CPow; infer_instance
def CTrue (_ _ : Int) : Prop := True
instance (i j : Int) : Decidable (CTrue i j) := .isTrue trivial
theorem opr_true {f : Value → Value → Sem Value} {k : Int → Int → V} (h : OpR X f (rI0 k)) : OpR X f (rI CTrue k) := fun pins s sg H x y v u Q I rx ry q => by
  obtain ⟨i, j, h1, h2, _, h3⟩ := q
  exact h pins s sg H x y v u Q I rx ry ⟨i, j, h1, h2, h3⟩
theorem opr_or {f : Value → Value → Sem Value} {C C' : Int → Int → Prop} {k : Int → Int → V} (h : OpR X f (rI C k)) (h' : OpR X f (rI C' k)) : OpR X f (rI (fun i j => C i j ∨ C' i j) k) := fun pins s sg H x y v u Q I rx ry q => by
  obtain ⟨i, j, h1, h2, hc, h3⟩ := q
  rcases hc with hc | hc
  · exact h pins s sg H x y v u Q I rx ry ⟨i, j, h1, h2, hc, h3⟩
  · exact h' pins s sg H x y v u Q I rx ry ⟨i, j, h1, h2, hc, h3⟩
def dSub : D → D → Store → Res D := onI CTrue fun i j => .int (i - j)
theorem ops_sub : OpS X cl (binaryOp .Sub) dSub := ops_int (opr_true op_sub)
def dFdiv : D → D → Store → Res D := onI (fun i j => CDiv i j ∨ CDivW i j) fun i j => .int (i / j)
theorem ops_fdiv : OpS X cl (binaryOp .FloorDiv) dFdiv := ops_int (opr_or op_fdiv op_fdivW)
def dMod : D → D → Store → Res D := onI (fun _ j => 0 < j) fun i j => .int (i % j)
theorem ops_mod : OpS X cl (binaryOp .Mod) dMod := ops_int op_mod
def dPow : D → D → Store → Res D := onI CPow fun i j => .int (i ^ j.toNat)
theorem ops_pow : OpS X cl (binaryOp .Pow) dPow := ops_int op_pow
def dBand : D → D → Store → Res D := onI CTrue fun i j => .int (Builtin.bitAnd i j)
theorem ops_band : OpS X cl (binaryOp .BitAnd) dBand := ops_int (opr_true op_and)
def dShr : D → D → Store → Res D := onI (fun _ j => 0 ≤ j) fun i j => .int (i / 2 ^ j.toNat)
theorem ops_shr : OpS X cl (binaryOp .RShift) dShr := ops_int op_shr
def dShl : D → D → Store → Res D := onI CPow fun i j => .int (i * 2 ^ j.toNat)
theorem ops_shl : OpS X cl (binaryOp .LShift) dShl := ops_int op_shl

/-- + -/
def dAdd (x y : D) (st : Store) : Res D :=
  match x, y with
  | .int i, .int j => .ok (.int (i + j)) st
  | .str a, .str b => if a.length + b.length ≤ szL then .ok (.str (a ++ b)) st else .no
  | x, y => match lstX? st x, lstX? st y with
    | some xs, some ys => if xs.length + ys.length ≤ szL then .ok (.nd .lst (xs ++ ys)) st else .no
    | _, _ => match tupX? st x, tupX? st y with
      | some xs, some ys => if xs.length + ys.length ≤ szL then .ok (.nd .tup (xs ++ ys)) st else .no
      | _, _ => .no
theorem RepL.nil_of {g : Gd} {Z r : List Addr} {H : Hp} {xs : List D} {vs : List V} (h : RepL g Z r H xs vs) : xs = [] ↔ vs = [] := by
  have := h.length
  constructor
  · rintro rfl; exact List.length_eq_zero_iff.mp this.symm
  · rintro rfl; exact List.length_eq_zero_iff.mp this
theorem tup_is {g : Gd} {Z r : List Addr} {H : Hp} {st : Store} (R : Rl g Z r H st) {x : D} {xs : List D} (e : tupX? st x = some xs) : x = .nd .tup xs := by
  unfold tupX? at e
  cases hs : seen st x with
  | none => rw [hs] at e; cases e
  | some p =>
    obtain ⟨t, ys⟩ := p
    rw [hs] at e
    cases t <;> cases e
    cases x with
    | nd t zs => cases hs; rfl
    | h k =>
      have h' : (match st[k]? with | some (.nd t xs) => some (t, xs) | _ => none) = some (Hd.tup, xs) := hs
      cases hk : st[k]? with
      | none => rw [hk] at h'; cases h'
      | some c =>
        rw [hk] at h'
        cases c with
        | nd t' ys =>
          cases h'
          obtain ⟨b, _, t2, ys2, vs, ed, hm, _⟩ := R.cell k _ hk
          cases ed
          exact hm.elim
        | non => cases h'
        | bl b => cases h'
        | int i => cases h'
        | str s => cases h'
        | h j => cases h'
    | non => cases hs
    | bl b => cases hs
    | int i => cases hs
    | str s => cases hs
/-- two tuples joined -/
theorem cat_tups {Z r : List Addr} {H : Hp} {st : Store} {x y : D} {v u : V} {xs ys : List D} {Q : VK} {W' : Value → Option Addr → Hp → Prop} (R : Rl ⟨X.K, cl⟩ Z r H st) (hx : Rep ⟨X.K, cl⟩ Z r H x v) (hy : Rep ⟨X.K, cl⟩ Z r H y u)
    (ex : tupX? st x = some xs) (ey : tupX? st y = some ys) (hl : xs.length + ys.length ≤ szL) (h : Post ⟨X.K, cl⟩ Z r H (RV ⟨X.K, cl⟩ Z) (.ok (.nd .tup (xs ++ ys)) st) Q W') : rCatA X.K v u H Q := by
  obtain ⟨a, vs, rfl, q1, s1⟩ := tupX_ok R hx ex
  obtain ⟨b, us, rfl, q2, s2⟩ := tupX_ok R hy ey
  refine ⟨a, b, vs, us, rfl, rfl, SqT.of s1, SqT.of s2, by rw [← q1.length, ← q2.length]; exact hl, fun e => ?_, fun e e' => ?_, fun _ _ p hp => ?_⟩
  · have ex0 : xs = [] := q1.nil_of.mpr e
    subst ex0
    rw [tup_is R ey] at hy
    exact post_ok h R (by simpa using hy)
  · have ey0 : ys = [] := q2.nil_of.mpr e'
    subst ey0
    rw [tup_is R ex] at hx
    exact post_ok h R (by simpa using hx)
  · exact h r _ _ (Ext.new hp) (R.new hp) (new_tup R (q1.append q2) hp)
theorem ops_add : OpS X cl (binaryOp .Add) dAdd := by
  refine ⟨_, ((op_add.or op_add_str).or op_cat).or op_catA, fun {Z r H st x y v u Q W'} R hx hy h => ?_⟩
  unfold dAdd at h
  split at h
  · rename_i i j
    exact .inl (.inl (.inl ⟨i, j, hx, hy, post_ok h R rfl⟩))
  · rename_i a b
    split at h
    · rename_i hl
      exact .inl (.inl (.inr ⟨a, b, hx, hy, hl, post_ok h R rfl⟩))
    · exact h.elim
  · split at h
    · rename_i xs ys ex ey
      split at h
      · rename_i hl
        obtain ⟨a, vs, rfl, q1, s1⟩ := lstX_ok R hx ex
        obtain ⟨b, us, rfl, q2, s2⟩ := lstX_ok R hy ey
        exact .inl (.inr ⟨a, b, vs, us, rfl, rfl, s1, s2, by rw [← q1.length, ← q2.length]; exact hl, fun p hp => h r _ _ (Ext.new hp) (R.new hp) (new_lst R (q1.append q2) hp)⟩)
      · exact h.elim
    · split at h
      · rename_i xs ys ex ey
        split at h
        · rename_i hl
          exact .inr (cat_tups R hx hy ex ey hl h)
        · exact h.elim
      · exact h.elim
theorem RepL.flat {g : Gd} {Z r : List Addr} {H : Hp} {xs : List D} {vs : List V} (h : RepL g Z r H xs vs) : ∀ k : Nat, RepL g Z r H (List.replicate k xs).flatten (List.replicate k vs).flatten
  | 0 => rfl
  | k + 1 => by simpa [List.replicate_succ] using h.append (RepL.flat h k)
/-- * -/
def dMul (x y : D) (st : Store) : Res D :=
  match x, y with
  | .int i, .int j => if CMul i j ∨ CMulW i j then .ok (.int (i * j)) st else .no
  | x, .int k => match lstX? st x with
    | some xs => if (-(2 ^ 63) ≤ k ∧ k < 2 ^ 63) ∧ xs.length * k.toNat ≤ szL then .ok (.nd .lst (List.replicate k.toNat xs).flatten) st else .no
    | none => .no
  | _, _ => .no
theorem ops_mul : OpS X cl (binaryOp .Mult) dMul := by
  refine ⟨_, (opr_or op_mul op_mulW).or op_rep, fun {Z r H st x y v u Q W'} R hx hy h => ?_⟩
  unfold dMul at h
  split at h
  · rename_i i j
    split at h
    · rename_i hc
      exact .inl ⟨i, j, hx, hy, hc, post_ok h R rfl⟩
    · exact h.elim
  · rename_i k _
    split at h
    · rename_i xs ex
      split at h
      · rename_i hc
        obtain ⟨a, vs, rfl, q1, s1⟩ := lstX_ok R hx ex
        exact .inr ⟨a, k, vs, rfl, hy, s1, hc.1.1, hc.1.2, by rw [← q1.length]; exact hc.2, fun p hp => h r _ _ (Ext.new hp) (R.new hp) (new_lst R (q1.flat _) hp)⟩
      · exact h.elim
    · exact h.elim
  · exact h.elim

/-! ### comparisons -/
@[simp] def onIB (f : Int → Int → Bool) : D → D → Store → Res D := fun x y st => match x, y with
  | .int i, .int j => .ok (.bl (f i j)) st
  | _, _ => .no
theorem ops_intB {f : Value → Value → Sem Value} {k : Int → Int → Bool} (ho : OpR X f (rI0 fun i j => .bl (k i j))) : OpS X cl f (onIB k) := by
  refine ⟨_, ho, fun {Z r H st x y v u Q W'} R hx hy h => ?_⟩
  unfold onIB at h
  split at h
  · rename_i i j
    exact ⟨i, j, hx, hy, post_ok h R rfl⟩
  · exact h.elim
def dLt : D → D → Store → Res D := onIB fun i j => decide (i < j)
def dLe : D → D → Store → Res D := onIB fun i j => decide (i ≤ j)
def dGt : D → D → Store → Res D := onIB fun i j => decide (j < i)
def dGe : D → D → Store → Res D := onIB fun i j => decide (j ≤ i)
theorem ops_lt : OpS X cl (compareOp .Lt) dLt := ops_intB op_lt
theorem ops_le : OpS X cl (compareOp .LtE) dLe := ops_intB op_le
theorem ops_gt : OpS X cl (compareOp .Gt) dGt := ops_intB op_gt
theorem ops_ge : OpS X cl (compareOp .GtE) dGe := ops_intB op_ge
def isNon : D → Bool
  | .non => true
  | _ => false
/-- is None -/
def dIsN : D → D → Store → Res D := fun x y st => match y with
  | .non => .ok (.bl (isNon x)) st
  | _ => .no
def dNotN : D → D → Store → Res D := fun x y st => match y with
  | .non => .ok (.bl (!isNon x)) st
  | _ => .no
theorem isN_of {g : Gd} {Z r : List Addr} {H : Hp} {x : D} {v : V} (h : Rep g Z r H x v) : isNon x = decide (v = .non) := by
  cases x with
  | non => cases (show v = .non from h); rfl
  | bl b => cases (show v = .bl b from h); rfl
  | int i => cases (show v = .int i from h); rfl
  | str s => cases (show v = .str s from h); rfl
  | h k => obtain ⟨a, e, _⟩ := h; subst e; rfl
  | nd t xs => obtain ⟨a, vs, e, _⟩ := h; subst e; rfl
theorem ops_isN : OpS X cl (compareOp .Is) dIsN := by
  refine ⟨_, op_isN, fun {Z r H st x y v u Q W'} R hx hy h => ?_⟩
  unfold dIsN at h
  split at h
  · exact ⟨hy, post_ok h R (by rw [isN_of hx]; rfl)⟩
  · exact h.elim
theorem ops_notN : OpS X cl (compareOp .IsNot) dNotN := by
  refine ⟨_, op_notN, fun {Z r H st x y v u Q W'} R hx hy h => ?_⟩
  unfold dNotN at h
  split at h
  · exact ⟨hy, post_ok h R (by rw [isN_of hx]; rfl)⟩
  · exact h.elim

/-! ### data without things of one's own -/
mutual
def toPg (dr : Nat → Option PyData) : D → Option PyData
  | .non => some .none
  | .bl b => some (.bool b)
  | .int i => some (.int i)
  | .str s => some (.str s)
  | .h k => dr k
  | .nd .lst xs => (toPgL dr xs).map .list
  | .nd .scr xs => (toPgL dr xs).map .list
  | .nd .tup xs => (toPgL dr xs).map .tuple
  | .nd .ktp xs => (toPgL dr xs).map .tuple
  | .nd (.dk _) _ => none
  | .nd (.dt _) _ => none
  | .nd (.ins _ _) _ => none
def toPgL (dr : Nat → Option PyData) : List D → Option (List PyData)
  | [] => some []
  | d :: ds => match toPg dr d, toPgL dr ds with
    | some p, some ps => some (p :: ps)
    | _, _ => none
end
/-- with the mutable things read, to a depth -/
def toP : Nat → Store → D → Option PyData
  | 0, _, d => toPg (fun _ => none) d
  | n + 1, st, d => toPg (fun k => match st[k]? with
    | some c => toP n st c
    | none => none) d
section
variable {g : Gd} {Z r : List Addr} {H : Hp} {st : Store}
mutual
theorem toPg_ok {dr : Nat → Option PyData} (hd : ∀ k p v, dr k = some p → Rep g Z r H (.h k) v → Dp g.K H v p) : ∀ (d : D) {p : PyData} {v : V}, toPg dr d = some p → Rep g Z r H d v → Dp g.K H v p
  | .non, p, v, e, h => by cases e; cases (show v = .non from h); exact .non
  | .bl b, p, v, e, h => by cases e; cases (show v = .bl b from h); exact .bl b
  | .int i, p, v, e, h => by cases e; cases (show v = .int i from h); exact .int i
  | .str s, p, v, e, h => by cases e; cases (show v = .str s from h); exact .str s
  | .h k, p, v, e, h => hd k p v e h
  | .nd .lst xs, p, v, e, h => by
    simp only [toPg] at e
    cases e1 : toPgL dr xs with
    | none => rw [e1] at e; cases e
    | some ps =>
      rw [e1] at e; cases e
      obtain ⟨a, vs, rfl, h1, h2⟩ := h
      exact .lst (Hat.lst h1) (toPgL_ok hd xs e1 h2)
  | .nd .scr xs, p, v, e, h => by
    simp only [toPg] at e
    cases e1 : toPgL dr xs with
    | none => rw [e1] at e; cases e
    | some ps =>
      rw [e1] at e; cases e
      obtain ⟨a, vs, rfl, h1, h2⟩ := h
      exact .lst (Hat.scr h1) (toPgL_ok hd xs e1 h2)
  | .nd .tup xs, p, v, e, h => by
    simp only [toPg] at e
    cases e1 : toPgL dr xs with
    | none => rw [e1] at e; cases e
    | some ps =>
      rw [e1] at e; cases e
      obtain ⟨a, vs, rfl, h1, h2⟩ := h
      exact .tup (Hat.tup h1) (toPgL_ok hd xs e1 h2)
  | .nd .ktp xs, p, v, e, h => by
    simp only [toPg] at e
    cases e1 : toPgL dr xs with
    | none => rw [e1] at e; cases e
    | some ps =>
      rw [e1] at e; cases e
      obtain ⟨a, vs, rfl, h1, h2⟩ := h
      exact .tup (Hat.ktp h1) (toPgL_ok hd xs e1 h2)
  | .nd (.dk _) xs, p, v, e, h => by simp [toPg] at e
  | .nd (.dt _) xs, p, v, e, h => by simp [toPg] at e
  | .nd (.ins _ _) xs, p, v, e, h => by simp [toPg] at e
theorem toPgL_ok {dr : Nat → Option PyData} (hd : ∀ k p v, dr k = some p → Rep g Z r H (.h k) v → Dp g.K H v p) : ∀ (ds : List D) {ps : List PyData} {vs : List V}, toPgL dr ds = some ps → RepL g Z r H ds vs → DpAll g.K H vs ps
  | [], ps, vs, e, h => by cases e; cases (show vs = [] from h); exact .nil
  | d :: ds, ps, vs, e, h => by
    simp only [toPgL] at e
    split at e
    · rename_i p qs e1 e2
      cases e
      obtain ⟨v, q, rfl, h1, h2⟩ := h
      exact .cons (toPg_ok hd d e1 h1) (toPgL_ok hd ds e2 h2)
    · cases e
end
/-- the things of the store by their content -/
theorem toP_cell (R : Rl g Z r H st) {dr : Nat → Option PyData} (hd : ∀ k p v, dr k = some p → Rep g Z r H (.h k) v → Dp g.K H v p) {k : Nat} {c : D} {p : PyData} {v : V} (hc : st[k]? = some c) (e : toPg dr c = some p) (h : Rep g Z r H (.h k) v) : Dp g.K H v p := by
  obtain ⟨a, rfl, e2⟩ := h
  obtain ⟨b, eb, t, xs, vs, rfl, hm, hx⟩ := R.cell k c hc
  rw [e2] at eb; cases eb
  cases t with
  | lst =>
    simp only [toPg] at e
    cases e1 : toPgL dr xs with
    | none => rw [e1] at e; cases e
    | some ps => rw [e1] at e; cases e; exact .lst (SqL.of hm) (toPgL_ok hd xs e1 hx)
  | tup => exact hm.elim
  | scr => exact hm.elim
  | ktp => exact hm.elim
  | dk ks => simp [toPg] at e
  | dt ks => simp [toPg] at e
  | ins c ns => simp [toPg] at e
theorem toP_ok (R : Rl g Z r H st) : ∀ (n : Nat) (d : D) {p : PyData} {v : V}, toP n st d = some p → Rep g Z r H d v → Dp g.K H v p
  | 0, d, p, v, e, h => toPg_ok (fun k p v e _ => by cases e) d e h
  | n + 1, d, p, v, e, h => by
    refine toPg_ok (fun k q w e h => ?_) d e h
    cases hc : st[k]? with
    | some c =>
      rw [hc] at e
      cases n with
      | zero => exact toP_cell R (fun k p v e _ => by cases e) hc e h
      | succ n =>
        refine toP_cell R (fun k p v e h => ?_) hc e h
        have e' : toP (n + 1) st (.h k) = some p := e
        exact toP_ok R (n + 1) (.h k) e' h
    | none => rw [hc] at e; cases e
end
abbrev deepP : Nat := 4
def shp (p : PyData) : Bool := p.plain && decide (p.depth ≤ 60)
/-- == -/
def eqD (x y : D) (st : Store) : Option Bool :=
  match x, y with
  | .int i, .int j => some (decide (i = j))
  | .str a, .str b => some (decide (a = b))
  | .bl a, .bl b => some (decide (a = b))
  | .non, .non => some true
  | x, y => match toP deepP st x, toP deepP st y with
    | some p, some q => if shp p && shp q then some (PyData.eqv p q) else none
    | _, _ => none
def dEq (x y : D) (st : Store) : Res D := match eqD x y st with
  | some b => .ok (.bl b) st
  | none => .no
def dNe (x y : D) (st : Store) : Res D := match eqD x y st with
  | some b => .ok (.bl (!b)) st
  | none => .no
def rEqP (K : PySem.W.Frag) : R2 := fun x y H Q => ∃ d e, Dp K H x d ∧ Dp K H y e ∧ shp d = true ∧ shp e = true ∧ Q (.bl (PyData.eqv d e)) H
def rNeP (K : PySem.W.Frag) : R2 := fun x y H Q => ∃ d e, Dp K H x d ∧ Dp K H y e ∧ shp d = true ∧ shp e = true ∧ Q (.bl (!PyData.eqv d e)) H
theorem shp_plain {p : PyData} (h : shp p = true) : p.plain = true := (Bool.and_eq_true_iff.mp h).1
theorem shp_depth {p : PyData} (h : shp p = true) : p.depth ≤ 60 := of_decide_eq_true (Bool.and_eq_true_iff.mp h).2
theorem op_eqP (hu : X.A.units + 64 < cLine) : OpR X (compareOp .Eq) (rEqP X.K) := by
  intro pins s sg H x y v u Q I rx ry h
  obtain ⟨d, e, hd, he, sd, se, q⟩ := h
  obtain ⟨as, r1⟩ := Dp.reads I d x v hd rx
  obtain ⟨bs, r2⟩ := Dp.reads I e y u he ry
  exact PySem.SeqAt.eq_plain r1 r2 (shp_plain sd) (shp_plain se) (by have := shp_depth sd; omega) ⟨.bl _, H, I, rfl, q⟩
theorem op_neP (hu : X.A.units + 64 < cLine) : OpR X (compareOp .NotEq) (rNeP X.K) := by
  intro pins s sg H x y v u Q I rx ry h
  obtain ⟨d, e, hd, he, sd, se, q⟩ := h
  obtain ⟨as, r1⟩ := Dp.reads I d x v hd rx
  obtain ⟨bs, r2⟩ := Dp.reads I e y u he ry
  exact PySem.SeqAt.ne_plain r1 r2 (shp_plain sd) (shp_plain se) (by have := shp_depth sd; omega) ⟨.bl _, H, I, rfl, q⟩
end
end DY

set_option Elab.async false
set_option linter.all false
set_option maxRecDepth 100000
set_option maxHeartbeats 4000000
/-! Comparisons, subscripts, attributes, built-ins on data. -/
namespace DY
open PySem PySem.Spec PyProof.Rows L2

section
variable {X : Cx} {cl : Nat → Addr}
theorem eqD_cases {x y : D} {st : Store} {b : Bool} (h : eqD x y st = some b) :
    (∃ i j, x = .int i ∧ y = .int j ∧ b = decide (i = j)) ∨ (∃ i j, x = .str i ∧ y = .str j ∧ b = decide (i = j)) ∨ (∃ i j, x = .bl i ∧ y = .bl j ∧ b = decide (i = j)) ∨ (x = .non ∧ y = .non ∧ b = true) ∨
    ∃ p q, toP deepP st x = some p ∧ toP deepP st y = some q ∧ shp p = true ∧ shp q = true ∧ b = PyData.eqv p q := by
  unfold eqD at h
  split at h
  · rename_i i j; exact .inl ⟨i, j, rfl, rfl, (Option.some.inj h).symm⟩
  · rename_i i j; exact .inr (.inl ⟨i, j, rfl, rfl, (Option.some.inj h).symm⟩)
  · rename_i i j; exact .inr (.inr (.inl ⟨i, j, rfl, rfl, (Option.some.inj h).symm⟩))
  · exact .inr (.inr (.inr (.inl ⟨rfl, rfl, (Option.some.inj h).symm⟩)))
  · split at h
    · rename_i p q e1 e2
      split at h
      · rename_i hs
        obtain ⟨h1, h2⟩ := Bool.and_eq_true_iff.mp hs
        exact .inr (.inr (.inr (.inr ⟨p, q, e1, e2, h1, h2, (Option.some.inj h).symm⟩)))
      · cases h
    · cases h
theorem dec_V {a b : Int} : decide (a = b) = decide (V.int a = V.int b) := by simp
theorem ops_eq (hu : X.A.units + 64 < cLine) : OpS X cl (compareOp .Eq) dEq := by
  refine ⟨_, op_eq.or (op_eqP hu), fun {Z r H st x y v u Q W'} R hx hy h => ?_⟩
  unfold dEq at h
  cases e : eqD x y st with
  | none => rw [e] at h; exact h.elim
  | some b =>
    rw [e] at h
    have q : Q (.bl b) H := post_ok h R rfl
    rcases eqD_cases e with ⟨i, j, rfl, rfl, rfl⟩ | ⟨i, j, rfl, rfl, rfl⟩ | ⟨i, j, rfl, rfl, rfl⟩ | ⟨rfl, rfl, rfl⟩ | ⟨p, p', e1, e2, s1, s2, rfl⟩
    · cases (show v = .int i from hx); cases (show u = .int j from hy)
      exact .inl ⟨rfl, by simpa using q⟩
    · cases (show v = .str i from hx); cases (show u = .str j from hy)
      exact .inl ⟨rfl, by simpa using q⟩
    · cases (show v = .bl i from hx); cases (show u = .bl j from hy)
      exact .inl ⟨rfl, by simpa using q⟩
    · cases (show v = .non from hx); cases (show u = .non from hy)
      exact .inl ⟨rfl, by simpa using q⟩
    · exact .inr ⟨p, p', toP_ok R _ _ e1 hx, toP_ok R _ _ e2 hy, s1, s2, q⟩
theorem ops_ne (hu : X.A.units + 64 < cLine) : OpS X cl (compareOp .NotEq) dNe := by
  refine ⟨_, op_ne.or (op_neP hu), fun {Z r H st x y v u Q W'} R hx hy h => ?_⟩
  unfold dNe at h
  cases e : eqD x y st with
  | none => rw [e] at h; exact h.elim
  | some b =>
    rw [e] at h
    have q : Q (.bl (!b)) H := post_ok h R rfl
    rcases eqD_cases e with ⟨i, j, rfl, rfl, rfl⟩ | ⟨i, j, rfl, rfl, rfl⟩ | ⟨i, j, rfl, rfl, rfl⟩ | ⟨rfl, rfl, rfl⟩ | ⟨p, p', e1, e2, s1, s2, rfl⟩
    · cases (show v = .int i from hx); cases (show u = .int j from hy)
      exact .inl ⟨rfl, by simpa using q⟩
    · cases (show v = .str i from hx); cases (show u = .str j from hy)
      exact .inl ⟨rfl, by simpa using q⟩
    · cases (show v = .bl i from hx); cases (show u = .bl j from hy)
      exact .inl ⟨rfl, by simpa using q⟩
    · cases (show v = .non from hx); cases (show u = .non from hy)
      exact .inl ⟨rfl, by simpa using q⟩
    · exact .inr ⟨p, p', toP_ok R _ _ e1 hx, toP_ok R _ _ e2 hy, s1, s2, q⟩

/-! ### in -/
def fv : D → Option V
  | .non => some .non
  | .bl b => some (.bl b)
  | .int i => some (.int i)
  | .str s => some (.str s)
  | _ => none
def fvs : List D → Option (List V)
  | [] => some []
  | d :: ds => match fv d, fvs ds with
    | some v, some vs => some (v :: vs)
    | _, _ => none
theorem fv_ok {g : Gd} {Z r : List Addr} {H : Hp} {d : D} {v w : V} (e : fv d = some w) (h : Rep g Z r H d v) : v = w ∧ flatV w = true := by
  cases d <;> cases e <;> exact ⟨h, rfl⟩
theorem fvs_ok {g : Gd} {Z r : List Addr} {H : Hp} : ∀ {ds : List D} {vs ws : List V}, fvs ds = some ws → RepL g Z r H ds vs → vs = ws ∧ ws.all flatV = true
  | [], vs, ws, e, h => by cases e; exact ⟨h, rfl⟩
  | d :: ds, vs, ws, e, h => by
    simp only [fvs] at e
    split at e
    · rename_i w us e1 e2
      cases e
      obtain ⟨v, q, rfl, h1, h2⟩ := h
      obtain ⟨rfl, f1⟩ := fv_ok e1 h1
      obtain ⟨rfl, f2⟩ := fvs_ok e2 h2
      exact ⟨rfl, by simp [f1, f2]⟩
    · cases e
def seq? (st : Store) (d : D) : Option (List D) := match lst? st d with
  | some xs => some xs
  | none => tup? st d
theorem seq_ok {g : Gd} {Z r : List Addr} {H : Hp} {st : Store} {d : D} {v : V} {xs : List D} (R : Rl g Z r H st) (h : Rep g Z r H d v) (e : seq? st d = some xs) : ∃ a vs, v = .ref a ∧ RepL g Z r H xs vs ∧ (SqL g.K H a vs ∨ SqT g.K H a vs) := by
  unfold seq? at e
  split at e
  · rename_i ys e1
    cases e
    obtain ⟨a, vs, e2, q, s⟩ := lst_ok R h e1
    exact ⟨a, vs, e2, q, .inl s⟩
  · obtain ⟨a, vs, e2, q, s⟩ := tup_ok R h e
    exact ⟨a, vs, e2, q, .inr s⟩
/-- whether x is in y -/
def inD (x y : D) (st : Store) : Option Bool :=
  match y, x with
  | .str b, .str a => some (!(Builtin.Str.occurrences b a 0 b.length 1).isEmpty)
  | y, x => match fv x, (seq? st y).bind fvs with
    | some v, some vs => some (inV v vs)
    | _, _ => match toP deepP st y, toP deepP st x with
      | some (.list ds), some d => if shp (.list ds) && shp d then some (ds.any fun z => PyData.eqv z d) else none
      | some (.tuple ds), some d => if shp (.tuple ds) && shp d then some (ds.any fun z => PyData.eqv z d) else none
      | _, _ => none
def dIn (x y : D) (st : Store) : Res D := match inD x y st with
  | some b => .ok (.bl b) st
  | none => .no
def dNotIn (x y : D) (st : Store) : Res D := match inD x y st with
  | some b => .ok (.bl (!b)) st
  | none => .no
def rInPL (K : PySem.W.Frag) (neg : Bool) : R2 := fun x y H Q => ∃ d ds, Dp K H x d ∧ Dp K H y (.list ds) ∧ shp d = true ∧ shp (.list ds) = true ∧ Q (.bl (if neg then !(ds.any fun z => PyData.eqv z d) else ds.any fun z => PyData.eqv z d)) H
def rInPT (K : PySem.W.Frag) (neg : Bool) : R2 := fun x y H Q => ∃ d ds, Dp K H x d ∧ Dp K H y (.tuple ds) ∧ shp d = true ∧ shp (.tuple ds) = true ∧ Q (.bl (if neg then !(ds.any fun z => PyData.eqv z d) else ds.any fun z => PyData.eqv z d)) H
theorem depth_list {ds : List PyData} : (PyData.list ds).depth = PyData.depthAll ds + 1 := by rw [PyData.depth]
theorem depth_tup {ds : List PyData} : (PyData.tuple ds).depth = PyData.depthAll ds + 1 := by rw [PyData.depth]
theorem op_inPL (hu : X.A.units + 64 < cLine) : OpR X (compareOp .In) (rInPL X.K false) := by
  intro pins s sg H x y v u Q I rx ry h
  obtain ⟨d, ds, hd, he, sd, se, q⟩ := h
  obtain ⟨as, r1⟩ := Dp.reads I d x v hd rx
  obtain ⟨bs, r2⟩ := Dp.reads I _ y u he ry
  exact PySem.SeqAt.in_list_data r2 r1 (by simpa [PyData.plain] using shp_plain se) (shp_plain sd) (by have := shp_depth sd; omega) ⟨.bl _, H, I, rfl, q⟩
theorem op_notInPL (hu : X.A.units + 64 < cLine) : OpR X (compareOp .NotIn) (rInPL X.K true) := by
  intro pins s sg H x y v u Q I rx ry h
  obtain ⟨d, ds, hd, he, sd, se, q⟩ := h
  obtain ⟨as, r1⟩ := Dp.reads I d x v hd rx
  obtain ⟨bs, r2⟩ := Dp.reads I _ y u he ry
  exact PySem.SeqAt.notIn_list_data r2 r1 (by simpa [PyData.plain] using shp_plain se) (shp_plain sd) (by have := shp_depth sd; omega) ⟨.bl _, H, I, rfl, q⟩
theorem op_inPT (hu : X.A.units + 64 < cLine) : OpR X (compareOp .In) (rInPT X.K false) := by
  intro pins s sg H x y v u Q I rx ry h
  obtain ⟨d, ds, hd, he, sd, se, q⟩ := h
  obtain ⟨as, r1⟩ := Dp.reads I d x v hd rx
  obtain ⟨bs, r2⟩ := Dp.reads I _ y u he ry
  exact PySem.SeqAt.in_tuple_data r2 r1 (by simpa [PyData.plain] using shp_plain se) (shp_plain sd) (by have := shp_depth sd; omega) ⟨.bl _, H, I, rfl, q⟩
theorem op_notInPT (hu : X.A.units + 64 < cLine) : OpR X (compareOp .NotIn) (rInPT X.K true) := by
  intro pins s sg H x y v u Q I rx ry h
  obtain ⟨d, ds, hd, he, sd, se, q⟩ := h
  obtain ⟨as, r1⟩ := Dp.reads I d x v hd rx
  obtain ⟨bs, r2⟩ := Dp.reads I _ y u he ry
  exact PySem.SeqAt.notIn_tuple_data r2 r1 (by simpa [PyData.plain] using shp_plain se) (shp_plain sd) (by have := shp_depth sd; omega) ⟨.bl _, H, I, rfl, q⟩
theorem inD_cases {Z r : List Addr} {H : Hp} {st : Store} {x y : D} {v u : V} {b : Bool} (R : Rl ⟨X.K, cl⟩ Z r H st) (hx : Rep ⟨X.K, cl⟩ Z r H x v) (hy : Rep ⟨X.K, cl⟩ Z r H y u) (e : inD x y st = some b) :
    (∃ i j, v = .str i ∧ u = .str j ∧ b = !(Builtin.Str.occurrences j i 0 j.length 1).isEmpty) ∨ (∃ p xs, u = .ref p ∧ (SqL X.K H p xs ∨ SqT X.K H p xs) ∧ flatV v = true ∧ xs.all flatV = true ∧ b = inV v xs) ∨
    (∃ d ds, Dp X.K H v d ∧ Dp X.K H u (.list ds) ∧ shp d = true ∧ shp (.list ds) = true ∧ b = ds.any fun z => PyData.eqv z d) ∨
    ∃ d ds, Dp X.K H v d ∧ Dp X.K H u (.tuple ds) ∧ shp d = true ∧ shp (.tuple ds) = true ∧ b = ds.any fun z => PyData.eqv z d := by
  unfold inD at e
  split at e
  · rename_i j i
    exact .inl ⟨i, j, hx, hy, (Option.some.inj e).symm⟩
  · split at e
    · rename_i w ws e1 e2
      cases e
      obtain ⟨rfl, f1⟩ := fv_ok e1 hx
      cases hs : seq? st y with
      | none => rw [hs] at e2; cases e2
      | some ys =>
        rw [hs] at e2
        obtain ⟨p, us, rfl, q, s⟩ := seq_ok R hy hs
        obtain ⟨rfl, f2⟩ := fvs_ok (show fvs ys = some ws from e2) q
        exact .inr (.inl ⟨p, us, rfl, s, f1, f2, rfl⟩)
    · split at e
      · rename_i ds d e1 e2
        split at e
        · rename_i hs
          obtain ⟨s1, s2⟩ := Bool.and_eq_true_iff.mp hs
          exact .inr (.inr (.inl ⟨d, ds, toP_ok R _ _ e2 hx, toP_ok R _ _ e1 hy, s2, s1, (Option.some.inj e).symm⟩))
        · cases e
      · rename_i ds d e1 e2
        split at e
        · rename_i hs
          obtain ⟨s1, s2⟩ := Bool.and_eq_true_iff.mp hs
          exact .inr (.inr (.inr ⟨d, ds, toP_ok R _ _ e2 hx, toP_ok R _ _ e1 hy, s2, s1, (Option.some.inj e).symm⟩))
        · cases e
      · cases e
theorem ops_in (hu : X.A.units + 64 < cLine) : OpS X cl (compareOp .In) dIn := by
  refine ⟨_, ((op_in_str.or op_in_seq).or (op_inPL hu)).or (op_inPT hu), fun {Z r H st x y v u Q W'} R hx hy h => ?_⟩
  unfold dIn at h
  cases e : inD x y st with
  | none => rw [e] at h; exact h.elim
  | some b =>
    rw [e] at h
    have q : Q (.bl b) H := post_ok h R rfl
    rcases inD_cases R hx hy e with ⟨i, j, e1, e2, rfl⟩ | ⟨p, xs, e1, s, f1, f2, rfl⟩ | ⟨d, ds, h1, h2, s1, s2, rfl⟩ | ⟨d, ds, h1, h2, s1, s2, rfl⟩
    · exact .inl (.inl (.inl ⟨i, j, e1, e2, q⟩))
    · exact .inl (.inl (.inr ⟨p, xs, e1, s, f1, f2, q⟩))
    · exact .inl (.inr ⟨d, ds, h1, h2, s1, s2, q⟩)
    · exact .inr ⟨d, ds, h1, h2, s1, s2, q⟩
theorem ops_notIn (hu : X.A.units + 64 < cLine) : OpS X cl (compareOp .NotIn) dNotIn := by
  refine ⟨_, ((op_notIn_str.or op_notIn_seq).or (op_notInPL hu)).or (op_notInPT hu), fun {Z r H st x y v u Q W'} R hx hy h => ?_⟩
  unfold dNotIn at h
  cases e : inD x y st with
  | none => rw [e] at h; exact h.elim
  | some b =>
    rw [e] at h
    have q : Q (.bl (!b)) H := post_ok h R rfl
    rcases inD_cases R hx hy e with ⟨i, j, e1, e2, rfl⟩ | ⟨p, xs, e1, s, f1, f2, rfl⟩ | ⟨d, ds, h1, h2, s1, s2, rfl⟩ | ⟨d, ds, h1, h2, s1, s2, rfl⟩
    · exact .inl (.inl (.inl ⟨i, j, e1, e2, by simpa using q⟩))
    · exact .inl (.inl (.inr ⟨p, xs, e1, s, f1, f2, q⟩))
    · exact .inl (.inr ⟨d, ds, h1, h2, s1, s2, q⟩)
    · exact .inr ⟨d, ds, h1, h2, s1, s2, q⟩

/-! ### subscripts -/
variable {W : WX} {a b : Expr} {fa fb : SemE} {pos : Pos}
theorem atI_rep {g : Gd} {Z r : List Addr} {H : Hp} {ds : List D} {vs : List V} {i : Int} {d : D} (h : RepL g Z r H ds vs) (e : atI ds i = some d) : ∃ v, atI vs i = some v ∧ Rep g Z r H d v := by
  unfold atI at e ⊢
  rw [← h.length]
  cases hx : ixN ds.length i with
  | none => rw [hx] at e; cases e
  | some j => rw [hx] at e; exact h.get e
/-- xs[i] -/
def dIx (x y : D) (st : Store) : Res D :=
  match y with
  | .int i => match seq? st x with
    | some xs => match atI xs i with
      | some d => .ok d st
      | none => .no
    | none => match x with
      | .str z => if z.length ≤ szL then (match atI z.cps.toList i with
        | some c => .ok (.str ⟨#[c]⟩) st
        | none => .no) else .no
      | _ => .no
  | _ => .no
theorem se_ix (ha : SE X cl W a fa) (hb : SE X cl W b fb) (hs : PlainIx b := by exact fun _ _ => rfl) : SE X cl W (.Subscript a b pos) (dBin dIx fa fb) := by
  refine ⟨(pe_ix ix_seq ha.run hb.run hs).imp (rd_bin fun {Z r H st x y v u Q W'} R hx hy h => ?_)⟩
  unfold dIx at h
  cases y with
  | int i =>
    dsimp only at h
    cases hsq : seq? st x with
    | some xs =>
      rw [hsq] at h
      dsimp only at h
      obtain ⟨p, vs, rfl, q, s⟩ := seq_ok R hx hsq
      cases hat : atI xs i with
      | none => rw [hat] at h; exact h.elim
      | some d =>
        rw [hat] at h
        obtain ⟨w, e1, e2⟩ := atI_rep q hat
        rcases s with s | s
        · exact .inl ⟨p, vs, i, w, rfl, hy, s, e1, post_ok h R e2⟩
        · exact .inr (.inl ⟨p, vs, i, w, rfl, hy, s, e1, post_ok h R e2⟩)
    | none =>
      rw [hsq] at h
      cases x with
      | str z =>
        dsimp only at h
        split at h
        · rename_i hz
          cases hat : atI z.cps.toList i with
          | none => rw [hat] at h; exact h.elim
          | some c => rw [hat] at h; exact .inr (.inr ⟨z, i, c, hx, hy, hz, hat, post_ok h R rfl⟩)
        · exact h.elim
      | non => exact h.elim
      | bl b => exact h.elim
      | int j => exact h.elim
      | h k => exact h.elim
      | nd t xs => exact h.elim
  | non => exact h.elim
  | bl b => exact h.elim
  | str s => exact h.elim
  | h k => exact h.elim
  | nd t xs => exact h.elim
/-- a part of a slice -/
abbrev SemO := DEnv → Store → Res (Option Int)
abbrev RO : List Addr → Hp → Option Int → Option Int → Prop := fun _ _ a b => a = b
def rdO (g : Gd) (W : WX) (f : SemO) : TO := fun sg H Q => ∃ Z r env st, EnvR g Z r H env sg ∧ Rl g Z r H st ∧ Post g Z r H RO (f env st) Q (fun c d H' => W c d sg H')
structure SO (X : Cx) (cl : Nat → Addr) (W : WX) (e : Option Expr) (f : SemO) : Prop where
  run : PO X e (rdO ⟨X.K, cl⟩ W f)
theorem _root_.L2.PO.imp {e : Option Expr} {t t' : TO} (h : PO X e t) (f : ∀ sg H Q, t' sg H Q → t sg H Q) : PO X e t' := ⟨fun pins s sg H Q I q => h.run pins s sg H Q I (f sg H Q q)⟩
@[simp] def dNoPart : SemO := fun _ st => .ok none st
@[simp] def dPart (f : SemE) : SemO := fun env st => (f env st).bind fun x st1 => match x with
  | .int i => .ok (some i) st1
  | _ => .no
theorem so_none : SO X cl W none dNoPart := ⟨po_none.imp fun sg H Q ⟨Z, r, env, st, E, R, h⟩ => post_ok h R rfl⟩
theorem so_some {e : Expr} {f : SemE} (he : SE X cl W e f) : SO X cl W (some e) (dPart f) := by
  refine ⟨(po_some he.run).imp fun sg H Q ⟨Z, r, env, st, E, R, h⟩ => ?_⟩
  refine ⟨Z, r, env, st, E, R, Post.bind h fun x st1 r1 H1 v _ e1 R1 q1 h1 => ?_⟩
  cases x with
  | int i => exact ⟨i, q1, post_ok h1 R1 rfl⟩
  | non => exact h1.elim
  | bl b => exact h1.elim
  | str s => exact h1.elim
  | h k => exact h1.elim
  | nd t xs => exact h1.elim
def cutD (xs : List D) (lo hi : Option Int) : List D := (xs.drop (HT.sIx xs.length 0 lo)).take (HT.sIx xs.length xs.length hi - HT.sIx xs.length 0 lo)
theorem cut_rep {g : Gd} {Z r : List Addr} {H : Hp} {ds : List D} {vs : List V} (h : RepL g Z r H ds vs) (lo hi : Option Int) : RepL g Z r H (cutD ds lo hi) (cutV vs lo hi) := by
  unfold cutD cutV
  rw [h.length]
  exact (h.drop _).take _
/-- x[lo:hi] of a list or a tuple -/
def dCut (x : D) (lo hi : Option Int) (st : Store) : Res D :=
  match lst? st x with
  | some xs => .ok (.nd .lst (cutD xs lo hi)) st
  | none => match tupX? st x with
    | some xs => .ok (.nd .tup (cutD xs lo hi)) st
    | none => .no
@[simp] def dSlice (fa : SemE) (fl fh : SemO) : SemE := fun env st => (fa env st).bind fun x st1 => (fl env st1).bind fun lo st2 => (fh env st2).bind fun hi st3 => dCut x lo hi st3
theorem cut_whole {xs : List D} {lo hi : Option Int} (h : HT.sIx xs.length 0 lo = 0 ∧ HT.sIx xs.length xs.length hi = xs.length) : cutD xs lo hi = xs := by
  unfold cutD
  rw [h.1, h.2]
  simp
theorem se_slice {lo hi : Option Expr} {fl fh : SemO} {p2 : Pos} (ha : SE X cl W a fa) (hl : SO X cl W lo fl) (hh : SO X cl W hi fh) : SE X cl W (.Subscript a (.Slice lo hi none p2) pos) (dSlice fa fl fh) := by
  refine ⟨(pe_slice (sl_list.or sl_tupA) ha.run hl.run hh.run).imp fun sg H Q ⟨Z, r, env, st, E, R, h⟩ => ?_⟩
  refine ⟨Z, r, env, st, E, R, Post.bind h fun x st1 r1 H1 v _ e1 R1 q1 h1 => ?_⟩
  refine ⟨Z, r1, env, st1, E.ext e1, R1, Post.bind h1 fun l st2 r2 H2 l' _ e2 R2 q2 h2 => ?_⟩
  cases q2
  refine ⟨Z, r2, env, st2, E.ext (e1.trans e2), R2, Post.bind h2 fun u st3 r3 H3 u' _ e3 R3 q3 h3 => ?_⟩
  cases q3
  have hx := Rep.ext (e2.trans e3) x q1
  unfold dCut at h3
  split at h3
  · rename_i xs ex
    obtain ⟨p, vs, rfl, q, s⟩ := lst_ok R3 hx ex
    exact .inl ⟨p, vs, rfl, s, fun t ht => h3 r3 _ _ (Ext.new ht) (R3.new ht) (new_lst R3 (cut_rep q l u) ht)⟩
  · split at h3
    · rename_i xs ex
      have ex' := tup_is R3 ex
      obtain ⟨p, vs, rfl, q, s⟩ := tupX_ok R3 hx ex
      refine .inr ⟨p, vs, rfl, SqT.of s, fun w => ?_, fun _ t ht => h3 r3 _ _ (Ext.new ht) (R3.new ht) (new_tup R3 (cut_rep q l u) ht)⟩
      rw [← q.length] at w
      rw [cut_whole w] at h3
      subst ex'
      exact post_ok h3 R3 hx
    · exact h3.elim

/-! ### dicts -/
/-- a key's place -/
def kIx {κ : Type} [DecidableEq κ] : List κ → κ → Option Nat
  | [], _ => none
  | k :: ks, x => if k = x then some 0 else (kIx ks x).map (· + 1)
/-- guessed, or sought -/
def kAt {κ : Type} [DecidableEq κ] (hint : Nat) (ks : List κ) (x : κ) : Option Nat := if ks[hint]? = some x then some hint else kIx ks x
theorem kIx_get {κ : Type} [DecidableEq κ] : ∀ {ks : List κ} {x : κ} {i : Nat}, kIx ks x = some i → ks[i]? = some x
  | [], _, _, e => by cases e
  | k :: ks, x, i, e => by
    simp only [kIx] at e
    split at e
    · rename_i h; cases e; simp [h]
    · cases hk : kIx ks x with
      | none => rw [hk] at e; cases e
      | some j => rw [hk] at e; cases e; simpa using kIx_get hk
theorem kIx_none {κ : Type} [DecidableEq κ] : ∀ {ks : List κ} {x : κ}, kIx ks x = none → x ∉ ks
  | [], _, _ => by simp
  | k :: ks, x, e => by
    simp only [kIx] at e
    split at e
    · cases e
    · rename_i h
      cases hk : kIx ks x with
      | none => simp only [List.mem_cons, not_or]; exact ⟨fun z => h z.symm, kIx_none hk⟩
      | some j => rw [hk] at e; cases e
theorem kAt_get {κ : Type} [DecidableEq κ] {hint : Nat} {ks : List κ} {x : κ} {i : Nat} (e : kAt hint ks x = some i) : ks[i]? = some x := by
  unfold kAt at e
  split at e
  · rename_i h; cases e; exact h
  · exact kIx_get e
theorem kAt_none {κ : Type} [DecidableEq κ] {hint : Nat} {ks : List κ} {x : κ} (e : kAt hint ks x = none) : x ∉ ks := by
  unfold kAt at e
  split at e
  · cases e
  · exact kIx_none e
theorem valV_zip {κ : Type} [DecidableEq κ] : ∀ {ks : List κ} {vs : List V} {i : Nat} {x : κ}, ks.Nodup → ks[i]? = some x → valV (ks.zip vs) x = vs[i]?
  | [], _, _, _, _, e => by simp at e
  | k :: ks, [], i, x, _, _ => by simp [valV_nil]
  | k :: ks, v :: vs, 0, x, _, e => by
    simp at e; subst e
    rw [List.zip_cons_cons, valV_pos rfl]; rfl
  | k :: ks, v :: vs, i + 1, x, n, e => by
    simp at e
    have hx : x ∈ ks := List.mem_of_getElem? e
    have ne : ¬ k = x := fun z => (List.nodup_cons.mp n).1 (z ▸ hx)
    rw [List.zip_cons_cons, valV_neg (p := (k, v)) ne, valV_zip (List.nodup_cons.mp n).2 e]; simp
theorem valV_zip_none {κ : Type} [DecidableEq κ] : ∀ {ks : List κ} {vs : List V} {x : κ}, x ∉ ks → valV (ks.zip vs) x = none
  | [], _, _, _ => by simp [valV_nil]
  | k :: ks, [], x, _ => by simp [valV_nil]
  | k :: ks, v :: vs, x, n => by
    simp at n
    rw [List.zip_cons_cons, valV_neg (p := (k, v)) (fun z => n.1 z.symm), valV_zip_none n.2]
theorem putK_zip {κ : Type} [DecidableEq κ] : ∀ {ks : List κ} {vs : List V} {i : Nat} {x : κ} {y : V}, ks.Nodup → ks.length = vs.length → ks[i]? = some x → putK (ks.zip vs) x y = ks.zip (vs.set i y) := by
  intro ks vs i x y n l e
  have ha : ((ks.zip vs).any fun kv => decide (kv.1 = x)) = true := by
    rw [valV_any, valV_zip n e]
    have : i < vs.length := by rw [← l]; exact (List.getElem?_eq_some_iff.mp e).1
    rw [List.getElem?_eq_getElem this]; rfl
  unfold putK
  rw [if_pos ha]
  clear ha
  induction ks generalizing vs i with
  | nil => simp at e
  | cons k ks ih =>
    cases vs with
    | nil => simp at l
    | cons v vs =>
      cases i with
      | zero =>
        simp at e; subst e
        simp only [List.zip_cons_cons, List.map_cons, if_pos, List.set_cons_zero]
        congr 1
        have : ∀ p ∈ ks.zip vs, (if p.1 = k then (p.1, y) else p) = p := fun p hp => by
          have hm : p.1 ∈ ks := by
            obtain ⟨a, b⟩ := p
            exact (List.of_mem_zip hp).1
          rw [if_neg]
          intro z
          exact (List.nodup_cons.mp n).1 (z ▸ hm)
        rw [List.map_congr_left this]; simp
      | succ i =>
        simp at e
        have hx : x ∈ ks := List.mem_of_getElem? e
        have ne : ¬ k = x := fun z => (List.nodup_cons.mp n).1 (z ▸ hx)
        simp only [List.zip_cons_cons, List.map_cons, if_neg ne, List.set_cons_succ]
        congr 1
        exact ih (List.nodup_cons.mp n).2 (by simpa using l) e
theorem putK_zip_new {κ : Type} [DecidableEq κ] {ks : List κ} {vs : List V} {x : κ} {y : V} (l : ks.length = vs.length) (e : x ∉ ks) : putK (ks.zip vs) x y = (ks ++ [x]).zip (vs ++ [y]) := by
  rw [putK_new _ (valV_zip_none e), List.zip_append l]; rfl
def key? : D → Option Key
  | .int i => some (.inl i)
  | .str s => some (.inr s)
  | _ => none
def keys? : List D → Option (List Key)
  | [] => some []
  | d :: ds => match key? d, keys? ds with
    | some v, some vs => some (v :: vs)
    | _, _ => none
theorem key_ok {g : Gd} {Z r : List Addr} {H : Hp} {d : D} {v : V} {k : Key} (e : key? d = some k) (h : Rep g Z r H d v) : v = kV k := by
  cases d <;> cases e <;> exact h
theorem keys_ok {g : Gd} {Z r : List Addr} {H : Hp} : ∀ {ds : List D} {vs : List V} {ks : List Key}, keys? ds = some ks → RepL g Z r H ds vs → vs = ks.map kV
  | [], vs, ks, e, h => by cases e; exact h
  | d :: ds, vs, ks, e, h => by
    simp only [keys?] at e
    split at e
    · rename_i w us e1 e2
      cases e
      obtain ⟨v, q, rfl, h1, h2⟩ := h
      rw [key_ok e1 h1, keys_ok e2 h2]; rfl
    · cases e
end
end DY

set_option Elab.async false
set_option linter.all false
set_option maxRecDepth 100000
set_option maxHeartbeats 4000000
/-! Statements, loops, comprehensions on data. -/
namespace DY
open PySem PySem.Spec PyProof.Rows L2

inductive SR where
  | nx (env : DEnv) (st : Store)
  | rt (d : D) (st : Store)
  | er (e : Ex) (env : DEnv) (st : Store)
  | bk (env : DEnv) (st : Store)
  | ct (env : DEnv) (st : Store)
  | no
abbrev SemS := DEnv → Store → SR
@[simp] def bindE {A : Type} (x : Res A) (env : DEnv) (k : A → Store → SR) : SR := match x with
  | .ok a st => k a st
  | .er e st => .er e env st
  | .no => .no
@[simp] def SR.seq (x : SR) (k : DEnv → Store → SR) : SR := match x with
  | .nx env st => k env st
  | x => x
def PostS (g : Gd) (Z r : List Addr) (H : Hp) (x : SR) (E : Ends) (W : WX) : Prop :=
  match x with
  | .nx env st => ∀ r' H' sg, Ext r H r' H' → Rl g Z r' H' st → EnvR g Z r' H' env sg → E.nx sg H'
  | .rt d st => ∀ r' H' v, Ext r H r' H' → Rl g Z r' H' st → Rep g Z r' H' d v → E.rt v H'
  | .er e env st => ∀ r' H' sg cls d, Ext r H r' H' → Rl g Z r' H' st → EnvR g Z r' H' env sg → RepX g Z r' H' e cls d → W cls d sg H'
  | .bk env st => ∀ r' H' sg, Ext r H r' H' → Rl g Z r' H' st → EnvR g Z r' H' env sg → E.bk sg H'
  | .ct env st => ∀ r' H' sg, Ext r H r' H' → Rl g Z r' H' st → EnvR g Z r' H' env sg → E.ct sg H'
  | .no => False
theorem PostS.ext {g : Gd} {Z r r1 : List Addr} {H H1 : Hp} {x : SR} {E : Ends} {W : WX} (e : Ext r H r1 H1) (h : PostS g Z r H x E W) : PostS g Z r1 H1 x E W := by
  cases x with
  | nx env st => exact fun r' H' sg e' => h r' H' sg (e.trans e')
  | rt d st => exact fun r' H' v e' => h r' H' v (e.trans e')
  | er x env st => exact fun r' H' sg c d e' => h r' H' sg c d (e.trans e')
  | bk env st => exact fun r' H' sg e' => h r' H' sg (e.trans e')
  | ct env st => exact fun r' H' sg e' => h r' H' sg (e.trans e')
  | no => exact h
theorem PostS.bindE {A B : Type} {g : Gd} {Z r : List Addr} {H : Hp} {RA : List Addr → Hp → A → B → Prop} {x : Res A} {env : DEnv} {sg : L2.St} {k : A → Store → SR} {Q : B → Hp → Prop} {E : Ends} {W : WX}
    (h : PostS g Z r H (bindE x env k) E W) (En : EnvR g Z r H env sg)
    (hk : ∀ a st r' H' b, x = .ok a st → Ext r H r' H' → Rl g Z r' H' st → RA r' H' a b → PostS g Z r' H' (k a st) E W → Q b H') : Post g Z r H RA x Q (fun c d H' => W c d sg H') := by
  cases x with
  | ok a st => exact fun r' H' b e R q => hk a st r' H' b rfl e R q (PostS.ext e h)
  | er x st => exact fun r' H' cls d e R q => h r' H' sg cls d e R (En.ext e) q
  | no => exact h.elim
def rdS (g : Gd) (W : WX) (f : SemS) : TS := fun E sg H => ∃ Z r env st, EnvR g Z r H env sg ∧ Rl g Z r H st ∧ PostS g Z r H (f env st) E W
structure SS (X : Cx) (cl : Nat → Addr) (W : WX) (s : Stmt) (f : SemS) : Prop where
  run : PS X s (rdS ⟨X.K, cl⟩ W f)
structure SB (X : Cx) (cl : Nat → Addr) (W : WX) (s : List Stmt) (f : SemS) : Prop where
  run : PSs X s (rdS ⟨X.K, cl⟩ W f)
theorem _root_.L2.PS.imp {X : Cx} {s : Stmt} {t t' : TS} (h : PS X s t) (f : ∀ E sg H, t' E sg H → t E sg H) : PS X s t' := ⟨fun pins st sg H E I q => h.run pins st sg H E I (f E sg H q)⟩
theorem _root_.L2.PSs.imp {X : Cx} {s : List Stmt} {t t' : TS} (h : PSs X s t) (f : ∀ E sg H, t' E sg H → t E sg H) : PSs X s t' := ⟨fun pins st sg H E I q => h.run pins st sg H E I (f E sg H q)⟩
theorem post_nx {g : Gd} {Z r : List Addr} {H : Hp} {env : DEnv} {st : Store} {E : Ends} {W : WX} {sg : L2.St} (h : PostS g Z r H (.nx env st) E W) (R : Rl g Z r H st) (En : EnvR g Z r H env sg) : E.nx sg H := h r H sg (Ext.refl r H) R En

section
variable {X : Cx} {cl : Nat → Addr} {W : WX} {pos : Pos}
@[simp] def sNil : SemS := fun env st => .nx env st
@[simp] def sCons (a b : SemS) : SemS := fun env st => (a env st).seq b
theorem sb_nil : SB X cl W [] sNil := ⟨pss_nil.imp fun E sg H ⟨Z, r, env, st, En, R, h⟩ => post_nx h R En⟩
theorem seq_post {g : Gd} {Z r : List Addr} {H : Hp} {x : SR} {k : SemS} {E : Ends} {W : WX} (h : PostS g Z r H (x.seq k) E W) : PostS g Z r H x { E with nx := rdS g W k E } W := by
  cases x with
  | nx env st => exact fun r' H' sg e R En => ⟨Z, r', env, st, En, R, PostS.ext e h⟩
  | rt d st => exact h
  | er x env st => exact h
  | bk env st => exact h
  | ct env st => exact h
  | no => exact h
theorem sb_cons {s : Stmt} {ss : List Stmt} {a b : SemS} (ha : SS X cl W s a) (hb : SB X cl W ss b) : SB X cl W (s :: ss) (sCons a b) :=
  ⟨(pss_cons ha.run hb.run).imp fun E sg H ⟨Z, r, env, st, En, R, h⟩ => ⟨Z, r, env, st, En, R, seq_post h⟩⟩
theorem sb_one {s : Stmt} {a : SemS} (ha : SS X cl W s a) : SB X cl W [s] a := ⟨pss_one ha.run⟩
theorem ss_pass : SS X cl W (.Pass pos) sNil := ⟨ps_pass.imp fun E sg H ⟨Z, r, env, st, En, R, h⟩ => post_nx h R En⟩
@[simp] def sBreak : SemS := fun env st => .bk env st
@[simp] def sCont : SemS := fun env st => .ct env st
theorem ss_break : SS X cl W (.Break pos) sBreak := ⟨ps_break.imp fun E sg H ⟨Z, r, env, st, En, R, h⟩ => h r H sg (Ext.refl r H) R En⟩
theorem ss_cont : SS X cl W (.Continue pos) sCont := ⟨ps_continue.imp fun E sg H ⟨Z, r, env, st, En, R, h⟩ => h r H sg (Ext.refl r H) R En⟩
@[simp] def sExpr (f : SemE) : SemS := fun env st => bindE (f env st) env fun _ st1 => .nx env st1
theorem ss_expr {e : Expr} {f : SemE} (he : SE X cl W e f) (hs : swapsWith e none pos.line X.env = pure false := by rfl) : SS X cl W (.Expr e pos) (sExpr f) :=
  ⟨(ps_expr he.run hs).imp fun E sg H ⟨Z, r, env, st, En, R, h⟩ => ⟨Z, r, env, st, En, R, PostS.bindE h En fun d st1 r1 H1 v _ e1 R1 q1 h1 => post_nx h1 R1 (En.ext e1)⟩⟩
@[simp] def sRet (f : SemE) : SemS := fun env st => bindE (f env st) env fun d st1 => .rt d st1
theorem ss_ret {e : Expr} {f : SemE} (he : SE X cl W e f) : SS X cl W (.Return (some e) pos) (sRet f) :=
  ⟨(ps_ret he.run).imp fun E sg H ⟨Z, r, env, st, En, R, h⟩ => ⟨Z, r, env, st, En, R, PostS.bindE h En fun d st1 r1 H1 v _ e1 R1 q1 h1 => h1 r1 H1 v (Ext.refl r1 H1) R1 q1⟩⟩
@[simp] def sRetN : SemS := fun _ st => .rt .non st
theorem ss_retN : SS X cl W (.Return none pos) sRetN := ⟨ps_retN.imp fun E sg H ⟨Z, r, env, st, En, R, h⟩ => h r H .non (Ext.refl r H) R rfl⟩
@[simp] def sIf (ft : SemT) (a b : SemS) : SemS := fun env st => bindE (ft env st) env fun c st1 => if c = true then a env st1 else b env st1
theorem ss_if {c : Expr} {a b : List Stmt} {ft : SemT} {fa fb : SemS} (hc : ST X cl W c ft) (ha : SB X cl W a fa) (hb : SB X cl W b fb) : SS X cl W (.If c a b pos) (sIf ft fa fb) := by
  refine ⟨(ps_if hc.run ha.run hb.run).imp fun E sg H ⟨Z, r, env, st, En, R, h⟩ => ⟨Z, r, env, st, En, R, PostS.bindE h En fun x st1 r1 H1 v _ e1 R1 q1 h1 => ?_⟩⟩
  cases q1
  cases x with
  | true => rw [if_pos rfl] at h1 ⊢; exact ⟨Z, r1, env, st1, En.ext e1, R1, h1⟩
  | false => rw [if_neg (by decide)] at h1 ⊢; exact ⟨Z, r1, env, st1, En.ext e1, R1, h1⟩
/-! ### targets -/
@[simp] def sSet (i : Nat) (f : SemE) : SemS := fun env st => bindE (f env st) env fun d st1 => .nx (env.set i (some d)) st1
theorem ss_set (i : Nat) {x : Str} {e : Expr} {pos' : Pos} {f : SemE} (hN : X.N.Nodup) (he : SE X cl W e f) (hi : X.N[i]? = some x := by rfl) (hx : Loc X.env.scope x := by first | exact Or.inl rfl | exact Or.inr rfl)
    (hs : swapsWith e (some (.Name x pos')) pos.line X.env = pure false := by rfl) (hf : X.fn x = true ∨ X.env.scope.names.lookup x = some .local := by first | exact .inl rfl | exact .inr rfl | assumption) : SS X cl W (.Assign [.Name x pos'] e pos) (sSet i f) :=
  ⟨(ps_set hN hi hx he.run hs hf).imp fun E sg H ⟨Z, r, env, st, En, R, h⟩ => ⟨Z, r, env, st, En, R, PostS.bindE h En fun d st1 r1 H1 v _ e1 R1 q1 h1 => post_nx h1 R1 ((En.ext e1).set i q1)⟩⟩
/-- a target: what is stored, what it turns, the slots that it may turn -/
abbrev DTg := D → DEnv → Store → Option DEnv
def rdG (g : Gd) (ws : List Nat) (f : DTg) : TG := fun v sg H Q => ∃ Z r env st d, EnvR g Z r H env sg ∧ Rl g Z r H st ∧ Rep g Z r H d v ∧ match f d env st with
  | some env' => ∀ sg', EnvR g Z r H env' sg' → (∀ vs : List Nat, (∀ w ∈ ws, w ∈ vs) → wipe sg' vs = wipe sg vs) → Q sg' H
  | none => False
structure SG (X : Cx) (cl : Nat → Addr) (ws : List Nat) (e : Expr) (f : DTg) : Prop where
  run : PG X e (rdG ⟨X.K, cl⟩ ws f)
theorem _root_.L2.PG.imp {e : Expr} {t t' : TG} (h : PG X e t) (f : ∀ v sg H Q, t' v sg H Q → t v sg H Q) : PG X e t' := ⟨fun pins s sg H v u Q I rv q => h.run pins s sg H v u Q I rv (f v sg H Q q)⟩
theorem _root_.L2.PGs.imp {es : List Expr} {t t' : TGs} (h : PGs X es t) (f : ∀ v sg H Q, t' v sg H Q → t v sg H Q) : PGs X es t' := ⟨fun pins s sg H vs us Q I rv q => h.run pins s sg H vs us Q I rv (f vs sg H Q q)⟩
theorem wipe_get (sg : L2.St) : ∀ (vs : List Nat) (j : Nat), (wipe sg vs)[j]? = if j ∈ vs then sg[j]?.map (fun _ => none) else sg[j]?
  | [], j => by simp [wipe]
  | v :: vs, j => by
    show ((wipe sg vs).set v none)[j]? = _
    by_cases e : v = j
    · subst e
      by_cases hl : v < sg.length
      · rw [List.getElem?_set_self (by rw [wipe_length]; exact hl)]
        simp [hl]
      · have h1 : sg[v]? = none := List.getElem?_eq_none (by omega)
        have h2 : ((wipe sg vs).set v none)[v]? = none := List.getElem?_eq_none (by simp [wipe_length]; omega)
        rw [h1, h2]; simp
    · rw [List.getElem?_set_ne e, wipe_get sg vs j]
      simp [Ne.symm e]
theorem wipe_set {sg : L2.St} {i : Nat} {x : Option V} {vs : List Nat} (h : i ∈ vs) : wipe (sg.set i x) vs = wipe sg vs := by
  apply List.ext_getElem?
  intro j
  rw [wipe_get, wipe_get]
  by_cases e : i = j
  · subst e
    rw [if_pos h, if_pos h]
    by_cases hl : i < sg.length
    · rw [List.getElem?_set_self hl, List.getElem?_eq_getElem hl]; rfl
    · rw [List.getElem?_eq_none (by simp; omega), List.getElem?_eq_none (by omega)]
  · rw [List.getElem?_set_ne e]
@[simp] def gN (i : Nat) : DTg := fun d env _ => some (env.set i (some d))
theorem sg_name (i : Nat) {x : Str} (hN : X.N.Nodup) (hi : X.N[i]? = some x := by rfl) (hx : Loc X.env.scope x := by first | exact Or.inl rfl | exact Or.inr rfl) (hf : X.fn x = true ∨ X.env.scope.names.lookup x = some .local := by first | exact .inl rfl | exact .inr rfl | assumption) : SG X cl [i] (.Name x pos) (gN i) :=
  ⟨(pg_name hN hi hx hf).imp fun v sg H Q ⟨Z, r, env, st, d, En, R, q, h⟩ => h _ (En.set i q) fun vs hv => wipe_set (hv i (by simp))⟩
abbrev DTgs := List D → DEnv → Store → Option DEnv
def rdGs (g : Gd) (ws : List Nat) (f : DTgs) : TGs := fun vs sg H Q => ∃ Z r env st ds, EnvR g Z r H env sg ∧ Rl g Z r H st ∧ RepL g Z r H ds vs ∧ match f ds env st with
  | some env' => ∀ sg', EnvR g Z r H env' sg' → (∀ us : List Nat, (∀ w ∈ ws, w ∈ us) → wipe sg' us = wipe sg us) → Q sg' H
  | none => False
structure SGs (X : Cx) (cl : Nat → Addr) (ws : List Nat) (es : List Expr) (f : DTgs) : Prop where
  run : PGs X es (rdGs ⟨X.K, cl⟩ ws f)
@[simp] def gNil' : DTgs := fun ds env _ => match ds with
  | [] => some env
  | _ => none
@[simp] def gCons' (a : DTg) (b : DTgs) : DTgs := fun ds env st => match ds with
  | d :: ds => match a d env st with
    | some env' => b ds env' st
    | none => none
  | [] => none
theorem sgs_nil : SGs X cl [] [] gNil' := by
  refine ⟨pgs_nil.imp fun vs sg H Q ⟨Z, r, env, st, ds, En, R, q, h⟩ => ?_⟩
  cases ds with
  | nil => exact ⟨q, h sg En fun _ _ => rfl⟩
  | cons d ds => exact h.elim
theorem sgs_cons {e : Expr} {es : List Expr} {a : DTg} {b : DTgs} {ws us : List Nat} (ha : SG X cl ws e a) (hb : SGs X cl us es b) (hs : (assignEach (e :: es) X.env).map (·.2) = assign e X.env :: (assignEach es X.env).map (·.2) := by rfl) : SGs X cl (ws ++ us) (e :: es) (gCons' a b) := by
  refine ⟨(pgs_cons ha.run hb.run hs).imp fun vs sg H Q ⟨Z, r, env, st, ds, En, R, q, h⟩ => ?_⟩
  cases ds with
  | nil => exact h.elim
  | cons d ds =>
    obtain ⟨v, q', rfl, h1, h2⟩ := q
    refine ⟨v, q', rfl, Z, r, env, st, d, En, R, h1, ?_⟩
    dsimp only [gCons'] at h
    cases e1 : a d env st with
    | none => rw [e1] at h; exact h.elim
    | some env' =>
      rw [e1] at h
      dsimp only at h ⊢
      intro sg' En' hw
      refine ⟨Z, r, env', st, ds, En', R, h2, ?_⟩
      cases e2 : b ds env' st with
      | none => rw [e2] at h; exact h.elim
      | some env2 =>
        rw [e2] at h
        intro sg2 En2 hw2
        refine h sg2 En2 fun vs hv => ?_
        rw [hw2 vs fun w hm => hv w (List.mem_append_right _ hm), hw vs fun w hm => hv w (List.mem_append_left _ hm)]
@[simp] def gT (n : Nat) (b : DTgs) : DTg := fun d env st => match tup? st d with
  | some xs => if xs.length = n then b xs env st else none
  | none => none
theorem sg_tup {es : List Expr} {k : Nat} {b : DTgs} {n : Nat} {ws : List Nat} (hc : X.calm = true) (h : SGs X cl ws es b) (hn : (assignEach es X.env).length = n := by rfl) (hst : (assignEach es X.env).findIdx? (·.1) = none := by rfl) : SG X cl ws (.Tuple es k pos) (gT n b) := by
  refine ⟨(pg_tup hc h.run hn hst).imp fun v sg H Q ⟨Z, r, env, st, d, En, R, q, h⟩ => ?_⟩
  dsimp only [gT] at h
  cases e : tup? st d with
  | none => rw [e] at h; exact h.elim
  | some xs =>
    rw [e] at h
    dsimp only at h
    obtain ⟨a, vs, rfl, q2, s⟩ := tup_ok R q e
    split at h
    · rename_i env' hf
      split at hf
      · rename_i hl
        exact ⟨a, vs, rfl, s, by rw [← q2.length]; exact hl, Z, r, env, st, xs, En, R, q2, by rw [hf]; exact h⟩
      · cases hf
    · exact h.elim
/-- target = value -/
@[simp] def sAsg (f : SemE) (t : DTg) : SemS := fun env st => bindE (f env st) env fun d st1 => match t d env st1 with
  | some env' => .nx env' st1
  | none => .no
theorem ss_asg {tg e : Expr} {f : SemE} {t : DTg} {ws : List Nat} (he : SE X cl W e f) (hg : SG X cl ws tg t) (hs : swapsWithSole [tg] e pos.line X.env = pure false := by rfl) (hw : swappedStores [tg] e X.env = pure none := by rfl) (h1a : (assignEach [tg] X.env).map (·.2) = [assign tg X.env] := by rfl) : SS X cl W (.Assign [tg] e pos) (sAsg f t) := by
  refine ⟨(ps_asg he.run hg.run hs hw h1a).imp fun E sg H ⟨Z, r, env, st, En, R, h⟩ => ⟨Z, r, env, st, En, R, PostS.bindE h En fun d st1 r1 H1 v _ e1 R1 q1 h1 => ?_⟩⟩
  refine ⟨Z, r1, env, st1, d, En.ext e1, R1, q1, ?_⟩
  split at h1
  · rename_i env' hf
    exact fun sg' En' _ => post_nx h1 R1 En'
  · exact h1.elim
/-- a, b = x, y of plain locals -/
@[simp] def sPar (i j : Nat) (f : SemA) : SemS := fun env st => bindE (f env st) env fun ds st1 => match ds with
  | [x, y] => .nx ((env.set i (some x)).set j (some y)) st1
  | _ => .no
theorem ss_par (i j : Nat) {x y : Str} {a b : Expr} {f : SemA} {px py pt : Pos} {kt k2 pt2} (hc : X.calm = true) (hN : X.N.Nodup) (ha : SA X cl W [a, b] f) (hi : X.N[i]? = some x := by rfl) (hj : X.N[j]? = some y := by rfl) (hij : i ≠ j := by decide)
    (hx : X.env.scope.names.lookup x = some .local := by rfl) (hy : X.env.scope.names.lookup y = some .local := by rfl)
    (hw : swappedStores [.Tuple [.Name x px, .Name y py] kt pt] (.Tuple [a, b] k2 pt2) X.env = pure (some [x, y]) := by rfl)
    (hs : swapsWithSole [.Tuple [.Name x px, .Name y py] kt pt] (.Tuple [a, b] k2 pt2) pos.line X.env = pure false := by rfl) :
    SS X cl W (.Assign [.Tuple [.Name x px, .Name y py] kt pt] (.Tuple [a, b] k2 pt2) pos) (sPar i j f) := by
  refine ⟨(ps_par hc hN hi hj hij hx hy ha.run hw hs).imp fun E sg H ⟨Z, r, env, st, En, R, h⟩ => ⟨Z, r, env, st, En, R, PostS.bindE h En fun ds st1 r1 H1 vs _ e1 R1 q1 h1 => ?_⟩⟩
  match ds, q1, h1 with
  | [x, y], q1, h1 =>
    obtain ⟨v, q, rfl, a1, w, q', rfl, a2, rfl⟩ := q1
    exact ⟨v, w, rfl, post_nx h1 R1 (((En.ext e1).set i a1).set j a2)⟩
  | [], q1, h1 => exact h1.elim
  | [_], q1, h1 => exact h1.elim
  | _ :: _ :: _ :: _, q1, h1 => exact h1.elim
@[simp] def sPar3 (i j l : Nat) (f : SemA) : SemS := fun env st => bindE (f env st) env fun ds st1 => match ds with
  | [x, y, z] => .nx (((env.set i (some x)).set j (some y)).set l (some z)) st1
  | _ => .no
theorem ss_par3 (i j l : Nat) {x y z : Str} {a b c : Expr} {f : SemA} {px py pz pt : Pos} {kt k2 pt2} (hc : X.calm = true) (hN : X.N.Nodup) (ha : SA X cl W [a, b, c] f) (hi : X.N[i]? = some x := by rfl) (hj : X.N[j]? = some y := by rfl) (hl : X.N[l]? = some z := by rfl)
    (hij : i ≠ j := by decide) (hil : i ≠ l := by decide) (hjl : j ≠ l := by decide)
    (hx : X.env.scope.names.lookup x = some .local := by rfl) (hy : X.env.scope.names.lookup y = some .local := by rfl) (hz : X.env.scope.names.lookup z = some .local := by rfl)
    (hw : swappedStores [.Tuple [.Name x px, .Name y py, .Name z pz] kt pt] (.Tuple [a, b, c] k2 pt2) X.env = pure (some [x, y, z]) := by rfl)
    (hs : swapsWithSole [.Tuple [.Name x px, .Name y py, .Name z pz] kt pt] (.Tuple [a, b, c] k2 pt2) pos.line X.env = pure false := by rfl) :
    SS X cl W (.Assign [.Tuple [.Name x px, .Name y py, .Name z pz] kt pt] (.Tuple [a, b, c] k2 pt2) pos) (sPar3 i j l f) := by
  refine ⟨(ps_par3 hc hN hi hj hl hij hil hjl hx hy hz ha.run hw hs).imp fun E sg H ⟨Z, r, env, st, En, R, h⟩ => ⟨Z, r, env, st, En, R, PostS.bindE h En fun ds st1 r1 H1 vs _ e1 R1 q1 h1 => ?_⟩⟩
  match ds, q1, h1 with
  | [x, y, z], q1, h1 =>
    obtain ⟨v, q, rfl, a1, w, q', rfl, a2, u, q2, rfl, a3, rfl⟩ := q1
    exact ⟨v, w, u, rfl, post_nx h1 R1 ((((En.ext e1).set i a1).set j a2).set l a3)⟩
  | [], q1, h1 => exact h1.elim
  | [_], q1, h1 => exact h1.elim
  | [_, _], q1, h1 => exact h1.elim
  | _ :: _ :: _ :: _ :: _, q1, h1 => exact h1.elim

/-! ### what is walked -/
/-- the items, and what must hold of the store at each turn -/
structure DIter where
  items : List D
  chk : Store → Prop
abbrev SemI := DEnv → Store → Res DIter
/-- further forbidden addresses, new ones alone -/
def Zs (Z : List Addr) (H : Hp) (Z1 : List Addr) : Prop := ∀ a ∈ Z1, a ∈ Z ∨ H a = none
theorem Zs.refl (Z : List Addr) (H : Hp) : Zs Z H Z := fun a h => .inl h
theorem RepL.extZ {g : Gd} {Z r Z1 r1 : List Addr} {H H1 : Hp} (e : Ext r H r1 H1) (z : Zs Z H Z1) {ds : List D} {vs : List V} (h : RepL g Z r H ds vs) : RepL g Z1 r1 H1 ds vs :=
  RepL.ext e ds (RepL.turn (fun a n ⟨o, ho⟩ => ⟨fun m => (z a m).elim n.1 fun q => (by rw [q] at ho; cases ho), n.2⟩) (fun _ _ q => q) ds h)
theorem Rep.extZ {g : Gd} {Z r Z1 r1 : List Addr} {H H1 : Hp} (e : Ext r H r1 H1) (z : Zs Z H Z1) {d : D} {v : V} (h : Rep g Z r H d v) : Rep g Z1 r1 H1 d v :=
  Rep.ext e d (Rep.turn (fun a n ⟨o, ho⟩ => ⟨fun m => (z a m).elim n.1 fun q => (by rw [q] at ho; cases ho), n.2⟩) (fun _ _ q => q) d h)
def ItOk (g : Gd) (Z r : List Addr) (H : Hp) (it : DIter) (J : It) : Prop :=
  ∀ Z1 r1 H1 st1 i, Ext r H r1 H1 → Zs Z H Z1 → Rl g Z1 r1 H1 st1 → it.chk st1 →
    (∀ d, it.items[i]? = some d → J.go i H1 ∧ ∀ x H2, J.yld i H1 x H2 → Ext r1 H1 r1 H2 ∧ Rl g Z1 r1 H2 st1 ∧ Rep g Z1 r1 H2 d x) ∧ (it.items.length ≤ i → J.stop i H1)
/-- a loop over items -/
noncomputable def forL (chk : Store → Prop) (tg : DTg) (body : SemS) : List D → SemS
  | [], env, st => open Classical in if chk st then .nx env st else .no
  | d :: ds, env, st => open Classical in if chk st then (match tg d env st with
      | some env1 => (match body env1 st with
        | .nx env2 st2 => forL chk tg body ds env2 st2
        | .ct env2 st2 => forL chk tg body ds env2 st2
        | .bk env2 st2 => .nx env2 st2
        | x => x)
      | none => .no) else .no
noncomputable def sFor (fi : SemI) (tg : DTg) (body : SemS) : SemS := fun env st => bindE (fi env st) env fun it st1 => forL it.chk tg body it.items env st1
def rdI (g : Gd) (W : WX) (f : SemI) : TI := fun sg H Q => ∃ Z r env st, EnvR g Z r H env sg ∧ Rl g Z r H st ∧ Post g Z r H (fun r' H' => ItOk g Z r' H') (f env st) Q (fun c d H' => W c d sg H')
structure SI (X : Cx) (cl : Nat → Addr) (W : WX) (tg e : Expr) (f : SemI) : Prop where
  run : PI X tg e (rdI ⟨X.K, cl⟩ W f)
theorem _root_.L2.PI.imp {tg e : Expr} {t t' : TI} (h : PI X tg e t) (f : ∀ sg H Q, t' sg H Q → t sg H Q) : PI X tg e t' := ⟨fun pins s sg H Q I q => h.run pins s sg H Q I (f sg H Q q)⟩
theorem drop_cons {A : Type} {xs : List A} {i : Nat} {d : A} (h : xs[i]? = some d) : xs.drop i = d :: xs.drop (i + 1) := by
  obtain ⟨hl, e⟩ := List.getElem?_eq_some_iff.mp h
  rw [← e]; exact List.drop_eq_getElem_cons hl
theorem ss_for {tg iter : Expr} {body : List Stmt} {fi : SemI} {t : DTg} {ws : List Nat} {fb : SemS} (hp : PassesOwn (model X.prog X.w) X.A X.env X.xe) (hc : X.calm = true) (hi : SI X cl W tg iter fi) (hg : SG X cl ws tg t) (hb : SB X cl W body fb)
    (hs : ∀ x, foldedSetIterable iter X.env x = pure x := by intro _; rfl) : SS X cl W (.For tg iter body [] pos) (sFor fi t fb) := by
  refine ⟨(ps_for hp hc hi.run hg.run hb.run hs).imp fun E sg H ⟨Z, r, env, st, En, R, h⟩ => ⟨Z, r, env, st, En, R, PostS.bindE h En fun it st1 r1 H1 J _ e1 R1 q1 h1 => ?_⟩⟩
  refine ⟨fun i m sg2 H2 => m + i = it.items.length ∧ ∃ r2 env2 st2, EnvR ⟨X.K, cl⟩ Z r2 H2 env2 sg2 ∧ Rl ⟨X.K, cl⟩ Z r2 H2 st2 ∧ Ext r1 H1 r2 H2 ∧ PostS ⟨X.K, cl⟩ Z r2 H2 (forL it.chk t fb (it.items.drop i) env2 st2) E W,
    ⟨it.items.length, by omega, r1, env, st1, En.ext e1, R1, Ext.refl _ _, by simpa using h1⟩, fun i m sg2 H2 ⟨hm, r2, env2, st2, En2, R2, e2, h2⟩ => ?_⟩
  cases hd : it.items[i]? with
  | none =>
    have hl : it.items.length ≤ i := List.getElem?_eq_none_iff.mp hd
    rw [List.drop_eq_nil_of_le hl, forL] at h2
    split at h2
    · rename_i hchk
      exact .inl ⟨(q1 Z r2 H2 st2 i e2 (Zs.refl _ _) R2 hchk).2 hl, post_nx h2 R2 En2⟩
    · exact h2.elim
  | some d =>
    rw [drop_cons hd, forL] at h2
    split at h2
    · rename_i hchk
      obtain ⟨go, yl⟩ := (q1 Z r2 H2 st2 i e2 (Zs.refl _ _) R2 hchk).1 d hd
      refine .inr ⟨go, fun sg3 H3 => ∃ r3 env3 st3, EnvR ⟨X.K, cl⟩ Z r3 H3 env3 sg3 ∧ Rl ⟨X.K, cl⟩ Z r3 H3 st3 ∧ Ext r1 H1 r3 H3 ∧ PostS ⟨X.K, cl⟩ Z r3 H3 (forL it.chk t fb (it.items.drop (i + 1)) env3 st3) E W, fun sg3 H3 ⟨r3, env3, st3, a, b, c, d⟩ => ?_, fun x H3 hy => ?_⟩
      · have hl := (List.getElem?_eq_some_iff.mp hd).1
        exact ⟨m - 1, by omega, by omega, r3, env3, st3, a, b, c, d⟩
      · obtain ⟨e3, R3, q3⟩ := yl x H3 hy
        refine ⟨Z, r2, env2, st2, d, En2.ext e3, R3, q3, ?_⟩
        cases ht : t d env2 st2 with
        | none => rw [ht] at h2; exact h2.elim
        | some env3 =>
          rw [ht] at h2
          dsimp only at h2 ⊢
          intro sg3 En3 _
          refine ⟨Z, r2, env3, st2, En3, R3, ?_⟩
          have h3 := PostS.ext e3 h2
          cases hbd : fb env3 st2 with
          | nx env4 st4 => rw [hbd] at h3; exact fun r4 H4 sg4 e4 R4 En4 => ⟨r4, env4, st4, En4, R4, (e2.trans e3).trans e4, PostS.ext e4 h3⟩
          | ct env4 st4 => rw [hbd] at h3; exact fun r4 H4 sg4 e4 R4 En4 => ⟨r4, env4, st4, En4, R4, (e2.trans e3).trans e4, PostS.ext e4 h3⟩
          | bk env4 st4 => rw [hbd] at h3; exact h3
          | rt d st4 => rw [hbd] at h3; exact h3
          | er x env4 st4 => rw [hbd] at h3; exact h3
          | no => rw [hbd] at h3; exact h3
    · exact h2.elim
end
end DY

set_option Elab.async false
set_option linter.all false
set_option maxRecDepth 100000
set_option maxHeartbeats 4000000
/-! What is walked; comprehensions; dicts; attributes. -/
namespace DY
open PySem PySem.Spec PyProof.Rows L2

theorem _root_.L2.PI.or {X : Cx} {tg e : Expr} {t t' : TI} (h : PI X tg e t) (h' : PI X tg e t') : PI X tg e (fun sg H Q => t sg H Q ∨ t' sg H Q) := ⟨fun pins s sg H Q I q => q.elim (h.run pins s sg H Q I) (h'.run pins s sg H Q I)⟩
section
variable {X : Cx} {cl : Nat → Addr} {W : WX} {pos : Pos}
@[simp] def iSeq (f : SemE) : SemI := fun env st => (f env st).bind fun x st1 => match lst? st1 x with
  | some xs => .ok ⟨xs, fun st2 => lst? st2 x = some xs⟩ st1
  | none => match tup? st1 x with
    | some xs => .ok ⟨xs, fun st2 => tup? st2 x = some xs⟩ st1
    | none => .no
theorem it_list {g : Gd} {Z r : List Addr} {H : Hp} {st : Store} {x : D} {a : Addr} {xs : List D} (h : Rep g Z r H x (.ref a)) : ItOk g Z r H ⟨xs, fun st2 => lst? st2 x = some xs⟩ (Itl g.K a) := by
  intro Z1 r1 H1 st1 i e z R1 hc
  obtain ⟨b, vs, e1, q, s⟩ := lst_ok R1 (Rep.extZ e z h) hc
  cases e1
  refine ⟨fun d hd => ?_, fun hl => ⟨vs, s, by rw [← q.length]; exact hl⟩⟩
  obtain ⟨v, hv, qv⟩ := q.get hd
  refine ⟨⟨vs, v, s, hv⟩, fun y H2 hy => ?_⟩
  obtain ⟨rfl, hx⟩ := hy
  have := hx vs s
  rw [hv] at this; cases this
  exact ⟨Ext.refl _ _, R1, qv⟩
theorem it_tup {g : Gd} {Z r : List Addr} {H : Hp} {st : Store} {x : D} {a : Addr} {xs : List D} (h : Rep g Z r H x (.ref a)) : ItOk g Z r H ⟨xs, fun st2 => tup? st2 x = some xs⟩ (Itt g.K a) := by
  intro Z1 r1 H1 st1 i e z R1 hc
  obtain ⟨b, vs, e1, q, s⟩ := tup_ok R1 (Rep.extZ e z h) hc
  cases e1
  refine ⟨fun d hd => ?_, fun hl => ⟨vs, s, by rw [← q.length]; exact hl⟩⟩
  obtain ⟨v, hv, qv⟩ := q.get hd
  refine ⟨⟨vs, v, s, hv⟩, fun y H2 hy => ?_⟩
  obtain ⟨rfl, hx⟩ := hy
  have := hx vs s
  rw [hv] at this; cases this
  exact ⟨Ext.refl _ _, R1, qv⟩
theorem si_seq {tg e : Expr} {f : SemE} (he : SE X cl W e f) : SI X cl W tg e (iSeq f) := by
  refine ⟨((pi_list he.run).or (pi_tup he.run)).imp fun sg H Q h => ?_⟩
  obtain ⟨Z, r, env, st, En, R, h⟩ := h
  dsimp only [iSeq] at h
  cases hf : f env st with
  | ok x st1 =>
    rw [hf] at h
    dsimp only [Res.bind] at h
    cases hl : lst? st1 x with
    | some xs =>
      rw [hl] at h
      refine .inl ⟨Z, r, env, st, En, R, ?_⟩
      rw [hf]
      intro r1 H1 v e1 R1 q1
      obtain ⟨a, vs, rfl, q, s⟩ := lst_ok R1 q1 hl
      exact ⟨a, rfl, ⟨vs, s⟩, h r1 H1 _ e1 R1 (it_list (st := st1) q1)⟩
    | none =>
      rw [hl] at h
      dsimp only at h
      cases ht : tup? st1 x with
      | some xs =>
        rw [ht] at h
        refine .inr ⟨Z, r, env, st, En, R, ?_⟩
        rw [hf]
        intro r1 H1 v e1 R1 q1
        obtain ⟨a, vs, rfl, q, s⟩ := tup_ok R1 q1 ht
        exact ⟨a, rfl, ⟨vs, s⟩, h r1 H1 _ e1 R1 (it_tup (st := st1) q1)⟩
      | none => rw [ht] at h; exact h.elim
  | er x st1 => rw [hf] at h; exact .inl ⟨Z, r, env, st, En, R, by rw [hf]; exact h⟩
  | no => rw [hf] at h; exact h.elim
/-- lo, lo + 1, .. -/
def rng (lo : Int) (n : Nat) : List D := (List.range n).map fun (i : Nat) => D.int (lo + (i : Int))
theorem it_rng {g : Gd} {Z r : List Addr} {H : Hp} (lo : Int) (n : Nat) : ItOk g Z r H ⟨rng lo n, fun _ => True⟩ (Itr lo n) := by
  intro Z1 r1 H1 st1 i e z R1 hc
  refine ⟨fun d hd => ?_, fun hl => by simpa [rng, Itr] using hl⟩
  have hi : i < n := by
    have := (List.getElem?_eq_some_iff.mp hd).1
    simpa [rng] using this
  refine ⟨hi, fun y H2 hy => ?_⟩
  obtain ⟨rfl, rfl⟩ := hy
  have : d = .int (lo + (i : Int)) := by
    unfold rng at hd
    rw [List.getElem?_map, List.getElem?_range hi] at hd
    exact (Option.some.inj hd).symm
  subst this
  exact ⟨Ext.refl _ _, R1, rfl⟩
@[simp] def iRange1 (f : SemA) : SemI := fun env st => (f env st).bind fun ds st1 => match ds with
  | [.int j] => if -(2 ^ 62) ≤ j ∧ j < 2 ^ 62 then .ok ⟨rng 0 j.toNat, fun _ => True⟩ st1 else .no
  | _ => .no
@[simp] def iRange2 (f : SemA) : SemI := fun env st => (f env st).bind fun ds st1 => match ds with
  | [.int i, .int j] => if (-(2 ^ 62) ≤ i ∧ i < 2 ^ 62) ∧ (-(2 ^ 62) ≤ j ∧ j < 2 ^ 62) then .ok ⟨rng i (j - i).toNat, fun _ => True⟩ st1 else .no
  | _ => .no
theorem si_range1 {tg a : Expr} {p : Pos} {f : SemA} (hm : X.mg "range" = none) (ha : SA X cl W [a] f) (hg : Gl X "range" := by rfl) (hs : starEach [a] X.env = [(false, eval a X.env)] := by rfl) : SI X cl W tg (.Call (.Name "range" p) [a] [] pos) (iRange1 f) := by
  refine ⟨(pi_range1 hg hm ha.run hs).imp fun sg H Q ⟨Z, r, env, st, En, R, h⟩ => ⟨Z, r, env, st, En, R, Post.bind h fun ds st1 r1 H1 vs _ e1 R1 q1 h1 => ?_⟩⟩
  split at h1
  · rename_i j _
    split at h1
    · rename_i hc
      obtain ⟨v, q, rfl, a1, rfl⟩ := q1
      exact ⟨j, by rw [show v = .int j from a1], hc.1, hc.2, post_ok h1 R1 (it_rng 0 _)⟩
    · exact h1.elim
  · exact h1.elim
theorem si_range2 {tg a b : Expr} {p : Pos} {f : SemA} (hm : X.mg "range" = none) (ha : SA X cl W [a, b] f) (hg : Gl X "range" := by rfl) (hs : starEach [a, b] X.env = [(false, eval a X.env), (false, eval b X.env)] := by rfl) (hs2 : starEach [b] X.env = [(false, eval b X.env)] := by rfl) :
    SI X cl W tg (.Call (.Name "range" p) [a, b] [] pos) (iRange2 f) := by
  refine ⟨(pi_range2 hg hm ha.run hs hs2).imp fun sg H Q ⟨Z, r, env, st, En, R, h⟩ => ⟨Z, r, env, st, En, R, Post.bind h fun ds st1 r1 H1 vs _ e1 R1 q1 h1 => ?_⟩⟩
  split at h1
  · rename_i i j _
    split at h1
    · rename_i hc
      obtain ⟨v, q, rfl, a1, w, q', rfl, a2, rfl⟩ := q1
      exact ⟨i, j, by rw [show v = .int i from a1, show w = .int j from a2], ⟨hc.1.1, hc.1.2, hc.2.1, hc.2.2⟩, post_ok h1 R1 (it_rng i _)⟩
    · exact h1.elim
  · exact h1.elim
/-- enumerate of a list -/
def enuFrom : Nat → List D → List D
  | _, [] => []
  | i, d :: ds => .nd .tup [.int (i : Nat), d] :: enuFrom (i + 1) ds
theorem enu_get : ∀ (j : Nat) (xs : List D) (i : Nat), (enuFrom j xs)[i]? = xs[i]?.map fun d => .nd .tup [.int ((j + i : Nat) : Int), d]
  | _, [], i => by simp [enuFrom]
  | j, d :: ds, 0 => by simp [enuFrom]
  | j, d :: ds, i + 1 => by
    simp only [enuFrom, List.getElem?_cons_succ, enu_get (j + 1) ds i]
    rw [show j + 1 + i = j + (i + 1) by omega]
theorem enu_len : ∀ (j : Nat) (xs : List D), (enuFrom j xs).length = xs.length
  | _, [] => rfl
  | j, d :: ds => by simp [enuFrom, enu_len (j + 1) ds]
@[simp] def iEnumL (f : SemA) : SemI := fun env st => (f env st).bind fun ds st1 => match ds with
  | [x] => match lst? st1 x with
    | some xs => .ok ⟨enuFrom 0 xs, fun st2 => lst? st2 x = some xs⟩ st1
    | none => .no
  | _ => .no
theorem it_enu {g : Gd} {Z r : List Addr} {H : Hp} {x : D} {a : Addr} {xs : List D} (h : Rep g Z r H x (.ref a)) : ItOk g Z r H ⟨enuFrom 0 xs, fun st2 => lst? st2 x = some xs⟩ (Ite g.K a) := by
  intro Z1 r1 H1 st1 i e z R1 hc
  obtain ⟨b, vs, e1, q, s⟩ := lst_ok R1 (Rep.extZ e z h) hc
  cases e1
  refine ⟨fun d hd => ?_, fun hl => ⟨vs, s, by rw [← q.length]; simpa [enu_len] using hl⟩⟩
  dsimp only at hd
  rw [enu_get] at hd
  cases hx : xs[i]? with
  | none => rw [hx] at hd; cases hd
  | some c =>
    rw [hx] at hd
    cases hd
    obtain ⟨v, hv, qv⟩ := q.get hx
    refine ⟨⟨vs, v, s, hv⟩, fun y H2 hy => ?_⟩
    obtain ⟨T, w, rfl, hT, rfl, hw⟩ := hy
    have := hw vs s
    rw [hv] at this; cases this
    refine ⟨Ext.new hT, R1.new hT, ?_⟩
    have := new_tup (vs := [.int (i : Nat), v]) (xs := [.int ((0 + i : Nat) : Int), c]) R1 ⟨_, _, rfl, by simp [Rep], _, _, rfl, qv, rfl⟩ hT
    exact this
theorem si_enum {elts : List Expr} {kk : Nat} {tpos p : Pos} {e : Expr} {f : SemA} (hm : X.mg "enumerate" = none) (ha : SA X cl W [e] f) (hg : Gl X "enumerate" := by rfl) (hs : starEach [e] X.env = [(false, eval e X.env)] := by rfl) :
    SI X cl W (.Tuple elts kk tpos) (.Call (.Name "enumerate" p) [e] [] pos) (iEnumL f) := by
  refine ⟨(pi_enum hg hm ha.run hs).imp fun sg H Q ⟨Z, r, env, st, En, R, h⟩ => ⟨Z, r, env, st, En, R, Post.bind h fun ds st1 r1 H1 vs _ e1 R1 q1 h1 => ?_⟩⟩
  split at h1
  · rename_i x _
    obtain ⟨v, q, rfl, a1, rfl⟩ := q1
    cases hl : lst? st1 x with
    | none => rw [hl] at h1; exact h1.elim
    | some xs =>
      rw [hl] at h1
      obtain ⟨a, vs, rfl, q, s⟩ := lst_ok R1 a1 hl
      exact ⟨a, vs, rfl, s, post_ok h1 R1 (it_enu a1)⟩
  · exact h1.elim
/-- zip of two lists -/
def zipD : List D → List D → List D
  | x :: xs, y :: ys => .nd .tup [x, y] :: zipD xs ys
  | _, _ => []
theorem zip_get : ∀ (xs ys : List D) (i : Nat), (zipD xs ys)[i]? = match xs[i]?, ys[i]? with
    | some x, some y => some (.nd .tup [x, y])
    | _, _ => none
  | [], ys, i => by simp [zipD]
  | x :: xs, [], i => by simp [zipD]
  | x :: xs, y :: ys, 0 => by simp [zipD]
  | x :: xs, y :: ys, i + 1 => by simp [zipD, zip_get xs ys i]
@[simp] def iZipL (f : SemA) : SemI := fun env st => (f env st).bind fun ds st1 => match ds with
  | [x, y] => match lst? st1 x, lst? st1 y with
    | some xs, some ys => .ok ⟨zipD xs ys, fun st2 => lst? st2 x = some xs ∧ lst? st2 y = some ys⟩ st1
    | _, _ => .no
  | _ => .no
theorem it_zip {g : Gd} {Z r : List Addr} {H : Hp} {x y : D} {a b : Addr} {xs ys : List D} (h : Rep g Z r H x (.ref a)) (h' : Rep g Z r H y (.ref b)) : ItOk g Z r H ⟨zipD xs ys, fun st2 => lst? st2 x = some xs ∧ lst? st2 y = some ys⟩ (Itz g.K a b) := by
  intro Z1 r1 H1 st1 i e z R1 hc
  obtain ⟨_, vs, e1, q, s⟩ := lst_ok R1 (Rep.extZ e z h) hc.1
  cases e1
  obtain ⟨_, us, e1, q', s'⟩ := lst_ok R1 (Rep.extZ e z h') hc.2
  cases e1
  refine ⟨fun d hd => ?_, fun hl => ⟨vs, us, s, s', ?_⟩⟩
  · dsimp only at hd
    rw [zip_get] at hd
    cases hx : xs[i]? with
    | none => rw [hx] at hd; cases hd
    | some c =>
      cases hy : ys[i]? with
      | none => rw [hx, hy] at hd; cases hd
      | some c' =>
        rw [hx, hy] at hd
        cases hd
        obtain ⟨v, hv, qv⟩ := q.get hx
        obtain ⟨u, hu, qu⟩ := q'.get hy
        refine ⟨⟨vs, us, v, u, s, s', hv, hu⟩, fun y H2 hy => ?_⟩
        obtain ⟨T, w, w', rfl, hT, rfl, hw, hw'⟩ := hy
        have := hw vs s
        rw [hv] at this; cases this
        have := hw' us s'
        rw [hu] at this; cases this
        exact ⟨Ext.new hT, R1.new hT, new_tup (vs := [v, u]) R1 ⟨_, _, rfl, qv, _, _, rfl, qu, rfl⟩ hT⟩
  · rw [← q.length, ← q'.length]
    have hn : (zipD xs ys)[i]? = none := List.getElem?_eq_none hl
    rw [zip_get] at hn
    by_cases h1 : xs.length ≤ i
    · exact .inl h1
    · by_cases h2 : ys.length ≤ i
      · exact .inr h2
      · rw [List.getElem?_eq_getElem (by omega), List.getElem?_eq_getElem (by omega)] at hn
        cases hn
theorem si_zip {elts : List Expr} {kk : Nat} {tpos p : Pos} {e e2 : Expr} {f : SemA} (hm : X.mg "zip" = none) (ha : SA X cl W [e, e2] f) (hg : Gl X "zip" := by rfl)
    (hs : starEach [e, e2] X.env = (false, eval e X.env) :: starEach [e2] X.env := by rfl) (hpl : (backTo pos (starEach [e2] X.env)).any (·.1) = false := by rfl) :
    SI X cl W (.Tuple elts kk tpos) (.Call (.Name "zip" p) [e, e2] [] pos) (iZipL f) := by
  refine ⟨(pi_zip hg hm ha.run hs hpl).imp fun sg H Q ⟨Z, r, env, st, En, R, h⟩ => ⟨Z, r, env, st, En, R, Post.bind h fun ds st1 r1 H1 vs _ e1 R1 q1 h1 => ?_⟩⟩
  split at h1
  · rename_i x y
    obtain ⟨v, q, rfl, a1, w, q', rfl, a2, rfl⟩ := q1
    split at h1
    · rename_i xs ys hx hy
      obtain ⟨a, vs, rfl, q, s⟩ := lst_ok R1 a1 hx
      obtain ⟨b, us, rfl, q', s'⟩ := lst_ok R1 a2 hy
      exact ⟨a, b, vs, us, rfl, s, s', post_ok h1 R1 (it_zip a1 a2)⟩
    · exact h1.elim
  · exact h1.elim
/-- the signs of a text -/
@[simp] def iText (f : SemE) : SemI := fun env st => (f env st).bind fun x st1 => match x with
  | .str z => .ok ⟨z.cps.toList.map fun c => D.str ⟨#[c]⟩, fun _ => True⟩ st1
  | _ => .no
theorem si_text {tg e : Expr} {f : SemE} (he : SE X cl W e f) : SI X cl W tg e (iText f) := by
  refine ⟨(pi_str he.run).imp fun sg H Q ⟨Z, r, env, st, En, R, h⟩ => ⟨Z, r, env, st, En, R, Post.bind h fun x st1 r1 H1 v _ e1 R1 q1 h1 => ?_⟩⟩
  cases x with
  | str z =>
    refine ⟨z, q1, post_ok h1 R1 ?_⟩
    intro Z1 r2 H2 st2 i e z' R2 hc
    refine ⟨fun d hd => ?_, fun hl => by simpa [Its] using hl⟩
    dsimp only at hd
    rw [List.getElem?_map] at hd
    cases hx : z.cps.toList[i]? with
    | none => rw [hx] at hd; cases hd
    | some c =>
      rw [hx] at hd; cases hd
      have hx' : z.cps[i]? = some c := by simpa using hx
      refine ⟨(Array.getElem?_eq_some_iff.mp hx').1, fun y H3 hy => ?_⟩
      obtain ⟨rfl, c', hc', rfl⟩ := hy
      rw [hx'] at hc'; cases hc'
      exact ⟨Ext.refl _ _, R2, rfl⟩
  | non => exact h1.elim
  | bl b => exact h1.elim
  | int i => exact h1.elim
  | h k => exact h1.elim
  | nd t xs => exact h1.elim

/-! ### list comprehensions -/
def wipeD (env : DEnv) : List Nat → DEnv
  | [] => env
  | v :: vs => (wipeD env vs).set v none
theorem wipe_env {g : Gd} {Z r : List Addr} {H : Hp} {env : DEnv} {sg : L2.St} (En : EnvR g Z r H env sg) : ∀ vs, EnvR g Z r H (wipeD env vs) (wipe sg vs)
  | [] => En
  | v :: vs => by
    have h := wipe_env En vs
    show EnvR g Z r H ((wipeD env vs).set v none) ((wipe sg vs).set v none)
    refine ⟨by simp [h.len], fun i d hd => ?_⟩
    by_cases e : v = i
    · subst e
      have hl : v < (wipeD env vs).length := by
        have := (List.getElem?_eq_some_iff.mp hd).1
        simpa using this
      rw [List.getElem?_set_self hl] at hd; cases hd
    · rw [List.getElem?_set_ne e] at hd ⊢
      exact h.at_ i d hd
theorem wipe_wipe (sg : L2.St) (vs : List Nat) : wipe (wipe sg vs) vs = wipe sg vs := by
  apply List.ext_getElem?
  intro j
  rw [wipe_get, wipe_get]
  split
  · cases sg[j]? <;> rfl
  · rfl
/-- nothing is raised there -/
@[simp] def Res.calm {A : Type} : Res A → Res A
  | .er _ _ => .no
  | x => x
/-- the tests -/
@[simp] def tYesD : SemT := fun _ st => .ok true st
noncomputable def compL (chk : Store → Prop) (tg : DTg) (tst : SemT) (elt : SemE) (own : List Nat) (env : DEnv) : List D → List D → Store → Res (List D)
  | [], acc, st => open Classical in if chk st then .ok acc st else .no
  | d :: ds, acc, st => open Classical in if chk st then (match tg d (wipeD env own) st with
      | some env1 => (match tst env1 st with
        | .ok true st1 => (match elt env1 st1 with
          | .ok y st2 => if acc.length < szL then compL chk tg tst elt own env ds (acc ++ [y]) st2 else .no
          | _ => .no)
        | .ok false st1 => compL chk tg tst elt own env ds acc st1
        | _ => .no)
      | none => .no) else .no
/-- a list that stays -/
noncomputable def dLc (fi : SemI) (tg : DTg) (tst : SemT) (elt : SemE) (own : List Nat) : SemE := fun env st => (fi env st).bind fun it st1 => (compL it.chk tg tst elt own env it.items [] st1).bind fun xs st2 => .ok (.nd .lst xs) st2
/-- a list that will be changed -/
noncomputable def dLcM (fi : SemI) (tg : DTg) (tst : SemT) (elt : SemE) (own : List Nat) : SemE := fun env st => (fi env st).bind fun it st1 => (compL it.chk tg tst elt own env it.items [] st1).bind fun xs st2 => .ok (.h st2.length) (st2 ++ [.nd .lst xs])
abbrev WF : WX := fun _ _ _ _ => False
structure STs (X : Cx) (cl : Nat → Addr) (W : WX) (ifs : List Expr) (f : SemT) : Prop where
  run : PTs X ifs (rdT ⟨X.K, cl⟩ W f)
theorem _root_.L2.PTs.imp {ifs : List Expr} {t t' : TT} (h : PTs X ifs t) (f : ∀ sg H Q, t' sg H Q → t sg H Q) : PTs X ifs t' := ⟨fun pins s sg H Q I q => h.run pins s sg H Q I (f sg H Q q)⟩
theorem sts_nil : STs X cl W [] tYesD := ⟨pts_nil.imp fun sg H Q ⟨Z, r, env, st, En, R, h⟩ => post_ok h R rfl⟩
theorem sts_one {c : Expr} {f : SemT} (h : ST X cl W c f) : STs X cl W [c] f := ⟨pts_one h.run⟩
theorem compL_er {chk : Store → Prop} {tg : DTg} {tst : SemT} {elt : SemE} {own : List Nat} {env : DEnv} : ∀ {ds acc : List D} {st : Store} {e : Ex} {st' : Store}, compL chk tg tst elt own env ds acc st = .er e st' → False
  | [], acc, st, e, st', h => by
    unfold compL at h; split at h <;> cases h
  | d :: ds, acc, st, e, st', h => by
    unfold compL at h
    split at h
    · split at h
      · split at h
        · split at h
          · split at h
            · exact compL_er h
            · cases h
          · cases h
        · exact compL_er h
        · cases h
      · cases h
    · cases h
theorem compL_len {chk : Store → Prop} {tg : DTg} {tst : SemT} {elt : SemE} {own : List Nat} {env : DEnv} : ∀ {ds acc : List D} {st : Store} {xs : List D} {st' : Store}, acc.length ≤ szL → compL chk tg tst elt own env ds acc st = .ok xs st' → xs.length ≤ szL
  | [], acc, st, e, st', hl, h => by
    unfold compL at h; split at h <;> cases h; exact hl
  | d :: ds, acc, st, e, st', hl, h => by
    unfold compL at h
    split at h
    · split at h
      · split at h
        · split at h
          · split at h
            · rename_i hz; exact compL_len (by simp; omega) h
            · cases h
          · cases h
        · exact compL_len hl h
        · cases h
      · cases h
    · cases h
/-- the loop, over the new list at D -/
theorem lc_rd {tg : DTg} {tst : SemT} {elt : SemE} {own ws : List Nat} (hw : ∀ w ∈ ws, w ∈ own) {Z r : List Addr} {H : Hp} {st : Store} {env : DEnv} {sg : L2.St} {it : DIter} {J : It} {Q : VK} (R : Rl ⟨X.K, cl⟩ Z r H st) (En : EnvR ⟨X.K, cl⟩ Z r H env sg) (hJ : ItOk ⟨X.K, cl⟩ Z r H it J)
    {p : Addr} (hp : H p = none)
    (hq : ∀ xs st2 r2 H2 vs, compL it.chk tg tst elt own env it.items [] st = .ok xs st2 → Ext r H r2 H2 → H2 p = some (.lst vs) → Rl ⟨X.K, cl⟩ (p :: Z) r2 H2 st2 → RepL ⟨X.K, cl⟩ (p :: Z) r2 H2 xs vs → Q (.ref p) H2) (hno : compL it.chk tg tst elt own env it.items [] st ≠ .no) :
    ∃ Wn : Nat → Nat → Hp → Prop, (∃ m, Wn 0 m (upd H p (.lst []))) ∧ ∀ i m H', Wn i m H' →
      (J.stop i H' ∧ Q (.ref p) H') ∨ (J.go i H' ∧ ∃ Nx : Hp → Prop, (∀ H', Nx H' → ∃ m', m' < m ∧ Wn (i + 1) m' H') ∧ ∀ x H2, J.yld i H' x H2 → rdG ⟨X.K, cl⟩ ws tg x (wipe sg own) H2 fun sg2 H3 => wipe sg2 own = wipe sg own ∧ rdT ⟨X.K, cl⟩ WF tst sg2 H3 fun b H4 =>
        if b = true then rdE ⟨X.K, cl⟩ WF elt sg2 H4 fun y H5 => ∃ acc, H5 p = some (.lst acc) ∧ acc.length < sizeLine ∧ Nx (upd H5 p (.lst (acc ++ [y]))) else Nx H4) := by
  let g : Gd := ⟨X.K, cl⟩
  have hz : Zs Z H (p :: Z) := fun a m => by
    rcases List.mem_cons.mp m with rfl | m
    · exact .inr hp
    · exact .inl m
  have hpr := R.free hp
  let St : Nat → Hp → Prop := fun i H' => ∃ r' st' acc vs, Ext r H r' H' ∧ H' p = some (.lst vs) ∧ Rl g (p :: Z) r' H' st' ∧ RepL g (p :: Z) r' H' acc vs ∧ acc.length ≤ szL ∧
    compL it.chk tg tst elt own env it.items [] st = compL it.chk tg tst elt own env (it.items.drop i) acc st'
  have R0 : Rl g (p :: Z) r (upd H p (.lst [])) st := by
    have R1 := R.new (o := .lst []) hp
    exact ⟨R1.len, R1.nd, fun a m => by
      rcases List.mem_cons.mp m with rfl | m
      · exact ⟨hpr.2, _, upd_same⟩
      · exact R1.z a m, fun k d e => by
      obtain ⟨a, ea, t, xs, vs, ed, hm, hx⟩ := R.cell k d e
      obtain ⟨u, eu⟩ := hm.some
      exact ⟨a, ea, t, xs, vs, ed, hm.keep (upd_ne (ne_of_none eu hp)), RepL.extZ (Ext.new hp) hz hx⟩⟩
  refine ⟨fun i m H' => m + i = it.items.length ∧ St i H', ⟨it.items.length, by omega, r, st, [], [], Ext.new hp, upd_same, R0, rfl, by simp, by simp⟩, fun i m H' ⟨hm, r', st', acc, vs, e1, hd, R1, qa, hl, ec⟩ => ?_⟩
  cases hdi : it.items[i]? with
  | none =>
    have hle : it.items.length ≤ i := List.getElem?_eq_none_iff.mp hdi
    rw [List.drop_eq_nil_of_le hle, compL] at ec
    split at ec
    · rename_i hchk
      exact .inl ⟨(hJ (p :: Z) r' H' st' i e1 hz R1 hchk).2 hle, hq acc st' r' H' vs ec e1 hd R1 qa⟩
    · exact (hno ec).elim
  | some d =>
    rw [drop_cons hdi, compL] at ec
    split at ec
    · rename_i hchk
      obtain ⟨go, yl⟩ := (hJ (p :: Z) r' H' st' i e1 hz R1 hchk).1 d hdi
      refine .inr ⟨go, St (i + 1), fun H2 h2 => ⟨m - 1, by have := (List.getElem?_eq_some_iff.mp hdi).1; omega, by have := (List.getElem?_eq_some_iff.mp hdi).1; omega, h2⟩, fun x H2 hy => ?_⟩
      obtain ⟨e2, R2, q2⟩ := yl x H2 hy
      have En2 : EnvR g (p :: Z) r' H2 (wipeD env own) (wipe sg own) := wipe_env ⟨En.len, fun i d h => let ⟨v, a, b⟩ := En.at_ i d h; ⟨v, a, Rep.extZ (e1.trans e2) hz b⟩⟩ own
      refine ⟨p :: Z, r', wipeD env own, st', d, En2, R2, q2, ?_⟩
      cases ht : tg d (wipeD env own) st' with
      | none => rw [ht] at ec; exact (hno ec).elim
      | some env1 =>
        rw [ht] at ec
        dsimp only at ec ⊢
        intro sg3 En3 hw3
        refine ⟨by rw [hw3 own hw, wipe_wipe], ?_⟩
        have hd2 : H2 p = some (.lst vs) := by
          have := e2.keep p _ hd (fun z => (R1.z p List.mem_cons_self).1 z)
          exact this.1
        refine ⟨p :: Z, r', env1, st', En3, R2, ?_⟩
        cases hts : tst env1 st' with
        | er x s => rw [hts] at ec; exact (hno ec).elim
        | no => rw [hts] at ec; exact (hno ec).elim
        | ok b st2 =>
          rw [hts] at ec
          intro r3 H3 b' e3 R3 hb
          cases hb
          have hd3 : H3 p = some (.lst vs) := (e3.keep p _ hd2 fun z => (R2.z p List.mem_cons_self).1 z).1
          cases b with
          | false =>
            rw [if_neg (by decide)]
            exact ⟨r3, st2, acc, vs, (e1.trans e2).trans e3, hd3, R3, RepL.ext (e2.trans e3) _ qa, hl, ec⟩
          | true =>
            rw [if_pos rfl]
            dsimp only at ec
            refine ⟨p :: Z, r3, env1, st2, En3.ext e3, R3, ?_⟩
            cases hel : elt env1 st2 with
            | er x s => rw [hel] at ec; exact (hno ec).elim
            | no => rw [hel] at ec; exact (hno ec).elim
            | ok y st3 =>
              rw [hel] at ec
              dsimp only at ec
              intro r4 H4 w e4 R4 qw
              have hd4 : H4 p = some (.lst vs) := (e4.keep p _ hd3 fun z => (R3.z p List.mem_cons_self).1 z).1
              split at ec
              · rename_i hzl
                have qa4 : RepL g (p :: Z) r4 H4 acc vs := RepL.ext ((e2.trans e3).trans e4) _ qa
                refine ⟨vs, hd4, by rw [← qa4.length]; exact hzl, ?_⟩
                have np : ¬ Nin (p :: Z) r4 p := fun n => n.1 List.mem_cons_self
                refine ⟨r4, st3, acc ++ [y], vs ++ [w], ?_, upd_same, ?_, RepL.off np _ (qa4.append (RepL.one qw)), by simp; omega, ec⟩
                · have e := ((e1.trans e2).trans e3).trans e4
                  exact ⟨e.pre, fun a o h n => by
                    have ne : a ≠ p := ne_of_none h hp
                    rw [upd_ne ne]; exact e.keep a o h n⟩
                · refine ⟨R4.len, R4.nd, fun a m => ?_, fun k d e => ?_⟩
                  · obtain ⟨n, u, eu⟩ := R4.z a m
                    by_cases ha : a = p
                    · subst ha; exact ⟨n, _, upd_same⟩
                    · exact ⟨n, u, by rw [upd_ne ha]; exact eu⟩
                  · obtain ⟨a, ea, t, xs, vs', ed, hm, hx⟩ := R4.cell k d e
                    have ha : a ≠ p := fun z => (R4.z p List.mem_cons_self).1 (z ▸ List.mem_of_getElem? ea)
                    exact ⟨a, ea, t, xs, vs', ed, hm.keep (upd_ne ha), RepL.off np _ hx⟩
              · exact (hno ec).elim
    · exact (hno ec).elim
end
end DY

set_option Elab.async false
set_option linter.all false
set_option maxRecDepth 100000
set_option maxHeartbeats 4000000
/-! Comprehensions as expressions; dicts; attributes. -/
namespace DY
open PySem PySem.Spec PyProof.Rows L2
section
variable {X : Cx} {cl : Nat → Addr} {W : WX} {pos : Pos}
theorem RepL.less {g : Gd} {Z r : List Addr} {H : Hp} {p : Addr} {ds : List D} {vs : List V} (h : RepL g (p :: Z) r H ds vs) : RepL g Z r H ds vs :=
  RepL.turn (fun a n _ => ⟨fun m => n.1 (List.mem_cons_of_mem _ m), n.2⟩) (fun _ _ q => q) ds h
theorem Rl.less {g : Gd} {Z r : List Addr} {H : Hp} {p : Addr} {st : Store} (h : Rl g (p :: Z) r H st) : Rl g Z r H st :=
  ⟨h.len, h.nd, fun a m => h.z a (List.mem_cons_of_mem _ m), fun k d e => let ⟨a, ea, t, xs, vs, ed, hm, hx⟩ := h.cell k d e; ⟨a, ea, t, xs, vs, ed, hm, RepL.less hx⟩⟩
theorem adopt_lst {g : Gd} {Z r : List Addr} {H : Hp} {p : Addr} {xs : List D} {vs : List V} {st : Store} (hz : p ∉ Z) (R : Rl g (p :: Z) r H st) (hp : H p = some (.lst vs)) (hx : RepL g (p :: Z) r H xs vs) : Rep g Z r H (.nd .lst xs) (.ref p) :=
  ⟨p, vs, rfl, ⟨⟨hz, (R.z p List.mem_cons_self).1⟩, hp⟩, RepL.less hx⟩
theorem adoptM {g : Gd} {Z r : List Addr} {H : Hp} {p : Addr} {t : Hd} {xs : List D} {vs : List V} {st : Store} (hz : p ∉ Z) (R : Rl g (p :: Z) r H st) (hp : HatM g H p t vs) (hx : RepL g (p :: Z) r H xs vs) : Rl g Z (r ++ [p]) H (st ++ [.nd t xs]) := by
  have hpr := (R.z p List.mem_cons_self).1
  have up : ∀ {ds : List D} {us : List V}, RepL g (p :: Z) r H ds us → RepL g Z (r ++ [p]) H ds us := fun h =>
    RepL.turn (fun a n _ => ⟨fun m => n.1 (List.mem_cons_of_mem _ m), fun m => by
      rcases List.mem_append.mp m with m | m
      · exact n.2 m
      · exact n.1 (by simp at m; subst m; exact List.mem_cons_self)⟩) (fun k a q => by rw [List.getElem?_append_left (List.getElem?_eq_some_iff.mp q).1]; exact q) _ h
  refine ⟨by simp [R.len], ?_, fun a m => ?_, fun k d e => ?_⟩
  · refine List.nodup_append.mpr ⟨R.nd, by simp, ?_⟩
    intro a ha b hb; simp at hb; subst hb; intro e; subst e; exact hpr ha
  · obtain ⟨n, u⟩ := R.z a (List.mem_cons_of_mem _ m)
    have ne : a ≠ p := fun z => hz (z ▸ m)
    exact ⟨by simp [n, ne], u⟩
  · by_cases hk : k < st.length
    · rw [List.getElem?_append_left hk] at e
      obtain ⟨a, ea, t', xs', vs', ed, hm', hx'⟩ := R.cell k d e
      have hk' : k < r.length := by rw [R.len]; exact hk
      exact ⟨a, by rw [List.getElem?_append_left hk']; exact ea, t', xs', vs', ed, hm', up hx'⟩
    · have hk2 : k = st.length := by
        have := (List.getElem?_eq_some_iff.mp e).1
        simp at this; omega
      subst hk2
      simp at e; subst e
      exact ⟨p, by rw [← R.len]; simp, t, xs, vs, rfl, hp, up hx⟩
theorem Ext.adopt {r r2 : List Addr} {H H2 : Hp} {p : Addr} (e : Ext r H r2 H2) (hp : H p = none) : Ext r H (r2 ++ [p]) H2 := by
  obtain ⟨q, eq⟩ := e.pre
  refine ⟨⟨q ++ [p], by rw [eq, List.append_assoc]⟩, fun a o h n => ?_⟩
  obtain ⟨h1, n1⟩ := e.keep a o h n
  exact ⟨h1, by simp [n1, ne_of_none h hp]⟩
/-- the comprehension's loop is reached -/
theorem lc_tLc {fi : SemI} {tg : DTg} {tst : SemT} {elt : SemE} {own ws : List Nat} (hw : ∀ w ∈ ws, w ∈ own) {fin : List D → Store → Res D} (sg : L2.St) (H : Hp) (Q : VK)
    (hfin : ∀ Z r H p, H p = none → p ∉ Z → ∀ xs st2 r2 H2 vs, Ext r H r2 H2 → H2 p = some (.lst vs) → Rl ⟨X.K, cl⟩ (p :: Z) r2 H2 st2 → RepL ⟨X.K, cl⟩ (p :: Z) r2 H2 xs vs → ∀ {W' : Value → Option Addr → Hp → Prop}, Post ⟨X.K, cl⟩ Z r H (RV ⟨X.K, cl⟩ Z) (fin xs st2) Q W' → Q (.ref p) H2)
    (h : rdE ⟨X.K, cl⟩ W (fun env st => (fi env st).bind fun it st1 => (compL it.chk tg tst elt own env it.items [] st1).bind fin) sg H Q) :
    tLc (rdI ⟨X.K, cl⟩ W fi) (rdG ⟨X.K, cl⟩ ws tg) (rdT ⟨X.K, cl⟩ WF tst) (rdE ⟨X.K, cl⟩ WF elt) own sg H Q := by
  obtain ⟨Z, r, env, st, En, R, h⟩ := h
  refine ⟨Z, r, env, st, En, R, Post.bind h fun it st1 r1 H1 J _ e1 R1 q1 h1 => fun p hp => ?_⟩
  refine lc_rd (env := env) hw R1 (En.ext e1) q1 hp (fun xs st2 r2 H2 vs hc e2 hd R2 qx => ?_) (fun z => by rw [z] at h1; exact h1)
  rw [hc] at h1
  exact hfin Z r1 H1 p hp (R1.free hp).1 xs st2 r2 H2 vs e2 hd R2 qx h1
theorem fin_lst {xs : List D} {st2 : Store} {Q : VK} (Z r : List Addr) (H : Hp) (p : Addr) (hp : H p = none) (hz : p ∉ Z) (r2 : List Addr) (H2 : Hp) (vs : List V) (e2 : Ext r H r2 H2) (hd : H2 p = some (.lst vs)) (R2 : Rl ⟨X.K, cl⟩ (p :: Z) r2 H2 st2) (qx : RepL ⟨X.K, cl⟩ (p :: Z) r2 H2 xs vs)
    {W' : Value → Option Addr → Hp → Prop} (h : Post ⟨X.K, cl⟩ Z r H (RV ⟨X.K, cl⟩ Z) (.ok (.nd .lst xs) st2) Q W') : Q (.ref p) H2 := h r2 H2 _ e2 R2.less (adopt_lst hz R2 hd qx)
theorem fin_lstM {xs : List D} {st2 : Store} {Q : VK} (Z r : List Addr) (H : Hp) (p : Addr) (hp : H p = none) (hz : p ∉ Z) (r2 : List Addr) (H2 : Hp) (vs : List V) (e2 : Ext r H r2 H2) (hd : H2 p = some (.lst vs)) (R2 : Rl ⟨X.K, cl⟩ (p :: Z) r2 H2 st2) (qx : RepL ⟨X.K, cl⟩ (p :: Z) r2 H2 xs vs)
    {W' : Value → Option Addr → Hp → Prop} (h : Post ⟨X.K, cl⟩ Z r H (RV ⟨X.K, cl⟩ Z) (.ok (.h st2.length) (st2 ++ [.nd .lst xs])) Q W') : Q (.ref p) H2 :=
  h (r2 ++ [p]) H2 _ (e2.adopt hp) (adoptM hz R2 hd qx) ⟨p, rfl, by rw [← R2.len]; simp⟩
section
variable {elt tg iter : Expr} {ifs : List Expr} {scope : Scope} {own : List (Str × Nat)} {fi : SemI} {g : DTg} {tt : SemT} {te : SemE} {ws : List Nat}
theorem se_lc (own : List (Str × Nat)) (hc : X.calm = true) (hN : X.N.Nodup) (hi : SI X cl W tg iter fi) (ok : BlkOk X.N X.env.scope scope own)
    (hg : ∀ (s : Shared) (H : Hp) (C : Addr) (l : List (Str × Addr)) (fp : List Addr), SG (X.blk s H scope (compEnvC scope l C X.env) fp) cl ws tg g) (ht : ∀ (s : Shared) (H : Hp) (C : Addr) (l : List (Str × Addr)) (fp : List Addr), STs (X.blk s H scope (compEnvC scope l C X.env) fp) cl WF ifs tt)
    (he : ∀ (s : Shared) (H : Hp) (C : Addr) (l : List (Str × Addr)) (fp : List Addr), SE (X.blk s H scope (compEnvC scope l C X.env) fp) cl WF elt te) (hw : ∀ w ∈ ws, w ∈ own.map (·.2) := by decide) (hs : ∀ x, foldedSetIterable iter X.env x = pure x := by intro _; rfl) :
    SE X cl W (.ListComp elt [⟨tg, iter, ifs, 0⟩] scope pos) (dLc fi g tt te (own.map (·.2))) :=
  ⟨(pe_lc hc hN hi.run ok (fun s H C l fp => (hg s H C l fp).run) (fun s H C l fp => (ht s H C l fp).run) (fun s H C l fp => (he s H C l fp).run) hs).imp fun sg H Q h => lc_tLc hw sg H Q (fun Z r H p hp hz xs st2 r2 H2 vs e2 hd R2 qx {W'} h => fin_lst Z r H p hp hz r2 H2 vs e2 hd R2 qx h) h⟩
theorem se_lcM (own : List (Str × Nat)) (hc : X.calm = true) (hN : X.N.Nodup) (hi : SI X cl W tg iter fi) (ok : BlkOk X.N X.env.scope scope own)
    (hg : ∀ (s : Shared) (H : Hp) (C : Addr) (l : List (Str × Addr)) (fp : List Addr), SG (X.blk s H scope (compEnvC scope l C X.env) fp) cl ws tg g) (ht : ∀ (s : Shared) (H : Hp) (C : Addr) (l : List (Str × Addr)) (fp : List Addr), STs (X.blk s H scope (compEnvC scope l C X.env) fp) cl WF ifs tt)
    (he : ∀ (s : Shared) (H : Hp) (C : Addr) (l : List (Str × Addr)) (fp : List Addr), SE (X.blk s H scope (compEnvC scope l C X.env) fp) cl WF elt te) (hw : ∀ w ∈ ws, w ∈ own.map (·.2) := by decide) (hs : ∀ x, foldedSetIterable iter X.env x = pure x := by intro _; rfl) :
    SE X cl W (.ListComp elt [⟨tg, iter, ifs, 0⟩] scope pos) (dLcM fi g tt te (own.map (·.2))) :=
  ⟨(pe_lc hc hN hi.run ok (fun s H C l fp => (hg s H C l fp).run) (fun s H C l fp => (ht s H C l fp).run) (fun s H C l fp => (he s H C l fp).run) hs).imp fun sg H Q h => lc_tLc hw sg H Q (fun Z r H p hp hz xs st2 r2 H2 vs e2 hd R2 qx {W'} h => fin_lstM Z r H p hp hz r2 H2 vs e2 hd R2 qx h) h⟩
/-- y = [..] of a local, on one line -/
theorem set_lc_rd {i : Nat} {f : SemE} {t : TE} (ht : ∀ sg H Q, rdE ⟨X.K, cl⟩ W f sg H Q → t sg H Q) (E : Ends) (sg : L2.St) (H : Hp) (h : rdS ⟨X.K, cl⟩ W (sSet i f) E sg H) : tAsg t (gName i) E sg H := by
  obtain ⟨Z, r, env, st, En, R, h⟩ := h
  exact ht sg H _ ⟨Z, r, env, st, En, R, PostS.bindE h En fun d st1 r1 H1 v _ e1 R1 q1 h1 => post_nx h1 R1 ((En.ext e1).set i q1)⟩
theorem ss_setLc (i : Nat) (own : List (Str × Nat)) {y : Str} {py : Pos} {cpos : Pos} (hc : X.calm = true) (hN : X.N.Nodup) (hi : SI X cl W tg iter fi) (ok : BlkOk X.N X.env.scope scope own)
    (hg : ∀ (s : Shared) (H : Hp) (C : Addr) (l : List (Str × Addr)) (fp : List Addr), SG (X.blk s H scope (compEnvC scope l C X.env) fp) cl ws tg g) (ht : ∀ (s : Shared) (H : Hp) (C : Addr) (l : List (Str × Addr)) (fp : List Addr), STs (X.blk s H scope (compEnvC scope l C X.env) fp) cl WF ifs tt)
    (he : ∀ (s : Shared) (H : Hp) (C : Addr) (l : List (Str × Addr)) (fp : List Addr), SE (X.blk s H scope (compEnvC scope l C X.env) fp) cl WF elt te) (hy : X.N[i]? = some y := by rfl) (hyl : X.env.scope.names.lookup y = some .local := by rfl)
    (hsw : swapsWith (.ListComp elt [⟨tg, iter, ifs, 0⟩] scope cpos) (some (.Name y py)) pos.line X.env = pure true := by exact sw_true rfl rfl rfl (by decide +kernel)) (hw : ∀ w ∈ ws, w ∈ own.map (·.2) := by decide) (hs : ∀ x, foldedSetIterable iter X.env x = pure x := by intro _; rfl) :
    SS X cl W (.Assign [.Name y py] (.ListComp elt [⟨tg, iter, ifs, 0⟩] scope cpos) pos) (sSet i (dLc fi g tt te (own.map (·.2)))) :=
  ⟨(ps_setLc hc hN hy hyl hsw hi.run ok (fun s H C l fp => (hg s H C l fp).run) (fun s H C l fp => (ht s H C l fp).run) (fun s H C l fp => (he s H C l fp).run) hs).imp fun E sg H h =>
    set_lc_rd (X := X) (cl := cl) (W := W) (i := i) (f := dLc fi g tt te (own.map (·.2))) (t := tLc (rdI ⟨X.K, cl⟩ W fi) (rdG ⟨X.K, cl⟩ ws g) (rdT ⟨X.K, cl⟩ WF tt) (rdE ⟨X.K, cl⟩ WF te) (own.map (·.2))) (fun sg H Q h => lc_tLc hw sg H Q (fun Z r H p hp hz xs st2 r2 H2 vs e2 hd R2 qx {W'} h => fin_lst Z r H p hp hz r2 H2 vs e2 hd R2 qx h) h) E sg H h⟩
theorem ss_setLcM (i : Nat) (own : List (Str × Nat)) {y : Str} {py : Pos} {cpos : Pos} (hc : X.calm = true) (hN : X.N.Nodup) (hi : SI X cl W tg iter fi) (ok : BlkOk X.N X.env.scope scope own)
    (hg : ∀ (s : Shared) (H : Hp) (C : Addr) (l : List (Str × Addr)) (fp : List Addr), SG (X.blk s H scope (compEnvC scope l C X.env) fp) cl ws tg g) (ht : ∀ (s : Shared) (H : Hp) (C : Addr) (l : List (Str × Addr)) (fp : List Addr), STs (X.blk s H scope (compEnvC scope l C X.env) fp) cl WF ifs tt)
    (he : ∀ (s : Shared) (H : Hp) (C : Addr) (l : List (Str × Addr)) (fp : List Addr), SE (X.blk s H scope (compEnvC scope l C X.env) fp) cl WF elt te) (hy : X.N[i]? = some y := by rfl) (hyl : X.env.scope.names.lookup y = some .local := by rfl)
    (hsw : swapsWith (.ListComp elt [⟨tg, iter, ifs, 0⟩] scope cpos) (some (.Name y py)) pos.line X.env = pure true := by exact sw_true rfl rfl rfl (by decide +kernel)) (hw : ∀ w ∈ ws, w ∈ own.map (·.2) := by decide) (hs : ∀ x, foldedSetIterable iter X.env x = pure x := by intro _; rfl) :
    SS X cl W (.Assign [.Name y py] (.ListComp elt [⟨tg, iter, ifs, 0⟩] scope cpos) pos) (sSet i (dLcM fi g tt te (own.map (·.2)))) :=
  ⟨(ps_setLc hc hN hy hyl hsw hi.run ok (fun s H C l fp => (hg s H C l fp).run) (fun s H C l fp => (ht s H C l fp).run) (fun s H C l fp => (he s H C l fp).run) hs).imp fun E sg H h =>
    set_lc_rd (X := X) (cl := cl) (W := W) (i := i) (f := dLcM fi g tt te (own.map (·.2))) (t := tLc (rdI ⟨X.K, cl⟩ W fi) (rdG ⟨X.K, cl⟩ ws g) (rdT ⟨X.K, cl⟩ WF tt) (rdE ⟨X.K, cl⟩ WF te) (own.map (·.2))) (fun sg H Q h => lc_tLc hw sg H Q (fun Z r H p hp hz xs st2 r2 H2 vs e2 hd R2 qx {W'} h => fin_lstM Z r H p hp hz r2 H2 vs e2 hd R2 qx h) h) E sg H h⟩
end

/-! ### dicts -/
def dGet (hint : Nat) (x y : D) (st : Store) : Res D :=
  match seen st x with
  | some (.dk ks, vs) => match key? y with
    | some k => match kAt hint ks k with
      | some i => match vs[i]? with
        | some d => .ok d st
        | none => .no
      | none => .no
    | none => .no
  | some (.dt ks, vs) => match y with
    | .nd .tup zs => match keys? zs with
      | some k => match kAt hint ks k with
        | some i => match vs[i]? with
          | some d => .ok d st
          | none => .no
        | none => .no
      | none => .no
    | _ => .no
  | _ => .no
theorem dk_at {g : Gd} {Z r : List Addr} {H : Hp} {a : Addr} {ks : List Key} {vs : List V} (h : Hat g Z r H a (.dk ks) vs ∨ HatM g H a (.dk ks) vs) : (ks.length = vs.length ∧ ks.Nodup) ∧ H a = some (.dK (ks.zip vs)) := by
  rcases h with h | h
  · exact h.2
  · exact h
theorem dt_at {g : Gd} {Z r : List Addr} {H : Hp} {a : Addr} {ks : List (List Key)} {vs : List V} (h : Hat g Z r H a (.dt ks) vs ∨ HatM g H a (.dt ks) vs) : (ks.length = vs.length ∧ ks.Nodup) ∧ H a = some (.dT (ks.zip vs)) := by
  rcases h with h | h
  · exact h.2
  · exact h
theorem ins_at {g : Gd} {Z r : List Addr} {H : Hp} {a : Addr} {c : Nat} {ns : List Str} {vs : List V} (h : Hat g Z r H a (.ins c ns) vs ∨ HatM g H a (.ins c ns) vs) : (ns.length = vs.length ∧ ns.Nodup) ∧ ∃ dx, H a = some (.ins (g.cls c) dx (ns.zip vs)) := by
  rcases h with h | h
  · exact h.2
  · exact h
variable {a b e : Expr} {fa fb fe : SemE}
theorem dget_ok {Z r : List Addr} {H : Hp} {st : Store} {x y : D} {v u : V} {hint : Nat} {Q : VK} {W' : Value → Option Addr → Hp → Prop} (R : Rl ⟨X.K, cl⟩ Z r H st) (hx : Rep ⟨X.K, cl⟩ Z r H x v) (hy : Rep ⟨X.K, cl⟩ Z r H y u)
    (h : Post ⟨X.K, cl⟩ Z r H (RV ⟨X.K, cl⟩ Z) (dGet hint x y st) Q W') : ∃ a w, v = .ref a ∧ DGet H a u (some w) ∧ Q w H := by
  unfold dGet at h
  split at h
  · rename_i ks vs hs
    obtain ⟨p, us, rfl, q, s⟩ := seen_ok R hx hs
    obtain ⟨hl, hd⟩ := dk_at s
    split at h
    · rename_i k hk
      split at h
      · rename_i i hi
        split at h
        · rename_i d hdi
          obtain ⟨w, hw, qw⟩ := q.get hdi
          refine ⟨p, w, rfl, ?_, post_ok h R qw⟩
          have := DGet.k (k := k) hd
          rw [valV_zip hl.2 (kAt_get hi), hw] at this
          rw [key_ok hk hy]; exact this
        · exact h.elim
      · exact h.elim
    · exact h.elim
  · rename_i ks vs hs
    obtain ⟨p, us, rfl, q, s⟩ := seen_ok R hx hs
    obtain ⟨hl, hd⟩ := dt_at s
    split at h
    · rename_i zs
      split at h
      · rename_i k hk
        split at h
        · rename_i i hi
          split at h
          · rename_i d hdi
            obtain ⟨w, hw, qw⟩ := q.get hdi
            obtain ⟨b, ys, rfl, hb, qy⟩ := hy
            refine ⟨p, w, rfl, ?_, post_ok h R qw⟩
            have hb' : H b = some (.tup (k.map kV)) := by rw [← keys_ok hk qy]; exact hb.2
            have := DGet.t (k := k) hd hb'
            rw [valV_zip hl.2 (kAt_get hi), hw] at this
            exact this
          · exact h.elim
        · exact h.elim
      · exact h.elim
    · exact h.elim
  · exact h.elim
theorem se_dget (hint : Nat) (hu : X.A.units + 1 < cLine) (ha : SE X cl W a fa) (hb : SE X cl W b fb) (hs : NoSl b := by exact fun _ _ => rfl) : SE X cl W (.Subscript a b pos) (dBin (dGet hint) fa fb) := by
  refine ⟨(pe_dget hu ha.run hb.run hs).imp fun sg H Q ⟨Z, r, env, st, E, R, h⟩ => ?_⟩
  refine ⟨Z, r, env, st, E, R, Post.bind h fun x st1 r1 H1 v _ e1 R1 q1 h1 => ?_⟩
  refine ⟨Z, r1, env, st1, E.ext e1, R1, Post.bind h1 fun y st2 r2 H2 u _ e2 R2 q2 h2 => ?_⟩
  exact dget_ok R2 (Rep.ext e2 x q1) q2 h2
/-- the store behind d[k] = v -/
def putD (hint : Nat) (x y v : D) (st : Store) : Option Store :=
  match x with
  | .h j => match st[j]? with
    | some (.nd (.dk ks) vs) => match key? y with
      | some k => if vs.length < szL then (match kAt hint ks k with
        | some i => some (st.set j (.nd (.dk ks) (vs.set i v)))
        | none => some (st.set j (.nd (.dk (ks ++ [k])) (vs ++ [v])))) else none
      | none => none
    | some (.nd (.dt ks) vs) => match y with
      | .nd .tup zs => match keys? zs with
        | some k => if vs.length < szL then (match kAt hint ks k with
          | some i => some (st.set j (.nd (.dt ks) (vs.set i v)))
          | none => some (st.set j (.nd (.dt (ks ++ [k])) (vs ++ [v])))) else none
        | none => none
      | _ => none
    | _ => none
  | _ => none
@[simp] def sDPut (hint : Nat) (fa fb fe : SemE) : SemS := fun env st => bindE (fe env st) env fun v st1 => bindE (fa env st1) env fun x st2 => bindE (fb env st2) env fun y st3 => match putD hint x y v st3 with
  | some st4 => .nx env st4
  | none => .no
theorem put_ok {g : Gd} {Z r : List Addr} {H : Hp} {st st' : Store} {x y d : D} {v u w : V} {hint : Nat} (R : Rl g Z r H st) (hx : Rep g Z r H x v) (hy : Rep g Z r H y u) (hd : Rep g Z r H d w) (e : putD hint x y d st = some st') :
    ∃ a H', v = .ref a ∧ DPut H a u w H' ∧ Ext r H r H' ∧ Rl g Z r H' st' := by
  unfold putD at e
  split at e
  · rename_i j
    obtain ⟨a, rfl, ea⟩ := hx
    split at e
    · rename_i ks vs hs
      obtain ⟨b, eb, t, xs, us, ed, hm, hu⟩ := R.cell j _ hs
      cases ed
      rw [ea] at eb; cases eb
      obtain ⟨hl, hH⟩ := hm
      split at e
      · rename_i k hk
        split at e
        · rename_i hz
          have hlen := hu.length
          have hzz : (ks.zip us).length < sizeLine := by rw [List.length_zip, hl.1]; simp; rw [← hlen]; exact hz
          have hp := DPut.k (k := k) (v := w) hH hzz
          rw [← key_ok hk hy] at hp
          split at e
          · rename_i i hi
            cases e
            rw [putK_zip hl.2 hl.1 (kAt_get hi)] at hp
            exact ⟨a, _, rfl, hp, Ext.write ea, R.write ea (show HatM g _ a (.dk ks) _ from ⟨⟨by simp [hl.1], hl.2⟩, upd_same⟩) (RepL.set hd i hu)⟩
          · rename_i hi
            cases e
            rw [putK_zip_new hl.1 (kAt_none hi)] at hp
            refine ⟨a, _, rfl, hp, Ext.write ea, R.write ea (show HatM g _ a (.dk (ks ++ [k])) _ from ⟨⟨by simp [hl.1], ?_⟩, upd_same⟩) (RepL.append hu (RepL.one hd))⟩
            exact nd_snoc hl.2 (kAt_none hi)
        · cases e
      · cases e
    · rename_i ks vs hs
      obtain ⟨b, eb, t, xs, us, ed, hm, hu⟩ := R.cell j _ hs
      cases ed
      rw [ea] at eb; cases eb
      obtain ⟨hl, hH⟩ := hm
      split at e
      · rename_i zs
        split at e
        · rename_i k hk
          split at e
          · rename_i hz
            have hlen := hu.length
            have hzz : (ks.zip us).length < sizeLine := by rw [List.length_zip, hl.1]; simp; rw [← hlen]; exact hz
            obtain ⟨c, ys, rfl, hc, qy⟩ := hy
            have hc' : H c = some (.tup (k.map kV)) := by rw [← keys_ok hk qy]; exact hc.2
            have hp := DPut.t (k := k) (v := w) hH hc' hzz
            split at e
            · rename_i i hi
              cases e
              rw [putK_zip hl.2 hl.1 (kAt_get hi)] at hp
              exact ⟨a, _, rfl, hp, Ext.write ea, R.write ea (show HatM g _ a (.dt ks) _ from ⟨⟨by simp [hl.1], hl.2⟩, upd_same⟩) (RepL.set hd i hu)⟩
            · rename_i hi
              cases e
              rw [putK_zip_new hl.1 (kAt_none hi)] at hp
              refine ⟨a, _, rfl, hp, Ext.write ea, R.write ea (show HatM g _ a (.dt (ks ++ [k])) _ from ⟨⟨by simp [hl.1], ?_⟩, upd_same⟩) (RepL.append hu (RepL.one hd))⟩
              exact nd_snoc hl.2 (kAt_none hi)
          · cases e
        · cases e
      · cases e
    · cases e
  · cases e
theorem ss_dput (hint : Nat) {pos' : Pos} (hu : X.A.units + 1 < cLine) (ha : SE X cl W a fa) (hb : SE X cl W b fb) (he : SE X cl W e fe) (hs : swapsWith e (some (.Subscript a b pos')) pos.line X.env = pure false := by rfl) : SS X cl W (.Assign [.Subscript a b pos'] e pos) (sDPut hint fa fb fe) := by
  refine ⟨(ps_dput hu ha.run hb.run he.run hs).imp fun E sg H ⟨Z, r, env, st, En, R, h⟩ => ⟨Z, r, env, st, En, R, PostS.bindE h En fun v st1 r1 H1 vv _ e1 R1 q1 h1 => ?_⟩⟩
  refine ⟨Z, r1, env, st1, En.ext e1, R1, PostS.bindE h1 (En.ext e1) fun x st2 r2 H2 xv _ e2 R2 q2 h2 => ?_⟩
  refine ⟨Z, r2, env, st2, En.ext (e1.trans e2), R2, PostS.bindE h2 (En.ext (e1.trans e2)) fun y st3 r3 H3 yv _ e3 R3 q3 h3 => ?_⟩
  split at h3
  · rename_i st4 hp
    obtain ⟨p, H4, rfl, hd, e4, R4⟩ := put_ok R3 (Rep.ext e3 x q2) q3 (Rep.ext (e2.trans e3) v q1) hp
    exact ⟨p, H4, rfl, hd, h3 r3 H4 sg e4 R4 (En.ext (((e1.trans e2).trans e3).trans e4))⟩
  · exact h3.elim
end
end DY

set_option Elab.async false
set_option linter.all false
set_option maxRecDepth 100000
set_option maxHeartbeats 4000000
/-! Attributes; calls of one's own and of built-in things. -/
namespace DY
open PySem PySem.Spec PyProof.Rows L2

/-! ### attributes -/
theorem lookup_zip {ns : List Str} {vs : List V} {i : Nat} {f : Str} (n : ns.Nodup) (e : ns[i]? = some f) : (ns.zip vs).lookup f = vs[i]? := by
  induction ns generalizing vs i with
  | nil => simp at e
  | cons k ks ih =>
    cases vs with
    | nil => simp
    | cons v vs =>
      cases i with
      | zero => simp at e; subst e; simp [List.lookup]
      | succ i =>
        simp at e
        have ne : ¬ f = k := fun z => (List.nodup_cons.mp n).1 (z ▸ List.mem_of_getElem? e)
        have : (f == k) = false := by simpa using ne
        simp only [List.zip_cons_cons, List.lookup, this, List.getElem?_cons_succ]
        exact ih (List.nodup_cons.mp n).2 e
theorem lookup_zip_none {ns : List Str} {vs : List V} {f : Str} (n : f ∉ ns) : (ns.zip vs).lookup f = none := by
  induction ns generalizing vs with
  | nil => simp
  | cons k ks ih =>
    cases vs with
    | nil => simp
    | cons v vs =>
      simp at n
      have : (f == k) = false := by simpa using n.1
      simp only [List.zip_cons_cons, List.lookup, this]
      exact ih n.2
theorem putF_zip {ns : List Str} {vs : List V} {i : Nat} {f : Str} {y : V} (n : ns.Nodup) (l : ns.length = vs.length) (e : ns[i]? = some f) : putF f y (ns.zip vs) = ns.zip (vs.set i y) := by
  induction ns generalizing vs i with
  | nil => simp at e
  | cons k ks ih =>
    cases vs with
    | nil => simp at l
    | cons v vs =>
      cases i with
      | zero => simp at e; subst e; simp [putF]
      | succ i =>
        simp at e
        have ne : ¬ k = f := fun z => (List.nodup_cons.mp n).1 (z ▸ List.mem_of_getElem? e)
        simp only [List.zip_cons_cons, putF, if_neg ne, List.set_cons_succ]
        rw [ih (List.nodup_cons.mp n).2 (by simpa using l) e]
theorem putF_zip_new {ns : List Str} {vs : List V} {f : Str} {y : V} (l : ns.length = vs.length) (e : f ∉ ns) : putF f y (ns.zip vs) = (ns ++ [f]).zip (vs ++ [y]) := by
  induction ns generalizing vs with
  | nil => cases vs with
    | nil => rfl
    | cons v vs => simp at l
  | cons k ks ih =>
    cases vs with
    | nil => simp at l
    | cons v vs =>
      simp at e
      simp only [List.zip_cons_cons, putF, if_neg (fun z : k = f => e.1 z.symm), List.cons_append]
      rw [ih (by simpa using l) e.2]
section
variable {X : Cx} {cl : Nat → Addr} {W : WX} {pos : Pos}
def dAttr (c hint : Nat) (f : Str) (x : D) (st : Store) : Res D :=
  match seen st x with
  | some (.ins c' ns, vs) => if c' = c then (match kAt hint ns f with
    | some i => match vs[i]? with
      | some d => .ok d st
      | none => .no
    | none => .no) else .no
  | _ => .no
variable {o e : Expr} {fo fe : SemE} {f : Str} {c hint : Nat}
theorem se_attr (c hint : Nat) (hc : Cls X.K (cl c)) (hf : NoAttr X.K (cl c) f) (ho : SE X cl W o fo) (hb : attributeBase o f X.env (eval o X.env) = eval o X.env := by rfl) : SE X cl W (.Attribute o f pos) (fun env st => (fo env st).bind (dAttr c hint f)) := by
  refine ⟨(pe_fld ho.run hb).imp fun sg H Q ⟨Z, r, env, st, E, R, h⟩ => ?_⟩
  refine ⟨Z, r, env, st, E, R, Post.bind h fun x st1 r1 H1 v _ e1 R1 q1 h1 => ?_⟩
  unfold dAttr at h1
  split at h1
  · rename_i c' ns vs hs
    split at h1
    · rename_i hcc
      subst hcc
      split at h1
      · rename_i i hi
        split at h1
        · rename_i d hd
          obtain ⟨a, us, rfl, q, s⟩ := seen_ok R1 q1 hs
          obtain ⟨hl, dx, ha⟩ := ins_at s
          obtain ⟨w, hw, qw⟩ := q.get hd
          exact ⟨a, _, dx, _, w, rfl, ha, hc, hf, by rw [lookup_zip hl.2 (kAt_get hi)]; exact hw, post_ok h1 R1 qw⟩
        · exact h1.elim
      · exact h1.elim
    · exact h1.elim
  · exact h1.elim
/-- the store behind x.f = v -/
def putA (c hint : Nat) (f : Str) (x v : D) (st : Store) : Option Store :=
  match x with
  | .h j => match st[j]? with
    | some (.nd (.ins c' ns) vs) => if c' = c ∧ vs.length < 1000 then (match kAt hint ns f with
      | some i => some (st.set j (.nd (.ins c' ns) (vs.set i v)))
      | none => some (st.set j (.nd (.ins c' (ns ++ [f])) (vs ++ [v])))) else none
    | _ => none
  | _ => none
@[simp] def sAttr (c hint : Nat) (f : Str) (fo fe : SemE) : SemS := fun env st => bindE (fe env st) env fun v st1 => bindE (fo env st1) env fun x st2 => match putA c hint f x v st2 with
  | some st3 => .nx env st3
  | none => .no
theorem ss_attr (c hint : Nat) {pos' : Pos} (hc : Cls X.K (cl c)) (hf : NoAttr X.K (cl c) f) (ho : SE X cl W o fo) (he : SE X cl W e fe) (hs : swapsWith e (some (.Attribute o f pos')) pos.line X.env = pure false := by rfl) : SS X cl W (.Assign [.Attribute o f pos'] e pos) (sAttr c hint f fo fe) := by
  refine ⟨(ps_fld ho.run he.run hs).imp fun E sg H ⟨Z, r, env, st, En, R, h⟩ => ⟨Z, r, env, st, En, R, PostS.bindE h En fun v st1 r1 H1 vv _ e1 R1 q1 h1 => ?_⟩⟩
  refine ⟨Z, r1, env, st1, En.ext e1, R1, PostS.bindE h1 (En.ext e1) fun x st2 r2 H2 xv _ e2 R2 q2 h2 => ?_⟩
  split at h2
  · rename_i st3 hp
    unfold putA at hp
    split at hp
    · rename_i j _
      obtain ⟨a, rfl, ea⟩ := q2
      split at hp
      · rename_i c' ns vs hs'
        split at hp
        · rename_i hcc
          obtain ⟨rfl, hlen⟩ := hcc
          obtain ⟨b, eb, t, xs, us, ed, hm, hu⟩ := R2.cell j _ hs'
          cases ed
          rw [ea] at eb; cases eb
          obtain ⟨hl, dx, ha⟩ := hm
          have hsz : (ns.zip us).length < 1000 := by rw [List.length_zip, hl.1, Nat.min_self, ← hu.length]; exact hlen
          refine ⟨a, _, dx, _, rfl, ha, hc, hf, hsz, ?_⟩
          have qv := Rep.ext e2 v q1
          split at hp
          · rename_i i hi
            cases hp
            rw [putF_zip hl.2 hl.1 (kAt_get hi)]
            exact h2 r2 _ sg (Ext.write ea) (R2.write ea (show HatM ⟨X.K, cl⟩ _ a (.ins c' ns) _ from ⟨⟨by simp [hl.1], hl.2⟩, dx, upd_same⟩) (RepL.set qv i hu)) (En.ext ((e1.trans e2).trans (Ext.write ea)))
          · rename_i hi
            cases hp
            rw [putF_zip_new hl.1 (kAt_none hi)]
            refine h2 r2 _ sg (Ext.write ea) (R2.write ea (show HatM ⟨X.K, cl⟩ _ a (.ins c' (ns ++ [f])) _ from ⟨⟨by simp [hl.1], ?_⟩, dx, upd_same⟩) (RepL.append hu (RepL.one qv))) (En.ext ((e1.trans e2).trans (Ext.write ea)))
            exact nd_snoc hl.2 (kAt_none hi)
        · cases hp
      · cases hp
    · cases hp
  · exact h2.elim

/-! ### calls -/
abbrev SemF := List D → Store → Res D
def rdC (g : Gd) (W : WX) (F : SemF) (vs : List V) (sg : L2.St) (H : Hp) (Q : VK) : Prop := ∃ Z r st ds, RepL g Z r H ds vs ∧ Rl g Z r H st ∧ Post g Z r H (RV g Z) (F ds st) Q (fun c d H' => W c d sg H')
/-- how a call ends -/
def RcP (X : Cx) (pins : List (Addr × Obj)) (sg : L2.St) (Q : VK) (q : Result) (s' : Shared) : Prop := match q with
  | .ok (.ret v) => EP X pins sg Q v s'
  | .ok _ => False
  | .error e => X.xe e s'
/-- u, called, computes F -/
structure CalF (X : Cx) (cl : Nat → Addr) (W : WX) (u : Value) (F : SemF) : Prop where
  code : ∀ (pins : List (Addr × Obj)) (s : Shared) (sg : L2.St) (H : Hp) (Q : VK) (vs : List V) (us : List Value), Inv X pins sg H s → Vals vs us → rdC ⟨X.K, cl⟩ W F vs sg H Q → codeAny (model X.prog X.w) X.A (.call u ⟨us, []⟩) (RcP X pins sg Q) s
theorem wp_code {pins : List (Addr × Obj)} {sg : L2.St} {Q : VK} {s : Shared} {u : Value} {us : List Value} (h : codeAny (model X.prog X.w) X.A (.call u ⟨us, []⟩) (RcP X pins sg Q) s) : wpAny (model X.prog X.w) X.A (call u us) (EP X pins sg Q) X.xe s := by
  refine wpAny_call (codeAny_mono h fun q s' hq => ?_)
  cases q with
  | error e => exact hq
  | ok fl =>
    cases fl with
    | ret u => exact hq
    | next => exact False.elim hq
    | brk => exact False.elim hq
    | cont => exact False.elim hq
theorem CalF.run {u : Value} {F : SemF} (h : CalF X cl W u F) (pins : List (Addr × Obj)) (s : Shared) (sg : L2.St) (H : Hp) (Q : VK) (vs : List V) (us : List Value) (I : Inv X pins sg H s) (r : Vals vs us) (q : rdC ⟨X.K, cl⟩ W F vs sg H Q) : wpAny (model X.prog X.w) X.A (call u us) (EP X pins sg Q) X.xe s :=
  wp_code (h.code pins s sg H Q vs us I r q)
@[simp] def dCall (F : SemF) (fa : SemA) : SemE := fun env st => (fa env st).bind fun ds st1 => F ds st1
variable {x : Str} {p : Pos} {es : List Expr} {fa : SemA} {u : Value} {F : SemF}
/-- f(e, ..), f a def or a class of the module -/
theorem se_call {a : Addr} (hF : CalF X cl W (.ref a) F) (hm : X.mg x = some (.ref a)) (hk : PySem.W.keepIn X.K (.ref a) = true) (ha : SA X cl W (e :: es) fa) (hg : Gl X x := by rfl) (hdb : (x == ("__debug__" : Str)) = false := by decide +kernel)
    (he : starEach (e :: es) X.env = (false, eval e X.env) :: starEach es X.env := by rfl) (hpl : (backTo pos (starEach es X.env)).any (·.1) = false := by rfl) : SE X cl W (.Call (.Name x p) (e :: es) [] pos) (dCall F fa) := by
  refine ⟨⟨fun pins s sg H Q I h => ?_⟩⟩
  refine wpAny_Call_Name_kw (ld_glob I hg hm ?_ hdb)
  have h' : rdA ⟨X.K, cl⟩ W fa sg H fun vs H1 => rdC ⟨X.K, cl⟩ W F vs sg H1 Q := by
    obtain ⟨Z, r, env, st, E, R, h⟩ := h
    exact ⟨Z, r, env, st, E, R, Post.bind h fun ds st1 r1 H1 vs _ e1 R1 q1 h1 => ⟨Z, r1, st1, ds, q1, R1, h1⟩⟩
  refine PySem.W.callWith_K (h₀ := X.base) I.ok.mod.kin hk (thn (ha.run.run pos pins s sg H _ I h') fun us s1 ⟨vs, H1, I1, rv, q⟩ => ⟨I1.kIn, ?_⟩) he hpl
  exact hF.run pins s1 sg H1 Q vs us I1 rv q
theorem se_call0 {a : Addr} (hF : CalF X cl W (.ref a) F) (hm : X.mg x = some (.ref a)) (hk : PySem.W.keepIn X.K (.ref a) = true) (hg : Gl X x := by rfl) (hdb : (x == ("__debug__" : Str)) = false := by decide +kernel) : SE X cl W (.Call (.Name x p) [] [] pos) (dCall F dNil) := by
  refine ⟨⟨fun pins s sg H Q I h => ?_⟩⟩
  refine wpAny_Call_Name_kw (ld_glob I hg hm ?_ hdb)
  obtain ⟨Z, r, env, st, E, R, h⟩ := h
  exact PySem.W.callWith_K0 I.kIn hk (hF.run pins s sg H Q [] [] I .nil ⟨Z, r, st, [], rfl, R, h⟩)
/-- o.m(e, ..), o an instance of the class c -/
@[simp] def dMeth (c : Nat) (m : Str) (F : SemF) (fo : SemE) (fa : SemA) : SemE := fun env st => (fo env st).bind fun x st1 => match seen st1 x with
  | some (.ins c' ns, _) => if c' = c ∧ m ∉ ns then (fa env st1).bind fun ds st2 => F (x :: ds) st2 else .no
  | _ => .no
variable {m : Str} {apos : Pos}
theorem meth_rd {F : SemF} {fo : SemE} {fa : SemA} {t : TA} (ht : ∀ sg H Q, rdA ⟨X.K, cl⟩ W fa sg H Q → t sg H Q) (sg : L2.St) (H : Hp) (Q : VK) (h : rdE ⟨X.K, cl⟩ W (dMeth c m F fo fa) sg H Q) :
    rdE ⟨X.K, cl⟩ W fo sg H fun x H1 => ∃ a dx fs, x = .ref a ∧ H1 a = some (.ins (cl c) dx fs) ∧ fs.lookup m = none ∧ t sg H1 fun vs H2 => rdC ⟨X.K, cl⟩ W F (x :: vs) sg H2 Q := by
  obtain ⟨Z, r, env, st, E, R, h⟩ := h
  refine ⟨Z, r, env, st, E, R, Post.bind h fun x st1 r1 H1 v _ e1 R1 q1 h1 => ?_⟩
  split at h1
  · rename_i c' ns vs hs
    split at h1
    · rename_i hcc
      obtain ⟨rfl, hn⟩ := hcc
      obtain ⟨a, us, rfl, q, s⟩ := seen_ok R1 q1 hs
      obtain ⟨hl, dx, ha⟩ := ins_at s
      refine ⟨a, dx, _, rfl, ha, lookup_zip_none hn, ht sg H1 _ ⟨Z, r1, env, st1, E.ext e1, R1, Post.bind h1 fun ds st2 r2 H2 vs _ e2 R2 q2 h2 => ?_⟩⟩
      exact ⟨Z, r2, st2, x :: ds, ⟨_, _, rfl, Rep.ext e2 x q1, q2⟩, R2, h2⟩
    · exact h1.elim
  · exact h1.elim
theorem se_meth {g : Addr} {pl : Sem Bool} (c : Nat) (hc : Cls X.K (cl c)) (hm : Meth X.K (cl c) m g) (hF : CalF X cl W (.ref g) F) (ho : SE X cl W o fo) (ha : SA X cl W (e :: es) fa)
    (hst : starEach (e :: es) X.env = (false, eval e X.env) :: starEach es X.env := by rfl) (hpl : (backTo pos (starEach es X.env)).any (·.1) = false := by rfl)
    (ht : eval (.Call (.Attribute o m apos) (e :: es) [] pos) X.env = (do
      let ov ← eval o X.env
      standAt apos.atName
      let (f, first) ← holding [ov] (getMethod ov m pl)
      callWith pos f first (backTo pos (starEach (e :: es) X.env)) (backToKw pos (keywordEach [] X.env))) := by rfl) : SE X cl W (.Call (.Attribute o m apos) (e :: es) [] pos) (dMeth c m F fo fa) := by
  refine ⟨⟨fun pins s sg H Q I h => ?_⟩⟩
  have h' := meth_rd (t := rdA ⟨X.K, cl⟩ W fa) (fun _ _ _ q => q) sg H Q h
  refine PySem.W.methodCall_KW (pl := pl) (thn (ho.run.run pins s sg H _ I h') fun u s1 ⟨x, H1, I1, rx, a, dx, fs, ex, ea, l, q⟩ => ?_) ht
  subst ex
  obtain rfl : u = Value.ref a := rx
  refine getmeth_ok I1 ea hc hm l ?_
  refine PySem.W.callWith_K (first := [.ref a]) (h₀ := X.base) I.ok.mod.kin hm.kp (thn (ha.run.run pos pins s1 sg H1 _ I1 q) fun us s2 ⟨vs, H2, I2, rv, q2⟩ => ⟨I2.kIn, ?_⟩) hst hpl
  exact hF.run pins s2 sg H2 Q (.ref a :: vs) (.ref a :: us) I2 (.cons rfl rv) q2
theorem se_meth0 {g : Addr} {pl : Sem Bool} (c : Nat) (hc : Cls X.K (cl c)) (hm : Meth X.K (cl c) m g) (hF : CalF X cl W (.ref g) F) (ho : SE X cl W o fo)
    (ht : eval (.Call (.Attribute o m apos) [] [] pos) X.env = (do
      let ov ← eval o X.env
      standAt apos.atName
      let (f, first) ← holding [ov] (getMethod ov m pl)
      callWith pos f first (backTo pos (starEach [] X.env)) (backToKw pos (keywordEach [] X.env))) := by rfl) : SE X cl W (.Call (.Attribute o m apos) [] [] pos) (dMeth c m F fo dNil) := by
  refine ⟨⟨fun pins s sg H Q I h => ?_⟩⟩
  have h' := meth_rd (t := tNil) (fun sg H Q ⟨Z, r, env, st, E, R, h⟩ => post_ok h R rfl) sg H Q h
  refine PySem.W.methodCall_KW (pl := pl) (thn (ho.run.run pins s sg H _ I h') fun u s1 ⟨x, H1, I1, rx, a, dx, fs, ex, ea, l, q⟩ => ?_) ht
  subst ex
  obtain rfl : u = Value.ref a := rx
  refine getmeth_ok I1 ea hc hm l ?_
  exact PySem.W.callWith_K0 (first := [.ref a]) I1.kIn hm.kp (hF.run pins s1 sg H1 Q [.ref a] [.ref a] I1 (.cons rfl .nil) q)
end

/-! ### defs -/
section
variable {P : Program} {w : World} {K : PySem.W.Frag} {mg : Str → Option Value} {base : Heap}
/-- a def keeps its promise, where no repr runs around -/
structure FnG (P : Program) (w : World) (K : PySem.W.Frag) (mg : Str → Option Value) (base : Heap) (k : Nat) (f : Addr) (fd : FuncData) (ps : List Str) (sp : Sp) : Prop where
  len : ∀ vs H Q E, sp vs H Q E → vs.length = ps.length
  run : ∀ (A : Around) (outer : List Env) (s : Shared) (H : Hp) (args : Args) (us : List Value) (vs : List V) (Q : VK) (E : XK), Room k A → A.guards = some [] → Env0 P w K mg base A outer s H → BindsTo s fd args (ps.zip us) → Vals vs us → sp vs H Q E →
    codeAny (model P w) A (.call (.ref f) args) (CR (L2.CX P w) outer P w H s Q E) s
/-- the promise to compute F, of n arguments -/
def spF (g : Gd) (n : Nat) (F : SemF) : Sp := fun vs H Q E => vs.length = n ∧ ∃ Z r st ds, RepL g Z r H ds vs ∧ Rl g Z r H st ∧ Post g Z r H (RV g Z) (F ds st) Q E
/-- a def's body as a function -/
def runB (n : Nat) (body : SemS) : SemF := fun ds st => match body (ds.map some ++ List.replicate (n - ds.length) none) st with
  | .nx _ st' => .ok .non st'
  | .rt d st' => .ok d st'
  | .er e _ st' => .er e st'
  | _ => .no
theorem start_env {g : Gd} {Z r : List Addr} {H : Hp} {N : List Str} {ds : List D} {vs : List V} (h : RepL g Z r H ds vs) : EnvR g Z r H (ds.map some ++ List.replicate (N.length - ds.length) none) (L2.start N vs) := by
  have hl := h.length
  refine ⟨by simp [L2.start, hl], fun i d e => ?_⟩
  by_cases hi : i < ds.length
  · rw [List.getElem?_append_left (by simpa using hi), List.getElem?_map] at e
    cases hd : ds[i]? with
    | none => rw [hd] at e; cases e
    | some d' =>
      rw [hd] at e; cases e
      obtain ⟨v, hv, q⟩ := h.get hd
      exact ⟨v, by unfold L2.start; rw [List.getElem?_append_left (by rw [List.length_map, ← hl]; exact hi), List.getElem?_map, hv]; rfl, q⟩
  · rw [List.getElem?_append_right (by simpa using hi)] at e
    rw [List.getElem?_replicate] at e
    split at e <;> cases e
theorem deeper_guards {A : Around} {env : Env} (h : A.guards = some []) : (A.deeper env).guards = some [] := by
  unfold Around.deeper
  first | exact h | simpa using h
/-- THE RULE of a def -/
theorem fnG_of {x qual : Str} {st : Stmt} {f : Addr} {fd : FuncData} {N ps : List Str} {k : Nat} {cl : Nat → Addr} {body : SemS} (F : Fun K x qual st f fd) (S : FnScope N ps (defScope st))
    (hbody : ∀ (cdv : Value) (A : Around) (outer : List Env) (s : Shared) (H : Hp) (E : XK), Room k (A.deeper (envOfC qual (defScope st) s.heap.objs.size f cdv)) → A.guards = some [] →
      SB (cxOf (L2.CX P w) P w K mg base N qual (defScope st) f cdv A outer s H E) cl (fun c d _ H' => E c d H') (defBody st) body) :
    FnG P w K mg base (k + 1) f fd ps (spF ⟨K, cl⟩ ps.length (runB N.length body)) := by
  refine ⟨fun vs H Q E h => h.1, fun A outer s H args us vs Q E hr hg e0 hb r h => ?_⟩
  obtain ⟨oc, od, kV, doc, pm, an, cdv, ct, osl, rfl, lk, hcd⟩ := F.ex
  obtain ⟨hlen, Z, ra, sta, ds, qd, R, h⟩ := h
  let X := cxOf (L2.CX P w) P w K mg base N qual (defScope st) f cdv A outer s H E
  have KX : K.In s.heap := e0.mod.kin.keeps fun b o e => (e0.bs b o e).1
  have lim : s.heap.NoLimit := e0.mod.nolimit.keeps fun b o e => (e0.bs b o e).1
  have hk : ∀ y ∈ ps.zip us, (defScope st).names.lookup y.1 = some .local ∨ ((defScope st).names.lookup y.1 = some .cell ∧ ((cellsFrom (s.heap.objs.size + 1) (defScope st).names []).lookup y.1).isSome = true) := by
    intro y hy
    obtain ⟨n, v⟩ := y
    rcases S.par n (List.of_mem_zip hy).1 with q | q
    · exact .inl q
    · exact .inr ⟨q, PySem.W.cellsFrom_some _ _ _ (.inl q)⟩
  refine codeAny_call_function hr.depth (KX _ _ lk) rfl S.co S.gen rfl (PySem.W.codeRec_of KX hcd) (hb _ _ _ _ ?_)
  refine wpAny_newFunctionEnv_cells S.kind hk fun env he s1 x1 => ?_
  subst he
  refine ⟨lim.keeps x1.toInCall.keep, codeAny_func ?_⟩
  have B := (hbody cdv A outer s H E (hr.deeper _) hg).run
  have I : L2.Inv X [] (L2.start N vs) H s1 := inv_start S hr.hd e0 hlen r x1
  have hq : rdS ⟨K, cl⟩ (fun c d _ H' => E c d H') body { nx := fun _ H' => Q .non H', rt := Q } (L2.start N vs) H := by
    refine ⟨Z, ra, _, sta, start_env qd, R, ?_⟩
    unfold runB at h
    split at h
    · rename_i env' st' hb'
      rw [hb']
      exact fun r' H' sg e R' _ => h r' H' .non e R' rfl
    · rename_i d st' hb'
      rw [hb']
      exact fun r' H' v e R' q => h r' H' v e R' q
    · rename_i e' env' st' hb'
      rw [hb']
      exact fun r' H' sg c d e R' _ q => h r' H' c d e R' q
    · exact h.elim
  refine wpAny_mono (B.run [] s1 (L2.start N vs) H _ I hq) (fun fl s' hs => ?_) fun e s' hs => hs
  cases fl with
  | ret u =>
    obtain ⟨v, sg', H', J, rv, q⟩ := hs
    exact ⟨v, H', J.os, J.bare, J.base, J.hok, rv, q⟩
  | next =>
    obtain ⟨sg', H', J, q⟩ := hs
    exact ⟨.non, H', J.os, J.bare, J.base, J.hok, rfl, q⟩
  | brk =>
    obtain ⟨_, _, _, q⟩ := hs
    exact False.elim q
  | cont =>
    obtain ⟨_, _, _, q⟩ := hs
    exact False.elim q
end
section
variable {X : Cx} {cl : Nat → Addr} {W : WX}
/-- a def, called -/
theorem calF_fn {k : Nat} {f : Addr} {fd : FuncData} {ps : List Str} {F : SemF} (hF : FnG X.prog X.w X.K X.mg X.base k f fd ps (spF ⟨X.K, cl⟩ ps.length F)) (hr : Room k X.A) (hg : X.A.guards = some []) (hb : L2.Binds X.K fd ps []) (tk : Takes X W)
    (hn : ∀ ds st, ds.length ≠ ps.length → F ds st = .no) : CalF X cl W (.ref f) F := by
  refine ⟨fun pins s sg H Q vs us I r h => ?_⟩
  obtain ⟨Z, ra, st, ds, qd, R, h⟩ := h
  have hl : vs.length = ps.length := by
    by_cases e : ds.length = ps.length
    · rw [← qd.length]; exact e
    · rw [hn ds st e] at h; exact h.elim
  have hl2 : (us ++ []).length = ps.length := by rw [List.append_nil, ← r.length]; exact hl
  have hbd := hb s us I.kIn hl2
  rw [List.append_nil] at hbd
  refine codeAny_mono (hF.run X.A X.stack s H ⟨us, []⟩ us vs Q (fun c d H' => W c d sg H') hr hg I.env0 hbd r ⟨hl, Z, ra, st, ds, qd, R, h⟩) fun rr s' hq => ?_
  cases rr with
  | error e => exact tk e s' (XE.of_call I (fun _ _ _ q => q) hq)
  | ok fl =>
    cases fl with
    | ret u => exact I.after hq
    | next => exact False.elim hq
    | brk => exact False.elim hq
    | cont => exact False.elim hq
/-- what lies around a new instance's __init__ -/
@[simp] def runInit (c : Nat) (F : SemF) : SemF := fun ds st => (F (.h st.length :: ds) (st ++ [.nd (.ins c []) []])).bind fun v st1 => match v with
  | .non => .ok (.h st.length) st1
  | _ => .no
theorem make_guards {A : Around} {C : Addr} {us : List Value} {kw : List (Str × Value)} (h : A.guards = some []) : (A.under (.builtin "type.__call__" ⟨.ref C :: us, kw⟩)).guards = some [] := by
  have e : (Code.builtin "type.__call__" ⟨.ref C :: us, kw⟩).guards = [] := by
    unfold Code.guards
    rw [if_neg]
    intro z
    revert z
    show ¬ (Code.isGuard _ = true)
    simp only [Code.isGuard]
    decide +kernel
  unfold Around.under
  simp only [e, h, pushGuards]
/-- C(..) of a class with an __init__ of its own -/
theorem calF_make {k : Nat} {f : Addr} {fd : FuncData} {ps : List Str} {F : SemF} (c : Nat) (M : Mk X.K (cl c) f) (hF : FnG X.prog X.w X.K X.mg X.base k f fd ps (spF ⟨X.K, cl⟩ ps.length F)) (hr : Room (k + 1) X.A) (hg : X.A.guards = some []) (hb : L2.Binds X.K fd ps []) (tk : Takes X W)
    (hn : ∀ ds st, ds.length ≠ ps.length → F ds st = .no) : CalF X cl W (.ref (cl c)) (runInit c F) := by
  refine ⟨fun pins s sg H Q vs us I r h => ?_⟩
  obtain ⟨Z, ra, st, ds, qd, R, h⟩ := h
  have hx : H (s.heap.objs.size + 1) = none := I.hok.fresh (Nat.le_succ _)
  have hdx : H s.heap.objs.size = none := I.hok.fresh (Nat.le_refl _)
  have ne : s.heap.objs.size ≠ s.heap.objs.size + 1 := Nat.ne_of_lt (Nat.lt_succ_self _)
  have I2 := Inv.made (C := cl c) I
  generalize hH2 : upd (upd H s.heap.objs.size (.own (s.heap.objs.size + 1))) (s.heap.objs.size + 1) (.ins (cl c) s.heap.objs.size []) = H2 at I2
  have hx1 : (upd H s.heap.objs.size (.own (s.heap.objs.size + 1))) (s.heap.objs.size + 1) = none := by rw [upd_ne (Ne.symm ne)]; exact hx
  have R1 : Rl ⟨X.K, cl⟩ Z ra (upd H s.heap.objs.size (.own (s.heap.objs.size + 1))) st := R.new hdx
  have e1 : Ext ra H ra (upd H s.heap.objs.size (.own (s.heap.objs.size + 1))) := Ext.new hdx
  have R2 : Rl ⟨X.K, cl⟩ Z (ra ++ [s.heap.objs.size + 1]) H2 (st ++ [.nd (.ins c []) []]) := by
    rw [← hH2]
    exact R1.grow hx1 (show HatM ⟨X.K, cl⟩ _ _ (.ins c []) [] from ⟨⟨rfl, List.nodup_nil⟩, _, upd_same⟩) rfl
  have e2 : Ext ra H (ra ++ [s.heap.objs.size + 1]) H2 := by
    rw [← hH2]
    exact e1.trans (Ext.grow hx1)
  have qh : Rep ⟨X.K, cl⟩ Z (ra ++ [s.heap.objs.size + 1]) H2 (.h st.length) (.ref (s.heap.objs.size + 1)) := ⟨_, rfl, by rw [← R.len]; simp⟩
  have qa : RepL ⟨X.K, cl⟩ Z (ra ++ [s.heap.objs.size + 1]) H2 (.h st.length :: ds) (.ref (s.heap.objs.size + 1) :: vs) := ⟨_, _, rfl, qh, RepL.ext e2 ds qd⟩
  have h' := Post.ext e2 h
  have hl : (V.ref (s.heap.objs.size + 1) :: vs).length = ps.length := by
    by_cases e : (D.h st.length :: ds).length = ps.length
    · rw [← qa.length]; exact e
    · dsimp only [runInit] at h
      rw [hn _ _ e] at h; exact h.elim
  have r2 : Vals (V.ref (s.heap.objs.size + 1) :: vs) (Value.ref (s.heap.objs.size + 1) :: us) := .cons rfl r
  have hl2 : ((Value.ref (s.heap.objs.size + 1) :: us) ++ []).length = ps.length := by rw [List.append_nil, ← r2.length]; exact hl
  have hbd := hb _ (Value.ref (s.heap.objs.size + 1) :: us) I2.kIn hl2
  rw [List.append_nil] at hbd
  have h2 : Post ⟨X.K, cl⟩ Z (ra ++ [s.heap.objs.size + 1]) H2 (RV ⟨X.K, cl⟩ Z) (F (.h st.length :: ds) (st ++ [.nd (.ins c []) []])) (fun v H' => v = .non ∧ Q (.ref (s.heap.objs.size + 1)) H') (fun cc d H' => W cc d sg H') := by
    refine Post.bind h' fun v st1 r1 H1 vv _ e3 R3 q3 h3 => ?_
    split at h3
    · exact ⟨q3, h3 r1 H1 _ (Ext.refl _ _) R3 (Rep.ext e3 (.h st.length) qh)⟩
    · exact h3.elim
  refine make_map (f := f) I.kIn M.makes M.init (beq_iff_eq.mp M.fn) (codeAny_mono (hF.run _ X.stack _ _ ⟨Value.ref (s.heap.objs.size + 1) :: us, []⟩ (Value.ref (s.heap.objs.size + 1) :: us) _ (fun v H' => v = .non ∧ Q (.ref (s.heap.objs.size + 1)) H') (fun cc d H' => W cc d sg H')
    (hr.make (cl c) us []) (make_guards hg) (I2.env0.make (cl c) us []) hbd r2 ⟨hl, Z, _, _, _, qa, R2, h2⟩) fun rr s' hq => ?_)
  cases rr with
  | error e => exact tk e s' (XE.of_call (σ := sg) I2 (fun _ _ _ q => q) hq)
  | ok fl =>
    cases fl with
    | ret u =>
      obtain ⟨v, H', I3, rv, ev, q3⟩ := I2.after hq
      subst ev
      exact ⟨rv, ⟨V.ref (s.heap.objs.size + 1), H', I3, rfl, q3⟩⟩
    | next => exact False.elim hq
    | brk => exact False.elim hq
    | cont => exact False.elim hq
end
end DY

set_option Elab.async false
set_option linter.all false
set_option maxRecDepth 100000
set_option maxHeartbeats 4000000
/-! What a def made is frozen when it is left. -/
namespace DY
open PySem PySem.Spec PyProof.Rows L2
mutual
def frzG (n0 : Nat) (dr : Nat → Option D) : D → Option D
  | .h k => if k < n0 then some (.h k) else dr k
  | .nd t xs => match frzGL n0 dr xs with
    | some ys => some (.nd t ys)
    | none => none
  | .non => some .non
  | .bl b => some (.bl b)
  | .int i => some (.int i)
  | .str s => some (.str s)
def frzGL (n0 : Nat) (dr : Nat → Option D) : List D → Option (List D)
  | [] => some []
  | d :: ds => match frzG n0 dr d, frzGL n0 dr ds with
    | some e, some es => some (e :: es)
    | _, _ => none
end
def frz : Nat → Nat → Store → D → Option D
  | 0, n0, _, d => frzG n0 (fun _ => none) d
  | n + 1, n0, st, d => frzG n0 (fun k => match st[k]? with
    | some c => frz n n0 st c
    | none => none) d
def frzL : Nat → Nat → Store → List D → Option (List D)
  | _, _, _, [] => some []
  | n, n0, st, d :: ds => match frz n n0 st d, frzL n n0 st ds with
    | some e, some es => some (e :: es)
    | _, _ => none
mutual
def hdB (n0 : Nat) : D → Bool
  | .h k => decide (k < n0)
  | .nd _ xs => hdBL n0 xs
  | _ => true
def hdBL (n0 : Nat) : List D → Bool
  | [] => true
  | d :: ds => hdB n0 d && hdBL n0 ds
end
/-- the things of before know none of the new ones -/
def CellsOk (st st' : Store) : Prop := st.length ≤ st'.length ∧ ∀ k d, k < st.length → st'[k]? = some d → st[k]? = some d ∨ hdB st.length d = true
noncomputable def frzF (F : SemF) : SemF := fun ds st => open Classical in match F ds st with
  | .ok d st' => if CellsOk st st' then (match frz 5 st.length st' d with
    | some d' => .ok d' (st'.take st.length)
    | none => .no) else .no
  | .er e st' => if CellsOk st st' then (match frzL 5 st.length st' e.xs with
    | some xs => .er ⟨e.c, e.ns, xs⟩ (st'.take st.length)
    | none => .no) else .no
  | .no => .no
section
variable {g : Gd} {Z r q : List Addr} {H : Hp} {st : Store}
mutual
theorem hdB_of : ∀ (d : D) {v : V}, Rep g Z r H d v → hdB r.length d = true
  | .h k, _, h => by
    obtain ⟨a, _, e⟩ := h
    simpa [hdB] using (List.getElem?_eq_some_iff.mp e).1
  | .nd t xs, _, h => by
    obtain ⟨a, vs, _, _, h2⟩ := h
    simpa [hdB] using hdBL_of xs h2
  | .non, _, _ => rfl
  | .bl _, _, _ => rfl
  | .int _, _, _ => rfl
  | .str _, _, _ => rfl
theorem hdBL_of : ∀ (ds : List D) {vs : List V}, RepL g Z r H ds vs → hdBL r.length ds = true
  | [], _, _ => rfl
  | d :: ds, _, h => by
    obtain ⟨v, q, _, h1, h2⟩ := h
    simp [hdBL, hdB_of d h1, hdBL_of ds h2]
end
theorem Nin.less {a : Addr} (h : Nin Z (r ++ q) a) : Nin Z r a := ⟨h.1, fun m => h.2 (List.mem_append_left _ m)⟩
theorem Hat.low {a : Addr} {t : Hd} {vs : List V} (h : Hat g Z (r ++ q) H a t vs) : Hat g Z r H a t vs := h.turn fun a n _ => n.less
mutual
theorem Rep.low : ∀ (d : D) {v : V}, hdB r.length d = true → Rep g Z (r ++ q) H d v → Rep g Z r H d v
  | .h k, _, b, h => by
    obtain ⟨a, e, e2⟩ := h
    have hk : k < r.length := by simpa [hdB] using b
    rw [List.getElem?_append_left hk] at e2
    exact ⟨a, e, e2⟩
  | .nd t xs, _, b, h => by
    obtain ⟨a, vs, e, h1, h2⟩ := h
    exact ⟨a, vs, e, h1.low, RepL.low xs (by simpa [hdB] using b) h2⟩
  | .non, _, _, h => h
  | .bl _, _, _, h => h
  | .int _, _, _, h => h
  | .str _, _, _, h => h
theorem RepL.low : ∀ (ds : List D) {vs : List V}, hdBL r.length ds = true → RepL g Z (r ++ q) H ds vs → RepL g Z r H ds vs
  | [], _, _, h => h
  | d :: ds, _, b, h => by
    obtain ⟨v, w, e, h1, h2⟩ := h
    simp only [hdBL, Bool.and_eq_true] at b
    exact ⟨v, w, e, Rep.low d b.1 h1, RepL.low ds b.2 h2⟩
end
mutual
theorem frzG_ok {dr : Nat → Option D} (hd : ∀ k d v, r.length ≤ k → dr k = some d → Rep g Z (r ++ q) H (.h k) v → Rep g Z r H d v) : ∀ (d : D) {d' : D} {v : V}, frzG r.length dr d = some d' → Rep g Z (r ++ q) H d v → Rep g Z r H d' v
  | .h k, d', v, e, h => by
    simp only [frzG] at e
    split at e
    · rename_i hk
      cases e
      exact Rep.low (.h k) (by simpa [hdB] using hk) h
    · rename_i hk
      exact hd k d' v (by omega) e h
  | .nd t xs, d', v, e, h => by
    simp only [frzG] at e
    split at e
    · rename_i ys e1
      cases e
      obtain ⟨a, vs, e2, h1, h2⟩ := h
      exact ⟨a, vs, e2, h1.low, frzGL_ok hd xs e1 h2⟩
    · cases e
  | .non, _, _, e, h => by cases e; exact h
  | .bl _, _, _, e, h => by cases e; exact h
  | .int _, _, _, e, h => by cases e; exact h
  | .str _, _, _, e, h => by cases e; exact h
theorem frzGL_ok {dr : Nat → Option D} (hd : ∀ k d v, r.length ≤ k → dr k = some d → Rep g Z (r ++ q) H (.h k) v → Rep g Z r H d v) : ∀ (ds : List D) {es : List D} {vs : List V}, frzGL r.length dr ds = some es → RepL g Z (r ++ q) H ds vs → RepL g Z r H es vs
  | [], _, _, e, h => by cases e; exact h
  | d :: ds, _, _, e, h => by
    simp only [frzGL] at e
    split at e
    · rename_i e' es e1 e2
      cases e
      obtain ⟨v, w, e3, h1, h2⟩ := h
      exact ⟨v, w, e3, frzG_ok hd d e1 h1, frzGL_ok hd ds e2 h2⟩
    · cases e
end
/-- a thing of the store as a frozen one -/
theorem HatM.frozen {a : Addr} {t : Hd} {vs : List V} (n : Nin Z r a) (h : HatM g H a t vs) : Hat g Z r H a t vs := by
  cases t with
  | lst => exact ⟨n, h⟩
  | tup => exact h.elim
  | scr => exact h.elim
  | ktp => exact h.elim
  | dk ks => exact ⟨n, h⟩
  | dt ks => exact ⟨n, h⟩
  | ins c ns => exact ⟨n, h⟩
theorem frz_cell (R : Rl g Z (r ++ q) H st) {dr : Nat → Option D} (hd : ∀ k d v, r.length ≤ k → dr k = some d → Rep g Z (r ++ q) H (.h k) v → Rep g Z r H d v) {k : Nat} {c d : D} {v : V} (hk : r.length ≤ k) (hc : st[k]? = some c) (e : frzG r.length dr c = some d) (h : Rep g Z (r ++ q) H (.h k) v) : Rep g Z r H d v := by
  obtain ⟨a, rfl, e2⟩ := h
  obtain ⟨b, eb, t, xs, vs, rfl, hm, hx⟩ := R.cell k c hc
  rw [e2] at eb; cases eb
  simp only [frzG] at e
  split at e
  · rename_i ys e1
    cases e
    have ha : a ∈ r ++ q := List.mem_of_getElem? e2
    have n : Nin Z r a := by
      refine ⟨fun m => (R.z a m).1 ha, fun m => ?_⟩
      obtain ⟨j, hj, ej⟩ := List.getElem_of_mem m
      obtain ⟨h1, e1⟩ := List.getElem?_eq_some_iff.mp e2
      have h2 : j < (r ++ q).length := by simp; omega
      have : (r ++ q)[j] = (r ++ q)[k] := by rw [e1, List.getElem_append_left hj]; exact ej
      have := (List.getElem_inj R.nd).mp this
      omega
    exact ⟨a, vs, rfl, hm.frozen n, frzGL_ok hd xs e1 hx⟩
  · cases e
theorem frz_ok (R : Rl g Z (r ++ q) H st) : ∀ (m : Nat) (d : D) {d' : D} {v : V}, frz m r.length st d = some d' → Rep g Z (r ++ q) H d v → Rep g Z r H d' v
  | 0, d, d', v, e, h => frzG_ok (fun k d v _ e _ => by cases e) d e h
  | m + 1, d, d', v, e, h => by
    refine frzG_ok (fun k d1 v1 hk e1 h1 => ?_) d e h
    cases hc : st[k]? with
    | none => rw [hc] at e1; cases e1
    | some c =>
      rw [hc] at e1
      cases m with
      | zero => exact frz_cell R (fun k d v _ e _ => by cases e) hk hc e1 h1
      | succ m =>
        refine frz_cell R (fun k d v hk e h => ?_) hk hc e1 h1
        have e' : frz (m + 1) r.length st (.h k) = some d := by
          show frzG _ _ (.h k) = _
          simp only [frzG]
          rw [if_neg (by omega)]
          exact e
        exact frz_ok R (m + 1) (.h k) e' h
theorem frzL_ok (R : Rl g Z (r ++ q) H st) (m : Nat) : ∀ (ds : List D) {es : List D} {vs : List V}, frzL m r.length st ds = some es → RepL g Z (r ++ q) H ds vs → RepL g Z r H es vs
  | [], _, _, e, h => by cases m <;> (cases e; exact h)
  | d :: ds, _, _, e, h => by
    simp only [frzL] at e
    split at e
    · rename_i e' es e1 e2
      cases e
      obtain ⟨v, w, e3, h1, h2⟩ := h
      exact ⟨v, w, e3, frz_ok R m d e1 h1, frzL_ok R m ds e2 h2⟩
    · cases e
/-- the store behind, cut back -/
theorem cut_back {H0 : Hp} {st0 : Store} (R0 : Rl g Z r H0 st0) (R : Rl g Z (r ++ q) H st) (c : CellsOk st0 st) : Rl g Z r H (st.take st0.length) := by
  have hl : st0.length ≤ st.length := c.1
  refine ⟨by rw [List.length_take, R0.len]; omega, (List.nodup_append.mp R.nd).1, fun a m => ?_, fun k d e => ?_⟩
  · obtain ⟨n, u⟩ := R.z a m
    exact ⟨fun m => n (List.mem_append_left _ m), u⟩
  · have hk : k < st0.length := by
      have := (List.getElem?_eq_some_iff.mp e).1
      simp at this; omega
    rw [List.getElem?_take, if_pos hk] at e
    obtain ⟨a, ea, t, xs, vs, rfl, hm, hx⟩ := R.cell k d e
    have hkr : k < r.length := by rw [R0.len]; exact hk
    rw [List.getElem?_append_left hkr] at ea
    have hb : hdBL r.length xs = true := by
      rcases c.2 k _ hk e with h | h
      · obtain ⟨a', _, t', xs', vs', ed, _, hx'⟩ := R0.cell k _ h
        cases ed
        exact hdBL_of xs hx'
      · rw [R0.len]; simpa [hdB] using h
    exact ⟨a, ea, t, xs, vs, rfl, hm, RepL.low xs hb hx⟩
theorem Ext.back {H' : Hp} (e : Ext r H (r ++ q) H') : Ext r H r H' := ⟨⟨[], by simp⟩, fun a o h n => ⟨(e.keep a o h n).1, n⟩⟩
theorem frz_post {F : SemF} {ds : List D} {Q : VK} {E : XK} (R0 : Rl g Z r H st) (h : Post g Z r H (RV g Z) (frzF F ds st) Q E) : Post g Z r H (RV g Z) (F ds st) Q E := by
  unfold frzF at h
  cases hF : F ds st with
  | ok d st' =>
    rw [hF] at h
    dsimp only at h
    split at h
    · rename_i hc
      split at h
      · rename_i d' hd
        intro r' H' v e R q0
        obtain ⟨q, rfl⟩ := e.pre
        rw [← R0.len] at hd
        exact h r H' v e.back (cut_back R0 R hc) (frz_ok R 5 d hd q0)
      · exact h.elim
    · exact h.elim
  | er x st' =>
    rw [hF] at h
    dsimp only at h
    split at h
    · rename_i hc
      split at h
      · rename_i xs hd
        intro r' H' cls d e R q0
        obtain ⟨q, rfl⟩ := e.pre
        rw [← R0.len] at hd
        refine h r H' cls d e.back (cut_back R0 R hc) ?_
        obtain ⟨q1, q2⟩ := q0
        refine ⟨q1, ?_⟩
        rcases q2 with ⟨e1, e2, e3⟩ | ⟨dx, vs, e1, e2, n, e3, e4⟩
        · left
          rw [e3] at hd
          cases hd
          exact ⟨e1, e2, rfl⟩
        · right
          exact ⟨dx, vs, e1, e2, n.less, e3, frzL_ok R 5 _ hd e4⟩
      · exact h.elim
    · exact h.elim
  | no => rw [hF] at h; exact h
end
section
variable {P : Program} {w : World} {K : PySem.W.Frag} {mg : Str → Option Value} {base : Heap}
theorem FnG.imp {k : Nat} {f : Addr} {fd : FuncData} {ps : List Str} {sp sp' : Sp} (F : FnG P w K mg base k f fd ps sp) (h : ∀ vs H Q E, sp' vs H Q E → sp vs H Q E) : FnG P w K mg base k f fd ps sp' :=
  ⟨fun vs H Q E q => F.len vs H Q E (h vs H Q E q), fun A outer s H args us vs Q E hr hg e0 hb r q => F.run A outer s H args us vs Q E hr hg e0 hb r (h vs H Q E q)⟩
theorem FnG.frz {k : Nat} {f : Addr} {fd : FuncData} {ps : List Str} {g : Gd} {n : Nat} {F : SemF} (h : FnG P w K mg base k f fd ps (spF g n F)) : FnG P w K mg base k f fd ps (spF g n (frzF F)) :=
  h.imp fun vs H Q E ⟨hl, Z, r, st, ds, qd, R, q⟩ => ⟨hl, Z, r, st, ds, qd, R, frz_post R q⟩
theorem FnG.mono {j k : Nat} {f : Addr} {fd : FuncData} {ps : List Str} {sp : Sp} (F : FnG P w K mg base j f fd ps sp) (h : j ≤ k) : FnG P w K mg base k f fd ps sp :=
  ⟨F.len, fun A outer s H args us vs Q E hr => F.run A outer s H args us vs Q E (hr.mono h)⟩
/-- nothing is promised -/
theorem FnG.none {k : Nat} {f : Addr} {fd : FuncData} {ps : List Str} {g : Gd} : FnG P w K mg base k f fd ps (spF g ps.length fun _ _ => .no) :=
  ⟨fun vs H Q E h => h.1, fun A outer s H args us vs Q E _ _ _ _ _ ⟨_, _, _, _, _, _, _, q⟩ => q.elim⟩
end
section
variable {X : Cx} {cl : Nat → Addr} {W : WX} {u : Value} {F : SemF}
/-- what a new thing is, frozen -/
theorem CalF.frz (h : CalF X cl W u F) : CalF X cl W u (frzF F) := ⟨fun pins s sg H Q vs us I r ⟨Z, ra, st, ds, qd, R, q⟩ => h.code pins s sg H Q vs us I r ⟨Z, ra, st, ds, qd, R, frz_post R q⟩⟩
end
end DY

set_option Elab.async false
set_option linter.all false
set_option maxRecDepth 100000
set_option maxHeartbeats 4000000
/-! Built-in functions and methods; static methods, operators and calls of instances. -/
namespace DY
open PySem PySem.Spec PyProof.Rows L2

section
variable {X : Cx} {cl : Nat → Addr} {W : WX} {pos : Pos} {x : Str} {p apos : Pos} {e o : Expr} {es : List Expr} {fa : SemA} {fo fe : SemE} {F : SemF}
/-! ### C.m(e, ..), m a static method -/
structure StM (K : PySem.W.Frag) (C : Addr) (m : Str) (f : Addr) : Prop where
  ga : PySem.W.specialIn K (.ref C) "__getattribute__" = some (some (.builtin "type.__getattribute__"))
  rd : ∃ mc obj q rest, PySem.W.readsIn K C mc = true ∧ PySem.W.findCls K (.ref C) mc m = some (.get (.builtin "staticmethod.__get__") (.ref q) obj (.ref C)) ∧ PySem.W.recIn K q "staticmethod" = some (.ref f :: rest)
  kp : PySem.W.keepIn K (.ref f) = true
theorem stm_get {pins : List (Addr × Obj)} {sg : L2.St} {H : Hp} {s : Shared} {C f : Addr} {m : Str} {pl : Sem Bool} {A : Around} {E : Value → Shared → Prop} {Q : Value × List Value → Shared → Prop} (I : L2.Inv X pins sg H s) (T : StM X.K C m f)
    (h : ∀ s', L2.Inv X pins sg H s' → Q (.ref f, []) s') : wpAny (model X.prog X.w) A (getMethod (.ref C) m pl) Q E s := by
  obtain ⟨mc, obj, q, rest, h1, h2, h3⟩ := T.rd
  refine PySem.W.method_cls I.kIn T.ga (PySem.W.cls_bind I.kIn h1 h2 (wpAny_call (PySem.W.sm_get (s := { s with toks := s.toks + 1 }) I.kIn h3 (PySem.W.handed_on rfl (h _ (I.tok _))))))
theorem se_static {C f : Addr} {m : Str} {p0 : Pos} {pl : Sem Bool} (T : StM X.K C m f) (hF : CalF X cl W (.ref f) F) (hm : X.mg x = some (.ref C)) (ha : SA X cl W (e :: es) fa) (hg : Gl X x := by rfl) (hdb : (x == ("__debug__" : Str)) = false := by decide +kernel)
    (hst : starEach (e :: es) X.env = (false, eval e X.env) :: starEach es X.env := by rfl) (hpl : (backTo pos (starEach es X.env)).any (·.1) = false := by rfl)
    (ht : eval (.Call (.Attribute (.Name x p0) m apos) (e :: es) [] pos) X.env = (do
      let ov ← eval (.Name x p0) X.env
      standAt apos.atName
      let (f, first) ← holding [ov] (getMethod ov m pl)
      callWith pos f first (backTo pos (starEach (e :: es) X.env)) (backToKw pos (keywordEach [] X.env))) := by rfl) : SE X cl W (.Call (.Attribute (.Name x p0) m apos) (e :: es) [] pos) (dCall F fa) := by
  refine ⟨⟨fun pins s sg H Q I h => ?_⟩⟩
  have h' : rdA ⟨X.K, cl⟩ W fa sg H fun vs H1 => rdC ⟨X.K, cl⟩ W F vs sg H1 Q := by
    obtain ⟨Z, r, env, st, E, R, h⟩ := h
    exact ⟨Z, r, env, st, E, R, Post.bind h fun ds st1 r1 H1 vs _ e1 R1 q1 h1 => ⟨Z, r1, st1, ds, q1, R1, h1⟩⟩
  refine PySem.W.methodCall_KW (pl := pl) (ld_glob I hg hm ?_ hdb) ht
  refine stm_get I T fun s1 I1 => ?_
  refine PySem.W.callWith_K (first := []) (h₀ := X.base) I1.ok.mod.kin T.kp (thn (ha.run.run pos pins s1 sg H _ I1 h') fun us s2 ⟨vs, H2, I2, rv, q⟩ => ⟨I2.kIn, ?_⟩) hst hpl
  exact hF.run pins s2 sg H2 Q vs us I2 rv q

/-! ### an operator of one's own -/
/-- one operator of instances of the class c -/
structure OwnOp (K : PySem.W.Frag) (C : Addr) (op : Operator) (f : Addr) : Prop where
  first : PySem.W.selfFirst K C = true
  at_ : PySem.W.findIn K (.ref C) (PySem.dunder op.info.2) = some (some (.ref f))
  fn : PySem.W.isFn K (.ref f) = true
@[simp] def dOwn (c : Nat) (F : SemF) : D → D → Store → Res D := fun x y st => match seen st x, seen st y with
  | some (.ins c1 _, _), some (.ins c2 _, _) => if c1 = c ∧ c2 = c then (match F [x, y] st with
    | .ok (.nd t xs) st' => .ok (.nd t xs) st'
    | .ok _ _ => .no
    | q => q) else .no
  | _, _ => .no
theorem inst_of {pins : List (Addr × Obj)} {sg : L2.St} {H : Hp} {s : Shared} {a C dx : Addr} {fs : List (Str × V)} (I : L2.Inv X pins sg H s) (h : H a = some (.ins C dx fs)) : ∃ ox od, PySem.W.InstAt s.heap a ox C od ∧ ox.data = .plain := by
  obtain ⟨mA, O, _⟩ := ins_get I.hok h
  obtain ⟨od, J, _⟩ := O.look
  exact ⟨_, _, J, rfl⟩
theorem se_own {op : Operator} {f : Addr} {a b : Expr} {fb : SemE} (c : Nat) (O : OwnOp X.K (cl c) op f) (hF : CalF X cl W (.ref f) F) (ha : SE X cl W a fo) (hb : SE X cl W b fb)
    : SE X cl W (.BinOp a op b pos) (dBin (dOwn c F) fo fb) := by
  refine ⟨⟨fun pins s sg H Q I h => ?_⟩⟩
  have h' : rdE ⟨X.K, cl⟩ W fo sg H fun x H1 => rdE ⟨X.K, cl⟩ W fb sg H1 fun y H2 => ∃ p q dx fs dy gs, x = .ref p ∧ y = .ref q ∧ H2 p = some (.ins (cl c) dx fs) ∧ H2 q = some (.ins (cl c) dy gs) ∧ rdC ⟨X.K, cl⟩ W F [x, y] sg H2 (fun v H3 => (∃ a, v = .ref a) ∧ Q v H3) := by
    obtain ⟨Z, r, env, st, E, R, h⟩ := h
    refine ⟨Z, r, env, st, E, R, Post.bind h fun x st1 r1 H1 v _ e1 R1 q1 h1 => ?_⟩
    refine ⟨Z, r1, env, st1, E.ext e1, R1, Post.bind h1 fun y st2 r2 H2 u _ e2 R2 q2 h2 => ?_⟩
    have qx := Rep.ext e2 x q1
    dsimp only [dOwn] at h2
    split at h2
    · rename_i c1 n1 v1 c2 n2 v2 hs1 hs2
      split at h2
      · rename_i hc
        obtain ⟨rfl, rfl⟩ := hc
        obtain ⟨p, us, rfl, _, s1⟩ := seen_ok R2 qx hs1
        obtain ⟨q, ws, rfl, _, s2⟩ := seen_ok R2 q2 hs2
        obtain ⟨_, dx, hp⟩ := ins_at s1
        obtain ⟨_, dy, hq⟩ := ins_at s2
        refine ⟨p, q, dx, _, dy, _, rfl, rfl, hp, hq, Z, r2, st2, [x, y], ⟨_, _, rfl, qx, _, _, rfl, q2, rfl⟩, R2, ?_⟩
        cases hf : F [x, y] st2 with
        | no => rw [hf] at h2; exact h2
        | er ex st3 => rw [hf] at h2; exact h2
        | ok d st3 =>
          rw [hf] at h2
          cases d with
          | nd t xs => exact fun r3 H3 w e3 R3 q3 => ⟨let ⟨a, _, e, _⟩ := q3; ⟨a, e⟩, h2 r3 H3 w e3 R3 q3⟩
          | non => exact h2.elim
          | bl b => exact h2.elim
          | int i => exact h2.elim
          | str z => exact h2.elim
          | h k => exact h2.elim
      · exact h2.elim
    · exact h2.elim
  refine wpAny_BinOp (binT ha.run hb.run I h' fun v u s2 xv yv H2 I2 rx ry q => ?_)
  obtain ⟨p, q, dx, fs, dy, gs, rfl, rfl, hp, hq, hc⟩ := q
  obtain rfl : v = .ref p := rx
  obtain rfl : u = .ref q := ry
  obtain ⟨ox, od, J, _⟩ := inst_of I2 hp
  obtain ⟨oy, od', J', _⟩ := inst_of I2 hq
  obtain ⟨m, Fm⟩ := I2.fr
  refine PySem.W.binop_K Fm I2.ok.mod.kin J (by exact J'.type) O.first O.at_ O.fn (wpAny_mono (hF.run pins s2 sg H2 _ [.ref p, .ref q] [.ref p, .ref q] I2 (.cons rfl (.cons rfl .nil)) hc) (fun w s3 hw => ?_) fun _ _ z => z)
  obtain ⟨v3, H3, I3, rv, ⟨a, rfl⟩, hq3⟩ := hw
  obtain rfl : w = .ref a := rv
  exact ⟨.ref a, H3, I3, rfl, hq3⟩

/-! ### an instance, called -/
@[simp] def dCallI (c : Nat) (F : SemF) (fo : SemE) (fa : SemA) : SemE := fun env st => (fo env st).bind fun x st1 => match seen st1 x with
  | some (.ins c1 _, _) => (fa env st1).bind fun ds st2 => match seen st2 x with
    | some (.ins c' _, _) => if c' = c then F (x :: ds) st2 else .no
    | _ => .no
  | _ => .no
theorem se_callI {f : Addr} (c : Nat) (O : StX.CallO X.K (cl c) f) (hF : CalF X cl W (.ref f) F) (ho : SE X cl W o fo) (ha : SA X cl W (e :: es) fa)
    (ht : eval (.Call o (e :: es) [] pos) X.env = (do callWith pos (← eval o X.env) [] (backTo pos (starEach (e :: es) X.env)) (backToKw pos (keywordEach [] X.env))) := by rfl)
    (he : starEach (e :: es) X.env = (false, eval e X.env) :: starEach es X.env := by rfl) (hpl : (backTo pos (starEach es X.env)).any (·.1) = false := by rfl) : SE X cl W (.Call o (e :: es) [] pos) (dCallI c F fo fa) := by
  refine ⟨⟨fun pins s sg H Q I h => ?_⟩⟩
  have h' : rdE ⟨X.K, cl⟩ W fo sg H fun x H1 => (∃ a, x = .ref a) ∧ rdA ⟨X.K, cl⟩ W fa sg H1 fun vs H2 => ∃ a dx fs, x = .ref a ∧ H2 a = some (.ins (cl c) dx fs) ∧ rdC ⟨X.K, cl⟩ W F (x :: vs) sg H2 Q := by
    obtain ⟨Z, r, env, st, E, R, h⟩ := h
    refine ⟨Z, r, env, st, E, R, Post.bind h fun x st1 r1 H1 v _ e1 R1 q1 h1 => ?_⟩
    split at h1
    · rename_i c1 n1 v1 hs1
      obtain ⟨a, us, ev, _, s1⟩ := seen_ok R1 q1 hs1
      refine ⟨⟨a, ev⟩, Z, r1, env, st1, E.ext e1, R1, Post.bind h1 fun ds st2 r2 H2 vs _ e2 R2 q2 h2 => ?_⟩
      have qx := Rep.ext e2 x q1
      split at h2
      · rename_i c' ns xs hs
        split at h2
        · rename_i hc
          subst hc
          obtain ⟨a, us, rfl, _, s1⟩ := seen_ok R2 qx hs
          obtain ⟨_, dx, hp⟩ := ins_at s1
          exact ⟨a, dx, _, rfl, hp, Z, r2, st2, x :: ds, ⟨_, _, rfl, qx, q2⟩, R2, h2⟩
        · exact h2.elim
      · exact h2.elim
    · exact h1.elim
  refine PyProof.Rows.Call_ (thn (ho.run.run pins s sg H _ I h') fun u s1 ⟨y, H1, I1, ry, ⟨a, ey⟩, q⟩ => ?_) ht
  subst ey
  obtain rfl : u = Value.ref a := ry
  refine StX.callO_with (thn (ha.run.run pos pins s1 sg H1 _ I1 q) fun us s2 ⟨vs, H2, I2, rv, b, dx, fs, eb, hb, q2⟩ => ?_) he hpl
  cases eb
  obtain ⟨ox, od, J, hd⟩ := inst_of I2 hb
  refine ⟨⟨_, ox, od, J, hd⟩, wp_code (PySem.W.kco_code I2.kIn J hd O.at_ O.fn O.fi ?_)⟩
  exact hF.code pins s2 sg H2 Q (.ref a :: vs) (.ref a :: us) I2 (.cons rfl rv) q2

/-! ### built-in functions -/
structure CS (X : Cx) (cl : Nat → Addr) (f : Value) (op : SemF) : Prop where
  ex : ∃ rr : List V → Hp → VK → Prop, CallR X f rr ∧ ∀ {Z r : List Addr} {H : Hp} {st : Store} {ds : List D} {vs : List V} {Q : VK} {W' : Value → Option Addr → Hp → Prop}, Rl ⟨X.K, cl⟩ Z r H st → RepL ⟨X.K, cl⟩ Z r H ds vs →
    Post ⟨X.K, cl⟩ Z r H (RV ⟨X.K, cl⟩ Z) (op ds st) Q W' → rr vs H Q
theorem rd_callB {rr : List V → Hp → VK → Prop} {op : SemF} (hop : ∀ {Z r : List Addr} {H : Hp} {st : Store} {ds : List D} {vs : List V} {Q : VK} {W' : Value → Option Addr → Hp → Prop}, Rl ⟨X.K, cl⟩ Z r H st → RepL ⟨X.K, cl⟩ Z r H ds vs →
    Post ⟨X.K, cl⟩ Z r H (RV ⟨X.K, cl⟩ Z) (op ds st) Q W' → rr vs H Q) (sg : L2.St) (H : Hp) (Q : VK) (h : rdE ⟨X.K, cl⟩ W (dCall op fa) sg H Q) : tCB rr (rdA ⟨X.K, cl⟩ W fa) sg H Q := by
  obtain ⟨Z, r, env, st, E, R, h⟩ := h
  exact ⟨Z, r, env, st, E, R, Post.bind h fun ds st1 r1 H1 vs _ e1 R1 q1 h1 => hop R1 q1 h1⟩
theorem se_callB {id : String} {op : SemF} (hc : CS X cl (.builtin id) op) (hm : X.mg x = none) (hv : bootBuiltins x = some (.builtin id)) (ha : SA X cl W (e :: es) fa) (hg : Gl X x := by rfl) (hn : x ≠ "__name__" := by decide +kernel) (hdb : (x == ("__debug__" : Str)) = false := by decide +kernel)
    (he : starEach (e :: es) X.env = (false, eval e X.env) :: starEach es X.env := by rfl) (hpl : (backTo pos (starEach es X.env)).any (·.1) = false := by rfl) : SE X cl W (.Call (.Name x p) (e :: es) [] pos) (dCall op fa) := by
  obtain ⟨rr, h1, h2⟩ := hc.ex
  exact ⟨(pe_callB h1 hg hm hv ha.run hn hdb he hpl).imp (rd_callB h2)⟩
theorem se_callT {T : String} {op : SemF} (hc : CS X cl (.type T) op) (hm : X.mg x = none) (hv : bootBuiltins x = some (.type T)) (ha : SA X cl W (e :: es) fa) (hg : Gl X x := by rfl) (hn : x ≠ "__name__" := by decide +kernel) (hdb : (x == ("__debug__" : Str)) = false := by decide +kernel)
    (he : starEach (e :: es) X.env = (false, eval e X.env) :: starEach es X.env := by rfl) (hpl : (backTo pos (starEach es X.env)).any (·.1) = false := by rfl) : SE X cl W (.Call (.Name x p) (e :: es) [] pos) (dCall op fa) := by
  obtain ⟨rr, h1, h2⟩ := hc.ex
  exact ⟨(pe_callTy h1 hg hm hv ha.run hn hdb he hpl).imp (rd_callB h2)⟩
/-- len -/
def dLen : SemF := fun ds st => match ds with
  | [x] => match seq? st x with
    | some xs => .ok (.int xs.length) st
    | none => match x with
      | .str z => if z.length ≤ szL then .ok (.int z.length) st else .no
      | _ => .no
  | _ => .no
theorem cs_len : CS X cl (.builtin "len") dLen := by
  refine ⟨_, call_len_seq.or call_len_str, fun {Z r H st ds vs Q W'} R qd h => ?_⟩
  unfold dLen at h
  split at h
  · rename_i d
    obtain ⟨v, q, rfl, a1, rfl⟩ := qd
    split at h
    · rename_i xs hs
      obtain ⟨a, us, rfl, q, s⟩ := seq_ok R a1 hs
      exact .inl ⟨a, us, rfl, s, by rw [← q.length]; exact post_ok h R rfl⟩
    · split at h
      · rename_i z _
        split at h
        · rename_i hz
          exact .inr ⟨z, by rw [show v = .str z from a1], hz, post_ok h R rfl⟩
        · exact h.elim
      · exact h.elim
  · exact h.elim
def ints? : List D → Option (List Int)
  | [] => some []
  | .int i :: ds => match ints? ds with
    | some is => some (i :: is)
    | none => none
  | _ => none
theorem ints_ok {g : Gd} {Z r : List Addr} {H : Hp} : ∀ {ds : List D} {vs : List V} {is : List Int}, ints? ds = some is → RepL g Z r H ds vs → vs = is.map V.int
  | [], _, _, e, h => by cases e; exact h
  | .int i :: ds, _, _, e, h => by
    simp only [ints?] at e
    split at e
    · rename_i is e1
      cases e
      obtain ⟨v, q, rfl, a1, h2⟩ := h
      rw [show v = .int i from a1, ints_ok e1 h2]; rfl
    · cases e
  | .non :: _, _, _, e, _ => by cases e
  | .bl _ :: _, _, _, e, _ => by cases e
  | .str _ :: _, _, _, e, _ => by cases e
  | .h _ :: _, _, _, e, _ => by cases e
  | .nd _ _ :: _, _, _, e, _ => by cases e
/-- the greatest, the least of a list that is not empty -/
def mxL : List Int → Int
  | [] => 0
  | [a] => a
  | a :: b :: r => max a (mxL (b :: r))
def mnL : List Int → Int
  | [] => 0
  | [a] => a
  | a :: b :: r => min a (mnL (b :: r))
theorem mxL_ge : ∀ (l : List Int) (x : Int), x ∈ l → x ≤ mxL l
  | [a], x, h => by simp at h; subst h; simp [mxL]
  | a :: b :: r, x, h => by
    rcases List.mem_cons.mp h with rfl | h
    · simp only [mxL]; omega
    · have := mxL_ge (b :: r) x h
      simp only [mxL]; omega
theorem mxL_mem : ∀ (l : List Int), l ≠ [] → mxL l ∈ l
  | [a], _ => by simp [mxL]
  | a :: b :: r, _ => by
    have := mxL_mem (b :: r) (by simp)
    simp only [mxL]
    rcases Int.le_total a (mxL (b :: r)) with h | h
    · rw [Int.max_eq_right h]; exact List.mem_cons_of_mem _ this
    · rw [Int.max_eq_left h]; exact List.mem_cons_self
theorem mnL_le : ∀ (l : List Int) (x : Int), x ∈ l → mnL l ≤ x
  | [a], x, h => by simp at h; subst h; simp [mnL]
  | a :: b :: r, x, h => by
    rcases List.mem_cons.mp h with rfl | h
    · simp only [mnL]; omega
    · have := mnL_le (b :: r) x h
      simp only [mnL]; omega
theorem mnL_mem : ∀ (l : List Int), l ≠ [] → mnL l ∈ l
  | [a], _ => by simp [mnL]
  | a :: b :: r, _ => by
    have := mnL_mem (b :: r) (by simp)
    simp only [mnL]
    rcases Int.le_total a (mnL (b :: r)) with h | h
    · rw [Int.min_eq_left h]; exact List.mem_cons_self
    · rw [Int.min_eq_right h]; exact List.mem_cons_of_mem _ this
def dMax : SemF := fun ds st => match ds with
  | [.int i, .int j] => .ok (.int (if j > i then j else i)) st
  | [x] => match (lst? st x).bind ints? with
    | some (i :: is) => .ok (.int (mxL (i :: is))) st
    | _ => .no
  | _ => .no
def dMin : SemF := fun ds st => match ds with
  | [.int i, .int j] => .ok (.int (if j < i then j else i)) st
  | [x] => match (lst? st x).bind ints? with
    | some (i :: is) => .ok (.int (mnL (i :: is))) st
    | _ => .no
  | _ => .no
theorem cs_max (hc : X.calm = true) : CS X cl (.builtin "max") dMax := by
  refine ⟨_, (call_max2 hc).or (cr_max hc), fun {Z r H st ds vs Q W'} R qd h => ?_⟩
  unfold dMax at h
  split at h
  · rename_i i j
    obtain ⟨v, q, rfl, a1, w, q', rfl, a2, rfl⟩ := qd
    exact .inl ⟨i, j, by rw [show v = .int i from a1, show w = .int j from a2], post_ok h R rfl⟩
  · rename_i d
    obtain ⟨v, q, rfl, a1, rfl⟩ := qd
    cases hl : lst? st d with
    | none => rw [hl] at h; exact h.elim
    | some xs =>
      rw [hl] at h
      obtain ⟨a, us, rfl, q, s⟩ := lst_ok R a1 hl
      cases hi : ints? xs with
      | none => rw [Option.bind_some, hi] at h; exact h.elim
      | some is =>
        rw [Option.bind_some, hi] at h
        cases is with
        | nil => exact h.elim
        | cons i is =>
          have := ints_ok hi q
          subst this
          refine .inr ⟨a, i :: is, rfl, s, by simp, fun m hm hge => ?_⟩
          have e : m = mxL (i :: is) := Int.le_antisymm (mxL_ge _ m hm) (hge _ (mxL_mem _ (by simp)))
          rw [e]; exact post_ok h R rfl
  · exact h.elim
theorem cs_min (hc : X.calm = true) : CS X cl (.builtin "min") dMin := by
  refine ⟨_, (call_min2 hc).or (cr_min hc), fun {Z r H st ds vs Q W'} R qd h => ?_⟩
  unfold dMin at h
  split at h
  · rename_i i j
    obtain ⟨v, q, rfl, a1, w, q', rfl, a2, rfl⟩ := qd
    exact .inl ⟨i, j, by rw [show v = .int i from a1, show w = .int j from a2], post_ok h R rfl⟩
  · rename_i d
    obtain ⟨v, q, rfl, a1, rfl⟩ := qd
    cases hl : lst? st d with
    | none => rw [hl] at h; exact h.elim
    | some xs =>
      rw [hl] at h
      obtain ⟨a, us, rfl, q, s⟩ := lst_ok R a1 hl
      cases hi : ints? xs with
      | none => rw [Option.bind_some, hi] at h; exact h.elim
      | some is =>
        rw [Option.bind_some, hi] at h
        cases is with
        | nil => exact h.elim
        | cons i is =>
          have := ints_ok hi q
          subst this
          refine .inr ⟨a, i :: is, rfl, s, by simp, fun m hm hge => ?_⟩
          have e : m = mnL (i :: is) := Int.le_antisymm (hge _ (mnL_mem _ (by simp))) (mnL_le _ m hm)
          rw [e]; exact post_ok h R rfl
  · exact h.elim
def dAbs : SemF := fun ds st => match ds with
  | [.int i] => .ok (.int (if i < 0 then -i else i)) st
  | _ => .no
theorem cs_abs : CS X cl (.builtin "abs") dAbs := by
  refine ⟨_, call_abs, fun {Z r H st ds vs Q W'} R qd h => ?_⟩
  unfold dAbs at h
  split at h
  · rename_i i
    obtain ⟨v, q, rfl, a1, rfl⟩ := qd
    exact ⟨i, by rw [show v = .int i from a1], post_ok h R rfl⟩
  · exact h.elim
def dInt : SemF := fun ds st => match ds with
  | [.int i] => .ok (.int i) st
  | _ => .no
theorem cs_int : CS X cl (.type "int") dInt := by
  refine ⟨_, call_int1, fun {Z r H st ds vs Q W'} R qd h => ?_⟩
  unfold dInt at h
  split at h
  · rename_i i
    obtain ⟨v, q, rfl, a1, rfl⟩ := qd
    exact .inl ⟨i, by rw [show v = .int i from a1], post_ok h R rfl⟩
  · exact h.elim
def dStr : SemF := fun ds st => match ds with
  | [.int i] => if i.natAbs.log2 < 1920 then .ok (.str (toString i)) st else .no
  | _ => .no
theorem cs_str : CS X cl (.type "str") dStr := by
  refine ⟨_, call_str_int, fun {Z r H st ds vs Q W'} R qd h => ?_⟩
  unfold dStr at h
  split at h
  · rename_i i
    obtain ⟨v, q, rfl, a1, rfl⟩ := qd
    split at h
    · rename_i hl
      exact ⟨i, by rw [show v = .int i from a1], hl, post_ok h R rfl⟩
    · exact h.elim
  · exact h.elim
def dSum : SemF := fun ds st => match ds with
  | [x] => match (lst? st x).bind ints? with
    | some is => .ok (.int is.sum) st
    | _ => .no
  | _ => .no
theorem cs_sum (hc : X.calm = true) : CS X cl (.builtin "sum") dSum := by
  refine ⟨_, cr_sum hc, fun {Z r H st ds vs Q W'} R qd h => ?_⟩
  unfold dSum at h
  split at h
  · rename_i d
    obtain ⟨v, q, rfl, a1, rfl⟩ := qd
    cases hl : lst? st d with
    | none => rw [hl] at h; exact h.elim
    | some xs =>
      rw [hl] at h
      obtain ⟨a, us, rfl, q, s⟩ := lst_ok R a1 hl
      cases hi : ints? xs with
      | none => rw [Option.bind_some, hi] at h; exact h.elim
      | some is =>
        rw [Option.bind_some, hi] at h
        have := ints_ok hi q
        subst this
        exact ⟨a, is, rfl, s, post_ok h R rfl⟩
  · exact h.elim
def bools? : List D → Option (List Bool)
  | [] => some []
  | .bl i :: ds => match bools? ds with
    | some is => some (i :: is)
    | none => none
  | _ => none
theorem bools_ok {g : Gd} {Z r : List Addr} {H : Hp} : ∀ {ds : List D} {vs : List V} {is : List Bool}, bools? ds = some is → RepL g Z r H ds vs → vs = is.map V.bl
  | [], _, _, e, h => by cases e; exact h
  | .bl i :: ds, _, _, e, h => by
    simp only [bools?] at e
    split at e
    · rename_i is e1
      cases e
      obtain ⟨v, q, rfl, a1, h2⟩ := h
      rw [show v = .bl i from a1, bools_ok e1 h2]; rfl
    · cases e
  | .non :: _, _, _, e, _ => by cases e
  | .int _ :: _, _, _, e, _ => by cases e
  | .str _ :: _, _, _, e, _ => by cases e
  | .h _ :: _, _, _, e, _ => by cases e
  | .nd _ _ :: _, _, _, e, _ => by cases e
def dAll : SemF := fun ds st => match ds with
  | [x] => match (lst? st x).bind bools? with
    | some is => .ok (.bl (is.all id)) st
    | _ => .no
  | _ => .no
def dAny : SemF := fun ds st => match ds with
  | [x] => match (lst? st x).bind bools? with
    | some is => .ok (.bl (is.any id)) st
    | _ => .no
  | _ => .no
theorem cs_all (hc : X.calm = true) : CS X cl (.builtin "all") dAll := by
  refine ⟨_, cr_all hc, fun {Z r H st ds vs Q W'} R qd h => ?_⟩
  unfold dAll at h
  split at h
  · rename_i d
    obtain ⟨v, q, rfl, a1, rfl⟩ := qd
    cases hl : lst? st d with
    | none => rw [hl] at h; exact h.elim
    | some xs =>
      rw [hl] at h
      obtain ⟨a, us, rfl, q, s⟩ := lst_ok R a1 hl
      cases hi : bools? xs with
      | none => rw [Option.bind_some, hi] at h; exact h.elim
      | some is =>
        rw [Option.bind_some, hi] at h
        have := bools_ok hi q
        subst this
        exact ⟨a, is, rfl, s, post_ok h R rfl⟩
  · exact h.elim
theorem cs_any (hc : X.calm = true) : CS X cl (.builtin "any") dAny := by
  refine ⟨_, cr_any hc, fun {Z r H st ds vs Q W'} R qd h => ?_⟩
  unfold dAny at h
  split at h
  · rename_i d
    obtain ⟨v, q, rfl, a1, rfl⟩ := qd
    cases hl : lst? st d with
    | none => rw [hl] at h; exact h.elim
    | some xs =>
      rw [hl] at h
      obtain ⟨a, us, rfl, q, s⟩ := lst_ok R a1 hl
      cases hi : bools? xs with
      | none => rw [Option.bind_some, hi] at h; exact h.elim
      | some is =>
        rw [Option.bind_some, hi] at h
        have := bools_ok hi q
        subst this
        exact ⟨a, is, rfl, s, post_ok h R rfl⟩
  · exact h.elim
/-- list(x), tuple(x) -/
def dList : SemF := fun ds st => match ds with
  | [x] => match seq? st x with
    | some xs => .ok (.nd .lst xs) st
    | none => .no
  | _ => .no
def dListM : SemF := fun ds st => match ds with
  | [x] => match seq? st x with
    | some xs => .ok (.h st.length) (st ++ [.nd .lst xs])
    | none => .no
  | _ => .no
def dTuple : SemF := fun ds st => match ds with
  | [x] => match lst? st x with
    | some xs => .ok (.nd .tup xs) st
    | none => match tupX? st x with
      | some xs => .ok (.nd .tup xs) st
      | none => .no
  | _ => .no
theorem cs_list : CS X cl (.type "list") dList := by
  refine ⟨_, call_list_of, fun {Z r H st ds vs Q W'} R qd h => ?_⟩
  unfold dList at h
  split at h
  · rename_i d
    obtain ⟨v, q, rfl, a1, rfl⟩ := qd
    split at h
    · rename_i xs hs
      obtain ⟨a, us, rfl, q, s⟩ := seq_ok R a1 hs
      exact ⟨a, us, rfl, s, fun l hl => h r _ _ (Ext.new hl) (R.new hl) (new_lst R q hl)⟩
    · exact h.elim
  · exact h.elim
theorem cs_listM : CS X cl (.type "list") dListM := by
  refine ⟨_, call_list_of, fun {Z r H st ds vs Q W'} R qd h => ?_⟩
  unfold dListM at h
  split at h
  · rename_i d
    obtain ⟨v, q, rfl, a1, rfl⟩ := qd
    split at h
    · rename_i xs hs
      obtain ⟨a, us, rfl, q, s⟩ := seq_ok R a1 hs
      exact ⟨a, us, rfl, s, fun l hl => let ⟨x1, x2⟩ := new_lstM R q hl; h _ _ _ (Ext.grow hl) x1 x2⟩
    · exact h.elim
  · exact h.elim
theorem cs_tuple : CS X cl (.type "tuple") dTuple := by
  refine ⟨_, call_tuple_of, fun {Z r H st ds vs Q W'} R qd h => ?_⟩
  unfold dTuple at h
  split at h
  · rename_i d
    obtain ⟨v, q, rfl, a1, rfl⟩ := qd
    split at h
    · rename_i xs hs
      obtain ⟨a, us, rfl, q, s⟩ := lst_ok R a1 hs
      exact ⟨a, us, rfl, .inl ⟨s, fun l hl => h r _ _ (Ext.new hl) (R.new hl) (new_tup R q hl)⟩⟩
    · split at h
      · rename_i xs hs
        have e := tup_is R hs
        obtain ⟨a, us, rfl, q, s⟩ := tupX_ok R a1 hs
        subst e
        exact ⟨a, us, rfl, .inr ⟨SqT.of s, post_ok h R a1⟩⟩
      · exact h.elim
  · exact h.elim
/-- -x -/
@[simp] def dNeg (f : SemE) : SemE := fun env st => (f env st).bind fun x st1 => match x with
  | .int i => .ok (.int (-i)) st1
  | _ => .no
theorem se_neg (ho : SE X cl W o fo) : SE X cl W (.UnaryOp .USub o pos) (dNeg fo) := by
  refine ⟨(pe_un un_neg ho.run).imp fun sg H Q ⟨Z, r, env, st, E, R, h⟩ => ?_⟩
  refine ⟨Z, r, env, st, E, R, Post.bind h fun x st1 r1 H1 v _ e1 R1 q1 h1 => ?_⟩
  cases x with
  | int i => exact ⟨i, q1, post_ok h1 R1 rfl⟩
  | non => exact h1.elim
  | bl b => exact h1.elim
  | str z => exact h1.elim
  | h k => exact h1.elim
  | nd t xs => exact h1.elim

/-! ### methods of built-in types -/
@[simp] def dBM (op : D → List D → Store → Res D) (fo : SemE) (fa : SemA) : SemE := fun env st => (fo env st).bind fun x st1 => (fa env st1).bind fun ds st2 => op x ds st2
/-- the kind of a receiver -/
def kindD (T : String) (st : Store) (x : D) : Prop := (T = "list" ∧ (lst? st x).isSome) ∨ (T = "str" ∧ ∃ z, x = .str z)
structure MS (X : Cx) (cl : Nat → Addr) (id : String) (op : D → List D → Store → Res D) : Prop where
  ex : ∃ rr : V → List V → Hp → VK → Prop, MtR X id rr ∧ ∀ {Z r : List Addr} {H : Hp} {st : Store} {x : D} {ds : List D} {v : V} {vs : List V} {Q : VK} {W' : Value → Option Addr → Hp → Prop}, Rl ⟨X.K, cl⟩ Z r H st → Rep ⟨X.K, cl⟩ Z r H x v → RepL ⟨X.K, cl⟩ Z r H ds vs →
    Post ⟨X.K, cl⟩ Z r H (RV ⟨X.K, cl⟩ Z) (op x ds st) Q W' → rr v vs H Q
theorem tyV_list {Z r : List Addr} {H : Hp} {st : Store} {x : D} {v : V} (R : Rl ⟨X.K, cl⟩ Z r H st) (q : Rep ⟨X.K, cl⟩ Z r H x v) (h : (lst? st x).isSome = true) : tyV X.K "list" v H := by
  obtain ⟨xs, hs⟩ := Option.isSome_iff_exists.mp h
  obtain ⟨a, us, rfl, _, s⟩ := lst_ok R q hs
  exact .inl ⟨rfl, us, s⟩
/-- of a list -/
@[simp] def dBML (op : D → List D → Store → Res D) (fo : SemE) (fa : SemA) : SemE := fun env st => (fo env st).bind fun x st1 => if (lst? st1 x).isSome = true then (fa env st1).bind fun ds st2 => op x ds st2 else .no
theorem se_bml {name : Str} {id : String} {op : D → List D → Store → Res D} (hm : MS X cl id op) (ho : SE X cl W o fo) (ha : SA X cl W (e :: es) fa) (slot : Slot "list" name id) (hty : typeOf (.builtin id) = pure (.type "method_descriptor"))
    (hbase : attributeBase o name X.env (eval o X.env) = eval o X.env := by rfl)
    (hfew : ((backTo pos (starEach (e :: es) X.env)).all (fun x => !x.1) && (backToKw pos (keywordEach [] X.env)).all (fun x => x.1.isSome)
      && decide ((e :: es).length + ([] : List Keyword).length + (if ([] : List Keyword).isEmpty then 0 else 1) < 30)) = true := by rfl)
    (hline : (apos.endLine == pos.line) = true := by rfl) (hs : starEach (e :: es) X.env = (false, eval e X.env) :: starEach es X.env := by rfl) (hplain : (backTo pos (starEach es X.env)).any (·.1) = false := by rfl) : SE X cl W (.Call (.Attribute o name apos) (e :: es) [] pos) (dBML op fo fa) := by
  obtain ⟨rr, h1, h2⟩ := hm.ex
  refine ⟨(pe_bm PySem.F.plainAttrs_list slot hty h1 ho.run ha.run hbase hfew hline hs hplain).imp fun sg H Q ⟨Z, r, env, st, E, R, h⟩ => ?_⟩
  refine ⟨Z, r, env, st, E, R, Post.bind h fun x st1 r1 H1 v _ e1 R1 q1 h1 => ?_⟩
  split at h1
  · rename_i hl
    refine ⟨tyV_list R1 q1 hl, Z, r1, env, st1, E.ext e1, R1, Post.bind h1 fun ds st2 r2 H2 vs _ e2 R2 q2 h3 => ?_⟩
    exact h2 R2 (Rep.ext e2 x q1) q2 h3
  · exact h1.elim
theorem se_bml0 {name : Str} {id : String} {op : D → List D → Store → Res D} (hm : MS X cl id op) (ho : SE X cl W o fo) (slot : Slot "list" name id) (hty : typeOf (.builtin id) = pure (.type "method_descriptor"))
    (hbase : attributeBase o name X.env (eval o X.env) = eval o X.env := by rfl) (hline : (apos.endLine == pos.line) = true := by rfl) : SE X cl W (.Call (.Attribute o name apos) [] [] pos) (dBML op fo dNil) := by
  obtain ⟨rr, h1, h2⟩ := hm.ex
  refine ⟨(pe_bm0 PySem.F.plainAttrs_list slot hty h1 ho.run hbase hline).imp fun sg H Q ⟨Z, r, env, st, E, R, h⟩ => ?_⟩
  refine ⟨Z, r, env, st, E, R, Post.bind h fun x st1 r1 H1 v _ e1 R1 q1 h1 => ?_⟩
  split at h1
  · rename_i hl
    exact ⟨tyV_list R1 q1 hl, h2 (ds := []) R1 q1 rfl h1⟩
  · exact h1.elim
def opAppend (x : D) (ds : List D) (st : Store) : Res D := match x, ds with
  | .h k, [y] => match st[k]? with
    | some (.nd .lst xs) => if xs.length < szL then .ok .non (st.set k (.nd .lst (xs ++ [y]))) else .no
    | _ => .no
  | _, _ => .no
theorem ms_append : MS X cl "list.append" opAppend := by
  refine ⟨_, mt_append, fun {Z r H st x ds v vs Q W'} R qx qd h => ?_⟩
  unfold opAppend at h
  split at h
  · rename_i k y
    obtain ⟨w, q, rfl, a1, rfl⟩ := qd
    obtain ⟨a, rfl, ea⟩ := qx
    split at h
    · rename_i xs hs
      split at h
      · rename_i hl
        obtain ⟨b, eb, t, ys, us, ed, hm, hu⟩ := R.cell k _ hs
        cases ed
        rw [ea] at eb; cases eb
        exact ⟨a, us, w, rfl, rfl, hm, by rw [← hu.length]; exact hl, h r _ _ (Ext.write ea) (R.write ea (show HatM ⟨X.K, cl⟩ _ a .lst _ from upd_same) (hu.append (RepL.one a1))) rfl⟩
      · exact h.elim
    · exact h.elim
  · exact h.elim
def opPop (x : D) (ds : List D) (st : Store) : Res D := match x, ds with
  | .h k, [] => match st[k]? with
    | some (.nd .lst xs) => match xs[xs.length - 1]? with
      | some y => .ok y (st.set k (.nd .lst xs.dropLast))
      | none => .no
    | _ => .no
  | _, _ => .no
theorem RepL.dropLast {g : Gd} {Z r : List Addr} {H : Hp} {ds : List D} {vs : List V} (h : RepL g Z r H ds vs) : RepL g Z r H ds.dropLast vs.dropLast := by
  rw [List.dropLast_eq_take, List.dropLast_eq_take, h.length]
  exact h.take _
theorem ms_pop : MS X cl "list.pop" opPop := by
  refine ⟨_, mt_pop, fun {Z r H st x ds v vs Q W'} R qx qd h => ?_⟩
  unfold opPop at h
  split at h
  · rename_i k
    cases (show vs = [] from qd)
    obtain ⟨a, rfl, ea⟩ := qx
    split at h
    · rename_i xs hs
      split at h
      · rename_i y hy
        obtain ⟨b, eb, t, ys, us, ed, hm, hu⟩ := R.cell k _ hs
        cases ed
        rw [ea] at eb; cases eb
        obtain ⟨w, hw, qw⟩ := hu.get hy
        have na : ¬ Nin Z r a := fun n => n.2 (List.mem_of_getElem? ea)
        exact ⟨a, us, w, rfl, rfl, hm, by rw [← hu.length]; exact hw, h r _ _ (Ext.write ea) (R.write ea (show HatM ⟨X.K, cl⟩ _ a .lst _ from upd_same) hu.dropLast) (Rep.off na _ qw)⟩
      · exact h.elim
    · exact h.elim
  · exact h.elim
def opPopAt (x : D) (ds : List D) (st : Store) : Res D := match x, ds with
  | .h k, [.int i] => match st[k]? with
    | some (.nd .lst xs) => if -(2 ^ 63) ≤ i ∧ i < 2 ^ 63 then (match seqIndex? i xs.length with
      | some j => match xs[j]? with
        | some y => .ok y (st.set k (.nd .lst (xs.eraseIdx j)))
        | none => .no
      | none => .no) else .no
    | _ => .no
  | _, _ => .no
theorem ms_popAt : MS X cl "list.pop" opPopAt := by
  refine ⟨_, mt_popAt, fun {Z r H st x ds v vs Q W'} R qx qd h => ?_⟩
  unfold opPopAt at h
  split at h
  · rename_i k i
    obtain ⟨w0, q0, rfl, a1, rfl⟩ := qd
    obtain ⟨a, rfl, ea⟩ := qx
    split at h
    · rename_i xs hs
      split at h
      · rename_i hb
        split at h
        · rename_i j hj
          split at h
          · rename_i y hy
            obtain ⟨b, eb, t, ys, us, ed, hm, hu⟩ := R.cell k _ hs
            cases ed
            rw [ea] at eb; cases eb
            obtain ⟨w, hw, qw⟩ := hu.get hy
            have na : ¬ Nin Z r a := fun n => n.2 (List.mem_of_getElem? ea)
            exact ⟨a, us, i, j, w, rfl, by rw [show w0 = .int i from a1], hm, hb.1, hb.2, by rw [← hu.length]; exact hj, hw, h r _ _ (Ext.write ea) (R.write ea (show HatM ⟨X.K, cl⟩ _ a .lst _ from upd_same) (hu.erase j)) (Rep.off na _ qw)⟩
          · exact h.elim
        · exact h.elim
      · exact h.elim
    · exact h.elim
  · exact h.elim
/-- what is never come to -/
theorem ss_never {s : Stmt} : SS X cl W s (fun _ _ => .no) := ⟨ps_never.imp fun E sg H ⟨_, _, _, _, _, _, h⟩ => h⟩
end
end DY

set_option Elab.async false
set_option linter.all false
set_option maxRecDepth 100000
set_option maxHeartbeats 4000000
/-! isinstance, repr, dict displays, calls by keywords, sorted, sets of rows. -/
namespace DY
open PySem PySem.Spec PyProof.Rows L2
section
variable {X : Cx} {cl : Nat → Addr} {W : WX} {pos : Pos} {x : Str} {p p2 apos : Pos} {e o : Expr} {es : List Expr} {fa : SemA} {fo fe : SemE} {F : SemF}
/-! ### isinstance -/
/-- a datum's built-in type -/
def tyD (st : Store) (x : D) : Option String :=
  match x with
  | .non => some "NoneType"
  | .bl _ => some "bool"
  | .int _ => some "int"
  | .str _ => some "str"
  | x => match seen st x with
    | some (.lst, _) => some "list"
    | some (.scr, _) => some "list"
    | some (.tup, _) => some "tuple"
    | some (.ktp, _) => some "tuple"
    | some (.dk _, _) => some "dict"
    | some (.dt _, _) => some "dict"
    | _ => none
def tysA : List String := ["NoneType", "bool", "int", "str", "list", "tuple", "dict"]
def tysB : List String := ["bool", "int", "str", "list", "tuple", "dict"]
/-- what isinstance answers -/
def isiB (a b : String) : Bool := a == b || (a == "bool" && b == "int")
theorem isi_tab : (tysA.all fun a => tysB.all fun b => decide (kitB a b = some (isiB a b))) = true := by decide +kernel
theorem isi_ok {a b : String} (ha : a ∈ tysA) (hb : b ∈ tysB) : kitB a b = some (isiB a b) :=
  of_decide_eq_true (List.all_eq_true.mp (List.all_eq_true.mp isi_tab a ha) b hb)
theorem ty_lstR {K : PySem.W.Frag} {H : Hp} {a : Addr} {vs : List V} (h : Rd H a (.lst vs)) : TyX K H (.ref a) (.type "list") := by
  rcases h with h | ⟨o, h⟩
  · exact .base (.lst h)
  · exact .base (.frz h)
theorem ty_tupR {K : PySem.W.Frag} {H : Hp} {a : Addr} {vs : List V} (h : Rd H a (.tup vs)) : TyX K H (.ref a) (.type "tuple") := by
  rcases h with h | ⟨o, h⟩
  · exact .base (.tup h)
  · exact .fTuple h
theorem tyD_ok {Z r : List Addr} {H : Hp} {st : Store} {x : D} {v : V} {T : String} (R : Rl ⟨X.K, cl⟩ Z r H st) (q : Rep ⟨X.K, cl⟩ Z r H x v) (h : tyD st x = some T) : TyX X.K H v (.type T) ∧ T ∈ tysA := by
  have gen : (match seen st x with
    | some (.lst, _) => some "list"
    | some (.scr, _) => some "list"
    | some (.tup, _) => some "tuple"
    | some (.ktp, _) => some "tuple"
    | some (.dk _, _) => some "dict"
    | some (.dt _, _) => some "dict"
    | _ => none) = some T → TyX X.K H v (.type T) ∧ T ∈ tysA := by
    intro h
    split at h
    · rename_i ys hs
      cases h
      obtain ⟨a, us, rfl, _, s⟩ := seen_ok R q hs
      refine ⟨?_, by decide⟩
      rcases s with s | s
      · exact .base (.lst s.2)
      · exact .base (.lst s)
    · rename_i ys hs
      cases h
      obtain ⟨a, us, rfl, _, s⟩ := seen_ok R q hs
      refine ⟨?_, by decide⟩
      rcases s with s | s
      · rcases s with ⟨_, s⟩ | ⟨o, _, _, s, c, _⟩
        · exact ty_lstR s
        · exact .kList s c
      · exact s.elim
    · rename_i ys hs
      cases h
      obtain ⟨a, us, rfl, _, s⟩ := seen_ok R q hs
      refine ⟨?_, by decide⟩
      rcases s with s | s
      · exact .base (.tup s.2)
      · exact s.elim
    · rename_i ys hs
      cases h
      obtain ⟨a, us, rfl, _, s⟩ := seen_ok R q hs
      refine ⟨?_, by decide⟩
      rcases s with s | s
      · rcases s with ⟨_, s⟩ | ⟨o, _, _, s, c, _⟩
        · exact ty_tupR s
        · exact .kTuple s c
      · exact s.elim
    · rename_i ks ys hs
      cases h
      obtain ⟨a, us, rfl, _, s⟩ := seen_ok R q hs
      exact ⟨.base (.dK (dk_at s).2), by decide⟩
    · rename_i ks ys hs
      cases h
      obtain ⟨a, us, rfl, _, s⟩ := seen_ok R q hs
      exact ⟨.base (.dT (dt_at s).2), by decide⟩
    · cases h
  cases x with
  | non => cases h; cases (show v = .non from q); exact ⟨.base .non, by decide⟩
  | bl b => cases h; cases (show v = .bl b from q); exact ⟨.base (.bl b), by decide⟩
  | int i => cases h; cases (show v = .int i from q); exact ⟨.base (.int i), by decide⟩
  | str s => cases h; cases (show v = .str s from q); exact ⟨.base (.str s), by decide⟩
  | h k => exact gen h
  | nd t xs => exact gen h
/-- isinstance(x, T), isinstance(x, (T, ..)) -/
@[simp] def dIsi (Ts : List String) (f : SemE) : SemE := fun env st => (f env st).bind fun x st1 => match tyD st1 x with
  | some T => .ok (.bl (Ts.any (isiB T))) st1
  | none => .no
theorem se_isi {y : Str} (T : String) (hm : X.mg "isinstance" = none) (hmy : X.mg y = none) (hv : bootBuiltins y = some (.type T)) (ho : SE X cl W e fo) (hT : T ∈ tysB := by decide) (hg : Gl X "isinstance" := by rfl) (hgy : Gl X y := by rfl)
    (hn : y ≠ "__name__" := by decide +kernel) (hd : (y == ("__debug__" : Str)) = false := by decide +kernel)
    (h1 : starEach [e, .Name y p2] X.env = (false, eval e X.env) :: starEach [.Name y p2] X.env := by rfl) (h2 : (backTo pos (starEach [.Name y p2] X.env)).any (·.1) = false := by rfl) (h3 : starEach [.Name y p2] X.env = (false, eval (.Name y p2) X.env) :: starEach [] X.env := by rfl) :
    SE X cl W (.Call (.Name "isinstance" p) [e, .Name y p2] [] pos) (dIsi [T] fo) := by
  refine ⟨(pe_callB call_isi hg hm (by rfl) (pa_cons ho.run (pa_cons (pe_bltn (v := V.ty T) hgy hmy hv rfl hn hd) pa_nil h3) h1) (by decide +kernel) (by decide +kernel) h1 h2).imp fun sg H Q ⟨Z, r, env, st, E, R, h⟩ => ?_⟩
  refine ⟨Z, r, env, st, E, R, Post.bind h fun a st1 r1 H1 v _ e1 R1 q1 h1 => ?_⟩
  split at h1
  · rename_i T' hT'
    obtain ⟨ty, hm⟩ := tyD_ok R1 q1 hT'
    refine ⟨v, _, _, _, isiB T' T, rfl, .ty T, ty, kit_ty (isi_ok hm hT), ?_⟩
    have := post_ok h1 R1 (b := V.bl ([T].any (isiB T'))) rfl
    simpa using this
  · exact h1.elim
theorem se_isi2 {y z : Str} {k : Nat} {p3 p4 : Pos} (T U : String) (hm : X.mg "isinstance" = none) (hmy : X.mg y = none) (hv : bootBuiltins y = some (.type T)) (hmz : X.mg z = none) (hvz : bootBuiltins z = some (.type U)) (ho : SE X cl W e fo) (hT : T ∈ tysB := by decide) (hU : U ∈ tysB := by decide) (hg : Gl X "isinstance" := by rfl) (hgy : Gl X y := by rfl) (hgz : Gl X z := by rfl)
    (hn : y ≠ "__name__" := by decide +kernel) (hd : (y == ("__debug__" : Str)) = false := by decide +kernel) (hnz : z ≠ "__name__" := by decide +kernel) (hdz : (z == ("__debug__" : Str)) = false := by decide +kernel)
    (h1 : starEach [e, .Tuple [.Name y p2, .Name z p3] k p4] X.env = (false, eval e X.env) :: starEach [.Tuple [.Name y p2, .Name z p3] k p4] X.env := by rfl) (h2 : (backTo pos (starEach [.Tuple [.Name y p2, .Name z p3] k p4] X.env)).any (·.1) = false := by rfl)
    (h3 : starEach [.Tuple [.Name y p2, .Name z p3] k p4] X.env = (false, eval (.Tuple [.Name y p2, .Name z p3] k p4) X.env) :: starEach [] X.env := by rfl)
    (h4 : starEach [.Name y p2, .Name z p3] X.env = (false, eval (.Name y p2) X.env) :: starEach [.Name z p3] X.env := by rfl) (h5 : starEach [.Name z p3] X.env = (false, eval (.Name z p3) X.env) :: starEach [] X.env := by rfl) :
    SE X cl W (.Call (.Name "isinstance" p) [e, .Tuple [.Name y p2, .Name z p3] k p4] [] pos) (dIsi [T, U] fo) := by
  refine ⟨(pe_callB call_isiT hg hm (by rfl) (pa_cons ho.run (pa_cons (pe_tup (pa_cons (pe_bltn (v := V.ty T) hgy hmy hv rfl hn hd) (pa_cons (pe_bltn (v := V.ty U) hgz hmz hvz rfl hnz hdz) pa_nil h5) h4)) pa_nil h3) h1) (by decide +kernel) (by decide +kernel) h1 h2).imp fun sg H Q ⟨Z, r, env, st, E, R, h⟩ => ?_⟩
  refine ⟨Z, r, env, st, E, R, Post.bind h fun a st1 r1 H1 v _ e1 R1 q1 h1 => ?_⟩
  split at h1
  · rename_i T' hT'
    refine ⟨(by show 2 ≤ sizeLine; decide), fun t ht => ?_⟩
    have R2 := R1.new (o := .tup [.ty T, .ty U]) ht
    obtain ⟨ty, hm⟩ := tyD_ok R2 (Rep.ext (Ext.new ht) a q1) hT'
    refine ⟨v, t, _, _, _, isiB T' T || isiB T' U, rfl, upd_same, .cons (.ty T) (.cons (.ty U) .nil), ty, ?_, ?_⟩
    · refine kitAny_cons (kit_ty (isi_ok hm hT)) (fun b => ?_) (fun b => by rw [b]; rfl)
      rw [b]
      exact kitAny_cons (kit_ty (isi_ok hm hU)) (fun b => by rw [b]; rfl) (fun b => by rw [b]; rfl)
    · have := h1 r1 _ (V.bl ([T, U].any (isiB T'))) (Ext.new ht) R2 rfl
      simpa using this
  · exact h1.elim

/-! ### repr -/
def dRepr : SemF := fun ds st => match ds with
  | [.int i] => if i.natAbs.log2 < 1920 then .ok (.str (toString i)) st else .no
  | [x] => match toP deepP st x with
    | some (.list ys) => if (PyData.list ys).showable = true ∧ (PyData.list ys).shown.length ≤ szL ∧ shp (.list ys) = true then .ok (.str (PyData.list ys).shown) st else .no
    | some (.tuple ys) => if (PyData.tuple ys).showable = true ∧ (PyData.tuple ys).shown.length ≤ szL ∧ shp (.tuple ys) = true then .ok (.str (PyData.tuple ys).shown) st else .no
    | _ => .no
  | _ => .no
mutual
theorem nodict_plain : ∀ d : PyData, d.plain = true → d.hasDict = false
  | .none, _ => rfl
  | .bool _, _ => rfl
  | .int _, _ => rfl
  | .str _, _ => rfl
  | .list xs, h => by
    simp only [PyData.hasDict]
    exact nodict_plainAll xs (by simpa [PyData.plain] using h)
  | .tuple xs, h => by
    simp only [PyData.hasDict]
    exact nodict_plainAll xs (by simpa [PyData.plain] using h)
  | .dict _, h => by simp [PyData.plain] at h
theorem nodict_plainAll : ∀ ds : List PyData, PyData.plainAll ds = true → PyData.hasDictAll ds = false
  | [], _ => rfl
  | d :: ds, h => by
    have h' : d.plain = true ∧ PyData.plainAll ds = true := by simpa [PyData.plainAll] using h
    simp [PyData.hasDictAll, nodict_plain d h'.1, nodict_plainAll ds h'.2]
end
/-- repr of what reads as data -/
def rReprP (K : PySem.W.Frag) : List V → Hp → VK → Prop := fun vs H Q => ∃ a d, vs = [.ref a] ∧ Dp K H (.ref a) d ∧ d.showable = true ∧ d.shown.length ≤ sizeLine ∧ shp d = true ∧ Q (.str d.shown) H
theorem cr_reprP (hu : X.A.units + 64 < cLine) (hg : X.A.guards = some []) : CallR X (.builtin "repr") (rReprP X.K) := by
  intro pins s sg H vs us Q I r h
  obtain ⟨a, d, rfl, hd, hs, hz, hp, q⟩ := h
  obtain ⟨u, rfl, rv⟩ := vals1 r
  obtain rfl : u = Value.ref a := rv
  obtain ⟨as, rd⟩ := Dp.reads I d _ _ hd rfl
  refine PySem.repr_of_reads' rd hs (fun h => ?_) hg (by have := shp_depth hp; omega) (fun _ _ e => e) (fun h' u tk hk => ⟨.str d.shown, H, I.kept hk, ⟨_, rfl⟩, q⟩) hz
  rw [nodict_plain d (shp_plain hp)] at h
  cases h
theorem cs_repr (hu : X.A.units + 64 < cLine) (hg : X.A.guards = some []) : CS X cl (.builtin "repr") dRepr := by
  refine ⟨fun vs H Q => (∃ i, vs = [.int i] ∧ i.natAbs.log2 < 1920 ∧ Q (.str (toString i)) H) ∨ rReprP X.K vs H Q, (fun pins s sg H vs us Q I rr h => h.elim (SkE.call_repr_int pins s sg H vs us Q I rr) (cr_reprP hu hg pins s sg H vs us Q I rr)), fun {Z r H st ds vs Q W'} R qd h => ?_⟩
  unfold dRepr at h
  split at h
  · rename_i i
    obtain ⟨v, q, rfl, a1, rfl⟩ := qd
    split at h
    · rename_i hl
      exact .inl ⟨i, by rw [show v = .int i from a1], hl, post_ok h R rfl⟩
    · exact h.elim
  · rename_i d _
    obtain ⟨v, q, rfl, a1, rfl⟩ := qd
    split at h
    · rename_i ys hp
      split at h
      · rename_i hc
        have hd := toP_ok R _ _ hp a1
        cases hd with
        | lst s1 s2 => exact .inr ⟨_, _, rfl, .lst s1 s2, hc.1, hc.2.1, hc.2.2, post_ok h R rfl⟩
      · exact h.elim
    · rename_i ys hp
      split at h
      · rename_i hc
        have hd := toP_ok R _ _ hp a1
        cases hd with
        | tup s1 s2 => exact .inr ⟨_, _, rfl, .tup s1 s2, hc.1, hc.2.1, hc.2.2, post_ok h R rfl⟩
      · exact h.elim
    · exact h.elim
  · exact h.elim
end
end DY

set_option Elab.async false
set_option linter.all false
set_option maxRecDepth 100000
set_option maxHeartbeats 4000000
/-! A program's defs as a table of functions on data. -/
namespace DY
open PySem PySem.Spec PyProof.Rows L2
/-- what a body's rules want of the place where it runs -/
structure DF (X : Cx) (W : WX) (k : Nat) : Prop where
  calm : X.calm = true
  own : PassesOwn (model X.prog X.w) X.A X.env X.xe
  tk : Takes X W
  room : Room (k + 1) X.A
  gd : X.A.guards = some []
theorem DF.hu {X : Cx} {W : WX} {k : Nat} (D : DF X W k) : X.A.units + 64 < cLine := D.room.units
theorem DF.hu1 {X : Cx} {W : WX} {k : Nat} (D : DF X W k) : X.A.units + 1 < cLine := by have := D.hu; omega
section
variable {P : Program} {w : World} {K : PySem.W.Frag} {mg : Str → Option Value} {base : Heap}
theorem DF.of {N : List Str} {qual : Str} {scope : Scope} {f : Addr} {cdv : Value} {A : Around} {outer : List Env} {s : Shared} {H : Hp} {E : XK} {k : Nat} (hr : Room (k + 1) (A.deeper (envOfC qual scope s.heap.objs.size f cdv))) (hg : A.guards = some []) :
    DF (cxOf (L2.CX P w) P w K mg base N qual scope f cdv A outer s H E) (fun c d _ H' => E c d H') k :=
  ⟨rfl, passes_of rfl, takes_of rfl rfl rfl rfl, hr, deeper_guards hg⟩
theorem DF.blk {X : Cx} {W : WX} {k : Nat} (D : DF X W k) (s : Shared) (H : Hp) (scope : Scope) (env : Env) (fp : List Addr) (hc : (X.blk s H scope env fp).calm = true := by rfl) : DF (X.blk s H scope env fp) WF k :=
  ⟨hc, PassesOwn.never, takes0, D.room, D.gd⟩
/-- the table: where the defs stand, what they are called, what they compute -/
structure TX (P : Program) (w : World) (K : PySem.W.Frag) (mg : Str → Option Value) (base : Heap) (cl fa : Nat → Addr) (fd : Nat → FuncData) (ps : Nat → List Str) (n k : Nat) (c : Nat → SemF) : Prop where
  fn : ∀ i, i < n → FnG P w K mg base k (fa i) (fd i) (ps i) (spF ⟨K, cl⟩ (ps i).length (c i))
  ar : ∀ i ds st, ds.length ≠ (ps i).length → c i ds st = .no
  bd : ∀ i, i < n → L2.Binds K (fd i) (ps i) []
  kp : ∀ i, i < n → PySem.W.keepIn K (.ref (fa i)) = true
/-- with its number of arguments -/
def arF (n : Nat) (F : SemF) : SemF := fun ds st => if ds.length = n then F ds st else .no
theorem arF_ne {n : Nat} {F : SemF} {ds : List D} {st : Store} (h : ds.length ≠ n) : arF n F ds st = .no := if_neg h
theorem FnG.ar {k : Nat} {f : Addr} {fd : FuncData} {ps : List Str} {g : Gd} {F : SemF} (h : FnG P w K mg base k f fd ps (spF g ps.length F)) : FnG P w K mg base k f fd ps (spF g ps.length (arF ps.length F)) :=
  h.imp fun vs H Q E ⟨hl, Z, r, st, ds, qd, R, q⟩ => ⟨hl, Z, r, st, ds, qd, R, by
    have e : arF ps.length F ds st = F ds st := if_pos (by rw [qd.length]; exact hl)
    rw [e] at q; exact q⟩
end
section
variable {X : Cx} {cl fa : Nat → Addr} {fd : Nat → FuncData} {ps : Nat → List Str} {n k : Nat} {c : Nat → SemF} {W : WX} {pos p apos : Pos} {x m : Str} {e o : Expr} {es : List Expr} {fs : SemA} {fo fe : SemE}
theorem TX.cal (T : TX X.prog X.w X.K X.mg X.base cl fa fd ps n k c) (D : DF X W k) (i : Nat) (hi : i < n) : CalF X cl W (.ref (fa i)) (c i) :=
  calF_fn (T.fn i hi) (D.room.mono (Nat.le_succ k)) D.gd (T.bd i hi) D.tk fun ds st h => T.ar i ds st h
theorem TX.make (T : TX X.prog X.w X.K X.mg X.base cl fa fd ps n k c) (D : DF X W k) (i j : Nat) (hi : i < n) (M : Mk X.K (cl j) (fa i)) : CalF X cl W (.ref (cl j)) (runInit j (c i)) :=
  calF_make j M (T.fn i hi) D.room D.gd (T.bd i hi) D.tk fun ds st h => T.ar i ds st h
theorem TX.call (T : TX X.prog X.w X.K X.mg X.base cl fa fd ps n k c) (D : DF X W k) (i : Nat) (hm : X.mg x = some (.ref (fa i))) (ha : SA X cl W (e :: es) fs) (hi : i < n := by decide) (hg : Gl X x := by rfl) (hdb : (x == ("__debug__" : Str)) = false := by decide +kernel)
    (he : starEach (e :: es) X.env = (false, eval e X.env) :: starEach es X.env := by rfl) (hpl : (backTo pos (starEach es X.env)).any (·.1) = false := by rfl) : SE X cl W (.Call (.Name x p) (e :: es) [] pos) (dCall (c i) fs) :=
  se_call (T.cal D i hi) hm (T.kp i hi) ha hg hdb he hpl
theorem TX.call0 (T : TX X.prog X.w X.K X.mg X.base cl fa fd ps n k c) (D : DF X W k) (i : Nat) (hm : X.mg x = some (.ref (fa i))) (hi : i < n := by decide) (hg : Gl X x := by rfl) (hdb : (x == ("__debug__" : Str)) = false := by decide +kernel) : SE X cl W (.Call (.Name x p) [] [] pos) (dCall (c i) dNil) :=
  se_call0 (T.cal D i hi) hm (T.kp i hi) hg hdb
end

/-! ### the law's end -/
/-- nothing but the script may be tracked -/
def OneAt (a : Addr) (o : Obj) (xs : List V) : Hp := fun b => if b = a then some (.frz o (.lst xs)) else none
theorem law_ends {P : Program} {w : World} {K : PySem.W.Frag} {mg mb : Str → Option Value} {k : Nat} {fa a : Addr} {fd : FuncData} {x : Str} {sp : Sp} {s0 : Shared} {us : List Value} {ns : List Int}
    (kin : K.In s0.heap) (ng : s0.heap.Ns mainGlobals mg) (nb : s0.heap.Ns builtinsNs mb) (bb : ∀ y : Str, y ≠ "__name__" → mb y = bootBuiltins y) (lim : s0.heap.NoLimit) (gn : s0.gens = #[])
    (at_ : s0.heap.get? a = some { cls := .type "list", data := .seq us.toArray }) (ia : IntsAre us ns) (hl : ns.length ≤ sizeLine) (room : Room k callerA)
    (F : ∀ b : Heap, K.In b → b.Ns mainGlobals mg → FnG P w K mg b k fa fd [x] sp) (bind : ∀ (s : Shared) (u : Value), BindsTo s fd ⟨[u], []⟩ [(x, u)])
    (good : ∀ H : Hp, Only H → SqL K H a (ns.map V.int) → sp [.ref a] H (fun v _ => v = .bl true) fun _ _ _ => False) :
    codeAny (model P w) callerA (.call (.ref fa) ⟨[.ref a], []⟩) (fun r s' => r = .ok (.ret (.bool true)) ∧ OldK s0.heap s'.heap ∧ s'.os = s0.os ∧ AllBare s'.gens) s0 := by
  have rv := vals_ints ia
  have hlen := ia.length
  have inner : ∀ H : Hp, Only H → SqL K H a (ns.map V.int) → HOk P w H s0.heap → (∀ b, H b ≠ none → b = a) → (H a ≠ none → K.lookup a = none) →
      codeAny (model P w) callerA (.call (.ref fa) ⟨[.ref a], []⟩) (fun r s' => r = .ok (.ret (.bool true)) ∧ OldK s0.heap s'.heap ∧ s'.os = s0.os ∧ AllBare s'.gens) s0 := by
    intro H onlyH sq ok onlyA notK
    have hid : ∀ {b : Addr} {u : Obj}, s0.heap.get? b = some u → H b = none → (hidT s0.heap H).get? b = some u := fun e1 e2 => hidT_get e1 e2
    have untracked : ∀ {b : Addr} {u : Obj} {es : Array DictEntry} {n : Nat}, s0.heap.get? b = some u → u.data = .dict es n → H b = none := by
      intro b u es n e1 e2
      cases hb : H b with
      | none => rfl
      | some z =>
        have : b = a := onlyA b (by rw [hb]; exact Option.some_ne_none z)
        subst this
        rw [at_] at e1; cases e1
        exact nomatch (show Data.seq us.toArray _ = Data.dict es n from e2)
    have nsH : ∀ {b : Addr} {m : Str → Option Value}, s0.heap.Ns b m → (hidT s0.heap H).Ns b m := fun ⟨u, es, n, e1, e2, e3⟩ => ⟨u, es, n, hid e1 (untracked e1 e2), e2, e3⟩
    have kinH : K.In (hidT s0.heap H) := fun b u e1 => hid (kin b u e1) (by
      cases hb : H b with
      | none => rfl
      | some z =>
        have : b = a := onlyA b (by rw [hb]; exact Option.some_ne_none z)
        subst this
        rw [notK (by rw [hb]; exact Option.some_ne_none z)] at e1; cases e1)
    have md : Mod K mg (hidT s0.heap H) := by
      obtain ⟨mc, l1, l2⟩ := lim
      exact ⟨kinH, nsH ng, ⟨mb, nsH nb, bb⟩, mc, nsH l1, l2⟩
    have env0 : Env0 P w K mg (hidT s0.heap H) callerA [] s0 H := by
      refine ⟨rfl, md, fun b u e1 => of_hidT e1, Nat.le_of_eq (hidT_size _ _), trivial, fun b hb => ?_, ok, .of_eq gn⟩
      exact absurd (show b ∈ ([] : List Addr) from hb) List.not_mem_nil
    have run := (F _ kinH (nsH ng)).run callerA [] s0 H ⟨[.ref a], []⟩ [.ref a] [.ref a] _ _ room rfl env0 (bind s0 (.ref a)) (.cons rfl .nil) (good H onlyH sq)
    refine codeAny_mono run fun res s' hres => ?_
    cases res with
    | error e1 =>
      obtain ⟨_, _, _, _, _, _, _, _, _, _, _, _, z⟩ := hres
      exact z.elim
    | ok fl =>
      cases fl with
      | next => exact False.elim hres
      | brk => exact False.elim hres
      | cont => exact False.elim hres
      | ret u =>
        obtain ⟨v, H', e1, e2, un, ok', rel, hv⟩ := hres
        obtain rfl : v = .bl true := hv
        obtain rfl : u = Value.bool true := rel
        refine ⟨rfl, OldK.of_keep fun b o hb => ?_, e1, e2⟩
        cases hq : H b with
        | none => exact un.keep b o hb hq (fun z => absurd (show b ∈ ([] : List Addr) from z) List.not_mem_nil) List.not_mem_nil
        | some z =>
          rcases onlyH b with y | ⟨ob, xs, y⟩
          · rw [hq] at y; cases y
          · have y2 := un.frzs b ob _ y
            obtain ⟨f1, _⟩ := ok b _ y
            obtain ⟨f2, _⟩ := ok' b _ y2
            rw [hb] at f1; cases f1
            exact f2
  cases hk : K.lookup a with
  | some o =>
    have e1 := kin a o hk
    rw [at_] at e1
    cases e1
    refine inner (fun _ => none) (fun _ => .inl rfl) (.inr ⟨_, us.toArray, _, hk, rfl, rfl, rfl, ?_, by simpa using rv⟩) (fun b u z => ?_) (fun b z => absurd rfl z) fun z => absurd rfl z
    · rw [List.size_toArray, hlen]; exact hl
    · exact nomatch (show (none : Option HO) = some u from z)
  | none =>
    refine inner (OneAt a { cls := .type "list", data := .seq us.toArray } (ns.map V.int)) (fun b => ?_) (.inl (.inr ⟨_, if_pos rfl⟩)) (fun b u z => ?_) (fun b z => ?_) fun _ => hk
    · by_cases hb : b = a
      · exact .inr ⟨_, _, if_pos hb⟩
      · exact .inl (if_neg hb)
    · by_cases hb : b = a
      · subst hb
        cases (if_pos rfl).symm.trans z
        exact ⟨at_, by rw [List.length_map]; exact hl, us, _, rv, at_⟩
      · exact nomatch (if_neg hb).symm.trans z
    · by_cases hb : b = a
      · exact hb
      · exact absurd (if_neg hb) z
/-- the script as data -/
def scrD (ns : List Int) : D := .nd .scr (ns.map D.int)
theorem law_walks {l : PySem.W.OpenLaw} {m k : Nat} {q : Program} {loose : List Str} {XP : (Str → Option Value) → Heap → Prop} {YP : World → Heap → Prop} {d : DefRec} {K : Params → PySem.W.Frag} {x : Str} {G : SemF}
    (most : l.most = some m) (small : m ≤ sizeLine) (nodef : d.params.defaults = []) (room : Room k callerA) (hY : ∀ (w : World) (h : Heap), YP w h → (K w.params).In h)
    (F : ∀ (w : World) (mg : Str → Option Value) (fa : Addr) (h : Heap), (K w.params).In h → h.Ns mainGlobals mg → mg d.name = some (.ref fa) →
      ∃ (fd : FuncData) (cl : Nat → Addr), (∀ (s : Shared) (u : Value), BindsTo s fd ⟨[u], []⟩ [(x, u)]) ∧ ∀ base : Heap, (K w.params).In base → base.Ns mainGlobals mg → FnG l.prog w (K w.params) mg base k fa fd [x] (spF ⟨K w.params, cl⟩ 1 G))
    (law : ∀ ns : List Int, ns.length ≤ m → ∃ st, G [scrD ns] [] = .ok (.bl true) st) :
    PySem.W.WalkO q loose XP YP l.row.toRowW d [] (fun f vs => PySem.call f vs) := by
  refine Att.attach_call most nodef fun w s₀ s₁ mg mb fa o pm cd doc a vs ns G' Y ho hd hcd hmg hobj hints hlen hg => ?_
  have KX := hY w _ Y
  obtain ⟨fd, cl, hb, hF⟩ := F w mg fa _ KX G'.T.g hmg
  refine law_ends KX G'.T.g G'.T.b G'.T.builtins G'.T.nolimit hg hobj hints (Nat.le_trans hlen small) room hF hb fun H onlyH sq => ?_
  obtain ⟨st, e⟩ := law ns hlen
  refine ⟨rfl, [], [], [], [scrD ns], ⟨_, _, rfl, ⟨a, ns.map V.int, rfl, ?_, RepL.ints ns⟩, rfl⟩, ⟨rfl, List.nodup_nil, fun b hb => absurd hb List.not_mem_nil, fun j c hj => by cases hj⟩, ?_⟩
  · rcases sq with sq | sq
    · exact .inl ⟨⟨List.not_mem_nil, List.not_mem_nil⟩, sq⟩
    · exact .inr sq
  · rw [e]
    exact fun r' H' b _ _ hb => hb
end DY

set_option Elab.async false
set_option linter.all false
set_option maxRecDepth 100000
set_option maxHeartbeats 4000000
/-! Dict displays, calls by keywords, sorted, sets of rows, walks over tuples in pairs. -/
namespace DY
open PySem PySem.Spec PyProof.Rows L2
section
variable {X : Cx} {cl : Nat → Addr} {W : WX} {pos : Pos} {x : Str} {p p2 apos : Pos} {e o : Expr} {es : List Expr} {fa : SemA} {fo fe : SemE} {F : SemF}
/-! ### {k: v, ..} -/
abbrev SemP := DEnv → Store → Res (List (D × D))
@[simp] def dPairs : List (SemE × SemE) → SemP
  | [] => fun _ st => .ok [] st
  | (fk, fv) :: r => fun env st => (fk env st).bind fun k st1 => (fv env st1).bind fun v st2 => (dPairs r env st2).bind fun ps st3 => .ok ((k, v) :: ps) st3
structure SPs (X : Cx) (cl : Nat → Addr) (W : WX) (pos : Pos) (keys : List (Option Expr)) (values : List Expr) (fs : List (SemE × SemE)) : Prop where
  run : PPs X pos keys values (fs.map fun q => (rdE ⟨X.K, cl⟩ W q.1, rdE ⟨X.K, cl⟩ W q.2))
theorem sps_nil : SPs X cl W pos [] [] [] := ⟨pps_nil⟩
theorem sps_cons {k v : Expr} {ks : List (Option Expr)} {vs : List Expr} {fk fv : SemE} {fs : List (SemE × SemE)} (hk : SE X cl W k fk) (hv : SE X cl W v fv) (hr : SPs X cl W pos ks vs fs) : SPs X cl W pos (some k :: ks) (v :: vs) ((fk, fv) :: fs) :=
  ⟨pps_cons hk.run hv.run hr.run⟩
def RPs (g : Gd) (Z r : List Addr) (H : Hp) (a : List (D × D)) (b : List (V × V)) : Prop := RepL g Z r H (a.map (·.1)) (b.map (·.1)) ∧ RepL g Z r H (a.map (·.2)) (b.map (·.2))
theorem pairs_rd {Z : List Addr} {sg : L2.St} : ∀ (fs : List (SemE × SemE)) {r : List Addr} {H : Hp} {env : DEnv} {st : Store} {Q : List (V × V) → Hp → Prop}, EnvR ⟨X.K, cl⟩ Z r H env sg → Rl ⟨X.K, cl⟩ Z r H st →
    Post ⟨X.K, cl⟩ Z r H (RPs ⟨X.K, cl⟩ Z) (dPairs fs env st) Q (fun c d H' => W c d sg H') → tPairs (fs.map fun q => (rdE ⟨X.K, cl⟩ W q.1, rdE ⟨X.K, cl⟩ W q.2)) sg H Q
  | [], r, H, env, st, Q, E, R, h => post_ok h R ⟨rfl, rfl⟩
  | (fk, fv) :: fs, r, H, env, st, Q, E, R, h => by
    refine ⟨Z, r, env, st, E, R, Post.bind h fun k st1 r1 H1 kv _ e1 R1 q1 h1 => ?_⟩
    refine ⟨Z, r1, env, st1, E.ext e1, R1, Post.bind h1 fun v st2 r2 H2 vv _ e2 R2 q2 h2 => ?_⟩
    refine pairs_rd fs (E.ext (e1.trans e2)) R2 (Post.bind h2 fun ps st3 r3 H3 ws _ e3 R3 q3 h3 => ?_)
    exact post_ok h3 R3 ⟨⟨_, _, rfl, Rep.ext (e2.trans e3) k q1, q3.1⟩, ⟨_, _, rfl, Rep.ext e3 v q2, q3.2⟩⟩
theorem merge_nd : ∀ (ks acc : List Key) (vs ac : List V), (acc ++ ks).Nodup → acc.length = ac.length → ks.length = vs.length → mergeK (acc.zip ac) (ks.zip vs) = (acc ++ ks).zip (ac ++ vs)
  | [], acc, vs, ac, nd, l1, l2 => by
    cases vs with
    | nil => simp [mergeK]
    | cons v vs => simp at l2
  | k :: ks, acc, vs, ac, nd, l1, l2 => by
    cases vs with
    | nil => simp at l2
    | cons v vs =>
      have hk : k ∉ acc := by
        intro hm
        rw [List.nodup_append] at nd
        exact nd.2.2 k hm k List.mem_cons_self rfl
      show mergeK (putK (acc.zip ac) k v) (ks.zip vs) = _
      rw [putK_zip_new l1 hk]
      have := merge_nd ks (acc ++ [k]) vs (ac ++ [v]) (by simpa [List.append_assoc] using nd) (by simp [l1]) (by simpa using l2)
      simpa [List.append_assoc] using this
theorem zip_maps : ∀ (ks : List Key) (ps : List (V × V)), ps.map (·.1) = ks.map kV → ps = (ks.zip (ps.map (·.2))).map fun kv => (kV kv.1, kv.2)
  | [], ps, h => by
    have : ps = [] := by simpa using h
    subst this; rfl
  | k :: ks, [], h => by simp at h
  | k :: ks, (a, b) :: ps, h => by
    simp at h
    have := zip_maps ks ps h.2
    simp only [List.map_cons, List.zip_cons_cons]
    rw [← this, h.1]
theorem Rl.put {g : Gd} {Z r : List Addr} {H : Hp} {q : Addr} {st : Store} {u : HO} (R : Rl g (q :: Z) r H st) : Rl g (q :: Z) r (upd H q u) st := by
  have np : ¬ Nin (q :: Z) r q := fun n => n.1 List.mem_cons_self
  refine ⟨R.len, R.nd, fun a m => ?_, fun k d e => ?_⟩
  · obtain ⟨n, w, ew⟩ := R.z a m
    by_cases ha : a = q
    · subst ha; exact ⟨n, _, upd_same⟩
    · exact ⟨n, w, by rw [upd_ne ha]; exact ew⟩
  · obtain ⟨a, ea, t, xs, vs, ed, hm, hx⟩ := R.cell k d e
    have ha : a ≠ q := fun z => (R.z q List.mem_cons_self).1 (z ▸ List.mem_of_getElem? ea)
    exact ⟨a, ea, t, xs, vs, ed, hm.keep (upd_ne ha), RepL.off np _ hx⟩
theorem Rl.keep1 {g : Gd} {Z r : List Addr} {H : Hp} {q : Addr} {st : Store} {u : HO} (R : Rl g Z r H st) (hq : H q = none) : Rl g (q :: Z) r (upd H q u) st := by
  have R1 := R.new (o := u) hq
  have hpr := R.free hq
  exact ⟨R1.len, R1.nd, fun a m => by
    rcases List.mem_cons.mp m with rfl | m
    · exact ⟨hpr.2, _, upd_same⟩
    · exact R1.z a m, fun k d e => by
    obtain ⟨a, ea, t, xs, vs, ed, hm, hx⟩ := R.cell k d e
    obtain ⟨w, ew⟩ := hm.some
    exact ⟨a, ea, t, xs, vs, ed, hm.keep (upd_ne (ne_of_none ew hq)), RepL.extZ (Ext.new hq) (fun b hb => by
      rcases List.mem_cons.mp hb with rfl | hb
      · exact .inr hq
      · exact .inl hb) hx⟩⟩
theorem EnvR.keep1 {g : Gd} {Z r : List Addr} {H : Hp} {q : Addr} {env : DEnv} {sg : L2.St} {u : HO} (E : EnvR g Z r H env sg) (hq : H q = none) : EnvR g (q :: Z) r (upd H q u) env sg :=
  ⟨E.len, fun i d h => let ⟨v, a, b⟩ := E.at_ i d h; ⟨v, a, Rep.extZ (Ext.new hq) (fun b hb => by
      rcases List.mem_cons.mp hb with rfl | hb
      · exact .inr hq
      · exact .inl hb) b⟩⟩
theorem RepX.less {g : Gd} {Z r : List Addr} {H : Hp} {q : Addr} {e : Ex} {c : Value} {d : Option Addr} (h : RepX g (q :: Z) r H e c d) : RepX g Z r H e c d := by
  obtain ⟨h1, h2⟩ := h
  refine ⟨h1, ?_⟩
  rcases h2 with h2 | ⟨dx, vs, a, b, n, f, g'⟩
  · exact .inl h2
  · exact .inr ⟨dx, vs, a, b, ⟨fun m => n.1 (List.mem_cons_of_mem _ m), n.2⟩, f, RepL.less g'⟩
theorem Ext.fresh {r r2 : List Addr} {H H2 : Hp} {q : Addr} {u w : HO} (e : Ext r (upd H q u) r2 H2) (hq : H q = none) : Ext r H r2 (upd H2 q w) :=
  ⟨e.pre, fun a o h n => by
    have ne := ne_of_none h hq
    obtain ⟨h1, n1⟩ := e.keep a o (by rw [upd_ne ne]; exact h) n
    exact ⟨by rw [upd_ne ne]; exact h1, n1⟩⟩
/-- a dict that stays, a dict that will be changed -/
def dDict (fs : List (SemE × SemE)) : SemE := fun env st => (dPairs fs env st).bind fun ps st1 => match keys? (ps.map (·.1)) with
  | some ks => if ks.Nodup ∧ ps.length ≤ 15 then .ok (.nd (.dk ks) (ps.map (·.2))) st1 else .no
  | none => .no
def dDictM (fs : List (SemE × SemE)) : SemE := fun env st => (dPairs fs env st).bind fun ps st1 => match keys? (ps.map (·.1)) with
  | some ks => if ks.Nodup ∧ ps.length ≤ 15 then .ok (.h st1.length) (st1 ++ [.nd (.dk ks) (ps.map (·.2))]) else .no
  | none => .no
theorem dict_rd {fs : List (SemE × SemE)} {fin : List Key → List D → Store → Res D} (sg : L2.St) (H : Hp) (Q : VK)
    (hfin : ∀ Z r H q, H q = none → q ∉ Z → ∀ ks xs st2 r2 H2 vs, Ext r H r2 H2 → (ks.length = vs.length ∧ ks.Nodup) → H2 q = some (.dK (ks.zip vs)) → Rl ⟨X.K, cl⟩ (q :: Z) r2 H2 st2 → RepL ⟨X.K, cl⟩ (q :: Z) r2 H2 xs vs → ∀ {W' : Value → Option Addr → Hp → Prop}, Post ⟨X.K, cl⟩ Z r H (RV ⟨X.K, cl⟩ Z) (fin ks xs st2) Q W' → Q (.ref q) H2)
    (h : rdE ⟨X.K, cl⟩ W (fun env st => (dPairs fs env st).bind fun ps st1 => match keys? (ps.map (·.1)) with
      | some ks => if ks.Nodup ∧ ps.length ≤ 15 then fin ks (ps.map (·.2)) st1 else .no
      | none => .no) sg H Q) : tDisp (fs.map fun q => (rdE ⟨X.K, cl⟩ W q.1, rdE ⟨X.K, cl⟩ W q.2)) sg H Q := by
  obtain ⟨Z, r, env, st, E, R, h⟩ := h
  dsimp only at h
  intro q hq
  have hz := (R.free hq).1
  refine pairs_rd (Z := q :: Z) fs (E.keep1 hq) (R.keep1 hq) ?_
  cases hp : dPairs fs env st with
  | no => rw [hp] at h; exact h.elim
  | er ex st1 =>
    rw [hp] at h
    exact fun r1 H1 c d e1 R1 q1 => h r1 H1 c d ⟨e1.pre, fun a o ha n => e1.keep a o (by rw [upd_ne (ne_of_none ha hq)]; exact ha) n⟩ R1.less q1.less
  | ok ps st1 =>
    rw [hp] at h
    dsimp only [Res.bind] at h
    intro r1 H1 ws e1 R1 q1
    have hd : H1 q = some (.dK []) := (e1.keep q _ upd_same (fun z => (R.free hq).2 z)).1
    refine ⟨hd, ?_⟩
    cases hk : keys? (ps.map (·.1)) with
    | none => rw [hk] at h; exact h.elim
    | some ks =>
      rw [hk] at h
      dsimp only at h
      split at h
      · rename_i hc
        have ek := keys_ok hk q1.1
        have l1 : ks.length = (ws.map (·.2)).length := by
          have := congrArg List.length ek
          simpa using this.symm
        have l2 : ps.length = ws.length := by simpa using q1.1.length
        refine ⟨ks.zip (ws.map (·.2)), zip_maps ks ws ek, ?_, ?_⟩
        · rw [List.length_zip, ← l1, Nat.min_self, l1, List.length_map, ← l2]; exact hc.2
        · have em := merge_nd ks [] (ws.map (·.2)) [] (by simpa using hc.1) rfl l1
          simp only [List.nil_append, List.zip_nil_left] at em
          rw [em]
          have np : ¬ Nin (q :: Z) r1 q := fun n => n.1 List.mem_cons_self
          exact hfin Z r H q hq hz ks _ st1 r1 _ _ (e1.fresh hq) ⟨l1, hc.1⟩ upd_same R1.put (RepL.off np _ q1.2) h
      · exact h.elim
theorem se_dict {keys : List (Option Expr)} {values : List Expr} {fs : List (SemE × SemE)} (h : SPs X cl W pos keys values fs) (hall : keys.all (·.isSome) = true := by rfl) (hl : keys.length = values.length := by rfl) (h0 : keys ≠ [] := by exact List.cons_ne_nil _ _) (h15 : keys.length ≤ 15 := by show (_ : Nat) ≤ 15; decide) :
    SE X cl W (.Dict keys values pos) (dDict fs) :=
  ⟨(pe_disp h.run hall hl h0 h15).imp fun sg H Q h => dict_rd (fin := fun ks xs st => .ok (.nd (.dk ks) xs) st) sg H Q (fun Z r H q hq hz ks xs st2 r2 H2 vs e hl hd R qx {W'} h => h r2 H2 _ e R.less ⟨q, vs, rfl, ⟨⟨hz, (R.z q List.mem_cons_self).1⟩, hl, hd⟩, RepL.less qx⟩) h⟩
theorem se_dictM {keys : List (Option Expr)} {values : List Expr} {fs : List (SemE × SemE)} (h : SPs X cl W pos keys values fs) (hall : keys.all (·.isSome) = true := by rfl) (hl : keys.length = values.length := by rfl) (h0 : keys ≠ [] := by exact List.cons_ne_nil _ _) (h15 : keys.length ≤ 15 := by show (_ : Nat) ≤ 15; decide) :
    SE X cl W (.Dict keys values pos) (dDictM fs) :=
  ⟨(pe_disp h.run hall hl h0 h15).imp fun sg H Q h => dict_rd (fin := fun ks xs st => .ok (.h st.length) (st ++ [D.nd (Hd.dk ks) xs])) sg H Q (fun Z r H q hq hz ks xs st2 r2 H2 vs e hl hd R qx {W'} h =>
    h (r2 ++ [q]) H2 _ (e.adopt hq) (adoptM hz R (show HatM ⟨X.K, cl⟩ H2 q (.dk ks) vs from ⟨hl, hd⟩) qx) ⟨q, rfl, by rw [← R.len]; simp⟩) h⟩

/-! ### calls by keywords alone -/
def pmL {A : Type} (is : List Nat) (xs : List A) : List A := is.filterMap fun i => xs[i]?
theorem pm_vals {vs : List V} {us : List Value} (h : Vals vs us) : ∀ is : List Nat, Vals (pmL is vs) (pmL is us)
  | [] => .nil
  | i :: is => by
    have ih := pm_vals h is
    unfold pmL at ih ⊢
    rw [List.filterMap_cons, List.filterMap_cons]
    cases hv : vs[i]? with
    | none =>
      have : us[i]? = none := List.getElem?_eq_none (by rw [← h.length]; exact List.getElem?_eq_none_iff.mp hv)
      rw [this]; exact ih
    | some v =>
      obtain ⟨u, hu, r⟩ := h.get hv
      rw [hu]; exact .cons r ih
theorem pm_rep {g : Gd} {Z r : List Addr} {H : Hp} {ds : List D} {vs : List V} (h : RepL g Z r H ds vs) : ∀ is : List Nat, RepL g Z r H (pmL is ds) (pmL is vs)
  | [] => rfl
  | i :: is => by
    have ih := pm_rep h is
    unfold pmL at ih ⊢
    rw [List.filterMap_cons, List.filterMap_cons]
    cases hd : ds[i]? with
    | none =>
      have : vs[i]? = none := List.getElem?_eq_none (by rw [← h.length]; exact List.getElem?_eq_none_iff.mp hd)
      rw [this]; exact ih
    | some d =>
      obtain ⟨v, hv, q⟩ := h.get hd
      rw [hv]; exact ⟨v, _, rfl, q, ih⟩
/-- the keywords ks, given in this order, are the parameters' values by is -/
def BindsK (K : PySem.W.Frag) (fd : FuncData) (ps ks : List Str) (is : List Nat) : Prop := ∀ (s : Shared) (ws : List Value), K.In s.heap → ws.length = ks.length → BindsTo s fd ⟨[], ks.zip ws⟩ (ps.zip (pmL is ws))
/-- behind a first value -/
def BindsK1 (K : PySem.W.Frag) (fd : FuncData) (ps ks : List Str) (is : List Nat) : Prop := ∀ (s : Shared) (u : Value) (ws : List Value), K.In s.heap → ws.length = ks.length → BindsTo s fd ⟨[u], ks.zip ws⟩ (ps.zip (u :: pmL is ws))
/-- u, called with the keywords ks, computes F -/
structure CalK (X : Cx) (cl : Nat → Addr) (W : WX) (u : Value) (ks : List Str) (F : SemF) : Prop where
  code : ∀ (pins : List (Addr × Obj)) (s : Shared) (sg : L2.St) (H : Hp) (Q : VK) (vs : List V) (us : List Value), Inv X pins sg H s → Vals vs us → rdC ⟨X.K, cl⟩ W F vs sg H Q → codeAny (model X.prog X.w) X.A (.call u ⟨[], ks.zip us⟩) (RcP X pins sg Q) s
theorem wp_codeK {pins : List (Addr × Obj)} {sg : L2.St} {Q : VK} {s : Shared} {u : Value} {args : Args} (h : codeAny (model X.prog X.w) X.A (.call u args) (RcP X pins sg Q) s) : wpAny (model X.prog X.w) X.A (call u args.pos args.kw) (EP X pins sg Q) X.xe s := by
  refine wpAny_call (codeAny_mono h fun q s' hq => ?_)
  cases q with
  | error e => exact hq
  | ok fl =>
    cases fl with
    | ret u => exact hq
    | next => exact False.elim hq
    | brk => exact False.elim hq
    | cont => exact False.elim hq
structure SK (X : Cx) (cl : Nat → Addr) (W : WX) (kws : List Keyword) (f : SemA) : Prop where
  run : PK X kws (rdA ⟨X.K, cl⟩ W f)
theorem pk_imp {kws : List Keyword} {t t' : TA} (h : PK X kws t) (f : ∀ sg H Q, t' sg H Q → t sg H Q) : PK X kws t' := ⟨fun q pins s sg H Q I z => h.run q pins s sg H Q I (f sg H Q z)⟩
theorem sk_nil : SK X cl W [] dNil := ⟨pk_imp pk_nil fun sg H Q ⟨Z, r, env, st, E, R, h⟩ => post_ok h R rfl⟩
theorem sk_cons {nm : Option Str} {kws : List Keyword} {fr : SemA} (ha : SE X cl W e fe) (hr : SK X cl W kws fr) : SK X cl W (⟨nm, e, p⟩ :: kws) (dCons fe fr) := by
  refine ⟨pk_imp (pk_cons ha.run hr.run) fun sg H Q ⟨Z, r, env, st, E, R, h⟩ => ?_⟩
  refine ⟨Z, r, env, st, E, R, Post.bind h fun x st1 r1 H1 v _ e1 R1 q1 h1 => ?_⟩
  refine ⟨Z, r1, env, st1, E.ext e1, R1, Post.bind h1 fun xs st2 r2 H2 vs _ e2 R2 q2 h2 => ?_⟩
  exact post_ok h2 R2 ⟨v, vs, rfl, Rep.ext e2 x q1, q2⟩
theorem se_callK {a : Addr} {kws : List Keyword} {ks : List Str} (hF : CalK X cl W (.ref a) ks F) (hm : X.mg x = some (.ref a)) (hk : PySem.W.keepIn X.K (.ref a) = true) (ha : SK X cl W kws fa) (hg : Gl X x := by rfl) (hdb : (x == ("__debug__" : Str)) = false := by decide +kernel)
    (hall : (backToKw pos (keywordEach kws X.env)).all (·.1.isSome) = true := by rfl) (hks : (backToKw pos (keywordEach kws X.env)).filterMap (·.1) = ks := by rfl)
    (hpl : ((backTo pos (starEach [] X.env)).any (·.1) || (backToKw pos (keywordEach kws X.env)).any (·.1.isNone)) = false := by rfl) : SE X cl W (.Call (.Name x p) [] kws pos) (dCall F fa) := by
  refine ⟨⟨fun pins s sg H Q I h => ?_⟩⟩
  refine wpAny_Call_Name_kw (ld_glob I hg hm ?_ hdb)
  have h' : rdA ⟨X.K, cl⟩ W fa sg H fun vs H1 => rdC ⟨X.K, cl⟩ W F vs sg H1 Q := by
    obtain ⟨Z, r, env, st, E, R, h⟩ := h
    exact ⟨Z, r, env, st, E, R, Post.bind h fun ds st1 r1 H1 vs _ e1 R1 q1 h1 => ⟨Z, r1, st1, ds, q1, R1, h1⟩⟩
  refine PySem.W.callWith_KW0 (h₀ := X.base) I.ok.mod.kin hk hall (thn (ha.run.run pos pins s sg H _ I h') fun us s1 ⟨vs, H1, I1, rv, q⟩ => ⟨I1.kIn, ?_⟩) hpl
  rw [hks]
  exact wp_codeK (args := ⟨[], ks.zip us⟩) (hF.code pins s1 sg H1 Q vs us I1 rv q)
/-- the same function of the arguments as the keywords stand: n of them, for m parameters -/
def kwF (n m : Nat) (is : List Nat) (F : SemF) : SemF := fun ds st => if ds.length = n ∧ is.length = m ∧ (is.all fun i => decide (i < n)) = true then F (pmL is ds) st else .no
theorem calK_fn {k : Nat} {f : Addr} {fd : FuncData} {ps ks : List Str} {is : List Nat} {F : SemF} (hF : FnG X.prog X.w X.K X.mg X.base k f fd ps (spF ⟨X.K, cl⟩ ps.length F)) (hr : Room k X.A) (hg : X.A.guards = some []) (hb : BindsK X.K fd ps ks is) (tk : Takes X W) :
    CalK X cl W (.ref f) ks (kwF ks.length ps.length is F) := by
  refine ⟨fun pins s sg H Q vs us I r h => ?_⟩
  obtain ⟨Z, ra, st, ds, qd, R, h⟩ := h
  unfold kwF at h
  split at h
  · rename_i hc
    have hl : us.length = ks.length := by rw [← r.length, ← qd.length]; exact hc.1
    have hlen : ∀ (js : List Nat), (js.all fun i => decide (i < ks.length)) = true → (pmL js vs).length = js.length := by
      intro js hj
      induction js with
      | nil => rfl
      | cons j js ih =>
        rw [List.all_cons, Bool.and_eq_true] at hj
        have : j < vs.length := by rw [← qd.length, hc.1]; exact of_decide_eq_true hj.1
        unfold pmL at ih ⊢
        rw [List.filterMap_cons, List.getElem?_eq_getElem this]
        simp [ih hj.2]
    refine codeAny_mono (hF.run X.A X.stack s H ⟨[], ks.zip us⟩ (pmL is us) (pmL is vs) Q (fun c d H' => W c d sg H') hr hg I.env0 (hb s us I.kIn hl) (pm_vals r is) ⟨by rw [hlen is hc.2.2]; exact hc.2.1, Z, ra, st, pmL is ds, pm_rep qd is, R, h⟩) fun rr s' hq => ?_
    cases rr with
    | error e => exact tk e s' (XE.of_call I (fun _ _ _ q => q) hq)
    | ok fl =>
      cases fl with
      | ret u => exact I.after hq
      | next => exact False.elim hq
      | brk => exact False.elim hq
      | cont => exact False.elim hq
  · exact h.elim
end
end DY

set_option Elab.async false
set_option linter.all false
set_option maxRecDepth 100000
set_option maxHeartbeats 4000000
/-! Walks over tuples in pairs; sorted; sets of rows. -/
namespace DY
open PySem PySem.Spec PyProof.Rows L2
/-! ### enumerate of a tuple -/
def ItE (K : PySem.W.Frag) (a : Addr) (n : Nat) : It :=
  ⟨fun i H => ∃ (us : List V) (u : V), SqT K H a us ∧ us.length = n ∧ us[i]? = some u,
   fun i H v H' => ∃ T u, v = .ref T ∧ H T = none ∧ H' = upd H T (.tup [.int (i : Nat), u]) ∧ ∀ us, SqT K H a us → us[i]? = some u,
   fun i H => ∃ us : List V, SqT K H a us ∧ us.length = n ∧ n ≤ i⟩
theorem turn_etup {P : Program} {w : World} {K : PySem.W.Frag} {elts : List Expr} {kk : Nat} {tpos : Pos} (a e it : Addr) (n : Nat) :
    Turn P w K (.Tuple elts kk tpos) (ItE K a n) [e, it] e (fun i h => (∃ old, IsEnum h e it ((i : Nat) : Int) old) ∧ h.IsTupleIter it a i ∧ e ≠ it ∧ i ≤ n ∧ a ≠ it ∧ a ≠ e) where
  mem := List.mem_cons_self
  obj := by
    rintro i h ⟨⟨old, he⟩, ⟨o, ho, hc, hd⟩, _⟩ b hb
    have hb' : b = e ∨ b = it := by simpa using hb
    rcases hb' with rfl | rfl
    · exact ⟨_, he, fun v z => nomatch z⟩
    · exact ⟨o, ho, fun v z => by rw [hd] at z; cases z⟩
  keep := by
    rintro i h h' ⟨⟨old, he⟩, hi, hr⟩ k
    exact ⟨⟨old, k e List.mem_cons_self _ he⟩, hi.at fun o q => k it (by simp) o q, hr⟩
  item := by
    rintro X rfl rfl rfl hc i pins s sg H E I hf ⟨⟨old, he⟩, hit, hne, hin, hai, hae⟩ ⟨us, u, hq, hn, hx⟩
    obtain ⟨its, rv, tp, _⟩ := I.tuple hq
    obtain ⟨z, hz, rz⟩ := rv.get hx
    have lt1 : e < s.heap.objs.size := Heap.lt_size he
    have lt2 : it < s.heap.objs.size := by obtain ⟨_, q, _⟩ := id hit; exact Heap.lt_size q
    have hi : i < its.toArray.size := by simpa using (List.getElem?_eq_some_iff.mp hz).1
    have Dr := Draws.tuple (prog := X.prog) (w := X.w) (A := X.A.in1) (I.ok.hd hc) it a hai its.toArray
    refine wpAny_pyNext_enum_itemD Dr he ⟨hit, tp⟩ hi hne (by simp; exact ⟨hne, Ne.symm hae⟩) fun y h1 tk hy ho st1 hT hsz hk => ?_
    have ey : y = z := by
      have h2 : its.toArray[i]? = some z := by simpa using hz
      have h3 : its.toArray[i]? = some y := hy
      rw [h2] at h3; exact (Option.some.inj h3).symm
    subst ey
    refine ⟨_, rfl, wpAny_letOwnedTupleGo_enum (s := { s with heap := h1, toks := tk + 1 }) ho fun h2 he2 sb => ?_⟩
    have hT2 : h2.get? s.heap.objs.size = some { cls := .type "tuple", data := .seq #[.int i tk, y] } := (sb.2 _ (Nat.ne_of_gt lt1)).trans hT
    have new : ObjOk X.prog X.w (upd H s.heap.objs.size (.tup [.int (i : Nat), u])) h2 s.heap.objs.size (.tup [.int (i : Nat), u]) :=
      ⟨by show 2 ≤ sizeLine; decide, [.int i tk, y], .cons ⟨_, rfl⟩ (.cons rz .nil), _, hT2, rfl, _, rfl⟩
    have I1 := I.turnedNew (t' := tk + 1) (ch := [e, it]) (fun b ob hb q => by
      have n1 : b ≠ e := fun z => hb (by simp [z])
      have n2 : b ≠ it := fun z => hb (by simp [z])
      exact (sb.2 b n1).trans (hk b ob n1 n2 q)) hf (Nat.le_refl _) new
    refine ⟨.ref s.heap.objs.size, _, I1, rfl, ⟨_, u, rfl, I.hok.fresh (Nat.le_refl _), rfl, fun ys hy => by rw [I.tuple_inj hy hq]; exact hx⟩, ⟨⟨y, ?_⟩, st1.1.at fun o q => (sb.2 it (Ne.symm hne)).trans q, hne, ?_, hai, hae⟩, fun b hb => ?_⟩
    · have : ((i + 1 : Nat) : Int) = (i : Int) + 1 := by omega
      rw [this]; exact he2
    · have := (List.getElem?_eq_some_iff.mp hx).1
      omega
    · have hb' : b < s.heap.objs.size := by
        have : b = e ∨ b = it := by simpa using hb
        rcases this with rfl | rfl
        · exact lt1
        · exact lt2
      rw [upd_ne (Nat.ne_of_lt hb')]
      exact (hf b hb).1
  done := by
    rintro X rfl rfl rfl hc i pins s sg H E I hf ⟨⟨old, he⟩, hit, hne, hin, hai, hae⟩ ⟨us, hq, hn, hle⟩
    obtain ⟨its, rv, tp, _⟩ := I.tuple hq
    obtain ⟨f0, f1, f2, f3, f4, f5⟩ := hf it (by simp)
    have hl := rv.length
    have hi : i = its.toArray.size := by simp; omega
    have Dr := Draws.tuple (prog := X.prog) (w := X.w) (A := X.A.in1) (I.ok.hd hc) it a hai its.toArray
    refine wpAny_pyNext_enum_endD Dr he ⟨hi ▸ hit, tp⟩ fun h1 eb => ⟨rfl, I.turned (t' := s.toks) (fun b o hb q => eb b o hb q) f0 f1 f3 f4 f5⟩
  self := fun A i s Q E st h => by
    obtain ⟨⟨_, he⟩, _⟩ := st
    exact wpAny_pyIter_enum he h
theorem meets_enum1 {v : Value} {o : Obj} {Ph : Heap → Prop} (B : Begins v o Ph) :
    Meets (Builtin.«enumerate.__new__» ⟨[.type "enumerate", v], []⟩) (fun _ R s => Ph s.heap ∧
      R (.ok (.ret (.ref (s.heap.push o).objs.size))) { s with heap := (s.heap.push o).push { cls := .type "enumerate", data := .fields #[.none, .bool false, .ref s.heap.objs.size, rawInt 0, .none, .none] } }) :=
  .of_wp fun prog w A R s0 hyp => by
    obtain ⟨hp0, g0, d0, t0, o0⟩ := s0
    obtain ⟨ph, goal⟩ := hyp
    have hsub := sub_enumerate
    have it0 : ∀ {A' : Around} {E : Value → Shared → Prop} {Q : Value → Shared → Prop}, Q (.ref hp0.objs.size) ⟨hp0.push o, g0, d0, t0, o0⟩ → wpAny (model prog w) A' (pyIter v) Q E ⟨hp0, g0, d0, t0, o0⟩ :=
      fun q => B.iter prog w _ _ ⟨hp0, g0, d0, t0, o0⟩ _ ph q
    wp_walk using it0
    refine wpAny_stack_any fun sk => wpAny_pure ?_
    split
    · rename_i cc _ _ _ _ _
      cases (cc == Value.type "enumerate") <;> (wp_walk using it0; exact ⟨_, rfl, goal⟩)
    · wp_walk using it0
      exact ⟨_, rfl, goal⟩
theorem enum1_begins {prog : Program} {w : World} {A : Around} {E : Value → Shared → Prop} {s : Shared} {v : Value} {o : Obj} {Ph : Heap → Prop} {Q : Value → Shared → Prop} (B : Begins v o Ph) (ph : Ph s.heap)
    (goal : ∀ h1, IsEnum h1 (s.heap.objs.size + 1) s.heap.objs.size 0 .none → h1.get? s.heap.objs.size = some o → h1.objs.size = s.heap.objs.size + 2 →
      (∀ b u, s.heap.get? b = some u → h1.get? b = some u) → Q (.ref (s.heap.objs.size + 1)) { s with heap := h1 }) :
    wpAny (model prog w) A (call (.type "enumerate") [v]) Q E s := by
  refine callType_new F.called_enumerate (by decide) (F.typeCall_enumerate_1 _) (F.newCall_enumerate_1 _) (fun ob => F.args_object_init_2 ob _) F.entry_enumerate_new (meets_enum1 B) ⟨ph, ?_⟩
  have sz : (s.heap.push o).objs.size = s.heap.objs.size + 1 := Heap.size_push ..
  show _ ∧ _
  rw [sz]
  have en : IsEnum ((s.heap.push o).push { cls := .type "enumerate", data := .fields #[.none, .bool false, .ref s.heap.objs.size, rawInt 0, .none, .none] }) (s.heap.objs.size + 1) s.heap.objs.size 0 .none := by
    have := Heap.get?_push_size (s.heap.push o) (o := { cls := .type "enumerate", data := .fields #[.none, .bool false, .ref s.heap.objs.size, rawInt 0, .none, .none] }) rfl
    rw [sz] at this
    exact this
  exact ⟨⟨_, en, rfl⟩, goal _ en (Heap.get?_push_of_some _ (Heap.get?_push_size _ B.free)) (by rw [Heap.size_push, sz]) fun b u q => Heap.get?_push_of_some _ (Heap.get?_push_of_some _ q)⟩
section
variable {X : Cx} {cl : Nat → Addr} {W : WX} {pos : Pos} {x : Str} {p p2 apos : Pos} {e o : Expr} {es : List Expr} {fa : SemA} {fo fe : SemE} {F : SemF}
def iEtup (K : PySem.W.Frag) (ta : TA) : TI := fun sg H R => ta sg H fun vs H1 => ∃ a us, vs = [.ref a] ∧ SqT K H1 a us ∧ R (ItE K a us.length) H1
theorem pi_etup {elts : List Expr} {kk : Nat} {tpos : Pos} {ta : TA} (hg : Gl X "enumerate") (hm : X.mg "enumerate" = none) (ha : PA X [e] ta) (hs : starEach [e] X.env = [(false, eval e X.env)] := by rfl) :
    PI X (.Tuple elts kk tpos) (.Call (.Name "enumerate" p) [e] [] pos) (iEtup X.K ta) := by
  refine ⟨fun pins s sg H R I h => ?_⟩
  refine Call_ (ld_blt I hg hm boot_enumerate (PyProof.Rows.callWith_type1 (thn (ha.run pos pins s sg H _ I h) fun us s1 ⟨vs, H1, I1, r1, a, ys, ev, hq, q⟩ => ?_) hs rfl))
  subst ev
  obtain ⟨u, rfl, ru⟩ := vals1 r1
  obtain rfl : u = Value.ref a := ru
  obtain ⟨its, rv, tp, _⟩ := I1.tuple hq
  have la : a < s1.heap.objs.size := by obtain ⟨o, q, _⟩ := tp; exact Heap.lt_size q
  refine enum1_begins (begins_tuple a its.toArray) tp fun h1 en hit sz hk => wpAny_pyIter_enum en ?_
  refine ⟨s1.heap.objs.size + 1, [s1.heap.objs.size + 1, s1.heap.objs.size], _, _, H1, rfl, I1.kept (t' := s1.toks) hk, turn_etup a (s1.heap.objs.size + 1) s1.heap.objs.size ys.length,
    ⟨⟨.none, en⟩, ⟨_, hit, rfl, rfl⟩, Nat.succ_ne_self _, Nat.zero_le _, Nat.ne_of_lt la, Nat.ne_of_lt (Nat.lt_succ_of_lt la)⟩, fun b hb => ?_, q⟩
  have hle : s1.heap.objs.size ≤ b := by
    have : b = s1.heap.objs.size + 1 ∨ b = s1.heap.objs.size := by simpa using hb
    rcases this with rfl | rfl
    · exact Nat.le_succ _
    · exact Nat.le_refl _
  exact I1.fpOk hle (I1.hok.fresh hle)
/-- enumerate of a list or a tuple -/
@[simp] def iEnum2 (f : SemA) : SemI := fun env st => (f env st).bind fun ds st1 => match ds with
  | [x] => match lst? st1 x with
    | some xs => .ok ⟨enuFrom 0 xs, fun st2 => lst? st2 x = some xs⟩ st1
    | none => match tup? st1 x with
      | some xs => .ok ⟨enuFrom 0 xs, fun st2 => tup? st2 x = some xs⟩ st1
      | none => .no
  | _ => .no
theorem it_etup {g : Gd} {Z r : List Addr} {H : Hp} {x : D} {a : Addr} {xs : List D} (h : Rep g Z r H x (.ref a)) : ItOk g Z r H ⟨enuFrom 0 xs, fun st2 => tup? st2 x = some xs⟩ (ItE g.K a xs.length) := by
  intro Z1 r1 H1 st1 i e z R1 hc
  obtain ⟨b, vs, e1, q, s⟩ := tup_ok R1 (Rep.extZ e z h) hc
  cases e1
  refine ⟨fun d hd => ?_, fun hl => ⟨vs, s, q.length.symm, by simpa [enu_len] using hl⟩⟩
  dsimp only at hd
  rw [enu_get] at hd
  cases hx : xs[i]? with
  | none => rw [hx] at hd; cases hd
  | some c =>
    rw [hx] at hd
    cases hd
    obtain ⟨v, hv, qv⟩ := q.get hx
    refine ⟨⟨vs, v, s, q.length.symm, hv⟩, fun y H2 hy => ?_⟩
    obtain ⟨T, w, rfl, hT, rfl, hw⟩ := hy
    have := hw vs s
    rw [hv] at this; cases this
    refine ⟨Ext.new hT, R1.new hT, ?_⟩
    exact new_tup (vs := [.int (i : Nat), v]) (xs := [.int ((0 + i : Nat) : Int), c]) R1 ⟨_, _, rfl, by simp [Rep], _, _, rfl, qv, rfl⟩ hT
theorem si_enum2 {elts : List Expr} {kk : Nat} {tpos : Pos} {f : SemA} (hm : X.mg "enumerate" = none) (ha : SA X cl W [e] f) (hg : Gl X "enumerate" := by rfl) (hs : starEach [e] X.env = [(false, eval e X.env)] := by rfl) :
    SI X cl W (.Tuple elts kk tpos) (.Call (.Name "enumerate" p) [e] [] pos) (iEnum2 f) := by
  refine ⟨((pi_enum hg hm ha.run hs).or (pi_etup hg hm ha.run hs)).imp fun sg H Q ⟨Z, r, env, st, En, R, h⟩ => ?_⟩
  dsimp only [iEnum2] at h
  cases hf : f env st with
  | no => rw [hf] at h; exact h.elim
  | er x st1 => rw [hf] at h; exact .inl ⟨Z, r, env, st, En, R, by rw [hf]; exact h⟩
  | ok ds st1 =>
    rw [hf] at h
    dsimp only [Res.bind] at h
    split at h
    · rename_i x
      cases hl : lst? st1 x with
      | some xs =>
        rw [hl] at h
        refine .inl ⟨Z, r, env, st, En, R, ?_⟩
        rw [hf]
        rintro r1 H1 vs e1 R1 ⟨v, q, rfl, a1, rfl⟩
        obtain ⟨a, us, rfl, q, s⟩ := lst_ok R1 a1 hl
        exact ⟨a, us, rfl, s, h r1 H1 _ e1 R1 (it_enu a1)⟩
      | none =>
        rw [hl] at h
        dsimp only at h
        cases ht : tup? st1 x with
        | some xs =>
          rw [ht] at h
          refine .inr ⟨Z, r, env, st, En, R, ?_⟩
          rw [hf]
          rintro r1 H1 vs e1 R1 ⟨v, q, rfl, a1, rfl⟩
          obtain ⟨a, us, rfl, q, s⟩ := tup_ok R1 a1 ht
          refine ⟨a, us, rfl, s, ?_⟩
          rw [← q.length]
          exact h r1 H1 _ e1 R1 (it_etup a1)
        | none => rw [ht] at h; exact h.elim
    · exact h.elim

/-! ### zip of two lists or of two tuples -/
@[simp] def iZip2 (f : SemA) : SemI := fun env st => (f env st).bind fun ds st1 => match ds with
  | [x, y] => match lst? st1 x, lst? st1 y with
    | some xs, some ys => .ok ⟨zipD xs ys, fun st2 => lst? st2 x = some xs ∧ lst? st2 y = some ys⟩ st1
    | _, _ => match tup? st1 x, tup? st1 y with
      | some xs, some ys => .ok ⟨zipD xs ys, fun st2 => tup? st2 x = some xs ∧ tup? st2 y = some ys⟩ st1
      | _, _ => .no
  | _ => .no
theorem it_ztup {g : Gd} {Z r : List Addr} {H : Hp} {x y : D} {a b : Addr} {xs ys : List D} (h : Rep g Z r H x (.ref a)) (h' : Rep g Z r H y (.ref b)) : ItOk g Z r H ⟨zipD xs ys, fun st2 => tup? st2 x = some xs ∧ tup? st2 y = some ys⟩ (RZ.ItzT g.K a b) := by
  intro Z1 r1 H1 st1 i e z R1 hc
  obtain ⟨_, vs, e1, q, s⟩ := tup_ok R1 (Rep.extZ e z h) hc.1
  cases e1
  obtain ⟨_, us, e1, q', s'⟩ := tup_ok R1 (Rep.extZ e z h') hc.2
  cases e1
  refine ⟨fun d hd => ?_, fun hl => ⟨vs, us, s, s', ?_⟩⟩
  · dsimp only at hd
    rw [zip_get] at hd
    cases hx : xs[i]? with
    | none => rw [hx] at hd; cases hd
    | some c =>
      cases hy : ys[i]? with
      | none => rw [hx, hy] at hd; cases hd
      | some c' =>
        rw [hx, hy] at hd
        cases hd
        obtain ⟨v, hv, qv⟩ := q.get hx
        obtain ⟨u, hu, qu⟩ := q'.get hy
        refine ⟨⟨vs, us, v, u, s, s', hv, hu⟩, fun y H2 hy => ?_⟩
        obtain ⟨T, w, w', rfl, hT, rfl, hw, hw'⟩ := hy
        have := hw vs s
        rw [hv] at this; cases this
        have := hw' us s'
        rw [hu] at this; cases this
        exact ⟨Ext.new hT, R1.new hT, new_tup (vs := [v, u]) R1 ⟨_, _, rfl, qv, _, _, rfl, qu, rfl⟩ hT⟩
  · rw [← q.length, ← q'.length]
    have hn : (zipD xs ys)[i]? = none := List.getElem?_eq_none hl
    rw [zip_get] at hn
    by_cases h1 : xs.length ≤ i
    · exact .inl h1
    · by_cases h2 : ys.length ≤ i
      · exact .inr h2
      · rw [List.getElem?_eq_getElem (by omega), List.getElem?_eq_getElem (by omega)] at hn
        cases hn
theorem si_zip2 {elts : List Expr} {kk : Nat} {tpos : Pos} {e2 : Expr} {f : SemA} (hm : X.mg "zip" = none) (ha : SA X cl W [e, e2] f) (hg : Gl X "zip" := by rfl)
    (hs : starEach [e, e2] X.env = (false, eval e X.env) :: starEach [e2] X.env := by rfl) (hpl : (backTo pos (starEach [e2] X.env)).any (·.1) = false := by rfl) :
    SI X cl W (.Tuple elts kk tpos) (.Call (.Name "zip" p) [e, e2] [] pos) (iZip2 f) := by
  refine ⟨(RZ.pi_zipA hg hm ha.run hs hpl).imp fun sg H Q ⟨Z, r, env, st, En, R, h⟩ => ⟨Z, r, env, st, En, R, Post.bind h fun ds st1 r1 H1 vs _ e1 R1 q1 h1 => ?_⟩⟩
  split at h1
  · rename_i x y
    obtain ⟨v, q, rfl, a1, w, q', rfl, a2, rfl⟩ := q1
    split at h1
    · rename_i xs ys hx hy
      obtain ⟨a, vs, rfl, q, s⟩ := lst_ok R1 a1 hx
      obtain ⟨b, us, rfl, q', s'⟩ := lst_ok R1 a2 hy
      exact ⟨a, b, vs, us, rfl, .inl ⟨s, s', post_ok h1 R1 (it_zip a1 a2)⟩⟩
    · split at h1
      · rename_i xs ys hx hy
        obtain ⟨a, vs, rfl, q, s⟩ := tup_ok R1 a1 hx
        obtain ⟨b, us, rfl, q', s'⟩ := tup_ok R1 a2 hy
        exact ⟨a, b, vs, us, rfl, .inr ⟨s, s', post_ok h1 R1 (it_ztup a1 a2)⟩⟩
      · exact h1.elim
  · exact h1.elim
end
end DY

set_option Elab.async false
set_option linter.all false
set_option maxRecDepth 100000
set_option maxHeartbeats 4000000
/-! sorted of data; sorted(set(..)) of rows of ints. -/
namespace DY
open PySem PySem.Spec PyProof.Rows L2
section
variable {X : Cx} {cl : Nat → Addr} {W : WX} {pos : Pos} {x : Str} {p p2 p3 apos : Pos} {e o : Expr} {es : List Expr} {fa : SemA} {fo fe : SemE} {F : SemF}
/-! ### sorted(xs) -/
def encD (st : Store) (d : D) : PyData := (toP deepP st d).getD .none
def sortOk (st : Store) (xs : List D) : Prop := (∀ d ∈ xs, (∃ q, toP deepP st d = some q) ∧ (encD st d).depth ≤ 60) ∧ PySem.W.AllAlike (xs.map (encD st)) ∧ PySem.W.Sortable (xs.map (encD st))
def sortD (st : Store) (xs : List D) : List D := xs.mergeSort (PySem.W.dataLe false (encD st))
noncomputable def dSorted : SemF := fun ds st => match ds with
  | [x] => match lst? st x with
    | some xs => open Classical in if sortOk st xs then .ok (.nd .lst (sortD st xs)) st else .no
    | none => .no
  | _ => .no
noncomputable def dSortedM : SemF := fun ds st => match ds with
  | [x] => match lst? st x with
    | some xs => open Classical in if sortOk st xs then .ok (.h st.length) (st ++ [.nd .lst (sortD st xs)]) else .no
    | none => .no
  | _ => .no
theorem each_of {g : Gd} {Z r : List Addr} {H : Hp} : ∀ {xs : List D} {vs : List V} {us : List Value}, RepL g Z r H xs vs → Vals vs us → PySem.W.EachIs (fun (u : Value) (d : D) => ∃ v, RelV v u ∧ Rep g Z r H d v) us xs
  | [], _, us, h, q => by cases h; cases q; exact .nil
  | d :: ds, _, us, h, q => by
    obtain ⟨v, w, rfl, h1, h2⟩ := h
    cases q with
    | cons a b => exact .cons ⟨v, a, h1⟩ (each_of h2 b)
theorem of_each {g : Gd} {Z r : List Addr} {H : Hp} : ∀ {xs : List D} {us : List Value}, PySem.W.EachIs (fun (u : Value) (d : D) => ∃ v, RelV v u ∧ Rep g Z r H d v) us xs → ∃ vs, RepL g Z r H xs vs ∧ Vals vs us
  | [], _, .nil => ⟨[], rfl, .nil⟩
  | d :: ds, _, .cons ⟨v, a, b⟩ h => by
    obtain ⟨vs, h1, h2⟩ := of_each h
    exact ⟨v :: vs, ⟨v, vs, rfl, b, h1⟩, .cons a h2⟩
theorem each_mem {A B : Type} {R S : A → B → Prop} : ∀ {as : List A} {bs : List B}, PySem.W.EachIs R as bs → (∀ a b, b ∈ bs → R a b → S a b) → PySem.W.EachIs S as bs
  | _, _, .nil, _ => .nil
  | _, _, .cons a h, f => .cons (f _ _ List.mem_cons_self a) (each_mem h fun x y m => f x y (List.mem_cons_of_mem _ m))
def rSortD (cl : Nat → Addr) (K : PySem.W.Frag) : List V → Hp → VK → Prop := fun vs H Q => ∃ Z r st a xs us, Rl ⟨K, cl⟩ Z r H st ∧ vs = [V.ref a] ∧ SqL K H a us ∧ RepL ⟨K, cl⟩ Z r H xs us ∧ sortOk st xs ∧
  ∀ q ws, H q = none → RepL ⟨K, cl⟩ Z r H (sortD st xs) ws → Q (.ref q) (upd H q (.lst ws))
theorem cr_sortD (hu : X.A.units + 64 < cLine) : CallR X (.builtin "sorted") (rSortD cl X.K) := by
  intro pins s sg H vs us Q I rv0 h
  obtain ⟨Z, r, st, a, xs, ys, R, rfl, sq, rx, ok, q⟩ := h
  rw [Vals.ref1 rv0]
  obtain ⟨its, rv, pl, hz⟩ := I.list sq
  have e0 := each_of rx rv
  have hlen := rx.length
  refine PySem.W.sorted_data (R := fun (u : Value) (d : D) => ∃ v, RelV v u ∧ Rep ⟨X.K, cl⟩ Z r H d v) (enc := encD st) pl.isList e0 (each_mem e0 fun u d m ⟨v, r1, r2⟩ => ?_) ok.2.1 ok.2.2 (by rw [hlen]; exact hz) (fun d m => ?_) fun out ho eo => ?_
  · obtain ⟨⟨w, hw⟩, _⟩ := ok.1 d m
    have : encD st d = w := by unfold encD; rw [hw]; rfl
    rw [this]
    exact Dp.reads I w v u (toP_ok R _ _ hw r2) r1
  · have := (ok.1 d m).2
    omega
  · obtain ⟨ws, h1, h2⟩ := of_each eo
    obtain ⟨ep, he⟩ := PyProof.Rows.sortedAll_at s.heap its out.toArray
    have hl2 : ws.length ≤ sizeLine := by rw [h2.length, ho, hlen]; exact hz
    exact ⟨.ref _, upd H (s.heap.objs.size + 1) (.lst ws), I.laid (t' := s.toks) (fun _ _ => PyProof.Rows.sortedAll_old) (Nat.le_succ _) ⟨hl2, out, ep, h2, he⟩, rfl, q _ ws (I.hok.fresh (Nat.le_succ _)) h1⟩
theorem cs_sorted (hu : X.A.units + 64 < cLine) : CS X cl (.builtin "sorted") dSorted := by
  refine ⟨_, cr_sortD (cl := cl) hu, fun {Z r H st ds vs Q W'} R qd h => ?_⟩
  unfold dSorted at h
  split at h
  · rename_i d
    obtain ⟨v, q, rfl, a1, rfl⟩ := qd
    split at h
    · rename_i xs hs
      split at h
      · rename_i ok
        obtain ⟨a, us, rfl, q, sq⟩ := lst_ok R a1 hs
        exact ⟨Z, r, st, a, xs, us, R, rfl, sq, q, ok, fun q' ws hq hw => h r _ _ (Ext.new hq) (R.new hq) (new_lst R hw hq)⟩
      · exact h.elim
    · exact h.elim
  · exact h.elim
theorem cs_sortedM (hu : X.A.units + 64 < cLine) : CS X cl (.builtin "sorted") dSortedM := by
  refine ⟨_, cr_sortD (cl := cl) hu, fun {Z r H st ds vs Q W'} R qd h => ?_⟩
  unfold dSortedM at h
  split at h
  · rename_i d
    obtain ⟨v, q, rfl, a1, rfl⟩ := qd
    split at h
    · rename_i xs hs
      split at h
      · rename_i ok
        obtain ⟨a, us, rfl, q, sq⟩ := lst_ok R a1 hs
        exact ⟨Z, r, st, a, xs, us, R, rfl, sq, q, ok, fun q' ws hq hw => let ⟨x1, x2⟩ := new_lstM R hw hq; h _ _ _ (Ext.grow hq) x1 x2⟩
      · exact h.elim
    · exact h.elim
  · exact h.elim

/-! ### sorted(set(rows)) -/
def lexB : List Int → List Int → Bool
  | [], [] => false
  | [], _ :: _ => true
  | _ :: _, [] => false
  | a :: as, b :: bs => decide (a < b) || (decide (a = b) && lexB as bs)
def insU (x : List Int) : List (List Int) → List (List Int)
  | [] => [x]
  | y :: ys => if x = y then y :: ys else if lexB x y = true then x :: y :: ys else y :: insU x ys
/-- without repetitions, rising -/
def sortU (l : List (List Int)) : List (List Int) := l.foldr insU []
theorem ins_mem {x z : List Int} : ∀ {l : List (List Int)}, z ∈ insU x l ↔ z = x ∨ z ∈ l
  | [] => by simp [insU]
  | y :: ys => by
    unfold insU
    split
    · rename_i h; subst h; simp
    · split
      · simp
      · simp only [List.mem_cons, ins_mem (l := ys)]
        constructor
        · rintro (h | h | h) <;> simp [h]
        · rintro (h | h | h) <;> simp [h]
theorem sortU_mem {z : List Int} : ∀ {l : List (List Int)}, z ∈ sortU l ↔ z ∈ l
  | [] => by simp [sortU]
  | y :: ys => by
    show z ∈ insU y (sortU ys) ↔ _
    rw [ins_mem, sortU_mem (l := ys)]; simp
theorem lex_code {B : Int} : ∀ {a b : List Int}, a.length = b.length → TS.Bd B a → TS.Bd B b → (lexB a b = true ↔ TS.code B a < TS.code B b)
  | [], [], _, _, _ => by simp [lexB, TS.code]
  | [], _ :: _, h, _, _ => by simp at h
  | _ :: _, [], h, _, _ => by simp at h
  | a :: as, b :: bs, h, h1, h2 => by
    have hl : as.length = bs.length := by simpa using h
    rcases Int.lt_trichotomy a b with y | y | y
    · have := TS.code_lt hl h1.tail h2.tail y
      simp [lexB, y, this]
    · subst y
      have ih := lex_code hl h1.tail h2.tail
      simp only [lexB, Int.lt_irrefl, decide_false, Bool.false_or, decide_true, Bool.true_and, ih]
      exact (TS.code_same hl).symm
    · have := TS.code_lt hl.symm h2.tail h1.tail y
      have n1 : ¬ a < b := by omega
      have n2 : ¬ a = b := by omega
      simp only [lexB, n1, n2, decide_false, Bool.false_or, Bool.false_and]
      constructor
      · intro z; cases z
      · intro z; omega
theorem code_inj {B : Int} : ∀ {a b : List Int}, a.length = b.length → TS.Bd B a → TS.Bd B b → TS.code B a = TS.code B b → a = b
  | [], [], _, _, _, _ => rfl
  | [], _ :: _, h, _, _, _ => by simp at h
  | _ :: _, [], h, _, _, _ => by simp at h
  | a :: as, b :: bs, h, h1, h2, e => by
    have hl : as.length = bs.length := by simpa using h
    rcases Int.lt_trichotomy a b with y | y | y
    · have := TS.code_lt hl h1.tail h2.tail y; omega
    · subst y
      have e' : TS.code B as = TS.code B bs := by
        have e2 : a * B ^ as.length + TS.code B as = a * B ^ bs.length + TS.code B bs := e
        rw [hl] at e2; omega
      rw [code_inj hl h1.tail h2.tail e']
    · have := TS.code_lt hl.symm h2.tail h1.tail y; omega
theorem ins_sorted {B : Int} {d : Nat} {x : List Int} (hx : x.length = d ∧ TS.Bd B x) : ∀ {l : List (List Int)}, (∀ z ∈ l, z.length = d ∧ TS.Bd B z) → l.Pairwise (fun a b => TS.code B a < TS.code B b) → (insU x l).Pairwise (fun a b => TS.code B a < TS.code B b)
  | [], _, _ => by simp [insU]
  | y :: ys, hl, hp => by
    have hy := hl y List.mem_cons_self
    rw [List.pairwise_cons] at hp
    unfold insU
    split
    · exact List.pairwise_cons.mpr hp
    · rename_i ne
      split
      · rename_i h
        have hlt := (lex_code (by rw [hx.1, hy.1]) hx.2 hy.2).mp h
        refine List.pairwise_cons.mpr ⟨fun z hz => ?_, List.pairwise_cons.mpr hp⟩
        rcases List.mem_cons.mp hz with rfl | hz
        · exact hlt
        · have := hp.1 z hz; omega
      · rename_i h
        have hge : TS.code B y < TS.code B x := by
          have h1 : ¬ TS.code B x < TS.code B y := fun z => h ((lex_code (by rw [hx.1, hy.1]) hx.2 hy.2).mpr z)
          have h2 : TS.code B x ≠ TS.code B y := fun z => ne (code_inj (by rw [hx.1, hy.1]) hx.2 hy.2 z)
          omega
        refine List.pairwise_cons.mpr ⟨fun z hz => ?_, ins_sorted hx (fun z hz => hl z (List.mem_cons_of_mem _ hz)) hp.2⟩
        rcases ins_mem.mp hz with rfl | hz
        · exact hge
        · exact hp.1 z hz
theorem sortU_sorted {B : Int} {d : Nat} : ∀ {l : List (List Int)}, (∀ z ∈ l, z.length = d ∧ TS.Bd B z) → (sortU l).Pairwise (fun a b => TS.code B a < TS.code B b)
  | [], _ => List.Pairwise.nil
  | y :: ys, h => ins_sorted (h y List.mem_cons_self) (fun z hz => h z (List.mem_cons_of_mem _ (sortU_mem.mp hz))) (sortU_sorted fun z hz => h z (List.mem_cons_of_mem _ hz))
theorem eq_rising {A : Type} {f : A → Int} : ∀ {l m : List A}, l.Pairwise (fun a b => f a < f b) → m.Pairwise (fun a b => f a < f b) → (∀ z, z ∈ l ↔ z ∈ m) → l = m
  | [], [], _, _, _ => rfl
  | [], b :: m, _, _, h => by have := (h b).mpr List.mem_cons_self; simp at this
  | a :: l, [], _, _, h => by have := (h a).mp List.mem_cons_self; simp at this
  | a :: l, b :: m, hl, hm, h => by
    rw [List.pairwise_cons] at hl hm
    have e : a = b := by
      rcases List.mem_cons.mp ((h a).mp List.mem_cons_self) with z | z
      · exact z
      · rcases List.mem_cons.mp ((h b).mpr List.mem_cons_self) with y | y
        · exact y.symm
        · have := hm.1 a z; have := hl.1 b y; omega
    subst e
    rw [eq_rising hl.2 hm.2 fun z => ⟨fun hz => ?_, fun hz => ?_⟩]
    · rcases List.mem_cons.mp ((h z).mp (List.mem_cons_of_mem _ hz)) with y | y
      · subst y; have := hl.1 z hz; omega
      · exact y
    · rcases List.mem_cons.mp ((h z).mpr (List.mem_cons_of_mem _ hz)) with y | y
      · subst y; have := hm.1 z hz; omega
      · exact y
/-- rows of ints -/
def rows? : List D → Option (List (List Int))
  | [] => some []
  | .nd .tup zs :: ds => match ints? zs, rows? ds with
    | some z, some r => some (z :: r)
    | _, _ => none
  | _ => none
def rowD (z : List Int) : D := .nd .tup (z.map D.int)
theorem ints_back {zs : List D} : ∀ {is : List Int}, ints? zs = some is → zs = is.map D.int := by
  induction zs with
  | nil => intro is e; cases e; rfl
  | cons d ds ih =>
    intro is e
    cases d with
    | int i =>
      simp only [ints?] at e
      split at e
      · rename_i js e1; cases e; rw [ih e1]; rfl
      · cases e
    | non => cases e
    | bl b => cases e
    | str s => cases e
    | h k => cases e
    | nd t xs => cases e
theorem rows_ok {g : Gd} {Z r : List Addr} {H : Hp} : ∀ {ds : List D} {vs : List V} {zs : List (List Int)}, rows? ds = some zs → RepL g Z r H ds vs → ∃ ks : List (Addr × List Int), vs = ks.map (fun q => V.ref q.1) ∧ ks.map (·.2) = zs ∧ ∀ q ∈ ks, SqT g.K H q.1 (q.2.map V.int) ∧ Rep g Z r H (rowD q.2) (.ref q.1)
  | [], _, _, e, h => by cases e; cases (show _ = [] from h); exact ⟨[], rfl, rfl, by simp⟩
  | .nd .tup ys :: ds, _, zs, e, h => by
    simp only [rows?] at e
    split at e
    · rename_i z rr e1 e2
      cases e
      obtain ⟨v, w, rfl, h1, h2⟩ := h
      obtain ⟨ks, rfl, rfl, h3⟩ := rows_ok e2 h2
      have := ints_back e1
      subst this
      obtain ⟨a, us, rfl, h4, h5⟩ := id h1
      have hu := ints_ok e1 h5
      subst hu
      refine ⟨(a, z) :: ks, rfl, rfl, fun q hq => ?_⟩
      rcases List.mem_cons.mp hq with rfl | hq
      · exact ⟨Hat.tup h4, h1⟩
      · exact h3 q hq
    · cases e
  | .non :: _, _, _, e, _ => by cases e
  | .bl _ :: _, _, _, e, _ => by cases e
  | .int _ :: _, _, _, e, _ => by cases e
  | .str _ :: _, _, _, e, _ => by cases e
  | .h _ :: _, _, _, e, _ => by cases e
  | .nd .lst _ :: _, _, _, e, _ => by cases e
  | .nd .scr _ :: _, _, _, e, _ => by cases e
  | .nd .ktp _ :: _, _, _, e, _ => by cases e
  | .nd (.dk _) _ :: _, _, _, e, _ => by cases e
  | .nd (.dt _) _ :: _, _, _, e, _ => by cases e
  | .nd (.ins _ _) _ :: _, _, _, e, _ => by cases e
def sameLen (zs : List (List Int)) : Bool := match zs with
  | [] => true
  | z :: r => decide (1 ≤ z.length) && (r.all fun y => decide (y.length = z.length))
@[simp] def dSortSet (f : SemE) : SemE := fun env st => (f env st).bind fun x st1 => match (lst? st1 x).bind rows? with
  | some zs => if zs.length < 64 ∧ sameLen zs = true ∧ (zs.all fun z => z.all fun i => decide (0 ≤ i)) = true then .ok (.nd .lst ((sortU zs).map rowD)) st1 else .no
  | none => .no
theorem bd_of (zs : List (List Int)) (h : (zs.all fun z => z.all fun i => decide (0 ≤ i)) = true) : ∃ B : Int, ∀ z ∈ zs, TS.Bd B z := by
  have one : ∀ z : List Int, ∃ B : Int, ∀ i ∈ z, i < B := by
    intro z
    induction z with
    | nil => exact ⟨0, by simp⟩
    | cons a z ih =>
      obtain ⟨B, hB⟩ := ih
      refine ⟨max B (a + 1), fun i hi => ?_⟩
      rcases List.mem_cons.mp hi with rfl | hi
      · omega
      · have := hB i hi; omega
  have all : ∃ B : Int, ∀ z ∈ zs, ∀ i ∈ z, i < B := by
    clear h
    induction zs with
    | nil => exact ⟨0, by simp⟩
    | cons a zs ih =>
      obtain ⟨B, hB⟩ := ih
      obtain ⟨C, hC⟩ := one a
      refine ⟨max B C, fun z hz i hi => ?_⟩
      rcases List.mem_cons.mp hz with rfl | hz
      · have := hC i hi; omega
      · have := hB z hz i hi; omega
  obtain ⟨B, hB⟩ := all
  refine ⟨B, fun z hz i hi => ⟨?_, hB z hz i hi⟩⟩
  exact of_decide_eq_true (List.all_eq_true.mp (List.all_eq_true.mp h z hz) i hi)
theorem len_of (zs : List (List Int)) (h : sameLen zs = true) : ∃ d, 1 ≤ d ∧ ∀ z ∈ zs, z.length = d := by
  cases zs with
  | nil => exact ⟨1, Nat.le_refl _, by simp⟩
  | cons z r =>
    simp only [sameLen, Bool.and_eq_true, decide_eq_true_eq, List.all_eq_true] at h
    refine ⟨z.length, h.1, fun y hy => ?_⟩
    rcases List.mem_cons.mp hy with rfl | hy
    · rfl
    · exact h.2 y hy
theorem rep_rows {g : Gd} {Z r : List Addr} {H : Hp} : ∀ {L : List (Addr × List Int)}, (∀ q ∈ L, Rep g Z r H (rowD q.2) (.ref q.1)) → RepL g Z r H ((L.map (·.2)).map rowD) (L.map fun q => V.ref q.1)
  | [], _ => rfl
  | q :: L, h => ⟨_, _, rfl, h q List.mem_cons_self, rep_rows fun y hy => h y (List.mem_cons_of_mem _ hy)⟩
theorem rd_sortSet (sg : L2.St) (H : Hp) (Q : VK) (h : rdE ⟨X.K, cl⟩ W (dSortSet fo) sg H Q) : tCB (rSortedT X.K X.prog X.w) (tCons (tCB (rSetOfT X.K X.prog X.w) (tCons (rdE ⟨X.K, cl⟩ W fo) tNil)) tNil) sg H Q := by
  obtain ⟨Z, r, env, st, E, R, h⟩ := h
  refine ⟨Z, r, env, st, E, R, Post.bind h fun a st1 r1 H1 v _ e1 R1 q1 h1 => ?_⟩
  split at h1
  · rename_i zs hz
    split at h1
    · rename_i hc
      obtain ⟨c1, c2, c3⟩ := hc
      cases hl : lst? st1 a with
      | none => rw [hl] at hz; cases hz
      | some xs =>
        rw [hl] at hz
        obtain ⟨l, us, rfl, q, sq⟩ := lst_ok R1 q1 hl
        obtain ⟨ks, rfl, rfl, hk⟩ := rows_ok (show rows? xs = some zs from hz) q
        obtain ⟨d, d1, hd⟩ := len_of _ c2
        obtain ⟨B, hB⟩ := bd_of _ c3
        have good : ∀ z ∈ ks.map (·.2), z.length = d ∧ TS.Bd B z := fun z m => ⟨hd z m, hB z m⟩
        refine ⟨l, ks, rfl, sq, fun y m => (hk y m).1, by simpa using c1, fun b L hb sub cov => ?_⟩
        have e2 : Ext r1 H1 r1 (upd H1 b (SetTO X.prog X.w b L)) := Ext.new hb
        have R2 : Rl ⟨X.K, cl⟩ Z r1 (upd H1 b (SetTO X.prog X.w b L)) st1 := R1.new hb
        have rep2 : ∀ y ∈ ks, Rep ⟨X.K, cl⟩ Z r1 (upd H1 b (SetTO X.prog X.w b L)) (rowD y.2) (.ref y.1) := fun y m => Rep.ext e2 _ (hk y m).2
        have sqt : ∀ y ∈ L, SqT X.K (upd H1 b (SetTO X.prog X.w b L)) y.1 (y.2.map V.int) := fun y m => by
          obtain ⟨a', us, e, h4, h5⟩ := rep2 y (sub y m)
          cases e
          have : us = y.2.map V.int := by
            have h6 : ints? (y.2.map D.int) = some y.2 := by
              generalize y.2 = zz
              induction zz with
              | nil => rfl
              | cons i z ih => simp [ints?, ih]
            exact ints_ok h6 h5
          subst this
          exact Hat.tup h4
        refine ⟨b, L, d, B, rfl, upd_same, sqt, d1, fun y m => good _ (List.mem_map_of_mem (sub y m)), fun L' t perm nd few pw ht => ?_⟩
        have eL : L'.map (·.2) = sortU (ks.map (·.2)) := by
          refine eq_rising (f := TS.code B) ?_ (sortU_sorted good) fun z => ?_
          · have memL : ∀ y ∈ L', y.2 ∈ ks.map (·.2) := fun y m => List.mem_map_of_mem (sub y (perm.mem_iff.mp m))
            clear perm few
            induction L' with
            | nil => exact List.Pairwise.nil
            | cons y ys ih =>
              rw [List.pairwise_cons] at pw
              simp only [List.map_cons, List.nodup_cons] at nd
              simp only [List.map_cons, List.pairwise_cons]
              refine ⟨fun z hz => ?_, ih nd.2 pw.2 fun y m => memL y (List.mem_cons_of_mem _ m)⟩
              obtain ⟨w, hw, rfl⟩ := List.mem_map.mp hz
              have le := pw.1 w hw
              have g1 := good _ (memL y List.mem_cons_self)
              have g2 := good _ (memL w (List.mem_cons_of_mem _ hw))
              have ne : TS.code B y.2 ≠ TS.code B w.2 := fun e => nd.1 (by rw [code_inj (by rw [g1.1, g2.1]) g1.2 g2.2 e]; exact hz)
              omega
          · rw [sortU_mem]
            constructor
            · intro hz
              obtain ⟨w, hw, rfl⟩ := List.mem_map.mp hz
              exact List.mem_map_of_mem (sub w (perm.mem_iff.mp hw))
            · intro hz
              obtain ⟨w, hw, rfl⟩ := List.mem_map.mp hz
              obtain ⟨y, hy, e⟩ := List.mem_map.mp (cov w hw)
              rw [← e]
              exact List.mem_map_of_mem (perm.mem_iff.mpr hy)
        have rl : RepL ⟨X.K, cl⟩ Z r1 (upd H1 b (SetTO X.prog X.w b L)) ((sortU (ks.map (·.2))).map rowD) (L'.map fun q => V.ref q.1) := by
          rw [← eL]
          exact rep_rows fun y m => rep2 y (sub y (perm.mem_iff.mp m))
        exact h1 r1 _ _ (e2.trans (Ext.new ht)) (R2.new ht) (new_lst R2 rl ht)
    · exact h1.elim
  · exact h1.elim
theorem se_sortSet (hc : X.calm = true) (hu : X.A.units + 64 < cLine) (hm : X.mg "sorted" = none) (hm2 : X.mg "set" = none) (ho : SE X cl W e fo) (hg : Gl X "sorted" := by rfl) (hg2 : Gl X "set" := by rfl)
    (h1 : starEach [e] X.env = (false, eval e X.env) :: starEach [] X.env := by rfl)
    (h2 : starEach [.Call (.Name "set" p2) [e] [] p3] X.env = (false, eval (.Call (.Name "set" p2) [e] [] p3) X.env) :: starEach [] X.env := by rfl) :
    SE X cl W (.Call (.Name "sorted" p) [.Call (.Name "set" p2) [e] [] p3] [] pos) (dSortSet fo) :=
  ⟨(pe_callB (cr_sortedT hc) hg hm (by rfl) (pa_cons (pe_callTy (cr_setOfT hc hu) hg2 hm2 (by rfl) (pa_cons ho.run pa_nil h1) (by decide +kernel) (by decide +kernel) h1 (by rfl)) pa_nil h2) (by decide +kernel) (by decide +kernel) h2 (by rfl)).imp fun sg H Q h => rd_sortSet sg H Q h⟩
end
end DY

set_option Elab.async false
set_option linter.all false
set_option maxRecDepth 100000
set_option maxHeartbeats 4000000
/-! What the printed texts want besides. -/
namespace DY
open PySem PySem.Spec PyProof.Rows L2
/-- a body computes what it is said to compute, wherever it is called -/
def BodyOk (P : Program) (w : World) (K : PySem.W.Frag) (mg : Str → Option Value) (base : Heap) (cl : Nat → Addr) (k : Nat) (N : List Str) (qual : Str) (st : Stmt) (body : SemS) : Prop :=
  ∀ (f : Addr) (cdv : Value) (A : Around) (outer : List Env) (s : Shared) (H : Hp) (E : XK), Room (k + 1) (A.deeper (envOfC qual (defScope st) s.heap.objs.size f cdv)) → A.guards = some [] →
    SB (cxOf (L2.CX P w) P w K mg base N qual (defScope st) f cdv A outer s H E) cl (fun c d _ H' => E c d H') (defBody st) body
section
variable {P : Program} {w : World} {K : PySem.W.Frag} {mg : Str → Option Value} {base : Heap} {cl fa : Nat → Addr}
theorem BodyOk.fn {k : Nat} {N ps : List Str} {x qual : Str} {st : Stmt} {f : Addr} {fd : FuncData} {body : SemS} (h : BodyOk P w K mg base cl k N qual st body) (F : Fun K x qual st f fd) (S : FnScope N ps (defScope st)) :
    FnG P w K mg base (k + 2) f fd ps (spF ⟨K, cl⟩ ps.length (runB N.length body)) :=
  fnG_of F S fun cdv A outer s H E hr hg => h f cdv A outer s H E hr hg
end
/-- a comprehension's names -/
def blkB (N : List Str) (sc scope : Scope) (own : List (Str × Nat)) : Bool :=
  decide (scope.kind = .function) && (scope.names.all fun y => decide (scope.names.lookup y.1 = some y.2)) && (own.all fun q => decide (N[q.2]? = some q.1)) &&
    (scope.names.all fun y => decide (y.2 = .free → sc.names.lookup y.1 = some .cell ∨ sc.names.lookup y.1 = some .free)) &&
    (scope.names.all fun y => decide (y.2 = .local ∨ y.2 = .cell → y.1 ∈ own.map (·.1) ∨ y.1 ∉ N))
theorem blk_ok {N N0 : List Str} {sc sc0 scope : Scope} {own : List (Str × Nat)} (h1 : N = N0) (h2 : sc = sc0) (h : blkB N0 sc0 scope own = true) : BlkOk N sc scope own := by
  subst h1 h2
  simp only [blkB, Bool.and_eq_true, decide_eq_true_eq, List.all_eq_true] at h
  obtain ⟨⟨⟨⟨a, b⟩, c⟩, d⟩, e⟩ := h
  exact ⟨a, b, c, d, e⟩
section
variable {X : Cx} {cl fa : Nat → Addr} {fd : Nat → FuncData} {ps : Nat → List Str} {n k : Nat} {c : Nat → SemF} {W : WX} {pos p p2 apos : Pos} {x m : Str} {a b e o : Expr} {es : List Expr} {fs : SemA} {fo fe : SemE}
/-- f(k = v, ..) -/
theorem TX.callK {kws : List Keyword} (T : TX X.prog X.w X.K X.mg X.base cl fa fd ps n k c) (D : DF X W k) (i : Nat) (ks : List Str) (is : List Nat) (hm : X.mg x = some (.ref (fa i))) (hb : BindsK X.K (fd i) (ps i) ks is) (ha : SK X cl W kws fs) (hi : i < n := by decide) (hg : Gl X x := by rfl) (hdb : (x == ("__debug__" : Str)) = false := by decide +kernel)
    (hall : (backToKw pos (keywordEach kws X.env)).all (·.1.isSome) = true := by rfl) (hks : (backToKw pos (keywordEach kws X.env)).filterMap (·.1) = ks := by rfl)
    (hpl : ((backTo pos (starEach [] X.env)).any (·.1) || (backToKw pos (keywordEach kws X.env)).any (·.1.isNone)) = false := by rfl) : SE X cl W (.Call (.Name x p) [] kws pos) (dCall (kwF ks.length (ps i).length is (c i)) fs) :=
  se_callK (calK_fn (T.fn i hi) (D.room.mono (Nat.le_succ k)) D.gd hb D.tk) hm (T.kp i hi) ha hg hdb hall hks hpl
/-- a module's whole number -/
theorem se_gint (i : Int) (hm : ∃ t, X.mg x = some (.int i t)) (hg : Gl X x := by rfl) (hdb : (x == ("__debug__" : Str)) = false := by decide +kernel) : SE X cl W (.Name x pos) (dConst (.int i)) := by
  obtain ⟨t, hm⟩ := hm
  exact se_glob (v := .int i) hg hm ⟨t, rfl⟩ (fun _ _ _ => rfl) hdb
/-! ### is True, is not True -/
def dIsB : D → D → Store → Res D := fun x y st => match x, y with
  | .bl i, .bl j => .ok (.bl (decide (i = j))) st
  | _, _ => .no
def dNotB : D → D → Store → Res D := fun x y st => match x, y with
  | .bl i, .bl j => .ok (.bl (!decide (i = j))) st
  | _, _ => .no
theorem ops_isB : OpS X cl (compareOp .Is) dIsB := by
  refine ⟨_, op_isBl, fun {Z r H st x y v u Q W'} R hx hy h => ?_⟩
  unfold dIsB at h
  split at h
  · exact ⟨_, _, hx, hy, post_ok h R rfl⟩
  · exact h.elim
theorem ops_notB : OpS X cl (compareOp .IsNot) dNotB := by
  refine ⟨_, op_notBl, fun {Z r H st x y v u Q W'} R hx hy h => ?_⟩
  unfold dNotB at h
  split at h
  · exact ⟨_, _, hx, hy, post_ok h R rfl⟩
  · exact h.elim
/-! ### a slice that will be changed -/
def dCutM (x : D) (lo hi : Option Int) (st : Store) : Res D :=
  match lst? st x with
  | some xs => .ok (.h st.length) (st ++ [.nd .lst (cutD xs lo hi)])
  | none => .no
@[simp] def dSliceM (fa : SemE) (fl fh : SemO) : SemE := fun env st => (fa env st).bind fun x st1 => (fl env st1).bind fun lo st2 => (fh env st2).bind fun hi st3 => dCutM x lo hi st3
theorem se_sliceM {lo hi : Option Expr} {fl fh : SemO} (ha : SE X cl W a fo) (hl : SO X cl W lo fl) (hh : SO X cl W hi fh) : SE X cl W (.Subscript a (.Slice lo hi none p2) pos) (dSliceM fo fl fh) := by
  refine ⟨(pe_slice sl_list ha.run hl.run hh.run).imp fun sg H Q ⟨Z, r, env, st, E, R, h⟩ => ?_⟩
  refine ⟨Z, r, env, st, E, R, Post.bind h fun x st1 r1 H1 v _ e1 R1 q1 h1 => ?_⟩
  refine ⟨Z, r1, env, st1, E.ext e1, R1, Post.bind h1 fun l st2 r2 H2 l' _ e2 R2 q2 h2 => ?_⟩
  cases q2
  refine ⟨Z, r2, env, st2, E.ext (e1.trans e2), R2, Post.bind h2 fun u st3 r3 H3 u' _ e3 R3 q3 h3 => ?_⟩
  cases q3
  have hx := Rep.ext (e2.trans e3) x q1
  unfold dCutM at h3
  split at h3
  · rename_i xs ex
    obtain ⟨q, vs, rfl, qq, s⟩ := lst_ok R3 hx ex
    exact ⟨q, vs, rfl, s, fun t ht => let ⟨y1, y2⟩ := new_lstM R3 (cut_rep qq l u) ht; h3 _ _ _ (Ext.grow ht) y1 y2⟩
  · exact h3.elim
end
/-! ### a def that hands out a new thing of its own; all else that it made is frozen -/
def frzX : Nat → Nat → Nat → Store → D → Option D
  | 0, n0, _, _, d => frzG n0 (fun _ => none) d
  | m + 1, n0, k0, st, d => frzG n0 (fun k => if k = k0 then none else match st[k]? with
    | some c => frzX m n0 k0 st c
    | none => none) d
def frzXL : Nat → Nat → Nat → Store → List D → Option (List D)
  | _, _, _, _, [] => some []
  | m, n0, k0, st, d :: ds => match frzX m n0 k0 st d, frzXL m n0 k0 st ds with
    | some e, some es => some (e :: es)
    | _, _ => none
noncomputable def frzH (F : SemF) : SemF := fun ds st => open Classical in match F ds st with
  | .ok (.h k) st' => if CellsOk st st' ∧ st.length ≤ k then (match st'[k]? with
    | some (.nd t xs) => match frzXL 5 st.length k st' xs with
      | some ys => .ok (.h st.length) (st'.take st.length ++ [.nd t ys])
      | none => .no
    | _ => .no) else .no
  | .ok _ _ => .no
  | .er e st' => if CellsOk st st' then (match frzL 5 st.length st' e.xs with
    | some xs => .er ⟨e.c, e.ns, xs⟩ (st'.take st.length)
    | none => .no) else .no
  | .no => .no
section
variable {g : Gd} {Z r q r1 : List Addr} {H : Hp} {st : Store}
mutual
theorem Rep.lowA (hn : ∀ x, Nin Z (r ++ q) x → Nin Z r1 x) (hl : ∀ k x, k < r.length → (r ++ q)[k]? = some x → r1[k]? = some x) : ∀ (d : D) {v : V}, hdB r.length d = true → Rep g Z (r ++ q) H d v → Rep g Z r1 H d v
  | .h k, _, b, h => by
    obtain ⟨a, e, e2⟩ := h
    exact ⟨a, e, hl k a (by simpa [hdB] using b) e2⟩
  | .nd t xs, _, b, h => by
    obtain ⟨a, vs, e, h1, h2⟩ := h
    exact ⟨a, vs, e, h1.turn fun a n _ => hn a n, RepL.lowA hn hl xs (by simpa [hdB] using b) h2⟩
  | .non, _, _, h => h
  | .bl _, _, _, h => h
  | .int _, _, _, h => h
  | .str _, _, _, h => h
theorem RepL.lowA (hn : ∀ x, Nin Z (r ++ q) x → Nin Z r1 x) (hl : ∀ k x, k < r.length → (r ++ q)[k]? = some x → r1[k]? = some x) : ∀ (ds : List D) {vs : List V}, hdBL r.length ds = true → RepL g Z (r ++ q) H ds vs → RepL g Z r1 H ds vs
  | [], _, _, h => h
  | d :: ds, _, b, h => by
    obtain ⟨v, w, e, h1, h2⟩ := h
    simp only [hdBL, Bool.and_eq_true] at b
    exact ⟨v, w, e, Rep.lowA hn hl d b.1 h1, RepL.lowA hn hl ds b.2 h2⟩
end
mutual
theorem frzG_okA (hn : ∀ x, Nin Z (r ++ q) x → Nin Z r1 x) (hl : ∀ k x, k < r.length → (r ++ q)[k]? = some x → r1[k]? = some x) {dr : Nat → Option D} (hd : ∀ k d v, r.length ≤ k → dr k = some d → Rep g Z (r ++ q) H (.h k) v → Rep g Z r1 H d v) : ∀ (d : D) {d' : D} {v : V}, frzG r.length dr d = some d' → Rep g Z (r ++ q) H d v → Rep g Z r1 H d' v
  | .h k, d', v, e, h => by
    simp only [frzG] at e
    split at e
    · rename_i hk
      cases e
      exact Rep.lowA hn hl (.h k) (by simpa [hdB] using hk) h
    · rename_i hk
      exact hd k d' v (by omega) e h
  | .nd t xs, d', v, e, h => by
    simp only [frzG] at e
    split at e
    · rename_i ys e1
      cases e
      obtain ⟨a, vs, e2, h1, h2⟩ := h
      exact ⟨a, vs, e2, h1.turn fun a n _ => hn a n, frzGL_okA hn hl hd xs e1 h2⟩
    · cases e
  | .non, _, _, e, h => by cases e; exact h
  | .bl _, _, _, e, h => by cases e; exact h
  | .int _, _, _, e, h => by cases e; exact h
  | .str _, _, _, e, h => by cases e; exact h
theorem frzGL_okA (hn : ∀ x, Nin Z (r ++ q) x → Nin Z r1 x) (hl : ∀ k x, k < r.length → (r ++ q)[k]? = some x → r1[k]? = some x) {dr : Nat → Option D} (hd : ∀ k d v, r.length ≤ k → dr k = some d → Rep g Z (r ++ q) H (.h k) v → Rep g Z r1 H d v) : ∀ (ds : List D) {es : List D} {vs : List V}, frzGL r.length dr ds = some es → RepL g Z (r ++ q) H ds vs → RepL g Z r1 H es vs
  | [], _, _, e, h => by cases e; exact h
  | d :: ds, _, _, e, h => by
    simp only [frzGL] at e
    split at e
    · rename_i e' es e1 e2
      cases e
      obtain ⟨v, w, e3, h1, h2⟩ := h
      exact ⟨v, w, e3, frzG_okA hn hl hd d e1 h1, frzGL_okA hn hl hd ds e2 h2⟩
    · cases e
end
section
variable {a0 : Addr} {k0 : Nat}
theorem frzX_ok (R : Rl g Z (r ++ q) H st) (h0 : (r ++ q)[k0]? = some a0) (hk0 : r.length ≤ k0) : ∀ (m : Nat) (d : D) {d' : D} {v : V}, frzX m r.length k0 st d = some d' → Rep g Z (r ++ q) H d v → Rep g Z (r ++ [a0]) H d' v := by
  have hn : ∀ x, Nin Z (r ++ q) x → Nin Z (r ++ [a0]) x := fun x n => ⟨n.1, fun m => by
    rcases List.mem_append.mp m with m | m
    · exact n.2 (List.mem_append_left _ m)
    · simp at m; subst m; exact n.2 (List.mem_of_getElem? h0)⟩
  have hl : ∀ k x, k < r.length → (r ++ q)[k]? = some x → (r ++ [a0])[k]? = some x := fun k x hk e => by
    rw [List.getElem?_append_left hk] at e ⊢; exact e
  have cell : ∀ {dr : Nat → Option D}, (∀ k d v, r.length ≤ k → dr k = some d → Rep g Z (r ++ q) H (.h k) v → Rep g Z (r ++ [a0]) H d v) → ∀ {k : Nat} {c d : D} {v : V}, r.length ≤ k → k ≠ k0 → st[k]? = some c → frzG r.length dr c = some d → Rep g Z (r ++ q) H (.h k) v → Rep g Z (r ++ [a0]) H d v := by
    intro dr hd k c d v hk hne hc e h
    obtain ⟨a, rfl, e2⟩ := h
    obtain ⟨b, eb, t, xs, vs, rfl, hm, hx⟩ := R.cell k c hc
    rw [e2] at eb; cases eb
    simp only [frzG] at e
    split at e
    · rename_i ys e1
      cases e
      have ha : a ∈ r ++ q := List.mem_of_getElem? e2
      have uniq : ∀ j, (r ++ q)[j]? = some a → j = k := fun j ej => by
        obtain ⟨h1, e1⟩ := List.getElem?_eq_some_iff.mp e2
        obtain ⟨h2, e2⟩ := List.getElem?_eq_some_iff.mp ej
        exact (List.getElem_inj R.nd).mp (e2.trans e1.symm)
      have n : Nin Z (r ++ [a0]) a := by
        refine ⟨fun m => (R.z a m).1 ha, fun m => ?_⟩
        rcases List.mem_append.mp m with m | m
        · obtain ⟨j, hj, ej⟩ := List.getElem_of_mem m
          have := uniq j (by rw [List.getElem?_append_left hj, List.getElem?_eq_getElem hj, ej])
          omega
        · simp at m; subst m
          exact hne (uniq k0 h0).symm
      exact ⟨a, vs, rfl, hm.frozen n, frzGL_okA hn hl hd xs e1 hx⟩
    · cases e
  intro m
  induction m with
  | zero => exact fun d d' v e h => frzG_okA hn hl (fun k d v _ e _ => by cases e) d e h
  | succ m ih =>
    intro d d' v e h
    refine frzG_okA hn hl (fun k d1 v1 hk e1 h1 => ?_) d e h
    split at e1
    · cases e1
    · rename_i hne
      cases hc : st[k]? with
      | none => rw [hc] at e1; cases e1
      | some c =>
        rw [hc] at e1
        cases m with
        | zero => exact cell (fun k d v _ e _ => by cases e) hk hne hc e1 h1
        | succ m =>
          refine cell (fun k d v hk e h => ?_) hk hne hc e1 h1
          refine ih (.h k) ?_ h
          show frzG _ _ (.h k) = _
          simp only [frzG]
          rw [if_neg (by omega)]
          exact e
theorem frzXL_ok (R : Rl g Z (r ++ q) H st) (h0 : (r ++ q)[k0]? = some a0) (hk0 : r.length ≤ k0) (m : Nat) : ∀ (ds : List D) {es : List D} {vs : List V}, frzXL m r.length k0 st ds = some es → RepL g Z (r ++ q) H ds vs → RepL g Z (r ++ [a0]) H es vs
  | [], _, _, e, h => by cases m <;> (cases e; exact h)
  | d :: ds, _, _, e, h => by
    simp only [frzXL] at e
    split at e
    · rename_i e' es e1 e2
      cases e
      obtain ⟨v, w, e3, h1, h2⟩ := h
      exact ⟨v, w, e3, frzX_ok R h0 hk0 m d e1 h1, frzXL_ok R h0 hk0 m ds e2 h2⟩
    · cases e
end
theorem frzH_post {F : SemF} {ds : List D} {Q : VK} {E : XK} (R0 : Rl g Z r H st) (h : Post g Z r H (RV g Z) (frzH F ds st) Q E) : Post g Z r H (RV g Z) (F ds st) Q E := by
  have old : (∀ d st', F ds st ≠ .ok d st') → Post g Z r H (RV g Z) (frzF F ds st) Q E → Post g Z r H (RV g Z) (F ds st) Q E := fun _ q => frz_post R0 q
  unfold frzH at h
  cases hF : F ds st with
  | ok d st' =>
    rw [hF] at h
    cases d with
    | h k =>
      dsimp only at h
      split at h
      · rename_i hc
        split at h
        · rename_i t xs hcell
          split at h
          · rename_i ys hys
            intro r' H' v e R qv
            obtain ⟨q, rfl⟩ := e.pre
            obtain ⟨a0, rfl, ea⟩ := qv
            obtain ⟨b, eb, t', xs', vs, ed, hm, hx⟩ := R.cell k _ hcell
            cases ed
            rw [ea] at eb; cases eb
            have hk0 : r.length ≤ k := by rw [R0.len]; exact hc.2
            rw [← R0.len] at hys
            have qx := frzXL_ok R ea hk0 5 xs hys hx
            have ha : a0 ∈ r ++ q := List.mem_of_getElem? ea
            have a0r : a0 ∉ r := fun m => by
              obtain ⟨j, hj, ej⟩ := List.getElem_of_mem m
              obtain ⟨h1, e1⟩ := List.getElem?_eq_some_iff.mp ea
              have h2 : j < (r ++ q).length := by simp; omega
              have : (r ++ q)[j] = (r ++ q)[k] := by rw [e1, List.getElem_append_left hj]; exact ej
              have := (List.getElem_inj R.nd).mp this
              omega
            have hn : ∀ x, Nin Z (r ++ q) x → Nin Z (r ++ [a0]) x := fun x n => ⟨n.1, fun m => by
              rcases List.mem_append.mp m with m | m
              · exact n.2 (List.mem_append_left _ m)
              · simp at m; subst m; exact n.2 ha⟩
            have hl : ∀ k x, k < r.length → (r ++ q)[k]? = some x → (r ++ [a0])[k]? = some x := fun k x hk e => by
              rw [List.getElem?_append_left hk] at e ⊢; exact e
            have hlen : st.length ≤ st'.length := hc.1.1
            have tk : (st'.take st.length).length = r.length := by rw [List.length_take, R0.len]; omega
            refine h (r ++ [a0]) H' (.ref a0) ⟨⟨[a0], rfl⟩, fun x o hx n => ?_⟩ ⟨?_, ?_, fun b m => ?_, fun j d e => ?_⟩ ⟨a0, rfl, ?_⟩
            · obtain ⟨h1, n1⟩ := e.keep x o hx n
              refine ⟨h1, fun m => ?_⟩
              rcases List.mem_append.mp m with m | m
              · exact n m
              · simp at m; subst m; exact n1 ha
            · simp [tk]
            · refine List.nodup_append.mpr ⟨(List.nodup_append.mp R.nd).1, by simp, ?_⟩
              intro x hx y hy; simp at hy; subst hy; intro z; subst z; exact a0r hx
            · obtain ⟨n, u⟩ := R.z b m
              refine ⟨fun m => ?_, u⟩
              rcases List.mem_append.mp m with m | m
              · exact n (List.mem_append_left _ m)
              · simp at m; subst m; exact n ha
            · by_cases hj : j < r.length
              · rw [List.getElem?_append_left (by rw [tk]; exact hj), List.getElem?_take, if_pos (by rw [← R0.len]; exact hj)] at e
                obtain ⟨b, eb, t2, xs2, vs2, rfl, hm2, hx2⟩ := R.cell j d e
                refine ⟨b, hl j b hj eb, t2, xs2, vs2, rfl, hm2, RepL.lowA hn hl xs2 ?_ hx2⟩
                rcases hc.1.2 j _ (by rw [← R0.len]; exact hj) e with y | y
                · obtain ⟨_, _, t3, xs3, vs3, ed, _, hx3⟩ := R0.cell j _ y
                  cases ed
                  exact hdBL_of xs2 hx3
                · rw [R0.len]; simpa [hdB] using y
              · have hj2 : j = r.length := by
                  have := (List.getElem?_eq_some_iff.mp e).1
                  simp [tk] at this; omega
                subst hj2
                rw [List.getElem?_append_right (by rw [tk]; exact Nat.le_refl _)] at e
                simp [tk] at e
                subst e
                exact ⟨a0, by simp, t, ys, vs, rfl, hm, qx⟩
            · rw [← R0.len]; simp
          · exact h.elim
        · exact h.elim
      · exact h.elim
    | non => exact h.elim
    | bl b => exact h.elim
    | int i => exact h.elim
    | str s => exact h.elim
    | nd t xs => exact h.elim
  | er x st' =>
    rw [← hF]
    refine old (fun d s z => by rw [hF] at z; cases z) ?_
    rw [hF] at h
    unfold frzF
    rw [hF]
    exact h
  | no => rw [hF] at h; exact h
end
section
variable {P : Program} {w : World} {K : PySem.W.Frag} {mg : Str → Option Value} {base : Heap}
theorem FnG.frzH {k : Nat} {f : Addr} {fd : FuncData} {ps : List Str} {g : Gd} {n : Nat} {F : SemF} (h : FnG P w K mg base k f fd ps (spF g n F)) : FnG P w K mg base k f fd ps (spF g n (frzH F)) :=
  h.imp fun vs H Q E ⟨hl, Z, r, st, ds, qd, R, q⟩ => ⟨hl, Z, r, st, ds, qd, R, frzH_post R q⟩
end
end DY

set_option Elab.async false
set_option linter.all false
set_option maxRecDepth 100000
set_option maxHeartbeats 4000000
/-! Laws on data: loops, and the numbers that a law draws. -/
namespace DY
open PySem L2
/-! ### loops -/
theorem forL_inv {chk : Store → Prop} {tg : DTg} {body : SemS} : ∀ {items : List D} (I : Nat → DEnv → Store → Prop) {env : DEnv} {st : Store}, I 0 env st →
    (∀ i d env st, items[i]? = some d → I i env st → chk st ∧ ∃ env1 env2 st2, tg d env st = some env1 ∧ (body env1 st = .nx env2 st2 ∨ body env1 st = .ct env2 st2) ∧ I (i + 1) env2 st2) →
    (∀ env st, I items.length env st → chk st) → ∃ env' st', forL chk tg body items env st = .nx env' st' ∧ I items.length env' st'
  | [], I, env, st, h0, _, he => by
    refine ⟨env, st, ?_, h0⟩
    unfold forL
    rw [if_pos (he env st h0)]
  | d :: ds, I, env, st, h0, hs, he => by
    obtain ⟨hc, env1, env2, st2, e1, e2, h1⟩ := hs 0 d env st rfl h0
    obtain ⟨env', st', e3, h3⟩ := forL_inv (items := ds) (fun i => I (i + 1)) h1 (fun i d env st hi => hs (i + 1) d env st (by simpa using hi)) (fun env st h => he env st h)
    refine ⟨env', st', ?_, h3⟩
    unfold forL
    rw [if_pos hc, e1]
    dsimp only
    rcases e2 with e2 | e2 <;> rw [e2] <;> exact e3
/-- a loop that may end the def: at the first item for which p fails -/
theorem forL_ret {chk : Store → Prop} {tg : DTg} {body : SemS} {r : D} {p : D → Bool} : ∀ {items : List D} (I : DEnv → Prop) {env : DEnv} {st : Store}, I env → chk st →
    (∀ d env, d ∈ items → I env → ∃ env1, tg d env st = some env1 ∧ ((p d = true ∧ ∃ env2, body env1 st = .nx env2 st ∧ I env2) ∨ (p d = false ∧ body env1 st = .rt r st))) →
    (items.all p = true ∧ ∃ env', forL chk tg body items env st = .nx env' st ∧ I env') ∨ (items.all p = false ∧ forL chk tg body items env st = .rt r st)
  | [], I, env, st, h0, hc, _ => by
    refine .inl ⟨rfl, env, ?_, h0⟩
    unfold forL
    rw [if_pos hc]
  | d :: ds, I, env, st, h0, hc, hs => by
    obtain ⟨env1, e1, h⟩ := hs d env List.mem_cons_self h0
    unfold forL
    rw [if_pos hc, e1]
    dsimp only
    rcases h with ⟨hp, env2, e2, h2⟩ | ⟨hp, e2⟩
    · rw [e2]
      dsimp only
      rcases forL_ret (items := ds) I h2 hc (fun d env m => hs d env (List.mem_cons_of_mem _ m)) with ⟨a, b⟩ | ⟨a, b⟩
      · exact .inl ⟨by rw [List.all_cons, hp, a]; rfl, b⟩
      · exact .inr ⟨by rw [List.all_cons, hp, a]; rfl, b⟩
    · rw [e2]
      exact .inr ⟨by rw [List.all_cons, hp]; rfl, rfl⟩
/-- a comprehension that changes nothing -/
theorem compL_pure {chk : Store → Prop} {tg : DTg} {tst : SemT} {elt : SemE} {own : List Nat} {env : DEnv} {st : Store} (f : D → Option D) (hc : chk st) : ∀ {items acc : List D},
    (∀ d ∈ items, ∃ env1, tg d (wipeD env own) st = some env1 ∧ ((tst env1 st = .ok false st ∧ f d = none) ∨ (tst env1 st = .ok true st ∧ ∃ y, elt env1 st = .ok y st ∧ f d = some y))) →
    acc.length + items.length ≤ szL → compL chk tg tst elt own env items acc st = .ok (acc ++ items.filterMap f) st
  | [], acc, _, _ => by
    unfold compL
    rw [if_pos hc]; simp
  | d :: ds, acc, hs, hl => by
    obtain ⟨env1, e1, h⟩ := hs d List.mem_cons_self
    unfold compL
    rw [if_pos hc, e1]
    dsimp only
    have hl' : acc.length + ds.length + 1 ≤ szL := by simpa [Nat.add_assoc] using hl
    rcases h with ⟨h1, h2⟩ | ⟨h1, y, h2, h3⟩
    · rw [h1]
      dsimp only
      rw [compL_pure f hc (fun d m => hs d (List.mem_cons_of_mem _ m)) (by omega)]
      rw [List.filterMap_cons, h2]
    · rw [h1]
      dsimp only
      rw [h2]
      dsimp only
      rw [if_pos (by omega), compL_pure f hc (fun d m => hs d (List.mem_cons_of_mem _ m)) (by simp; omega)]
      rw [List.filterMap_cons, h3]; simp
theorem dSub_i (i j : Int) (st : Store) : dSub (.int i) (.int j) st = .ok (.int (i - j)) st := by
  show (if CTrue i j then Res.ok (D.int (i - j)) st else Res.no) = _
  exact if_pos trivial
theorem dAdd_i (i j : Int) (st : Store) : dAdd (.int i) (.int j) st = .ok (.int (i + j)) st := rfl
theorem szL_eq : szL = 16777216 := by decide
/-- a list's items, wherever it stands -/
def Is (st : Store) (x : D) (xs : List D) : Prop := x = .nd .lst xs ∨ ∃ k, x = .h k ∧ st[k]? = some (.nd .lst xs)
theorem Is.lst {st : Store} {x : D} {xs : List D} (h : Is st x xs) : lst? st x = some xs := by
  rcases h with rfl | ⟨k, rfl, h⟩
  · rfl
  · simp [lst?, seen, h]
theorem Is.lstX {st : Store} {x : D} {xs : List D} (h : Is st x xs) : lstX? st x = some xs := by
  rcases h with rfl | ⟨k, rfl, h⟩
  · rfl
  · simp [lstX?, seen, h]
theorem Is.seq {st : Store} {x : D} {xs : List D} (h : Is st x xs) : seq? st x = some xs := by
  unfold seq?; rw [h.lst]
theorem Is.ty {st : Store} {x : D} {xs : List D} (h : Is st x xs) : tyD st x = some "list" := by
  rcases h with rfl | ⟨k, rfl, h⟩
  · rfl
  · simp [tyD, seen, h]
def intsD (is : List Int) : List D := is.map D.int
theorem ints_map (is : List Int) : ints? (is.map D.int) = some is := by
  induction is with
  | nil => rfl
  | cons i is ih => simp [ints?, ih]
mutual
theorem toPg_ints (dr : Nat → Option PyData) : ∀ is : List Int, toPgL dr (is.map D.int) = some (is.map PyData.int)
  | [] => rfl
  | i :: is => by simp [toPgL, toPg, toPg_ints dr is]
end
theorem toP_ints {st : Store} {is : List Int} : toP deepP st (.nd .lst (is.map D.int)) = some (.list (is.map PyData.int)) := by
  show toPg _ _ = _
  simp [toPg, toPg_ints]
theorem Is.toPd {st : Store} {x : D} {xs : List D} (h : Is st x xs) {ps : List PyData} (hp : ∀ dr, toPgL dr xs = some ps) : DY.toP deepP st x = some (.list ps) := by
  rcases h with rfl | ⟨k, rfl, h⟩
  · show toPg _ _ = _
    simp [toPg, hp]
  · show toPg _ _ = _
    simp only [toPg, h]
    show DY.toP 3 st _ = _
    show toPg _ _ = _
    simp [toPg, hp]

/-! ### the numbers that a law draws -/
/-- the state of the draws: the wide numbers, the dict -/
def drK (kw : Str) : List Key := [.inr kw, .inr "cells", .inr "rest", .inr "turn"]
def drQ (kw : Str) (ws cs : List Int) (rest turn : Int) : List D := [.nd .lst (ws.map D.int), .nd (.dk (drK kw)) [.h 0, .nd .lst (cs.map D.int), .int rest, .int turn]]
/-- b more draws are in reach -/
structure Dr (kw : Str) (b : Nat) (q : List D) : Prop where
  ex : ∃ ws cs rest turn, q = drQ kw ws cs rest turn ∧ (∀ x ∈ ws, 0 ≤ x) ∧ (∀ x ∈ cs, 0 ≤ x) ∧ 0 ≤ rest ∧ 0 ≤ turn ∧ turn + b ≤ 2 ^ 40
theorem Dr.less {kw : Str} {a b : Nat} {q : List D} (h : Dr kw a q) (hb : b ≤ a) : Dr kw b q := by
  obtain ⟨ws, cs, rest, turn, e, h1, h2, h3, h4, h5⟩ := h.ex
  exact ⟨ws, cs, rest, turn, e, h1, h2, h3, h4, by omega⟩
/-- the printed bodies -/
noncomputable def mixB (kw : Str) : SemS :=
    sCons (sPar 1 2 (dCons (dBin dAdd (dBin (dGet 3) (dVar 0) (dConst (.str "turn"))) (dConst (.int 1))) (dCons (dConst (.int 0)) (dNil))))
    (sCons (sDPut 3 (dVar 0) (dConst (.str "turn")) (dVar 1))
    (sCons (sFor (iSeq (dLst (dCons (dConst (.int 2147483629)) (dCons (dConst (.int 2147483587)) (dCons (dConst (.int 2147483579)) (dCons (dConst (.int 2147483563)) (dNil))))))) (gN 3) (sCons (sSet 4 (dBin dAdd (dBin dMul (dConst (.int 61441)) (dVar 1)) (dBin dFdiv (dVar 3) (dConst (.int 19)))))
    (sCons (sFor (iSeq (dBin (dGet 1) (dVar 0) (dConst (.str "cells")))) (gN 5) (sSet 4 (dBin dMod (dCall dInt (dCons (dBin dAdd (dBin dAdd (dBin dMul (dVar 4) (dConst (.int 48271))) (dVar 5)) (dVar 1)) (dNil))) (dVar 3))))
    (sSet 2 (dBin dAdd (dBin dMul (dVar 2) (dConst (.int 2147483647))) (dBin dMod (dCall dInt (dCons (dBin dPow (dVar 4) (dConst (.int 5))) (dNil))) (dVar 3)))))))
    (sRet (dVar 2))))
noncomputable def takeB (kw : Str) (mix : SemF) : SemS :=
    sCons (sIf (dBool (dBin dEq (dBin (dGet 2) (dVar 0) (dConst (.str "rest"))) (dConst (.int 0)))) (sDPut 2 (dVar 0) (dConst (.str "rest")) (dIfE (dBool (dBin dNe (dBin (dGet 0) (dVar 0) (dConst (.str kw))) (dLst (dNil)))) (dBML opPopAt (dBin (dGet 0) (dVar 0) (dConst (.str kw))) (dCons (dConst (.int 0)) (dNil))) (dCall mix (dCons (dVar 0) (dNil))))) (sNil))
    (sCons (sSet 2 (dBin dMod (dCall dInt (dCons (dBin (dGet 2) (dVar 0) (dConst (.str "rest"))) (dNil))) (dVar 1)))
    (sCons (sDPut 2 (dVar 0) (dConst (.str "rest")) (dBin dFdiv (dBin (dGet 2) (dVar 0) (dConst (.str "rest"))) (dVar 1)))
    (sRet (dVar 2))))
section
variable {kw : Str} {ws cs : List Int} {rest turn : Int} {R : List D}
theorem dget_kw (hk : kw ≠ "cells" ∧ kw ≠ "rest" ∧ kw ≠ "turn") : dGet 0 (.h 1) (.str kw) (drQ kw ws cs rest turn ++ R) = .ok (.h 0) (drQ kw ws cs rest turn ++ R) := by
  simp [dGet, seen, drQ, drK, key?, kAt]
theorem dget_cells : dGet 1 (.h 1) (.str "cells") (drQ kw ws cs rest turn ++ R) = .ok (.nd .lst (cs.map D.int)) (drQ kw ws cs rest turn ++ R) := by
  simp [dGet, seen, drQ, drK, key?, kAt]
theorem dget_rest : dGet 2 (.h 1) (.str "rest") (drQ kw ws cs rest turn ++ R) = .ok (.int rest) (drQ kw ws cs rest turn ++ R) := by
  simp [dGet, seen, drQ, drK, key?, kAt]
theorem dget_turn : dGet 3 (.h 1) (.str "turn") (drQ kw ws cs rest turn ++ R) = .ok (.int turn) (drQ kw ws cs rest turn ++ R) := by
  simp [dGet, seen, drQ, drK, key?, kAt]
theorem put_rest (x : Int) : putD 2 (.h 1) (.str "rest") (.int x) (drQ kw ws cs rest turn ++ R) = some (drQ kw ws cs x turn ++ R) := by
  simp [putD, drQ, drK, key?, kAt, szL_eq]
theorem put_turn (x : Int) : putD 3 (.h 1) (.str "turn") (.int x) (drQ kw ws cs rest turn ++ R) = some (drQ kw ws cs rest x ++ R) := by
  simp [putD, drQ, drK, key?, kAt, szL_eq]
theorem pop_wide (x : Int) : opPopAt (.h 0) [.int 0] (drQ kw (x :: ws) cs rest turn ++ R) = .ok (.int x) (drQ kw ws cs rest turn ++ R) := by
  simp [opPopAt, drQ, seqIndex?]
end
end DY

set_option Elab.async false
set_option linter.all false
set_option maxRecDepth 100000
set_option maxHeartbeats 4000000
/-! What the law draws. -/
namespace DY
open PySem L2
section
variable {kw : Str} {ws cs : List Int} {rest turn : Int} {R : List D}
noncomputable def mixIn : SemS := sFor (iSeq (dBin (dGet 1) (dVar 0) (dConst (.str "cells")))) (gN 5) (sSet 4 (dBin dMod (dCall dInt (dCons (dBin dAdd (dBin dAdd (dBin dMul (dVar 4) (dConst (.int 48271))) (dVar 5)) (dVar 1)) (dNil))) (dVar 3)))
theorem mix_in (tn f p b : Int) (c0 : Option D) (hc : ∀ x ∈ cs, 0 ≤ x) (ht : 0 ≤ tn) (hp : 0 < p ∧ p < 2 ^ 31) (hb : 0 ≤ b ∧ b < 2 ^ 63) :
    ∃ b' c1, mixIn [some (.h 1), some (.int tn), some (.int f), some (.int p), some (.int b), c0] (drQ kw ws cs rest turn ++ R) = .nx [some (.h 1), some (.int tn), some (.int f), some (.int p), some (.int b'), c1] (drQ kw ws cs rest turn ++ R) ∧ 0 ≤ b' ∧ b' < 2 ^ 63 := by
  unfold mixIn sFor
  simp only [iSeq, dBin, dVar, dConst, List.getElem?_cons_zero, Res.bind, dget_cells, bindE, lst?, seen]
  obtain ⟨env', st', e, b', c1, rfl, rfl, h1, h2⟩ := forL_inv (chk := fun _ => True) (tg := gN 5) (body := sSet 4 (dBin dMod (dCall dInt (dCons (dBin dAdd (dBin dAdd (dBin dMul (dVar 4) (dConst (.int 48271))) (dVar 5)) (dVar 1)) (dNil))) (dVar 3)))
    (items := cs.map D.int) (env := [some (.h 1), some (.int tn), some (.int f), some (.int p), some (.int b), c0]) (st := drQ kw ws cs rest turn ++ R)
    (fun _ env st => ∃ b' c1, env = [some (.h 1), some (.int tn), some (.int f), some (.int p), some (.int b'), c1] ∧ st = drQ kw ws cs rest turn ++ R ∧ 0 ≤ b' ∧ b' < 2 ^ 63) ⟨b, c0, rfl, rfl, hb.1, hb.2⟩
    (fun i d env st hi ⟨b1, c1, e1, e2, h1, h2⟩ => by
      subst e1 e2
      rw [List.getElem?_map] at hi
      cases hx : cs[i]? with
      | none => rw [hx] at hi; cases hi
      | some x =>
        rw [hx] at hi; cases hi
        have h0 := hc x (List.mem_of_getElem? hx)
        refine ⟨trivial, _, _, _, rfl, .inl ?_, (b1 * 48271 + x + tn) % p, some (.int x), rfl, rfl, Int.emod_nonneg _ (by omega), ?_⟩
        · have hm : CMul b1 48271 ∨ CMulW b1 48271 := .inl (.inr ⟨by decide, by decide⟩)
          simp [dMul, dAdd, dMod, dInt, hm, hp.1]
        · have := Int.emod_lt_of_pos (b1 * 48271 + x + tn) hp.1
          have : (2 : Int) ^ 31 ≤ 2 ^ 63 := by decide
          omega)
    (fun env st _ => trivial)
  exact ⟨b', c1, e, h1, h2⟩
theorem mix_ok (hc : ∀ x ∈ cs, 0 ≤ x) (ht : 0 ≤ turn ∧ turn < 2 ^ 41) : ∃ v, runB 6 (mixB kw) [.h 1] (drQ kw ws cs rest turn ++ R) = .ok (.int v) (drQ kw ws cs rest (turn + 1) ++ R) ∧ 0 ≤ v := by
  unfold runB mixB
  obtain ⟨env', st', e, f, a, b, c, rfl, rfl, hf⟩ := forL_inv (chk := fun _ => True) (tg := gN 3)
    (body := sCons (sSet 4 (dBin dAdd (dBin dMul (dConst (.int 61441)) (dVar 1)) (dBin dFdiv (dVar 3) (dConst (.int 19)))))
      (sCons mixIn (sSet 2 (dBin dAdd (dBin dMul (dVar 2) (dConst (.int 2147483647))) (dBin dMod (dCall dInt (dCons (dBin dPow (dVar 4) (dConst (.int 5))) (dNil))) (dVar 3))))))
    (items := [.int 2147483629, .int 2147483587, .int 2147483579, .int 2147483563]) (env := [some (.h 1), some (.int (turn + 1)), some (.int 0), none, none, none]) (st := drQ kw ws cs rest (turn + 1) ++ R)
    (fun _ env st => ∃ f a b c, env = [some (.h 1), some (.int (turn + 1)), some (.int f), a, b, c] ∧ st = drQ kw ws cs rest (turn + 1) ++ R ∧ 0 ≤ f) ⟨0, none, none, none, rfl, rfl, by decide⟩
    (fun i d env st hi ⟨f, a, b, c, e1, e2, hf⟩ => by
      subst e1 e2
      have hd : ∃ p : Int, d = .int p ∧ 0 < p ∧ p < 2 ^ 31 := by
        have hm := List.mem_of_getElem? hi
        simp only [List.mem_cons, List.not_mem_nil, or_false] at hm
        rcases hm with rfl | rfl | rfl | rfl <;> exact ⟨_, rfl, by decide, by decide⟩
      obtain ⟨p, rfl, p1, p2⟩ := hd
      have b0 : 0 ≤ 61441 * (turn + 1) + p / 19 ∧ 61441 * (turn + 1) + p / 19 < 2 ^ 63 := by
        have h1 : p / 19 ≤ p := Int.ediv_le_self _ (by omega)
        have h2 : 0 ≤ p / 19 := Int.ediv_nonneg (by omega) (by decide)
        have h3 : (2 : Int) ^ 41 = 2199023255552 := by decide
        have h4 : (2 : Int) ^ 31 = 2147483648 := by decide
        have h5 : (2 : Int) ^ 63 = 9223372036854775808 := by decide
        omega
      obtain ⟨b', c1, e, g1, g2⟩ := mix_in (kw := kw) (ws := ws) (rest := rest) (turn := turn + 1) (R := R) (turn + 1) f p _ c hc (by omega) ⟨p1, p2⟩ b0
      refine ⟨trivial, _, [some (.h 1), some (.int (turn + 1)), some (.int (f * 2147483647 + (b' ^ 5) % p)), some (.int p), some (.int b'), c1], drQ kw ws cs rest (turn + 1) ++ R, rfl, .inl ?_, f * 2147483647 + (b' ^ 5) % p, _, _, _, rfl, rfl, ?_⟩
      · have hm : CMul 61441 (turn + 1) ∨ CMulW 61441 (turn + 1) := .inl (.inl ⟨by decide, by decide⟩)
        have hm2 : CMul f 2147483647 ∨ CMulW f 2147483647 := .inl (.inr ⟨by decide, by decide⟩)
        have hd : CDiv p 19 ∨ CDivW p 19 := .inl ⟨by decide, by decide⟩
        have hp : CPow b' 5 := ⟨by decide, by decide, by
          have h5 : (2 : Int) ^ 63 = 9223372036854775808 := by decide
          have h6 : (2 : Nat) ^ 64 = 18446744073709551616 := by decide
          omega⟩
        simp [dMul, dAdd, dFdiv, hm, hd, e, hm2, dPow, dInt, dMod, hp, p1]
      · have h1 : 0 ≤ b' ^ 5 % p := Int.emod_nonneg _ (by omega)
        omega)
    (fun env st _ => trivial)
  refine ⟨f, ?_, hf⟩
  have e' := e
  unfold mixIn at e'
  simp [dget_turn, dAdd, put_turn, sFor, lst?, seen, szL_eq, e']
end
theorem drQ_0 {kw : Str} {ws cs : List Int} {rest turn : Int} {R : List D} : (drQ kw ws cs rest turn ++ R)[0]? = some (.nd .lst (ws.map D.int)) := rfl
/-! ### lists of ints, compared and shown -/
theorem eqv_ints : ∀ is js : List Int, PyData.eqvAll (is.map PyData.int) (js.map PyData.int) = decide (is = js)
  | [], [] => by simp [PyData.eqvAll]
  | [], _ :: _ => by simp [PyData.eqvAll]
  | _ :: _, [] => by simp [PyData.eqvAll]
  | i :: is, j :: js => by
    simp only [List.map_cons, PyData.eqvAll, PyData.eqv, eqv_ints is js, List.cons.injEq]
    by_cases h1 : i = j <;> by_cases h2 : is = js <;> simp [h1, h2]
theorem plain_ints : ∀ is : List Int, PyData.plainAll (is.map PyData.int) = true
  | [] => rfl
  | i :: is => by simp [PyData.plainAll, PyData.plain, plain_ints is]
theorem depth_ints : ∀ is : List Int, PyData.depthAll (is.map PyData.int) = 0
  | [] => rfl
  | i :: is => by simp [PyData.depthAll, PyData.depth, depth_ints is]
theorem shp_ints (is : List Int) : shp (.list (is.map PyData.int)) = true := by
  simp [shp, PyData.plain, plain_ints, PyData.depth, depth_ints]
theorem Is.ints {st : Store} {x : D} {is : List Int} (h : Is st x (is.map D.int)) : toP deepP st x = some (.list (is.map PyData.int)) := h.toPd fun dr => toPg_ints dr is
/-- == of two things that are no ints, texts, bools -/
theorem eqD_lists {x y : D} {st : Store} {xs ys : List D} {p q : PyData} (ix : Is st x xs) (iy : Is st y ys) (hx : toP deepP st x = some p) (hy : toP deepP st y = some q) (h1 : shp p = true) (h2 : shp q = true) : eqD x y st = some (PyData.eqv p q) := by
  have e : (match toP deepP st x, toP deepP st y with | some p, some q => if shp p && shp q then some (PyData.eqv p q) else none | _, _ => none) = some (PyData.eqv p q) := by
    rw [hx, hy]; simp [h1, h2]
  rcases ix with rfl | ⟨k, rfl, _⟩ <;> exact e
theorem eq_ints {x y : D} {st : Store} {is js : List Int} (hx : Is st x (is.map D.int)) (hy : Is st y (js.map D.int)) : dEq x y st = .ok (.bl (decide (is = js))) st := by
  unfold dEq
  rw [eqD_lists hx hy hx.ints hy.ints (shp_ints _) (shp_ints _)]
  simp [PyData.eqv, eqv_ints]
theorem ne_ints {x y : D} {st : Store} {is js : List Int} (hx : Is st x (is.map D.int)) (hy : Is st y (js.map D.int)) : dNe x y st = .ok (.bl (!decide (is = js))) st := by
  unfold dNe
  rw [eqD_lists hx hy hx.ints hy.ints (shp_ints _) (shp_ints _)]
  simp [PyData.eqv, eqv_ints]
theorem ne_nil {x : D} {st : Store} {is : List Int} (hx : Is st x (is.map D.int)) : dNe x (.nd .lst []) st = .ok (.bl (!decide (is = []))) st := ne_ints (js := []) hx (.inl rfl)
/-- the law's take -/
theorem take_ok {kw : Str} {b : Nat} {q : List D} {size : Int} {mix : SemF} (hk : kw ≠ "cells" ∧ kw ≠ "rest" ∧ kw ≠ "turn") (h : Dr kw (b + 1) q) (hs : 0 < size ∧ size.natAbs.log2 < 9000) (hm : ∀ st, mix [.h 1] st = runB 6 (mixB kw) [.h 1] st) (R : List D) :
    ∃ v q', runB 3 (takeB kw mix) [.h 1, .int size] (q ++ R) = .ok (.int v) (q' ++ R) ∧ Dr kw b q' ∧ 0 ≤ v ∧ v < size := by
  obtain ⟨ws, cs, rest, turn, rfl, h1, h2, h3, h4, h5⟩ := h.ex
  have fin : ∀ (ws' : List Int) (rest' turn' : Int), (∀ x ∈ ws', 0 ≤ x) → 0 ≤ rest' → 0 ≤ turn' → turn' + b ≤ 2 ^ 40 → runB 3 (takeB kw mix) [.h 1, .int size] (drQ kw ws cs rest turn ++ R) = .ok (.int (rest' % size)) (drQ kw ws' cs (rest' / size) turn' ++ R) →
      ∃ v q', runB 3 (takeB kw mix) [.h 1, .int size] (drQ kw ws cs rest turn ++ R) = .ok (.int v) (q' ++ R) ∧ Dr kw b q' ∧ 0 ≤ v ∧ v < size := fun ws' rest' turn' g1 g2 g3 g4 e =>
    ⟨_, _, e, ⟨ws', cs, rest' / size, turn', rfl, g1, h2, Int.ediv_nonneg g2 (by omega), g3, g4⟩, Int.emod_nonneg _ (by omega), Int.emod_lt_of_pos _ hs.1⟩
  have hd : ∀ z, CDiv z size ∨ CDivW z size := fun z => .inr hs
  by_cases hr : rest = 0
  · subst hr
    cases ws with
    | cons x ws =>
      refine fin ws x turn (fun y m => h1 y (List.mem_cons_of_mem _ m)) (h1 x List.mem_cons_self) h4 (by omega) ?_
      have ne : ∀ st, dNe (.h 0) (.nd .lst []) (drQ kw (x :: ws) cs 0 turn ++ st) = .ok (.bl true) (drQ kw (x :: ws) cs 0 turn ++ st) := fun st => by
        rw [ne_nil (is := x :: ws) (.inr ⟨0, rfl, rfl⟩)]; rfl
      simp [runB, takeB, dget_rest, dget_kw hk, dEq, eqD, ne, pop_wide, put_rest, dMod, dFdiv, dInt, hd, hs.1, lst?, seen, drQ_0]
    | nil =>
      have h7 : turn < 2 ^ 41 := by
        have h6 : (2 : Int) ^ 40 < 2 ^ 41 := by decide
        omega
      obtain ⟨v, e, hv⟩ := mix_ok (kw := kw) (ws := []) (cs := cs) (rest := 0) (turn := turn) (R := R) h2 ⟨h4, h7⟩
      refine fin [] v (turn + 1) (by simp) hv (by omega) (by omega) ?_
      have ne : ∀ st, dNe (.h 0) (.nd .lst []) (drQ kw [] cs 0 turn ++ st) = .ok (.bl false) (drQ kw [] cs 0 turn ++ st) := fun st => by
        rw [ne_nil (is := []) (.inr ⟨0, rfl, rfl⟩)]; rfl
      have em := (hm (drQ kw [] cs 0 turn ++ R)).trans e
      clear hm e
      simp [runB, takeB, dget_rest, dget_kw hk, dEq, eqD, ne, em, put_rest, dMod, dFdiv, dInt, hd, hs.1]
  · refine fin ws rest turn h1 h3 h4 (by omega) ?_
    simp [runB, takeB, dget_rest, dEq, eqD, hr, put_rest, dMod, dFdiv, dInt, hd, hs.1]

/-- the law's beginning -/
noncomputable def begB (kw : Str) : SemS :=
    sCons (sSet 1 (dLcM (iSeq (dVar 0)) (gN 2) (dBool (dBin dGe (dCall dAbs (dCons (dVar 2) (dNil))) (dBin dPow (dConst (.int 10)) (dConst (.int 18))))) (dBin dSub (dCall dAbs (dCons (dVar 2) (dNil))) (dBin dPow (dConst (.int 10)) (dConst (.int 18)))) [2]))
    (sRet (dDictM [(dConst (.str kw), dVar 1), (dConst (.str "cells"), dLc (iSeq (dVar 0)) (gN 2) (tYesD) (dBin dMod (dCall dInt (dCons (dCall dAbs (dCons (dVar 2) (dNil))) (dNil))) (dConst (.int 2147483629))) [2]), (dConst (.str "rest"), dConst (.int 0)), (dConst (.str "turn"), dConst (.int 0))]))
theorem filterMap_ints (f : Int → Option Int) : ∀ ns : List Int, (ns.map D.int).filterMap (fun d => match d with | .int i => (f i).map D.int | _ => none) = (ns.filterMap f).map D.int
  | [] => rfl
  | n :: ns => by
    simp only [List.map_cons, List.filterMap_cons]
    cases f n <;> simp [filterMap_ints f ns]
theorem beg_ok {kw : Str} (hk : kw ≠ "cells" ∧ kw ≠ "rest" ∧ kw ≠ "turn") {ns : List Int} (hl : ns.length ≤ 63) : ∃ q, runB 3 (begB kw) [scrD ns] [] = .ok (.h 1) q ∧ Dr kw (2 ^ 40) q := by
  have hz : ns.length ≤ szL := by rw [szL_eq]; omega
  have p18 : CPow 10 18 := ⟨by decide, by decide, by decide⟩
  have c1 := compL_pure (chk := fun _ => True) (tg := gN 2) (tst := dBool (dBin dGe (dCall dAbs (dCons (dVar 2) (dNil))) (dBin dPow (dConst (.int 10)) (dConst (.int 18))))) (elt := dBin dSub (dCall dAbs (dCons (dVar 2) (dNil))) (dBin dPow (dConst (.int 10)) (dConst (.int 18)))) (own := [2])
    (env := [some (scrD ns), none, none]) (st := []) (fun d => match d with | .int i => (if 10 ^ 18 ≤ (if i < 0 then -i else i) then some ((if i < 0 then -i else i) - 10 ^ 18) else none).map D.int | _ => none) trivial (items := ns.map D.int) (acc := []) (fun d hd => by
      obtain ⟨i, _, rfl⟩ := List.mem_map.mp hd
      refine ⟨[some (scrD ns), none, some (.int i)], rfl, ?_⟩
      by_cases h : (10 : Int) ^ 18 ≤ (if i < 0 then -i else i)
      · refine .inr ⟨?_, _, rfl, ?_⟩
        · simp [dGe, dAbs, dPow, p18]; simpa using h
        · simp only [if_pos h]
          simp [dSub, dAbs, dPow, p18, CTrue]
      · refine .inl ⟨?_, by simp only [if_neg h]; rfl⟩
        simp [dGe, dAbs, dPow, p18]; simpa using h) (by simpa using hz)
  rw [filterMap_ints fun i => if 10 ^ 18 ≤ (if i < 0 then -i else i) then some ((if i < 0 then -i else i) - 10 ^ 18) else none] at c1
  have c2 := compL_pure (chk := fun _ => True) (tg := gN 2) (tst := tYesD) (elt := dBin dMod (dCall dInt (dCons (dCall dAbs (dCons (dVar 2) (dNil))) (dNil))) (dConst (.int 2147483629))) (own := [2])
    (env := [some (scrD ns), some (.h 0), none]) (st := [.nd .lst ((ns.filterMap fun i => if 10 ^ 18 ≤ (if i < 0 then -i else i) then some ((if i < 0 then -i else i) - 10 ^ 18) else none).map D.int)]) (fun d => match d with | .int i => (some ((if i < 0 then -i else i) % 2147483629)).map D.int | _ => none) trivial (items := ns.map D.int) (acc := []) (fun d hd => by
      obtain ⟨i, _, rfl⟩ := List.mem_map.mp hd
      refine ⟨[some (scrD ns), some (.h 0), some (.int i)], rfl, .inr ⟨rfl, _, rfl, ?_⟩⟩
      simp [dMod, dAbs, dInt]) (by simpa using hz)
  rw [filterMap_ints fun i => some ((if i < 0 then -i else i) % 2147483629)] at c2
  refine ⟨drQ kw (ns.filterMap fun i => if 10 ^ 18 ≤ (if i < 0 then -i else i) then some ((if i < 0 then -i else i) - 10 ^ 18) else none) (ns.filterMap fun i => some ((if i < 0 then -i else i) % 2147483629)) 0 0, ?_, ⟨_, _, 0, 0, rfl, fun x hx => ?_, fun x hx => ?_, Int.le_refl _, Int.le_refl _, by decide⟩⟩
  · have kd : ([.inr kw, .inr "cells", .inr "rest", .inr "turn"] : List Key).Nodup := by
      have a1 : ¬ (("cells" : Str) = "rest") := by decide +kernel
      have a2 : ¬ (("cells" : Str) = "turn") := by decide +kernel
      have a3 : ¬ (("rest" : Str) = "turn") := by decide +kernel
      simp [hk.1, hk.2.1, hk.2.2, a1, a2, a3]
    simp only [List.nil_append] at c1 c2
    simp [runB, begB, dLcM, dLc, scrD, lst?, seen, dDictM, keys?, key?, kd, drQ, drK] at c1 c2 ⊢
    rw [c1]
    simp
    rw [c2]
    simp [kd, keys?, key?]
  · obtain ⟨i, _, h⟩ := List.mem_filterMap.mp hx
    by_cases h0 : (10 : Int) ^ 18 ≤ (if i < 0 then -i else i)
    · rw [if_pos h0] at h
      have := Option.some.inj h
      omega
    · rw [if_neg h0] at h
      cases h
  · obtain ⟨i, _, h⟩ := List.mem_filterMap.mp hx
    cases h
    exact Int.emod_nonneg _ (by decide)
end DY

set_option Elab.async false
set_option linter.all false
set_option maxRecDepth 100000
set_option maxHeartbeats 4000000
/-! Frozen results; lists and tuples alike. -/
namespace DY
open PySem L2
/-! ### no handle inside -/
mutual
def noH : D → Bool
  | .h _ => false
  | .nd _ xs => noHL xs
  | _ => true
def noHL : List D → Bool
  | [] => true
  | d :: ds => noH d && noHL ds
end
mutual
theorem frzG_noH {n0 : Nat} {dr : Nat → Option D} : ∀ d : D, noH d = true → frzG n0 dr d = some d
  | .h _, h => by cases h
  | .nd t xs, h => by
    simp only [noH] at h
    simp [frzG, frzGL_noH xs h]
  | .non, _ => rfl
  | .bl _, _ => rfl
  | .int _, _ => rfl
  | .str _, _ => rfl
theorem frzGL_noH {n0 : Nat} {dr : Nat → Option D} : ∀ ds : List D, noHL ds = true → frzGL n0 dr ds = some ds
  | [], _ => rfl
  | d :: ds, h => by
    simp only [noHL, Bool.and_eq_true] at h
    simp [frzGL, frzG_noH d h.1, frzGL_noH ds h.2]
end
theorem frz_noH {m n0 : Nat} {st : Store} {d : D} (h : noH d = true) : frz m n0 st d = some d := by
  cases m <;> exact frzG_noH d h
theorem noH_ints (is : List Int) : noHL (is.map D.int) = true := by
  induction is with
  | nil => rfl
  | cons i is ih => simp [noHL, noH, ih]
theorem cells_app (st g : Store) : CellsOk st (st ++ g) := ⟨by simp, fun k d hk e => by
  rw [List.getElem?_append_left hk] at e; exact .inl e⟩
theorem frzF_ok {F : SemF} {ds : List D} {st g : Store} {d d' : D} (e : F ds st = .ok d (st ++ g)) (h : frz 5 st.length (st ++ g) d = some d') : frzF F ds st = .ok d' st := by
  unfold frzF
  rw [e]
  dsimp only
  rw [if_pos (cells_app st g), h]
  simp
theorem frzF_pure {F : SemF} {ds : List D} {st : Store} {d : D} (e : F ds st = .ok d st) (h : noH d = true) : frzF F ds st = .ok d st :=
  frzF_ok (g := []) (by simpa using e) (frz_noH h)
/-- the thing just made, frozen -/
theorem frz_new {st g : Store} {t : Hd} {xs : List D} {k : Nat} (hk : st.length ≤ k) (e : (st ++ g)[k]? = some (.nd t xs)) (h : noHL xs = true) : frz 5 st.length (st ++ g) (.h k) = some (.nd t xs) := by
  show frzG _ _ (.h k) = _
  simp only [frzG]
  rw [if_neg (by omega), e]
  exact frz_noH (by simpa [noH] using h)
theorem cells_dr {kw : Str} {ws cs ws' cs' : List Int} {r t r' t' : Int} {R g : Store} : CellsOk (drQ kw ws cs r t ++ R) (drQ kw ws' cs' r' t' ++ R ++ g) := by
  refine ⟨by simp [drQ], fun k d hk e => ?_⟩
  match k with
  | 0 => cases e; exact .inr (by simp [hdB]; exact hd_ints _ _)
  | 1 => cases e; exact .inr (by simp [hdB, hdBL, drQ, hd_ints])
  | k + 2 =>
    left
    have h1 : ((drQ kw ws' cs' r' t' ++ R ++ g)[k + 2]? : Option D) = (R ++ g)[k]? := by simp [drQ]
    have h2 : ((drQ kw ws cs r t ++ R)[k + 2]? : Option D) = R[k]? := by simp [drQ]
    rw [h1] at e
    rw [h2]
    have : k < R.length := by simp [drQ] at hk; omega
    rwa [List.getElem?_append_left this] at e
where
  hd_ints : ∀ (n : Nat) (is : List Int), hdBL n (is.map D.int) = true := fun n is => by
    induction is with
    | nil => rfl
    | cons i is ih => simp [hdBL, hdB, ih]
theorem frzF_dr {kw : Str} {F : SemF} {ds : List D} {a b : Nat} {q q' : List D} {R g : Store} {d d' : D} (h : Dr kw a q) (h' : Dr kw b q') (e : F ds (q ++ R) = .ok d (q' ++ R ++ g)) (hd : frz 5 (q ++ R).length (q' ++ R ++ g) d = some d') : frzF F ds (q ++ R) = .ok d' (q' ++ R) := by
  obtain ⟨ws, cs, r, t, rfl, _⟩ := h.ex
  obtain ⟨ws', cs', r', t', rfl, _⟩ := h'.ex
  unfold frzF
  rw [e]
  dsimp only
  rw [if_pos cells_dr, hd]
  dsimp only
  congr 1
  have : (drQ kw ws cs r t ++ R).length = (drQ kw ws' cs' r' t' ++ R).length := by simp [drQ]
  rw [this, List.take_left]
theorem dr_len {kw : Str} {a : Nat} {q : List D} (h : Dr kw a q) : q.length = 2 := by
  obtain ⟨ws, cs, r, t, rfl, _⟩ := h.ex
  rfl
/-- hands out the new thing alone -/
theorem frzH_ok {F : SemF} {ds : List D} {st g : Store} {k : Nat} {t : Hd} {xs : List D} (e : F ds st = .ok (.h k) (st ++ g)) (hk : st.length ≤ k) (hc : (st ++ g)[k]? = some (.nd t xs)) (h : noHL xs = true) : frzH F ds st = .ok (.h st.length) (st ++ [.nd t xs]) := by
  unfold frzH
  rw [e]
  dsimp only
  rw [if_pos ⟨cells_app st g, hk⟩, hc]
  dsimp only
  have : ∀ ys : List D, noHL ys = true → frzXL 5 st.length k (st ++ g) ys = some ys := by
    intro ys
    induction ys with
    | nil => intro _; rfl
    | cons y ys ih =>
      intro hy
      simp only [noHL, Bool.and_eq_true] at hy
      have e1 : frzX 5 st.length k (st ++ g) y = some y := frzG_noH y hy.1
      simp [frzXL, e1, ih hy.2]
  rw [this xs h]
  simp
/-! ### lists and tuples alike -/
inductive Sq (st : Store) (x : D) (xs : List D) : Prop where
  | l (h : Is st x xs)
  | t (h : x = .nd .tup xs)
theorem Sq.seq {st : Store} {x : D} {xs : List D} (h : Sq st x xs) : seq? st x = some xs := by
  rcases h with h | rfl
  · exact h.seq
  · rfl
theorem Sq.ty {st : Store} {x : D} {xs : List D} (h : Sq st x xs) : tyD st x = some "list" ∨ tyD st x = some "tuple" := by
  rcases h with h | rfl
  · exact .inl h.ty
  · exact .inr rfl
theorem iSeq_sq {f : SemE} {env : DEnv} {st st1 : Store} {x : D} {xs : List D} (e : f env st = .ok x st1) (h : Sq st1 x xs) : ∃ it, iSeq f env st = .ok it st1 ∧ it.items = xs ∧ it.chk st1 ∧ (∀ st2, Sq st2 x xs → it.chk st2) := by
  rcases h with h | rfl
  · refine ⟨⟨xs, fun st2 => lst? st2 x = some xs⟩, by simp [iSeq, e, h.lst], rfl, h.lst, fun st2 h2 => ?_⟩
    rcases h2 with h2 | rfl
    · exact h2.lst
    · rcases h with h | ⟨k, h, _⟩
      · cases h
      · cases h
  · exact ⟨⟨xs, fun st2 => tup? st2 (.nd .tup xs) = some xs⟩, by simp [iSeq, e, lst?, tup?, seen], rfl, rfl, fun _ _ => rfl⟩
theorem iEnum_sq {f : SemA} {env : DEnv} {st st1 : Store} {x : D} {xs : List D} (e : f env st = .ok [x] st1) (h : Sq st1 x xs) : ∃ it, iEnum2 f env st = .ok it st1 ∧ it.items = enuFrom 0 xs ∧ it.chk st1 ∧ (∀ st2, Sq st2 x xs → it.chk st2) := by
  rcases h with h | rfl
  · refine ⟨⟨enuFrom 0 xs, fun st2 => lst? st2 x = some xs⟩, by simp [iEnum2, e, h.lst], rfl, h.lst, fun st2 h2 => ?_⟩
    rcases h2 with h2 | rfl
    · exact h2.lst
    · rcases h with h | ⟨k, h, _⟩
      · cases h
      · cases h
  · exact ⟨⟨enuFrom 0 xs, fun st2 => tup? st2 (.nd .tup xs) = some xs⟩, by simp [iEnum2, e, lst?, tup?, seen], rfl, rfl, fun _ _ => rfl⟩
/-- a loop with its items -/
theorem sFor_eq {fi : SemI} {tg : DTg} {body : SemS} {env : DEnv} {st st1 : Store} {it : DIter} (e : fi env st = .ok it st1) : sFor fi tg body env st = forL it.chk tg body it.items env st1 := by
  unfold sFor; rw [e]; rfl
theorem dLc_eq {fi : SemI} {tg : DTg} {tst : SemT} {elt : SemE} {own : List Nat} {env : DEnv} {st st1 st2 : Store} {it : DIter} {xs : List D} (e : fi env st = .ok it st1) (h : compL it.chk tg tst elt own env it.items [] st1 = .ok xs st2) : dLc fi tg tst elt own env st = .ok (.nd .lst xs) st2 := by
  unfold dLc; rw [e]; dsimp only [Res.bind]; rw [h]
end DY

set_option Elab.async false
set_option linter.all false
set_option maxRecDepth 100000
set_option maxHeartbeats 4000000
/-! What is shown is short enough. -/
namespace DY
open PySem L2
mutual
/-- a bound of what is shown; nothing is said of texts -/
def shW : PyData → Nat
  | .none => 4
  | .bool _ => 5
  | .int _ => 1921
  | .str x => (reprText x).length
  | .list xs => 2 + shWL xs
  | .tuple xs => 4 + shWL xs
  | .dict _ => 0
def shWL : List PyData → Nat
  | [] => 0
  | d :: ds => shW d + 2 + shWL ds
end
theorem textFrom_le : ∀ (ts : List Str) (k : Nat) (acc : Str), (textFrom k acc ts).length ≤ acc.length + piled ts
  | [], k, acc => by simp [textFrom, piled]
  | t :: r, k, acc => by
    have h := textFrom_le r (k + 1) (acc ++ (if k > 0 then ", " else "" : String) ++ t)
    have e : (acc ++ (if k > 0 then ", " else "" : String) ++ t).length ≤ acc.length + 2 + t.length := by
      rw [strLen_append, strLen_append]
      have : (Str.ofString (if k > 0 then ", " else "" : String)).length ≤ 2 := by split <;> decide
      omega
    have p : piled (t :: r) = t.length + 2 + piled r := by simp [piled]
    rw [p]
    show (textFrom (k + 1) _ r).length ≤ _
    omega
theorem listText_le (ts : List Str) : (listText ts).length ≤ 2 + piled ts := by
  unfold listText
  rw [strLen_append]
  have h := textFrom_le ts 0 "["
  have h1 : (Str.ofString "[").length = 1 := by decide
  have h2 : (Str.ofString "]").length = 1 := by decide
  omega
theorem tupleText_le (ts : List Str) : (tupleText ts).length ≤ 4 + piled ts := by
  unfold tupleText
  rw [strLen_append, strLen_append]
  have h1 : (Str.ofString "(").length = 1 := by decide
  have h2 : (Str.ofString (if ts.length == 1 then ",)" else ")" : String)).length ≤ 2 := by split <;> decide
  have h3 : (Str.join ", " ts).length ≤ piled ts := by
    by_cases h : ts = []
    · subst h; decide
    · have := join_length_add ts h; omega
  omega
mutual
theorem shown_le : ∀ d : PyData, d.showable = true → d.plain = true → d.shown.length ≤ shW d
  | .none, _, _ => by simp only [PyData.shown, shW]; decide
  | .bool b, _, _ => by
    simp only [PyData.shown, shW]
    cases b <;> decide
  | .int i, h, _ => by
    simp only [PyData.shown, shW]
    have h' : i.natAbs.log2 < 1920 := by simpa [PyData.showable] using h
    rw [ofString_length]
    exact int_text_length_le (k := 1920) (by decide) h'
  | .str x, _, _ => Nat.le_refl _
  | .list xs, h, hp => by
    simp only [PyData.shown, shW]
    have := shown_leL xs (by simpa [PyData.showable] using h) (by simpa [PyData.plain] using hp)
    have := listText_le (PyData.shownAll xs)
    omega
  | .tuple xs, h, hp => by
    simp only [PyData.shown, shW]
    have := shown_leL xs (by simpa [PyData.showable] using h) (by simpa [PyData.plain] using hp)
    have := tupleText_le (PyData.shownAll xs)
    omega
  | .dict _, _, hp => by simp [PyData.plain] at hp
theorem shown_leL : ∀ ds : List PyData, PyData.showableAll ds = true → PyData.plainAll ds = true → piled (PyData.shownAll ds) ≤ shWL ds
  | [], _, _ => by simp [PyData.shownAll, piled, shWL]
  | d :: ds, h, hp => by
    have h' : d.showable = true ∧ PyData.showableAll ds = true := by simpa [PyData.showableAll] using h
    have hp' : d.plain = true ∧ PyData.plainAll ds = true := by simpa [PyData.plainAll] using hp
    have h1 := shown_le d h'.1 hp'.1
    have h2 := shown_leL ds h'.2 hp'.2
    have p : piled (PyData.shownAll (d :: ds)) = d.shown.length + 2 + piled (PyData.shownAll ds) := by simp [PyData.shownAll, piled]
    rw [p]
    simp only [shWL]
    omega
end
theorem repr_list {x : D} {st : Store} {xs : List D} {ys : List PyData} (hx : Is st x xs) (hp : toP deepP st x = some (.list ys)) (hs : PyData.showableAll ys = true) (hq : shp (.list ys) = true) (hw : shWL ys ≤ 16000000) : dRepr [x] st = .ok (.str (PyData.list ys).shown) st := by
  have h1 : (PyData.list ys).showable = true := by simpa [PyData.showable] using hs
  have h2 := shown_le (.list ys) h1 (shp_plain hq)
  have h3 : (PyData.list ys).shown.length ≤ szL := by
    rw [szL_eq]; simp only [shW] at h2; omega
  rcases hx with rfl | ⟨k, rfl, _⟩
  · simp only [dRepr, hp]; rw [if_pos ⟨h1, h3, hq⟩]
  · simp only [dRepr, hp]; rw [if_pos ⟨h1, h3, hq⟩]
theorem show_ints {is : List Int} (h : ∀ i ∈ is, i.natAbs.log2 < 1920) : PyData.showableAll (is.map PyData.int) = true := by
  induction is with
  | nil => rfl
  | cons i is ih =>
    have := h i List.mem_cons_self
    simp [PyData.showableAll, PyData.showable, this, ih fun j hj => h j (List.mem_cons_of_mem _ hj)]
theorem shw_ints (is : List Int) : shWL (is.map PyData.int) = 1923 * is.length := by
  induction is with
  | nil => rfl
  | cons i is ih => simp [shWL, shW, ih]; omega
theorem log_small {i : Int} (h0 : 0 ≤ i) (h : i < 2 ^ 64) : i.natAbs.log2 < 1920 := by
  have h1 : i.natAbs < 2 ^ 64 := by omega
  by_cases hz : i.natAbs = 0
  · rw [hz]; decide
  · have := (Nat.log2_lt hz).mpr h1
    omega
theorem repr_ints {x : D} {st : Store} {is : List Int} (hx : Is st x (is.map D.int)) (hl : is.length ≤ 1000) (hb : ∀ i ∈ is, 0 ≤ i ∧ i < 2 ^ 64) : dRepr [x] st = .ok (.str (PyData.list (is.map PyData.int)).shown) st :=
  repr_list hx hx.ints (show_ints fun i hi => log_small (hb i hi).1 (hb i hi).2) (shp_ints is) (by rw [shw_ints]; omega)
end DY

set_option Elab.async false
set_option linter.all false
set_option maxRecDepth 100000
set_option maxHeartbeats 4000000
/-! law_k41_fastest_arrivals: the defs as functions on data. -/
namespace Q41
open PySem PySem.Spec PyProof.Rows L2 DY
def top (i : Nat) : Stmt := PySem.Challenge.pw_onceburst_k41_fastest_arrivals.main.body.getD i (.Pass ⟨0, 0, 0, 0⟩)
abbrev nF : Nat := 22
/-- is_number -/
abbrev s0 : Stmt := (top 6)
abbrev N0 : List Str := ["thing"]
abbrev p0 : List Str := ["thing"]
theorem nd0 : N0.Nodup := by decide +kernel
theorem sc0 : FnScope N0 p0 (defScope s0) := ⟨rfl, rfl, rfl, nd0, rfl, by decide +kernel, by decide +kernel⟩
noncomputable def b0 (c : Nat → SemF) : SemS :=
    sRet (dAndV (dIsi ["int"] (dVar 0)) (dAndV (dNotV (dIsi ["bool"] (dVar 0))) (dBin dGe (dVar 0) (dConst (.int 0)))))
/-- sorted_pairs -/
abbrev s1 : Stmt := (top 7)
abbrev N1 : List Str := ["pairs"]
abbrev p1 : List Str := ["pairs"]
theorem nd1 : N1.Nodup := by decide +kernel
theorem sc1 : FnScope N1 p1 (defScope s1) := ⟨rfl, rfl, rfl, nd1, rfl, by decide +kernel, by decide +kernel⟩
noncomputable def b1 (c : Nat → SemF) : SemS :=
    sRet (dCall dTuple (dCons (dSortSet (dVar 0)) (dNil)))
/-- made_table -/
abbrev s2 : Stmt := (top 8)
abbrev N2 : List Str := ["pairs", "size", "found", "k", "count", "time"]
abbrev p2 : List Str := ["pairs", "size"]
theorem nd2 : N2.Nodup := by decide +kernel
theorem sc2 : FnScope N2 p2 (defScope s2) := ⟨rfl, rfl, rfl, nd2, rfl, by decide +kernel, by decide +kernel⟩
noncomputable def b2 (c : Nat → SemF) : SemS :=
    sCons (sSet 2 (dLstM (dCons (dConst (.int 0)) (dNil))))
    (sCons (sFor (iRange2 (dCons (dConst (.int 1)) (dCons (dVar 1) (dNil)))) (gN 3) (sExpr (dBML opAppend (dVar 2) (dCons (dCall dMax (dCons (dBin dAdd (dLst (dCons (dBin dIx (dVar 2) (dBin dSub (dVar 3) (dConst (.int 1)))) (dNil))) (dLc (iSeq (dVar 0)) (gT 2 (gCons' (gN 4) (gCons' (gN 5) (gNil')))) (dBool (dBin dLe (dVar 4) (dVar 3))) (dBin dAdd (dBin dIx (dVar 2) (dBin dSub (dVar 3) (dVar 4))) (dVar 5)) [4, 5])) (dNil))) (dNil)))))
    (sRet (dSliceM (dVar 2) (dNoPart) (dPart (dVar 1)))))
/-- is_moment -/
abbrev s3 : Stmt := (top 12)
abbrev N3 : List Str := ["thing"]
abbrev p3 : List Str := ["thing"]
theorem nd3 : N3.Nodup := by decide +kernel
theorem sc3 : FnScope N3 p3 (defScope s3) := ⟨rfl, rfl, rfl, nd3, rfl, by decide +kernel, by decide +kernel⟩
noncomputable def b3 (c : Nat → SemF) : SemS :=
    sRet (dAndV (dCall (c 0) (dCons (dVar 0) (dNil))) (dBin dLe (dVar 0) (dConst (.int 1000000000000000))))
/-- first_bad -/
abbrev s4 : Stmt := (top 13)
abbrev N4 : List Str := ["moments", "last", "at", "moment"]
abbrev p4 : List Str := ["moments"]
theorem nd4 : N4.Nodup := by decide +kernel
theorem sc4 : FnScope N4 p4 (defScope s4) := ⟨rfl, rfl, rfl, nd4, rfl, by decide +kernel, by decide +kernel⟩
noncomputable def b4 (c : Nat → SemF) : SemS :=
    sCons (sSet 1 (dConst (.int 0)))
    (sCons (sFor (iEnum2 (dCons (dVar 0) (dNil))) (gT 2 (gCons' (gN 2) (gCons' (gN 3) (gNil')))) (sCons (sIf (dOr (dNot (dBool (dCall (c 3) (dCons (dVar 3) (dNil))))) (dBool (dBin dLt (dVar 3) (dVar 1)))) (sRet (dVar 2)) (sNil))
    (sSet 1 (dVar 3))))
    (sRet (dConst .non)))
/-- need_arrivals -/
abbrev s5 : Stmt := (top 14)
abbrev N5 : List Str := ["arrivals", "at"]
abbrev p5 : List Str := ["arrivals"]
theorem nd5 : N5.Nodup := by decide +kernel
theorem sc5 : FnScope N5 p5 (defScope s5) := ⟨rfl, rfl, rfl, nd5, rfl, by decide +kernel, by decide +kernel⟩
noncomputable def b5 (c : Nat → SemF) : SemS :=
    sCons (sIf (dNot (dBool (dIsi ["list", "tuple"] (dVar 0)))) ((fun _ _ => .no)) (sNil))
    (sCons (sSet 1 (dCall (c 4) (dCons (dVar 0) (dNil))))
    (sIf (dBool (dBin dNotN (dVar 1) (dConst .non))) ((fun _ _ => .no)) (sNil)))
/-- is_time -/
abbrev s6 : Stmt := (top 18)
abbrev N6 : List Str := ["thing"]
abbrev p6 : List Str := ["thing"]
theorem nd6 : N6.Nodup := by decide +kernel
theorem sc6 : FnScope N6 p6 (defScope s6) := ⟨rfl, rfl, rfl, nd6, rfl, by decide +kernel, by decide +kernel⟩
noncomputable def b6 (c : Nat → SemF) : SemS :=
    sRet (dAndV (dCall (c 0) (dCons (dVar 0) (dNil))) (dBin dLe (dVar 0) (dConst (.int 1000000000))))
/-- is_count -/
abbrev s7 : Stmt := (top 19)
abbrev N7 : List Str := ["thing"]
abbrev p7 : List Str := ["thing"]
theorem nd7 : N7.Nodup := by decide +kernel
theorem sc7 : FnScope N7 p7 (defScope s7) := ⟨rfl, rfl, rfl, nd7, rfl, by decide +kernel, by decide +kernel⟩
noncomputable def b7 (c : Nat → SemF) : SemS :=
    sRet (dAndV (dCall (c 0) (dCons (dVar 0) (dNil))) (dChain dLe dLe (dConst (.int 1)) (dVar 0) (dConst (.int 12))))
/-- is_pair -/
abbrev s8 : Stmt := (top 22)
abbrev N8 : List Str := ["thing"]
abbrev p8 : List Str := ["thing"]
theorem nd8 : N8.Nodup := by decide +kernel
theorem sc8 : FnScope N8 p8 (defScope s8) := ⟨rfl, rfl, rfl, nd8, rfl, by decide +kernel, by decide +kernel⟩
noncomputable def b8 (c : Nat → SemF) : SemS :=
    sRet (dAndV (dIsi ["tuple"] (dVar 0)) (dAndV (dBin dEq (dCall dLen (dCons (dVar 0) (dNil))) (dConst (.int 2))) (dAndV (dCall (c 7) (dCons (dBin dIx (dVar 0) (dConst (.int 0))) (dNil))) (dCall (c 6) (dCons (dBin dIx (dVar 0) (dConst (.int 1))) (dNil))))))
/-- need_rule -/
abbrev s9 : Stmt := (top 23)
abbrev N9 : List Str := ["rule", "at", "item"]
abbrev p9 : List Str := ["rule"]
theorem nd9 : N9.Nodup := by decide +kernel
theorem sc9 : FnScope N9 p9 (defScope s9) := ⟨rfl, rfl, rfl, nd9, rfl, by decide +kernel, by decide +kernel⟩
noncomputable def b9 (c : Nat → SemF) : SemS :=
    sCons (sIf (dNot (dBool (dIsi ["list", "tuple"] (dVar 0)))) ((fun _ _ => .no)) (sNil))
    (sFor (iEnum2 (dCons (dVar 0) (dNil))) (gT 2 (gCons' (gN 1) (gCons' (gN 2) (gNil')))) (sIf (dOr (dBool (dBin dEq (dVar 1) (dConst (.int 6)))) (dNot (dBool (dCall (c 8) (dCons (dVar 2) (dNil)))))) ((fun _ _ => .no)) (sNil)))
/-- pairs_of -/
abbrev s10 : Stmt := (top 24)
abbrev N10 : List Str := ["rule", "count", "time"]
abbrev p10 : List Str := ["rule"]
theorem nd10 : N10.Nodup := by decide +kernel
theorem sc10 : FnScope N10 p10 (defScope s10) := ⟨rfl, rfl, rfl, nd10, rfl, by decide +kernel, by decide +kernel⟩
noncomputable def b10 (c : Nat → SemF) : SemS :=
    sRet (dCall (c 1) (dCons (dLc (iSeq (dVar 0)) (gT 2 (gCons' (gN 1) (gCons' (gN 2) (gNil')))) (dBool (dBin dGt (dVar 2) (dConst (.int 0)))) (dTup (dCons (dVar 1) (dCons (dVar 2) (dNil)))) [1, 2]) (dNil)))
/-- keeps -/
abbrev s11 : Stmt := (top 25)
abbrev N11 : List Str := ["rule", "arrivals", "count", "time", "earlier", "later"]
abbrev p11 : List Str := ["rule", "arrivals"]
theorem nd11 : N11.Nodup := by decide +kernel
theorem sc11 : FnScope N11 p11 (defScope s11) := ⟨rfl, rfl, rfl, nd11, rfl, by decide +kernel, by decide +kernel⟩
noncomputable def b11 (c : Nat → SemF) : SemS :=
    sCons (sExpr (dCall (c 9) (dCons (dVar 0) (dNil))))
    (sCons (sExpr (dCall (c 5) (dCons (dVar 1) (dNil))))
    (sCons (sFor (iSeq (dVar 0)) (gT 2 (gCons' (gN 2) (gCons' (gN 3) (gNil')))) (sIf (dNot (dBool (dCall dAll (dCons (dLc (iZip2 (dCons (dVar 1) (dCons (dSlice (dVar 1) (dPart (dVar 2)) (dNoPart)) (dNil)))) (gT 2 (gCons' (gN 4) (gCons' (gN 5) (gNil')))) (tYesD) (dBin dGe (dBin dSub (dVar 5) (dVar 4)) (dVar 3)) [4, 5]) (dNil))))) (sRet (dConst (.bl false))) (sNil)))
    (sRet (dConst (.bl true)))))
/-- fastest -/
abbrev s12 : Stmt := (top 26)
abbrev N12 : List Str := ["rule", "many"]
abbrev p12 : List Str := ["rule", "many"]
theorem nd12 : N12.Nodup := by decide +kernel
theorem sc12 : FnScope N12 p12 (defScope s12) := ⟨rfl, rfl, rfl, nd12, rfl, by decide +kernel, by decide +kernel⟩
noncomputable def b12 (c : Nat → SemF) : SemS :=
    sCons (sExpr (dCall (c 9) (dCons (dVar 0) (dNil))))
    (sCons (sIf (dOr (dNot (dBool (dCall (c 0) (dCons (dVar 1) (dNil))))) (dBool (dBin dGt (dVar 1) (dConst (.int 400))))) ((fun _ _ => .no)) (sNil))
    (sRet (dCall (c 2) (dCons (dCall (c 10) (dCons (dVar 0) (dNil))) (dCons (dVar 1) (dNil))))))
/-- _law_begun -/
abbrev s13 : Stmt := (top 28)
abbrev N13 : List Str := ["_law_script", "_law_widest", "_law_cell"]
abbrev p13 : List Str := ["_law_script"]
theorem nd13 : N13.Nodup := by decide +kernel
theorem sc13 : FnScope N13 p13 (defScope s13) := ⟨rfl, rfl, rfl, nd13, rfl, by decide +kernel, by decide +kernel⟩
noncomputable def b13 (c : Nat → SemF) : SemS :=
    sCons (sSet 1 (dLcM (iSeq (dVar 0)) (gN 2) (dBool (dBin dGe (dCall dAbs (dCons (dVar 2) (dNil))) (dBin dPow (dConst (.int 10)) (dConst (.int 18))))) (dBin dSub (dCall dAbs (dCons (dVar 2) (dNil))) (dBin dPow (dConst (.int 10)) (dConst (.int 18)))) [2]))
    (sRet (dDictM [(dConst (.str "widest"), dVar 1), (dConst (.str "cells"), dLc (iSeq (dVar 0)) (gN 2) (tYesD) (dBin dMod (dCall dInt (dCons (dCall dAbs (dCons (dVar 2) (dNil))) (dNil))) (dConst (.int 2147483629))) [2]), (dConst (.str "rest"), dConst (.int 0)), (dConst (.str "turn"), dConst (.int 0))]))
/-- _law_mixed -/
abbrev s14 : Stmt := (top 29)
abbrev N14 : List Str := ["_law_draw", "_law_turn", "_law_found", "_law_prime", "_law_blend", "_law_cell"]
abbrev p14 : List Str := ["_law_draw"]
theorem nd14 : N14.Nodup := by decide +kernel
theorem sc14 : FnScope N14 p14 (defScope s14) := ⟨rfl, rfl, rfl, nd14, rfl, by decide +kernel, by decide +kernel⟩
noncomputable def b14 (c : Nat → SemF) : SemS :=
    sCons (sPar 1 2 (dCons (dBin dAdd (dBin (dGet 3) (dVar 0) (dConst (.str "turn"))) (dConst (.int 1))) (dCons (dConst (.int 0)) (dNil))))
    (sCons (sDPut 3 (dVar 0) (dConst (.str "turn")) (dVar 1))
    (sCons (sFor (iSeq (dLst (dCons (dConst (.int 2147483629)) (dCons (dConst (.int 2147483587)) (dCons (dConst (.int 2147483579)) (dCons (dConst (.int 2147483563)) (dNil))))))) (gN 3) (sCons (sSet 4 (dBin dAdd (dBin dMul (dConst (.int 61441)) (dVar 1)) (dBin dFdiv (dVar 3) (dConst (.int 19)))))
    (sCons (sFor (iSeq (dBin (dGet 1) (dVar 0) (dConst (.str "cells")))) (gN 5) (sSet 4 (dBin dMod (dCall dInt (dCons (dBin dAdd (dBin dAdd (dBin dMul (dVar 4) (dConst (.int 48271))) (dVar 5)) (dVar 1)) (dNil))) (dVar 3))))
    (sSet 2 (dBin dAdd (dBin dMul (dVar 2) (dConst (.int 2147483647))) (dBin dMod (dCall dInt (dCons (dBin dPow (dVar 4) (dConst (.int 5))) (dNil))) (dVar 3)))))))
    (sRet (dVar 2))))
/-- _law_take -/
abbrev s15 : Stmt := (top 30)
abbrev N15 : List Str := ["_law_draw", "_law_size", "_law_found"]
abbrev p15 : List Str := ["_law_draw", "_law_size"]
theorem nd15 : N15.Nodup := by decide +kernel
theorem sc15 : FnScope N15 p15 (defScope s15) := ⟨rfl, rfl, rfl, nd15, rfl, by decide +kernel, by decide +kernel⟩
noncomputable def b15 (c : Nat → SemF) : SemS :=
    sCons (sIf (dBool (dBin dEq (dBin (dGet 2) (dVar 0) (dConst (.str "rest"))) (dConst (.int 0)))) (sDPut 2 (dVar 0) (dConst (.str "rest")) (dIfE (dBool (dBin dNe (dBin (dGet 0) (dVar 0) (dConst (.str "widest"))) (dLst (dNil)))) (dBML opPopAt (dBin (dGet 0) (dVar 0) (dConst (.str "widest"))) (dCons (dConst (.int 0)) (dNil))) (dCall (c 14) (dCons (dVar 0) (dNil))))) (sNil))
    (sCons (sSet 2 (dBin dMod (dCall dInt (dCons (dBin (dGet 2) (dVar 0) (dConst (.str "rest"))) (dNil))) (dVar 1)))
    (sCons (sDPut 2 (dVar 0) (dConst (.str "rest")) (dBin dFdiv (dBin (dGet 2) (dVar 0) (dConst (.str "rest"))) (dVar 1)))
    (sRet (dVar 2))))
/-- _law_pick -/
abbrev s16 : Stmt := (top 31)
abbrev N16 : List Str := ["_law_draw", "_law_some"]
abbrev p16 : List Str := ["_law_draw", "_law_some"]
theorem nd16 : N16.Nodup := by decide +kernel
theorem sc16 : FnScope N16 p16 (defScope s16) := ⟨rfl, rfl, rfl, nd16, rfl, by decide +kernel, by decide +kernel⟩
noncomputable def b16 (c : Nat → SemF) : SemS :=
    sRet (dBin dIx (dVar 1) (dCall (c 15) (dCons (dVar 0) (dCons (dCall dLen (dCons (dVar 1) (dNil))) (dNil)))))
/-- _law_time -/
abbrev s17 : Stmt := (top 32)
abbrev N17 : List Str := ["_law_draw", "_law_kind"]
abbrev p17 : List Str := ["_law_draw", "_law_kind"]
theorem nd17 : N17.Nodup := by decide +kernel
theorem sc17 : FnScope N17 p17 (defScope s17) := ⟨rfl, rfl, rfl, nd17, rfl, by decide +kernel, by decide +kernel⟩
noncomputable def b17 (c : Nat → SemF) : SemS :=
    sCons (sIf (dBool (dBin dEq (dVar 1) (dConst (.str "small")))) (sRet (dCall (c 15) (dCons (dVar 0) (dCons (dConst (.int 10)) (dNil))))) (sNil))
    (sRet (dCall (c 16) (dCons (dVar 0) (dCons (dLst (dCons (dConst (.int 0)) (dCons (dConst (.int 1)) (dCons (dConst (.int 2)) (dCons (dConst (.int 5)) (dCons (dConst (.int 7)) (dCons (dBin dPow (dConst (.int 10)) (dConst (.int 9))) (dCons (dBin dSub (dBin dPow (dConst (.int 10)) (dConst (.int 9))) (dConst (.int 1))) (dCons (dCall (c 15) (dCons (dVar 0) (dCons (dConst (.int 100)) (dNil)))) (dCons (dCall (c 15) (dCons (dVar 0) (dCons (dBin dAdd (dBin dPow (dConst (.int 10)) (dConst (.int 9))) (dConst (.int 1))) (dNil)))) (dNil))))))))))) (dNil)))))
/-- _law_keeps_all -/
abbrev s18 : Stmt := (top 33)
abbrev N18 : List Str := ["_law_told", "_law_moments", "_law_count", "_law_time_here", "_law_at"]
abbrev p18 : List Str := ["_law_told", "_law_moments"]
theorem nd18 : N18.Nodup := by decide +kernel
theorem sc18 : FnScope N18 p18 (defScope s18) := ⟨rfl, rfl, rfl, nd18, rfl, by decide +kernel, by decide +kernel⟩
noncomputable def b18 (c : Nat → SemF) : SemS :=
    sCons (sFor (iSeq (dVar 0)) (gT 2 (gCons' (gN 2) (gCons' (gN 3) (gNil')))) (sIf (dBool (dBin dNe (dLc (iRange2 (dCons (dVar 2) (dCons (dCall dLen (dCons (dVar 1) (dNil))) (dNil)))) (gN 4) (dBool (dBin dLt (dBin dSub (dBin dIx (dVar 1) (dVar 4)) (dBin dIx (dVar 1) (dBin dSub (dVar 4) (dVar 2)))) (dVar 3))) (dVar 4) [4]) (dLst (dNil)))) (sRet (dConst (.bl false))) (sNil)))
    (sRet (dConst (.bl true)))
/-- _law_spaced -/
abbrev s19 : Stmt := (top 34)
abbrev N19 : List Str := ["_law_draw", "_law_told", "_law_size", "_law_found", "_law_slack", "_law_at", "_law_moment", "_law_count", "_law_time_here"]
abbrev p19 : List Str := ["_law_draw", "_law_told", "_law_size"]
theorem nd19 : N19.Nodup := by decide +kernel
theorem sc19 : FnScope N19 p19 (defScope s19) := ⟨rfl, rfl, rfl, nd19, rfl, by decide +kernel, by decide +kernel⟩
noncomputable def b19 (c : Nat → SemF) : SemS :=
    sCons (sPar 3 4 (dCons (dLstM (dNil)) (dCons (dCall (c 16) (dCons (dVar 0) (dCons (dLst (dCons (dConst (.int 1)) (dCons (dConst (.int 1)) (dCons (dConst (.int 2)) (dCons (dConst (.int 30)) (dNil)))))) (dNil)))) (dNil))))
    (sCons (sFor (iRange1 (dCons (dVar 2) (dNil))) (gN 5) (sCons (sSet 6 (dIfE (dBool (dBin dGt (dVar 5) (dConst (.int 0)))) (dBin dIx (dVar 3) (dBin dSub (dVar 5) (dConst (.int 1)))) (dCall (c 16) (dCons (dVar 0) (dCons (dLst (dCons (dConst (.int 0)) (dCons (dConst (.int 0)) (dCons (dConst (.int 5)) (dNil))))) (dNil))))))
    (sCons (sFor (iSeq (dVar 1)) (gT 2 (gCons' (gN 7) (gCons' (gN 8) (gNil')))) (sIf (dBool (dBin dGe (dVar 5) (dVar 7))) (sSet 6 (dCall dMax (dCons (dVar 6) (dCons (dBin dAdd (dBin dIx (dVar 3) (dBin dSub (dVar 5) (dVar 7))) (dVar 8)) (dNil))))) (sNil)))
    (sExpr (dBML opAppend (dVar 3) (dCons (dBin dAdd (dVar 6) (dCall (c 16) (dCons (dVar 0) (dCons (dLst (dCons (dConst (.int 0)) (dCons (dConst (.int 0)) (dCons (dConst (.int 0)) (dCons (dCall (c 15) (dCons (dVar 0) (dCons (dVar 4) (dNil)))) (dNil)))))) (dNil))))) (dNil)))))))
    (sRet (dVar 3)))
/-- _law_soon -/
abbrev s20 : Stmt := (top 35)
abbrev N20 : List Str := ["_law_told", "_law_size", "_law_found", "_law_at", "_law_some", "_law_count", "_law_time_here"]
abbrev p20 : List Str := ["_law_told", "_law_size"]
theorem nd20 : N20.Nodup := by decide +kernel
theorem sc20 : FnScope N20 p20 (defScope s20) := ⟨rfl, rfl, rfl, nd20, rfl, by decide +kernel, by decide +kernel⟩
noncomputable def b20 (c : Nat → SemF) : SemS :=
    sCons (sSet 2 (dLstM (dNil)))
    (sCons (sFor (iRange1 (dCons (dVar 1) (dNil))) (gN 3) (sCons (sSet 4 (dLc (iSeq (dVar 0)) (gT 2 (gCons' (gN 5) (gCons' (gN 6) (gNil')))) (dBool (dBin dLe (dVar 5) (dVar 3))) (dBin dAdd (dBin dIx (dVar 2) (dBin dSub (dVar 3) (dVar 5))) (dVar 6)) [5, 6]))
    (sExpr (dBML opAppend (dVar 2) (dCons (dCall dMax (dCons (dBin dAdd (dBin dAdd (dLst (dCons (dConst (.int 0)) (dNil))) (dSlice (dVar 2) (dPart (dNeg (dConst (.int 1)))) (dNoPart))) (dVar 4)) (dNil))) (dNil))))))
    (sRet (dVar 2)))
/-- law -/
abbrev s21 : Stmt := (top 36)
abbrev N21 : List Str := ["_law_script", "_law_draw", "_law_turn", "_law_told", "_law_lap", "_law_size", "_law_shown", "_law_due", "_law_found", "_law_moments", "_law_change", "_law_at", "_law_due_here", "_law_kept"]
abbrev p21 : List Str := ["_law_script"]
theorem nd21 : N21.Nodup := by decide +kernel
theorem sc21 : FnScope N21 p21 (defScope s21) := ⟨rfl, rfl, rfl, nd21, rfl, by decide +kernel, by decide +kernel⟩
noncomputable def b21 (c : Nat → SemF) : SemS :=
    sCons (sSet 1 (dCall (c 13) (dCons (dVar 0) (dNil))))
    (sCons (sFor (iRange1 (dCons (dBin dAdd (dConst (.int 4)) (dCall dMin (dCons (dCall dLen (dCons (dVar 0) (dNil))) (dCons (dConst (.int 20)) (dNil))))) (dNil))) (gN 2) (sCons (sSet 3 (dLstM (dNil)))
    (sCons (sFor (iRange1 (dCons (dCall (c 15) (dCons (dVar 1) (dCons (dConst (.int 7)) (dNil)))) (dNil))) (gN 4) (sExpr (dBML opAppend (dVar 3) (dCons (dTup (dCons (dBin dAdd (dConst (.int 1)) (dCall (c 15) (dCons (dVar 1) (dCons (dConst (.int 12)) (dNil))))) (dCons (dCall (c 17) (dCons (dVar 1) (dCons (dCall (c 16) (dCons (dVar 1) (dCons (dLst (dCons (dConst (.str "small")) (dCons (dConst (.str "any")) (dNil)))) (dNil)))) (dNil)))) (dNil)))) (dNil)))))
    (sCons (sPar 3 5 (dCons (dCall (c 16) (dCons (dVar 1) (dCons (dLst (dCons (dVar 3) (dCons (dBin dAdd (dSlice (dVar 3) (dNoPart) (dPart (dConst (.int 1)))) (dSlice (dVar 3) (dNoPart) (dPart (dConst (.int 1))))) (dCons (dVar 3) (dNil))))) (dNil)))) (dCons (dCall (c 16) (dCons (dVar 1) (dCons (dLst (dCons (dConst (.int 0)) (dCons (dConst (.int 1)) (dCons (dConst (.int 5)) (dCons (dConst (.int 13)) (dCons (dConst (.int 30)) (dCons (dConst (.int 400)) (dNil)))))))) (dNil)))) (dNil))))
    (sCons (sPar 6 7 (dCons (dCall dRepr (dCons (dVar 3) (dNil))) (dCons (dCall (c 20) (dCons (dVar 3) (dCons (dVar 5) (dNil)))) (dNil))))
    (sCons (sSet 8 (dCall (c 12) (dCons (dVar 3) (dCons (dVar 5) (dNil)))))
    (sCons (sIf (dOr (dBool (dBin dNe (dCall dRepr (dCons (dVar 8) (dNil))) (dCall dRepr (dCons (dVar 7) (dNil))))) (dBool (dBin dNe (dCall dRepr (dCons (dVar 3) (dNil))) (dVar 6)))) (sRet (dConst (.bl false))) (sNil))
    (sCons (sExpr (dBML opAppend (dVar 8) (dCons (dConst (.int 0)) (dNil))))
    (sCons (sIf (dOr (dBool (dBin dNe (dCall (kwF 2 2 [0, 1] (c 12)) (dCons (dCall dTuple (dCons (dVar 3) (dNil))) (dCons (dVar 5) (dNil)))) (dVar 7))) (dBool (dBin dNotB (dCall (c 11) (dCons (dVar 3) (dCons (dVar 7) (dNil)))) (dConst (.bl true))))) (sRet (dConst (.bl false))) (sNil))
    (sFor (iRange1 (dCons (dConst (.int 3)) (dNil))) (gN 4) (sCons (sSet 9 (dCall (c 19) (dCons (dVar 1) (dCons (dVar 3) (dCons (dCall (c 15) (dCons (dVar 1) (dCons (dConst (.int 20)) (dNil)))) (dNil))))))
    (sCons (sFor (iRange1 (dCons (dCall (c 16) (dCons (dVar 1) (dCons (dLst (dCons (dConst (.int 0)) (dCons (dConst (.int 1)) (dCons (dConst (.int 1)) (dCons (dConst (.int 2)) (dNil)))))) (dNil)))) (dNil))) (gN 10) (sIf (dBool (dBin dNe (dVar 9) (dLst (dNil)))) (sCons (sSet 11 (dCall (c 15) (dCons (dVar 1) (dCons (dCall dLen (dCons (dVar 9) (dNil))) (dNil)))))
    (sSet 9 (dBin dAdd (dBin dAdd (dSlice (dVar 9) (dNoPart) (dPart (dVar 11))) (dLst (dCons (dCall dMax (dCons (dConst (.int 0)) (dCons (dBin dSub (dBin dIx (dVar 9) (dVar 11)) (dCall (c 16) (dCons (dVar 1) (dCons (dLst (dCons (dConst (.int 1)) (dCons (dConst (.int 1)) (dCons (dConst (.int 5)) (dNil))))) (dNil))))) (dNil)))) (dNil)))) (dSlice (dVar 9) (dPart (dBin dAdd (dVar 11) (dConst (.int 1)))) (dNoPart))))) (sNil)))
    (sCons (sSet 9 (dCall dSorted (dCons (dVar 9) (dNil))))
    (sCons (sPar 12 13 (dCons (dCall (c 18) (dCons (dVar 3) (dCons (dVar 9) (dNil)))) (dCons (dCall dList (dCons (dVar 9) (dNil))) (dNil))))
    (sCons (sIf (dBool (dBin dNe (dCall dRepr (dCons (dLst (dCons (dCall (c 11) (dCons (dVar 3) (dCons (dVar 9) (dNil)))) (dCons (dCall (kwF 2 2 [1, 0] (c 11)) (dCons (dCall dTuple (dCons (dVar 9) (dNil))) (dCons (dVar 3) (dNil)))) (dNil)))) (dNil))) (dCall dRepr (dCons (dLst (dCons (dVar 12) (dCons (dVar 12) (dNil)))) (dNil))))) (sRet (dConst (.bl false))) (sNil))
    (sIf (dBool (dBin dNe (dVar 9) (dVar 13))) (sRet (dConst (.bl false))) (sNil)))))))))))))))))
    (sRet (dConst (.bl true))))
def ps : Nat → List Str
  | 0 => p0
  | 1 => p1
  | 2 => p2
  | 3 => p3
  | 4 => p4
  | 5 => p5
  | 6 => p6
  | 7 => p7
  | 8 => p8
  | 9 => p9
  | 10 => p10
  | 11 => p11
  | 12 => p12
  | 13 => p13
  | 14 => p14
  | 15 => p15
  | 16 => p16
  | 17 => p17
  | 18 => p18
  | 19 => p19
  | 20 => p20
  | 21 => p21
  | _ => []
noncomputable def sem : Nat → Nat → SemF
  | 0, _ => fun _ _ => .no
  | n + 1, 0 => arF 1 (runB 1 (b0 (sem n)))
  | n + 1, 1 => arF 1 (runB 1 (b1 (sem n)))
  | n + 1, 2 => arF 2 (frzH (runB 6 (b2 (sem n))))
  | n + 1, 3 => arF 1 (runB 1 (b3 (sem n)))
  | n + 1, 4 => arF 1 (runB 4 (b4 (sem n)))
  | n + 1, 5 => arF 1 (runB 2 (b5 (sem n)))
  | n + 1, 6 => arF 1 (runB 1 (b6 (sem n)))
  | n + 1, 7 => arF 1 (runB 1 (b7 (sem n)))
  | n + 1, 8 => arF 1 (runB 1 (b8 (sem n)))
  | n + 1, 9 => arF 1 (runB 3 (b9 (sem n)))
  | n + 1, 10 => arF 1 (runB 3 (b10 (sem n)))
  | n + 1, 11 => arF 2 (runB 6 (b11 (sem n)))
  | n + 1, 12 => arF 2 (runB 2 (b12 (sem n)))
  | n + 1, 13 => arF 1 (runB 3 (b13 (sem n)))
  | n + 1, 14 => arF 1 (runB 6 (b14 (sem n)))
  | n + 1, 15 => arF 2 (runB 3 (b15 (sem n)))
  | n + 1, 16 => arF 2 (runB 2 (b16 (sem n)))
  | n + 1, 17 => arF 2 (runB 2 (b17 (sem n)))
  | n + 1, 18 => arF 2 (runB 5 (b18 (sem n)))
  | n + 1, 19 => arF 3 (frzF (runB 9 (b19 (sem n))))
  | n + 1, 20 => arF 2 (frzF (runB 7 (b20 (sem n))))
  | n + 1, 21 => arF 1 (runB 14 (b21 (sem n)))
  | _ + 1, _ => fun _ _ => .no
/-- what the top has written -/
structure LX (K : PySem.W.Frag) (mg : Str → Option Value) (cl fa : Nat → Addr) (fd : Nat → FuncData) : Prop where
  m_is_number : mg "is_number" = some (.ref (fa 0))
  m_sorted_pairs : mg "sorted_pairs" = some (.ref (fa 1))
  m_made_table : mg "made_table" = some (.ref (fa 2))
  m_is_moment : mg "is_moment" = some (.ref (fa 3))
  m_first_bad : mg "first_bad" = some (.ref (fa 4))
  m_need_arrivals : mg "need_arrivals" = some (.ref (fa 5))
  m_is_time : mg "is_time" = some (.ref (fa 6))
  m_is_count : mg "is_count" = some (.ref (fa 7))
  m_is_pair : mg "is_pair" = some (.ref (fa 8))
  m_need_rule : mg "need_rule" = some (.ref (fa 9))
  m_pairs_of : mg "pairs_of" = some (.ref (fa 10))
  m_keeps : mg "keeps" = some (.ref (fa 11))
  m_fastest : mg "fastest" = some (.ref (fa 12))
  m__law_begun : mg "_law_begun" = some (.ref (fa 13))
  m__law_mixed : mg "_law_mixed" = some (.ref (fa 14))
  m__law_take : mg "_law_take" = some (.ref (fa 15))
  m__law_pick : mg "_law_pick" = some (.ref (fa 16))
  m__law_time : mg "_law_time" = some (.ref (fa 17))
  m__law_keeps_all : mg "_law_keeps_all" = some (.ref (fa 18))
  m__law_spaced : mg "_law_spaced" = some (.ref (fa 19))
  m__law_soon : mg "_law_soon" = some (.ref (fa 20))
  m_law : mg "law" = some (.ref (fa 21))
  g_GREATEST_MOMENT : ∃ t, mg "GREATEST_MOMENT" = some (.int 1000000000000000 t)
  g_GREATEST_TIME : ∃ t, mg "GREATEST_TIME" = some (.int 1000000000 t)
  g_MOST_COUNT : ∃ t, mg "MOST_COUNT" = some (.int 12 t)
  g_MOST_PAIRS : ∃ t, mg "MOST_PAIRS" = some (.int 6 t)
  g_MOST_ITEMS : ∃ t, mg "MOST_ITEMS" = some (.int 400 t)
  z_isinstance : mg "isinstance" = none
  z_int : mg "int" = none
  z_bool : mg "bool" = none
  z_sorted : mg "sorted" = none
  z_set : mg "set" = none
  z_tuple : mg "tuple" = none
  z_range : mg "range" = none
  z_max : mg "max" = none
  z_enumerate : mg "enumerate" = none
  z_list : mg "list" = none
  z_len : mg "len" = none
  z_zip : mg "zip" = none
  z_all : mg "all" = none
  z_abs : mg "abs" = none
  z_min : mg "min" = none
  z_repr : mg "repr" = none
  kw_fastest_rule_many : BindsK K (fd 12) (ps 12) ["rule", "many"] [0, 1]
  kw_keeps_arrivals_rule : BindsK K (fd 11) (ps 11) ["arrivals", "rule"] [1, 0]
section
variable {P : Program} {w : World} {K : PySem.W.Frag} {mg : Str → Option Value} {base : Heap} {cl fa : Nat → Addr} {fd : Nat → FuncData} {k : Nat} {c : Nat → SemF}
theorem w0 (T : TX P w K mg base cl fa fd ps nF k c) (T2 : LX K mg cl fa fd) : BodyOk P w K mg base cl k N0 "is_number" s0 (b0 c) := by
  intro f cdv A outer s0 H0 E0 hr hg
  have D := DF.of (P := P) (w := w) (K := K) (mg := mg) (base := base) (N := N0) (outer := outer) (H := H0) (E := E0) hr hg
  exact (sb_one (ss_ret (se_and (se_isi "int" T2.z_isinstance T2.z_int (by rfl) (se_var 0)) (se_and (se_not (se_isi "bool" T2.z_isinstance T2.z_bool (by rfl) (se_var 0))) (se_one (se_cmp ops_ge (se_var 0) se_int))))))
theorem w1 (T : TX P w K mg base cl fa fd ps nF k c) (T2 : LX K mg cl fa fd) : BodyOk P w K mg base cl k N1 "sorted_pairs" s1 (b1 c) := by
  intro f cdv A outer s0 H0 E0 hr hg
  have D := DF.of (P := P) (w := w) (K := K) (mg := mg) (base := base) (N := N1) (outer := outer) (H := H0) (E := E0) hr hg
  exact (sb_one (ss_ret (se_callT cs_tuple T2.z_tuple (by rfl) (sa_cons (se_sortSet D.calm D.hu T2.z_sorted T2.z_set (se_var 0)) sa_nil))))
theorem w2 (T : TX P w K mg base cl fa fd ps nF k c) (T2 : LX K mg cl fa fd) : BodyOk P w K mg base cl k N2 "made_table" s2 (b2 c) := by
  intro f cdv A outer s0 H0 E0 hr hg
  have D := DF.of (P := P) (w := w) (K := K) (mg := mg) (base := base) (N := N2) (outer := outer) (H := H0) (E := E0) hr hg
  exact (sb_cons (ss_set 2 nd2 (se_lstM (sa_cons se_int sa_nil)))
    (sb_cons (ss_for D.own D.calm (si_range2 T2.z_range (sa_cons se_int (sa_cons (se_var 1) sa_nil))) (sg_name 3 nd2) (sb_one (ss_expr (se_bml ms_append (se_var 2) (sa_cons (se_callB (cs_max D.calm) T2.z_max (by rfl) (sa_cons (se_bin ops_add (se_lst (sa_cons (se_ix (se_var 2) (se_bin ops_sub (se_var 3) se_int)) sa_nil)) (se_lc [("count", 4), ("time", 5)] D.calm nd2 (si_seq (se_var 0)) (blk_ok (N0 := N2) (sc0 := defScope s2) rfl rfl (by decide +kernel)) (fun s H C l fp => (sg_tup (D.blk s H _ _ fp).calm (sgs_cons (sg_name 4 nd2) (sgs_cons (sg_name 5 nd2) sgs_nil)))) (fun s H C l fp => (sts_one (st_cmp ops_le (se_var 4) (se_var 3)))) (fun s H C l fp => (se_bin ops_add (se_ix (se_var 2) (se_bin ops_sub (se_var 3) (se_var 4))) (se_var 5))))) sa_nil)) sa_nil) F.slot_list_append (by rfl)))))
    (sb_one (ss_ret (se_sliceM (se_var 2) so_none (so_some (se_var 1)))))))
theorem w3 (T : TX P w K mg base cl fa fd ps nF k c) (T2 : LX K mg cl fa fd) : BodyOk P w K mg base cl k N3 "is_moment" s3 (b3 c) := by
  intro f cdv A outer s0 H0 E0 hr hg
  have D := DF.of (P := P) (w := w) (K := K) (mg := mg) (base := base) (N := N3) (outer := outer) (H := H0) (E := E0) hr hg
  exact (sb_one (ss_ret (se_and (T.call D 0 T2.m_is_number (sa_cons (se_var 0) sa_nil)) (se_one (se_cmp ops_le (se_var 0) (se_gint 1000000000000000 T2.g_GREATEST_MOMENT))))))
theorem w4 (T : TX P w K mg base cl fa fd ps nF k c) (T2 : LX K mg cl fa fd) : BodyOk P w K mg base cl k N4 "first_bad" s4 (b4 c) := by
  intro f cdv A outer s0 H0 E0 hr hg
  have D := DF.of (P := P) (w := w) (K := K) (mg := mg) (base := base) (N := N4) (outer := outer) (H := H0) (E := E0) hr hg
  exact (sb_cons (ss_set 1 nd4 se_int)
    (sb_cons (ss_for D.own D.calm (si_enum2 T2.z_enumerate (sa_cons (se_var 0) sa_nil)) (sg_tup D.calm (sgs_cons (sg_name 2 nd4) (sgs_cons (sg_name 3 nd4) sgs_nil))) (sb_cons (ss_if (sw_or (st_not (st_val (T.call D 3 T2.m_is_moment (sa_cons (se_var 3) sa_nil)))) (sw_or1 (st_cmp ops_lt (se_var 3) (se_var 1)))).st (sb_one (ss_ret (se_var 2))) sb_nil)
    (sb_one (ss_set 1 nd4 (se_var 3)))))
    (sb_one (ss_ret se_non))))
theorem w5 (T : TX P w K mg base cl fa fd ps nF k c) (T2 : LX K mg cl fa fd) : BodyOk P w K mg base cl k N5 "need_arrivals" s5 (b5 c) := by
  intro f cdv A outer s0 H0 E0 hr hg
  have D := DF.of (P := P) (w := w) (K := K) (mg := mg) (base := base) (N := N5) (outer := outer) (H := H0) (E := E0) hr hg
  exact (sb_cons (ss_if (st_not (st_val (se_isi2 "list" "tuple" T2.z_isinstance T2.z_list (by rfl) T2.z_tuple (by rfl) (se_var 0)))) (sb_one ss_never) sb_nil)
    (sb_cons (ss_set 1 nd5 (T.call D 4 T2.m_first_bad (sa_cons (se_var 0) sa_nil)))
    (sb_one (ss_if (st_cmp ops_notN (se_var 1) se_non) (sb_one ss_never) sb_nil))))
theorem w6 (T : TX P w K mg base cl fa fd ps nF k c) (T2 : LX K mg cl fa fd) : BodyOk P w K mg base cl k N6 "is_time" s6 (b6 c) := by
  intro f cdv A outer s0 H0 E0 hr hg
  have D := DF.of (P := P) (w := w) (K := K) (mg := mg) (base := base) (N := N6) (outer := outer) (H := H0) (E := E0) hr hg
  exact (sb_one (ss_ret (se_and (T.call D 0 T2.m_is_number (sa_cons (se_var 0) sa_nil)) (se_one (se_cmp ops_le (se_var 0) (se_gint 1000000000 T2.g_GREATEST_TIME))))))
theorem w7 (T : TX P w K mg base cl fa fd ps nF k c) (T2 : LX K mg cl fa fd) : BodyOk P w K mg base cl k N7 "is_count" s7 (b7 c) := by
  intro f cdv A outer s0 H0 E0 hr hg
  have D := DF.of (P := P) (w := w) (K := K) (mg := mg) (base := base) (N := N7) (outer := outer) (H := H0) (E := E0) hr hg
  exact (sb_one (ss_ret (se_and (T.call D 0 T2.m_is_number (sa_cons (se_var 0) sa_nil)) (se_one (se_chain ops_le ops_le se_int (se_var 0) (se_gint 12 T2.g_MOST_COUNT))))))
theorem w8 (T : TX P w K mg base cl fa fd ps nF k c) (T2 : LX K mg cl fa fd) : BodyOk P w K mg base cl k N8 "is_pair" s8 (b8 c) := by
  intro f cdv A outer s0 H0 E0 hr hg
  have D := DF.of (P := P) (w := w) (K := K) (mg := mg) (base := base) (N := N8) (outer := outer) (H := H0) (E := E0) hr hg
  exact (sb_one (ss_ret (se_and (se_isi "tuple" T2.z_isinstance T2.z_tuple (by rfl) (se_var 0)) (se_and (se_cmp (ops_eq D.hu) (se_callB cs_len T2.z_len (by rfl) (sa_cons (se_var 0) sa_nil)) se_int) (se_and (T.call D 7 T2.m_is_count (sa_cons (se_ix (se_var 0) se_int) sa_nil)) (se_one (T.call D 6 T2.m_is_time (sa_cons (se_ix (se_var 0) se_int) sa_nil))))))))
theorem w9 (T : TX P w K mg base cl fa fd ps nF k c) (T2 : LX K mg cl fa fd) : BodyOk P w K mg base cl k N9 "need_rule" s9 (b9 c) := by
  intro f cdv A outer s0 H0 E0 hr hg
  have D := DF.of (P := P) (w := w) (K := K) (mg := mg) (base := base) (N := N9) (outer := outer) (H := H0) (E := E0) hr hg
  exact (sb_cons (ss_if (st_not (st_val (se_isi2 "list" "tuple" T2.z_isinstance T2.z_list (by rfl) T2.z_tuple (by rfl) (se_var 0)))) (sb_one ss_never) sb_nil)
    (sb_one (ss_for D.own D.calm (si_enum2 T2.z_enumerate (sa_cons (se_var 0) sa_nil)) (sg_tup D.calm (sgs_cons (sg_name 1 nd9) (sgs_cons (sg_name 2 nd9) sgs_nil))) (sb_one (ss_if (sw_or (st_cmp (ops_eq D.hu) (se_var 1) (se_gint 6 T2.g_MOST_PAIRS)) (sw_or1 (st_not (st_val (T.call D 8 T2.m_is_pair (sa_cons (se_var 2) sa_nil)))))).st (sb_one ss_never) sb_nil)))))
theorem w10 (T : TX P w K mg base cl fa fd ps nF k c) (T2 : LX K mg cl fa fd) : BodyOk P w K mg base cl k N10 "pairs_of" s10 (b10 c) := by
  intro f cdv A outer s0 H0 E0 hr hg
  have D := DF.of (P := P) (w := w) (K := K) (mg := mg) (base := base) (N := N10) (outer := outer) (H := H0) (E := E0) hr hg
  exact (sb_one (ss_ret (T.call D 1 T2.m_sorted_pairs (sa_cons (se_lc [("count", 1), ("time", 2)] D.calm nd10 (si_seq (se_var 0)) (blk_ok (N0 := N10) (sc0 := defScope s10) rfl rfl (by decide +kernel)) (fun s H C l fp => (sg_tup (D.blk s H _ _ fp).calm (sgs_cons (sg_name 1 nd10) (sgs_cons (sg_name 2 nd10) sgs_nil)))) (fun s H C l fp => (sts_one (st_cmp ops_gt (se_var 2) se_int))) (fun s H C l fp => (se_tup (sa_cons (se_var 1) (sa_cons (se_var 2) sa_nil))))) sa_nil))))
theorem w11 (T : TX P w K mg base cl fa fd ps nF k c) (T2 : LX K mg cl fa fd) : BodyOk P w K mg base cl k N11 "keeps" s11 (b11 c) := by
  intro f cdv A outer s0 H0 E0 hr hg
  have D := DF.of (P := P) (w := w) (K := K) (mg := mg) (base := base) (N := N11) (outer := outer) (H := H0) (E := E0) hr hg
  exact (sb_cons (ss_expr (T.call D 9 T2.m_need_rule (sa_cons (se_var 0) sa_nil)))
    (sb_cons (ss_expr (T.call D 5 T2.m_need_arrivals (sa_cons (se_var 1) sa_nil)))
    (sb_cons (ss_for D.own D.calm (si_seq (se_var 0)) (sg_tup D.calm (sgs_cons (sg_name 2 nd11) (sgs_cons (sg_name 3 nd11) sgs_nil))) (sb_one (ss_if (st_not (st_val (se_callB (cs_all D.calm) T2.z_all (by rfl) (sa_cons (se_lc [("earlier", 4), ("later", 5)] D.calm nd11 (si_zip2 T2.z_zip (sa_cons (se_var 1) (sa_cons (se_slice (se_var 1) (so_some (se_var 2)) so_none) sa_nil))) (blk_ok (N0 := N11) (sc0 := defScope s11) rfl rfl (by decide +kernel)) (fun s H C l fp => (sg_tup (D.blk s H _ _ fp).calm (sgs_cons (sg_name 4 nd11) (sgs_cons (sg_name 5 nd11) sgs_nil)))) (fun s H C l fp => sts_nil) (fun s H C l fp => (se_cmp ops_ge (se_bin ops_sub (se_var 5) (se_var 4)) (se_var 3)))) sa_nil)))) (sb_one (ss_ret se_bl)) sb_nil)))
    (sb_one (ss_ret se_bl)))))
theorem w12 (T : TX P w K mg base cl fa fd ps nF k c) (T2 : LX K mg cl fa fd) : BodyOk P w K mg base cl k N12 "fastest" s12 (b12 c) := by
  intro f cdv A outer s0 H0 E0 hr hg
  have D := DF.of (P := P) (w := w) (K := K) (mg := mg) (base := base) (N := N12) (outer := outer) (H := H0) (E := E0) hr hg
  exact (sb_cons (ss_expr (T.call D 9 T2.m_need_rule (sa_cons (se_var 0) sa_nil)))
    (sb_cons (ss_if (sw_or (st_not (st_val (T.call D 0 T2.m_is_number (sa_cons (se_var 1) sa_nil)))) (sw_or1 (st_cmp ops_gt (se_var 1) (se_gint 400 T2.g_MOST_ITEMS)))).st (sb_one ss_never) sb_nil)
    (sb_one (ss_ret (T.call D 2 T2.m_made_table (sa_cons (T.call D 10 T2.m_pairs_of (sa_cons (se_var 0) sa_nil)) (sa_cons (se_var 1) sa_nil)))))))
theorem w13 (T : TX P w K mg base cl fa fd ps nF k c) (T2 : LX K mg cl fa fd) : BodyOk P w K mg base cl k N13 "_law_begun" s13 (b13 c) := by
  intro f cdv A outer s0 H0 E0 hr hg
  have D := DF.of (P := P) (w := w) (K := K) (mg := mg) (base := base) (N := N13) (outer := outer) (H := H0) (E := E0) hr hg
  exact (sb_cons (ss_setLcM 1 [("_law_cell", 2)] D.calm nd13 (si_seq (se_var 0)) (blk_ok (N0 := N13) (sc0 := defScope s13) rfl rfl (by decide +kernel)) (fun s H C l fp => (sg_name 2 nd13)) (fun s H C l fp => (sts_one (st_cmp ops_ge (se_callB cs_abs T2.z_abs (by rfl) (sa_cons (se_var 2) sa_nil)) (se_bin ops_pow se_int se_int)))) (fun s H C l fp => (se_bin ops_sub (se_callB cs_abs T2.z_abs (by rfl) (sa_cons (se_var 2) sa_nil)) (se_bin ops_pow se_int se_int))))
    (sb_one (ss_ret (se_dictM (sps_cons se_str (se_var 1) (sps_cons se_str (se_lc [("_law_cell", 2)] D.calm nd13 (si_seq (se_var 0)) (blk_ok (N0 := N13) (sc0 := defScope s13) rfl rfl (by decide +kernel)) (fun s H C l fp => (sg_name 2 nd13)) (fun s H C l fp => sts_nil) (fun s H C l fp => (se_bin ops_mod (se_callT cs_int T2.z_int (by rfl) (sa_cons (se_callB cs_abs T2.z_abs (by rfl) (sa_cons (se_var 2) sa_nil)) sa_nil)) se_int))) (sps_cons se_str se_int (sps_cons se_str se_int sps_nil))))))))
theorem w14 (T : TX P w K mg base cl fa fd ps nF k c) (T2 : LX K mg cl fa fd) : BodyOk P w K mg base cl k N14 "_law_mixed" s14 (b14 c) := by
  intro f cdv A outer s0 H0 E0 hr hg
  have D := DF.of (P := P) (w := w) (K := K) (mg := mg) (base := base) (N := N14) (outer := outer) (H := H0) (E := E0) hr hg
  exact (sb_cons (ss_par 1 2 D.calm nd14 (sa_cons (se_bin ops_add (se_dget 3 D.hu1 (se_var 0) se_str) se_int) (sa_cons se_int sa_nil)))
    (sb_cons (ss_dput 3 D.hu1 (se_var 0) se_str (se_var 1))
    (sb_cons (ss_for D.own D.calm (si_seq (se_lst (sa_cons se_int (sa_cons se_int (sa_cons se_int (sa_cons se_int sa_nil)))))) (sg_name 3 nd14) (sb_cons (ss_set 4 nd14 (se_bin ops_add (se_bin ops_mul se_int (se_var 1)) (se_bin ops_fdiv (se_var 3) se_int)))
    (sb_cons (ss_for D.own D.calm (si_seq (se_dget 1 D.hu1 (se_var 0) se_str)) (sg_name 5 nd14) (sb_one (ss_set 4 nd14 (se_bin ops_mod (se_callT cs_int T2.z_int (by rfl) (sa_cons (se_bin ops_add (se_bin ops_add (se_bin ops_mul (se_var 4) se_int) (se_var 5)) (se_var 1)) sa_nil)) (se_var 3)))))
    (sb_one (ss_set 2 nd14 (se_bin ops_add (se_bin ops_mul (se_var 2) se_int) (se_bin ops_mod (se_callT cs_int T2.z_int (by rfl) (sa_cons (se_bin ops_pow (se_var 4) se_int) sa_nil)) (se_var 3))))))))
    (sb_one (ss_ret (se_var 2))))))
theorem w15 (T : TX P w K mg base cl fa fd ps nF k c) (T2 : LX K mg cl fa fd) : BodyOk P w K mg base cl k N15 "_law_take" s15 (b15 c) := by
  intro f cdv A outer s0 H0 E0 hr hg
  have D := DF.of (P := P) (w := w) (K := K) (mg := mg) (base := base) (N := N15) (outer := outer) (H := H0) (E := E0) hr hg
  exact (sb_cons (ss_if (st_cmp (ops_eq D.hu) (se_dget 2 D.hu1 (se_var 0) se_str) se_int) (sb_one (ss_dput 2 D.hu1 (se_var 0) se_str (se_ifE (st_cmp (ops_ne D.hu) (se_dget 0 D.hu1 (se_var 0) se_str) (se_lst sa_nil)) (se_bml ms_popAt (se_dget 0 D.hu1 (se_var 0) se_str) (sa_cons se_int sa_nil) F.slot_list_pop (by rfl)) (T.call D 14 T2.m__law_mixed (sa_cons (se_var 0) sa_nil))))) sb_nil)
    (sb_cons (ss_set 2 nd15 (se_bin ops_mod (se_callT cs_int T2.z_int (by rfl) (sa_cons (se_dget 2 D.hu1 (se_var 0) se_str) sa_nil)) (se_var 1)))
    (sb_cons (ss_dput 2 D.hu1 (se_var 0) se_str (se_bin ops_fdiv (se_dget 2 D.hu1 (se_var 0) se_str) (se_var 1)))
    (sb_one (ss_ret (se_var 2))))))
theorem w16 (T : TX P w K mg base cl fa fd ps nF k c) (T2 : LX K mg cl fa fd) : BodyOk P w K mg base cl k N16 "_law_pick" s16 (b16 c) := by
  intro f cdv A outer s0 H0 E0 hr hg
  have D := DF.of (P := P) (w := w) (K := K) (mg := mg) (base := base) (N := N16) (outer := outer) (H := H0) (E := E0) hr hg
  exact (sb_one (ss_ret (se_ix (se_var 1) (T.call D 15 T2.m__law_take (sa_cons (se_var 0) (sa_cons (se_callB cs_len T2.z_len (by rfl) (sa_cons (se_var 1) sa_nil)) sa_nil))))))
theorem w17 (T : TX P w K mg base cl fa fd ps nF k c) (T2 : LX K mg cl fa fd) : BodyOk P w K mg base cl k N17 "_law_time" s17 (b17 c) := by
  intro f cdv A outer s0 H0 E0 hr hg
  have D := DF.of (P := P) (w := w) (K := K) (mg := mg) (base := base) (N := N17) (outer := outer) (H := H0) (E := E0) hr hg
  exact (sb_cons (ss_if (st_cmp (ops_eq D.hu) (se_var 1) se_str) (sb_one (ss_ret (T.call D 15 T2.m__law_take (sa_cons (se_var 0) (sa_cons se_int sa_nil))))) sb_nil)
    (sb_one (ss_ret (T.call D 16 T2.m__law_pick (sa_cons (se_var 0) (sa_cons (se_lst (sa_cons se_int (sa_cons se_int (sa_cons se_int (sa_cons se_int (sa_cons se_int (sa_cons (se_bin ops_pow se_int se_int) (sa_cons (se_bin ops_sub (se_bin ops_pow se_int se_int) se_int) (sa_cons (T.call D 15 T2.m__law_take (sa_cons (se_var 0) (sa_cons se_int sa_nil))) (sa_cons (T.call D 15 T2.m__law_take (sa_cons (se_var 0) (sa_cons (se_bin ops_add (se_bin ops_pow se_int se_int) se_int) sa_nil))) sa_nil)))))))))) sa_nil))))))
theorem w18 (T : TX P w K mg base cl fa fd ps nF k c) (T2 : LX K mg cl fa fd) : BodyOk P w K mg base cl k N18 "_law_keeps_all" s18 (b18 c) := by
  intro f cdv A outer s0 H0 E0 hr hg
  have D := DF.of (P := P) (w := w) (K := K) (mg := mg) (base := base) (N := N18) (outer := outer) (H := H0) (E := E0) hr hg
  exact (sb_cons (ss_for D.own D.calm (si_seq (se_var 0)) (sg_tup D.calm (sgs_cons (sg_name 2 nd18) (sgs_cons (sg_name 3 nd18) sgs_nil))) (sb_one (ss_if (st_cmp (ops_ne D.hu) (se_lc [("_law_at", 4)] D.calm nd18 (si_range2 T2.z_range (sa_cons (se_var 2) (sa_cons (se_callB cs_len T2.z_len (by rfl) (sa_cons (se_var 1) sa_nil)) sa_nil))) (blk_ok (N0 := N18) (sc0 := defScope s18) rfl rfl (by decide +kernel)) (fun s H C l fp => (sg_name 4 nd18)) (fun s H C l fp => (sts_one (st_cmp ops_lt (se_bin ops_sub (se_ix (se_var 1) (se_var 4)) (se_ix (se_var 1) (se_bin ops_sub (se_var 4) (se_var 2)))) (se_var 3)))) (fun s H C l fp => (se_var 4))) (se_lst sa_nil)) (sb_one (ss_ret se_bl)) sb_nil)))
    (sb_one (ss_ret se_bl)))
theorem w19 (T : TX P w K mg base cl fa fd ps nF k c) (T2 : LX K mg cl fa fd) : BodyOk P w K mg base cl k N19 "_law_spaced" s19 (b19 c) := by
  intro f cdv A outer s0 H0 E0 hr hg
  have D := DF.of (P := P) (w := w) (K := K) (mg := mg) (base := base) (N := N19) (outer := outer) (H := H0) (E := E0) hr hg
  exact (sb_cons (ss_par 3 4 D.calm nd19 (sa_cons (se_lstM sa_nil) (sa_cons (T.call D 16 T2.m__law_pick (sa_cons (se_var 0) (sa_cons (se_lst (sa_cons se_int (sa_cons se_int (sa_cons se_int (sa_cons se_int sa_nil))))) sa_nil))) sa_nil)))
    (sb_cons (ss_for D.own D.calm (si_range1 T2.z_range (sa_cons (se_var 2) sa_nil)) (sg_name 5 nd19) (sb_cons (ss_set 6 nd19 (se_ifE (st_cmp ops_gt (se_var 5) se_int) (se_ix (se_var 3) (se_bin ops_sub (se_var 5) se_int)) (T.call D 16 T2.m__law_pick (sa_cons (se_var 0) (sa_cons (se_lst (sa_cons se_int (sa_cons se_int (sa_cons se_int sa_nil)))) sa_nil)))))
    (sb_cons (ss_for D.own D.calm (si_seq (se_var 1)) (sg_tup D.calm (sgs_cons (sg_name 7 nd19) (sgs_cons (sg_name 8 nd19) sgs_nil))) (sb_one (ss_if (st_cmp ops_ge (se_var 5) (se_var 7)) (sb_one (ss_set 6 nd19 (se_callB (cs_max D.calm) T2.z_max (by rfl) (sa_cons (se_var 6) (sa_cons (se_bin ops_add (se_ix (se_var 3) (se_bin ops_sub (se_var 5) (se_var 7))) (se_var 8)) sa_nil))))) sb_nil)))
    (sb_one (ss_expr (se_bml ms_append (se_var 3) (sa_cons (se_bin ops_add (se_var 6) (T.call D 16 T2.m__law_pick (sa_cons (se_var 0) (sa_cons (se_lst (sa_cons se_int (sa_cons se_int (sa_cons se_int (sa_cons (T.call D 15 T2.m__law_take (sa_cons (se_var 0) (sa_cons (se_var 4) sa_nil))) sa_nil))))) sa_nil)))) sa_nil) F.slot_list_append (by rfl)))))))
    (sb_one (ss_ret (se_var 3)))))
theorem w20 (T : TX P w K mg base cl fa fd ps nF k c) (T2 : LX K mg cl fa fd) : BodyOk P w K mg base cl k N20 "_law_soon" s20 (b20 c) := by
  intro f cdv A outer s0 H0 E0 hr hg
  have D := DF.of (P := P) (w := w) (K := K) (mg := mg) (base := base) (N := N20) (outer := outer) (H := H0) (E := E0) hr hg
  exact (sb_cons (ss_set 2 nd20 (se_lstM sa_nil))
    (sb_cons (ss_for D.own D.calm (si_range1 T2.z_range (sa_cons (se_var 1) sa_nil)) (sg_name 3 nd20) (sb_cons (ss_setLc 4 [("_law_count", 5), ("_law_time_here", 6)] D.calm nd20 (si_seq (se_var 0)) (blk_ok (N0 := N20) (sc0 := defScope s20) rfl rfl (by decide +kernel)) (fun s H C l fp => (sg_tup (D.blk s H _ _ fp).calm (sgs_cons (sg_name 5 nd20) (sgs_cons (sg_name 6 nd20) sgs_nil)))) (fun s H C l fp => (sts_one (st_cmp ops_le (se_var 5) (se_var 3)))) (fun s H C l fp => (se_bin ops_add (se_ix (se_var 2) (se_bin ops_sub (se_var 3) (se_var 5))) (se_var 6))))
    (sb_one (ss_expr (se_bml ms_append (se_var 2) (sa_cons (se_callB (cs_max D.calm) T2.z_max (by rfl) (sa_cons (se_bin ops_add (se_bin ops_add (se_lst (sa_cons se_int sa_nil)) (se_slice (se_var 2) (so_some (se_neg se_int)) so_none)) (se_var 4)) sa_nil)) sa_nil) F.slot_list_append (by rfl))))))
    (sb_one (ss_ret (se_var 2)))))
theorem w21 (T : TX P w K mg base cl fa fd ps nF k c) (T2 : LX K mg cl fa fd) : BodyOk P w K mg base cl k N21 "law" s21 (b21 c) := by
  intro f cdv A outer s0 H0 E0 hr hg
  have D := DF.of (P := P) (w := w) (K := K) (mg := mg) (base := base) (N := N21) (outer := outer) (H := H0) (E := E0) hr hg
  exact (sb_cons (ss_set 1 nd21 (T.call D 13 T2.m__law_begun (sa_cons (se_var 0) sa_nil)))
    (sb_cons (ss_for D.own D.calm (si_range1 T2.z_range (sa_cons (se_bin ops_add se_int (se_callB (cs_min D.calm) T2.z_min (by rfl) (sa_cons (se_callB cs_len T2.z_len (by rfl) (sa_cons (se_var 0) sa_nil)) (sa_cons se_int sa_nil)))) sa_nil)) (sg_name 2 nd21) (sb_cons (ss_set 3 nd21 (se_lstM sa_nil))
    (sb_cons (ss_for D.own D.calm (si_range1 T2.z_range (sa_cons (T.call D 15 T2.m__law_take (sa_cons (se_var 1) (sa_cons se_int sa_nil))) sa_nil)) (sg_name 4 nd21) (sb_one (ss_expr (se_bml ms_append (se_var 3) (sa_cons (se_tup (sa_cons (se_bin ops_add se_int (T.call D 15 T2.m__law_take (sa_cons (se_var 1) (sa_cons se_int sa_nil)))) (sa_cons (T.call D 17 T2.m__law_time (sa_cons (se_var 1) (sa_cons (T.call D 16 T2.m__law_pick (sa_cons (se_var 1) (sa_cons (se_lst (sa_cons se_str (sa_cons se_str sa_nil))) sa_nil))) sa_nil))) sa_nil))) sa_nil) F.slot_list_append (by rfl)))))
    (sb_cons (ss_par 3 5 D.calm nd21 (sa_cons (T.call D 16 T2.m__law_pick (sa_cons (se_var 1) (sa_cons (se_lst (sa_cons (se_var 3) (sa_cons (se_bin ops_add (se_slice (se_var 3) so_none (so_some se_int)) (se_slice (se_var 3) so_none (so_some se_int))) (sa_cons (se_var 3) sa_nil)))) sa_nil))) (sa_cons (T.call D 16 T2.m__law_pick (sa_cons (se_var 1) (sa_cons (se_lst (sa_cons se_int (sa_cons se_int (sa_cons se_int (sa_cons se_int (sa_cons se_int (sa_cons se_int sa_nil))))))) sa_nil))) sa_nil)))
    (sb_cons (ss_par 6 7 D.calm nd21 (sa_cons (se_callB (cs_repr D.hu D.gd) T2.z_repr (by rfl) (sa_cons (se_var 3) sa_nil)) (sa_cons (T.call D 20 T2.m__law_soon (sa_cons (se_var 3) (sa_cons (se_var 5) sa_nil))) sa_nil)))
    (sb_cons (ss_set 8 nd21 (T.call D 12 T2.m_fastest (sa_cons (se_var 3) (sa_cons (se_var 5) sa_nil))))
    (sb_cons (ss_if (sw_or (st_cmp (ops_ne D.hu) (se_callB (cs_repr D.hu D.gd) T2.z_repr (by rfl) (sa_cons (se_var 8) sa_nil)) (se_callB (cs_repr D.hu D.gd) T2.z_repr (by rfl) (sa_cons (se_var 7) sa_nil))) (sw_or1 (st_cmp (ops_ne D.hu) (se_callB (cs_repr D.hu D.gd) T2.z_repr (by rfl) (sa_cons (se_var 3) sa_nil)) (se_var 6)))).st (sb_one (ss_ret se_bl)) sb_nil)
    (sb_cons (ss_expr (se_bml ms_append (se_var 8) (sa_cons se_int sa_nil) F.slot_list_append (by rfl)))
    (sb_cons (ss_if (sw_or (st_cmp (ops_ne D.hu) (T.callK D 12 ["rule", "many"] [0, 1] T2.m_fastest T2.kw_fastest_rule_many (sk_cons (se_callT cs_tuple T2.z_tuple (by rfl) (sa_cons (se_var 3) sa_nil)) (sk_cons (se_var 5) sk_nil))) (se_var 7)) (sw_or1 (st_cmp ops_notB (T.call D 11 T2.m_keeps (sa_cons (se_var 3) (sa_cons (se_var 7) sa_nil))) se_bl))).st (sb_one (ss_ret se_bl)) sb_nil)
    (sb_one (ss_for D.own D.calm (si_range1 T2.z_range (sa_cons se_int sa_nil)) (sg_name 4 nd21) (sb_cons (ss_set 9 nd21 (T.call D 19 T2.m__law_spaced (sa_cons (se_var 1) (sa_cons (se_var 3) (sa_cons (T.call D 15 T2.m__law_take (sa_cons (se_var 1) (sa_cons se_int sa_nil))) sa_nil)))))
    (sb_cons (ss_for D.own D.calm (si_range1 T2.z_range (sa_cons (T.call D 16 T2.m__law_pick (sa_cons (se_var 1) (sa_cons (se_lst (sa_cons se_int (sa_cons se_int (sa_cons se_int (sa_cons se_int sa_nil))))) sa_nil))) sa_nil)) (sg_name 10 nd21) (sb_one (ss_if (st_cmp (ops_ne D.hu) (se_var 9) (se_lst sa_nil)) (sb_cons (ss_set 11 nd21 (T.call D 15 T2.m__law_take (sa_cons (se_var 1) (sa_cons (se_callB cs_len T2.z_len (by rfl) (sa_cons (se_var 9) sa_nil)) sa_nil))))
    (sb_one (ss_set 9 nd21 (se_bin ops_add (se_bin ops_add (se_slice (se_var 9) so_none (so_some (se_var 11))) (se_lst (sa_cons (se_callB (cs_max D.calm) T2.z_max (by rfl) (sa_cons se_int (sa_cons (se_bin ops_sub (se_ix (se_var 9) (se_var 11)) (T.call D 16 T2.m__law_pick (sa_cons (se_var 1) (sa_cons (se_lst (sa_cons se_int (sa_cons se_int (sa_cons se_int sa_nil)))) sa_nil)))) sa_nil))) sa_nil))) (se_slice (se_var 9) (so_some (se_bin ops_add (se_var 11) se_int)) so_none))))) sb_nil)))
    (sb_cons (ss_set 9 nd21 (se_callB (cs_sorted D.hu) T2.z_sorted (by rfl) (sa_cons (se_var 9) sa_nil)))
    (sb_cons (ss_par 12 13 D.calm nd21 (sa_cons (T.call D 18 T2.m__law_keeps_all (sa_cons (se_var 3) (sa_cons (se_var 9) sa_nil))) (sa_cons (se_callT cs_list T2.z_list (by rfl) (sa_cons (se_var 9) sa_nil)) sa_nil)))
    (sb_cons (ss_if (st_cmp (ops_ne D.hu) (se_callB (cs_repr D.hu D.gd) T2.z_repr (by rfl) (sa_cons (se_lst (sa_cons (T.call D 11 T2.m_keeps (sa_cons (se_var 3) (sa_cons (se_var 9) sa_nil))) (sa_cons (T.callK D 11 ["arrivals", "rule"] [1, 0] T2.m_keeps T2.kw_keeps_arrivals_rule (sk_cons (se_callT cs_tuple T2.z_tuple (by rfl) (sa_cons (se_var 9) sa_nil)) (sk_cons (se_var 3) sk_nil))) sa_nil))) sa_nil)) (se_callB (cs_repr D.hu D.gd) T2.z_repr (by rfl) (sa_cons (se_lst (sa_cons (se_var 12) (sa_cons (se_var 12) sa_nil))) sa_nil))) (sb_one (ss_ret se_bl)) sb_nil)
    (sb_one (ss_if (st_cmp (ops_ne D.hu) (se_var 9) (se_var 13)) (sb_one (ss_ret se_bl)) sb_nil))))))))))))))))))
    (sb_one (ss_ret se_bl))))
end
section
variable {P : Program} {w : World} {K : PySem.W.Frag} {mg : Str → Option Value} {base : Heap} {cl fa : Nat → Addr} {fd : Nat → FuncData}
/-- the defs as they stand -/
structure FX (K : PySem.W.Frag) (fa : Nat → Addr) (fd : Nat → FuncData) : Prop where
  f0 : Fun K "is_number" "is_number" s0 (fa 0) (fd 0)
  f1 : Fun K "sorted_pairs" "sorted_pairs" s1 (fa 1) (fd 1)
  f2 : Fun K "made_table" "made_table" s2 (fa 2) (fd 2)
  f3 : Fun K "is_moment" "is_moment" s3 (fa 3) (fd 3)
  f4 : Fun K "first_bad" "first_bad" s4 (fa 4) (fd 4)
  f5 : Fun K "need_arrivals" "need_arrivals" s5 (fa 5) (fd 5)
  f6 : Fun K "is_time" "is_time" s6 (fa 6) (fd 6)
  f7 : Fun K "is_count" "is_count" s7 (fa 7) (fd 7)
  f8 : Fun K "is_pair" "is_pair" s8 (fa 8) (fd 8)
  f9 : Fun K "need_rule" "need_rule" s9 (fa 9) (fd 9)
  f10 : Fun K "pairs_of" "pairs_of" s10 (fa 10) (fd 10)
  f11 : Fun K "keeps" "keeps" s11 (fa 11) (fd 11)
  f12 : Fun K "fastest" "fastest" s12 (fa 12) (fd 12)
  f13 : Fun K "_law_begun" "_law_begun" s13 (fa 13) (fd 13)
  f14 : Fun K "_law_mixed" "_law_mixed" s14 (fa 14) (fd 14)
  f15 : Fun K "_law_take" "_law_take" s15 (fa 15) (fd 15)
  f16 : Fun K "_law_pick" "_law_pick" s16 (fa 16) (fd 16)
  f17 : Fun K "_law_time" "_law_time" s17 (fa 17) (fd 17)
  f18 : Fun K "_law_keeps_all" "_law_keeps_all" s18 (fa 18) (fd 18)
  f19 : Fun K "_law_spaced" "_law_spaced" s19 (fa 19) (fd 19)
  f20 : Fun K "_law_soon" "_law_soon" s20 (fa 20) (fd 20)
  f21 : Fun K "law" "law" s21 (fa 21) (fd 21)
  b0 : L2.Binds K (fd 0) p0 []
  b1 : L2.Binds K (fd 1) p1 []
  b2 : L2.Binds K (fd 2) p2 []
  b3 : L2.Binds K (fd 3) p3 []
  b4 : L2.Binds K (fd 4) p4 []
  b5 : L2.Binds K (fd 5) p5 []
  b6 : L2.Binds K (fd 6) p6 []
  b7 : L2.Binds K (fd 7) p7 []
  b8 : L2.Binds K (fd 8) p8 []
  b9 : L2.Binds K (fd 9) p9 []
  b10 : L2.Binds K (fd 10) p10 []
  b11 : L2.Binds K (fd 11) p11 []
  b12 : L2.Binds K (fd 12) p12 []
  b13 : L2.Binds K (fd 13) p13 []
  b14 : L2.Binds K (fd 14) p14 []
  b15 : L2.Binds K (fd 15) p15 []
  b16 : L2.Binds K (fd 16) p16 []
  b17 : L2.Binds K (fd 17) p17 []
  b18 : L2.Binds K (fd 18) p18 []
  b19 : L2.Binds K (fd 19) p19 []
  b20 : L2.Binds K (fd 20) p20 []
  b21 : L2.Binds K (fd 21) p21 []
  k0 : PySem.W.keepIn K (.ref (fa 0)) = true
  k1 : PySem.W.keepIn K (.ref (fa 1)) = true
  k2 : PySem.W.keepIn K (.ref (fa 2)) = true
  k3 : PySem.W.keepIn K (.ref (fa 3)) = true
  k4 : PySem.W.keepIn K (.ref (fa 4)) = true
  k5 : PySem.W.keepIn K (.ref (fa 5)) = true
  k6 : PySem.W.keepIn K (.ref (fa 6)) = true
  k7 : PySem.W.keepIn K (.ref (fa 7)) = true
  k8 : PySem.W.keepIn K (.ref (fa 8)) = true
  k9 : PySem.W.keepIn K (.ref (fa 9)) = true
  k10 : PySem.W.keepIn K (.ref (fa 10)) = true
  k11 : PySem.W.keepIn K (.ref (fa 11)) = true
  k12 : PySem.W.keepIn K (.ref (fa 12)) = true
  k13 : PySem.W.keepIn K (.ref (fa 13)) = true
  k14 : PySem.W.keepIn K (.ref (fa 14)) = true
  k15 : PySem.W.keepIn K (.ref (fa 15)) = true
  k16 : PySem.W.keepIn K (.ref (fa 16)) = true
  k17 : PySem.W.keepIn K (.ref (fa 17)) = true
  k18 : PySem.W.keepIn K (.ref (fa 18)) = true
  k19 : PySem.W.keepIn K (.ref (fa 19)) = true
  k20 : PySem.W.keepIn K (.ref (fa 20)) = true
  k21 : PySem.W.keepIn K (.ref (fa 21)) = true
theorem arity : ∀ n i ds st, ds.length ≠ (ps i).length → sem n i ds st = .no
  | 0, _, _, _, _ => rfl
  | _ + 1, 0, _, _, h => arF_ne h
  | _ + 1, 1, _, _, h => arF_ne h
  | _ + 1, 2, _, _, h => arF_ne h
  | _ + 1, 3, _, _, h => arF_ne h
  | _ + 1, 4, _, _, h => arF_ne h
  | _ + 1, 5, _, _, h => arF_ne h
  | _ + 1, 6, _, _, h => arF_ne h
  | _ + 1, 7, _, _, h => arF_ne h
  | _ + 1, 8, _, _, h => arF_ne h
  | _ + 1, 9, _, _, h => arF_ne h
  | _ + 1, 10, _, _, h => arF_ne h
  | _ + 1, 11, _, _, h => arF_ne h
  | _ + 1, 12, _, _, h => arF_ne h
  | _ + 1, 13, _, _, h => arF_ne h
  | _ + 1, 14, _, _, h => arF_ne h
  | _ + 1, 15, _, _, h => arF_ne h
  | _ + 1, 16, _, _, h => arF_ne h
  | _ + 1, 17, _, _, h => arF_ne h
  | _ + 1, 18, _, _, h => arF_ne h
  | _ + 1, 19, _, _, h => arF_ne h
  | _ + 1, 20, _, _, h => arF_ne h
  | _ + 1, 21, _, _, h => arF_ne h
  | _ + 1, _ + 22, _, _, _ => rfl
theorem tx_of (F : FX K fa fd) {n : Nat} (h : ∀ i, i < nF → FnG P w K mg base (2 * n) (fa i) (fd i) (ps i) (spF ⟨K, cl⟩ (ps i).length (sem n i))) : TX P w K mg base cl fa fd ps nF (2 * n) (sem n) :=
  ⟨h, arity n, fun i hi => match i, hi with
    | 0, _ => F.b0
    | 1, _ => F.b1
    | 2, _ => F.b2
    | 3, _ => F.b3
    | 4, _ => F.b4
    | 5, _ => F.b5
    | 6, _ => F.b6
    | 7, _ => F.b7
    | 8, _ => F.b8
    | 9, _ => F.b9
    | 10, _ => F.b10
    | 11, _ => F.b11
    | 12, _ => F.b12
    | 13, _ => F.b13
    | 14, _ => F.b14
    | 15, _ => F.b15
    | 16, _ => F.b16
    | 17, _ => F.b17
    | 18, _ => F.b18
    | 19, _ => F.b19
    | 20, _ => F.b20
    | 21, _ => F.b21
    | _ + 22, h => absurd (show _ < 22 from h) (by omega), fun i hi => match i, hi with
    | 0, _ => F.k0
    | 1, _ => F.k1
    | 2, _ => F.k2
    | 3, _ => F.k3
    | 4, _ => F.k4
    | 5, _ => F.k5
    | 6, _ => F.k6
    | 7, _ => F.k7
    | 8, _ => F.k8
    | 9, _ => F.k9
    | 10, _ => F.k10
    | 11, _ => F.k11
    | 12, _ => F.k12
    | 13, _ => F.k13
    | 14, _ => F.k14
    | 15, _ => F.k15
    | 16, _ => F.k16
    | 17, _ => F.k17
    | 18, _ => F.k18
    | 19, _ => F.k19
    | 20, _ => F.k20
    | 21, _ => F.k21
    | _ + 22, h => absurd (show _ < 22 from h) (by omega)⟩
theorem fn_all (F : FX K fa fd) (T2 : LX K mg cl fa fd) : ∀ n i, i < nF → FnG P w K mg base (2 * n) (fa i) (fd i) (ps i) (spF ⟨K, cl⟩ (ps i).length (sem n i))
  | 0, _, _ => FnG.none
  | n + 1, 0, _ => ((w0 (tx_of F (fn_all F T2 n)) T2).fn F.f0 sc0).ar
  | n + 1, 1, _ => ((w1 (tx_of F (fn_all F T2 n)) T2).fn F.f1 sc1).ar
  | n + 1, 2, _ => ((w2 (tx_of F (fn_all F T2 n)) T2).fn F.f2 sc2).frzH.ar
  | n + 1, 3, _ => ((w3 (tx_of F (fn_all F T2 n)) T2).fn F.f3 sc3).ar
  | n + 1, 4, _ => ((w4 (tx_of F (fn_all F T2 n)) T2).fn F.f4 sc4).ar
  | n + 1, 5, _ => ((w5 (tx_of F (fn_all F T2 n)) T2).fn F.f5 sc5).ar
  | n + 1, 6, _ => ((w6 (tx_of F (fn_all F T2 n)) T2).fn F.f6 sc6).ar
  | n + 1, 7, _ => ((w7 (tx_of F (fn_all F T2 n)) T2).fn F.f7 sc7).ar
  | n + 1, 8, _ => ((w8 (tx_of F (fn_all F T2 n)) T2).fn F.f8 sc8).ar
  | n + 1, 9, _ => ((w9 (tx_of F (fn_all F T2 n)) T2).fn F.f9 sc9).ar
  | n + 1, 10, _ => ((w10 (tx_of F (fn_all F T2 n)) T2).fn F.f10 sc10).ar
  | n + 1, 11, _ => ((w11 (tx_of F (fn_all F T2 n)) T2).fn F.f11 sc11).ar
  | n + 1, 12, _ => ((w12 (tx_of F (fn_all F T2 n)) T2).fn F.f12 sc12).ar
  | n + 1, 13, _ => ((w13 (tx_of F (fn_all F T2 n)) T2).fn F.f13 sc13).ar
  | n + 1, 14, _ => ((w14 (tx_of F (fn_all F T2 n)) T2).fn F.f14 sc14).ar
  | n + 1, 15, _ => ((w15 (tx_of F (fn_all F T2 n)) T2).fn F.f15 sc15).ar
  | n + 1, 16, _ => ((w16 (tx_of F (fn_all F T2 n)) T2).fn F.f16 sc16).ar
  | n + 1, 17, _ => ((w17 (tx_of F (fn_all F T2 n)) T2).fn F.f17 sc17).ar
  | n + 1, 18, _ => ((w18 (tx_of F (fn_all F T2 n)) T2).fn F.f18 sc18).ar
  | n + 1, 19, _ => ((w19 (tx_of F (fn_all F T2 n)) T2).fn F.f19 sc19).frz.ar
  | n + 1, 20, _ => ((w20 (tx_of F (fn_all F T2 n)) T2).fn F.f20 sc20).frz.ar
  | n + 1, 21, _ => ((w21 (tx_of F (fn_all F T2 n)) T2).fn F.f21 sc21).ar
  | _ + 1, _ + 22, h => absurd (show _ < 22 from h) (by omega)
end
end Q41

set_option Elab.async false
set_option linter.all false
set_option maxRecDepth 100000
set_option maxHeartbeats 4000000
/-! k41: the law on data. -/
namespace Q41
open PySem L2 DY
theorem kwW : ("widest" : Str) ≠ "cells" ∧ ("widest" : Str) ≠ "rest" ∧ ("widest" : Str) ≠ "turn" := by decide +kernel
/-! ### what the law draws -/
theorem tk (n : Nat) {b : Nat} {q : List D} {size : Int} (h : Dr "widest" (b + 1) q) (hs : 0 < size ∧ size.natAbs.log2 < 9000) (R : List D) :
    ∃ v q', sem (n + 2) 15 [.h 1, .int size] (q ++ R) = .ok (.int v) (q' ++ R) ∧ Dr "widest" b q' ∧ 0 ≤ v ∧ v < size :=
  take_ok (mix := sem (n + 1) 14) kwW h hs (fun st => rfl) R
theorem pk (n : Nat) {b : Nat} {q : List D} {xs : List D} (h : Dr "widest" (b + 1) q) (hx : 0 < xs.length ∧ xs.length < 1000) (R : List D) :
    ∃ d q', sem (n + 3) 16 [.h 1, .nd .lst xs] (q ++ R) = .ok d (q' ++ R) ∧ Dr "widest" b q' ∧ d ∈ xs := by
  obtain ⟨v, q', e, h', v0, v1⟩ := tk n (size := (xs.length : Int)) h ⟨by omega, by
    have : (xs.length : Int).natAbs = xs.length := rfl
    rw [this]
    have := Nat.log2_self_le (n := xs.length) (by omega)
    by_cases hc : 9000 ≤ xs.length.log2
    · have h2 : (2 : Nat) ^ 10 ≤ 2 ^ xs.length.log2 := Nat.pow_le_pow_right (by decide) (by omega)
      omega
    · omega⟩ R
  have hv : v.toNat < xs.length := by omega
  refine ⟨xs[v.toNat], q', ?_, h', List.getElem_mem _⟩
  show arF 2 (runB 2 (b16 (sem (n + 2)))) _ _ = _
  have at_ : atI xs v = some xs[v.toNat] := by
    simp [atI, ixN, v0, hv, v1]
  simp [arF, runB, b16, dLen, seq?, lst?, seen, e, dIx, at_]
theorem tm (n : Nat) {b : Nat} {q : List D} {k : Str} (h : Dr "widest" (b + 3) q) (R : List D) :
    ∃ v q', sem (n + 4) 17 [.h 1, .str k] (q ++ R) = .ok (.int v) (q' ++ R) ∧ Dr "widest" b q' ∧ 0 ≤ v ∧ v ≤ 10 ^ 9 := by
  have p9 : CPow 10 9 := ⟨by decide, by decide, by decide⟩
  have run : ∀ q' v, runB 2 (b17 (sem (n + 3))) [.h 1, .str k] (q ++ R) = .ok (.int v) (q' ++ R) → sem (n + 4) 17 [.h 1, .str k] (q ++ R) = .ok (.int v) (q' ++ R) := fun _ _ e => e
  by_cases hk : k = "small"
  · obtain ⟨v, q', e, h', v0, v1⟩ := tk (n + 1) (size := 10) (h.less (by omega) : Dr "widest" ((b + 2) + 1) q) (by decide) R
    refine ⟨v, q', run _ _ ?_, h'.less (by omega), v0, by have : (10 : Int) ≤ 10 ^ 9 := by decide
                                                          omega⟩
    simp [runB, b17, dEq, eqD, hk, e]
  · obtain ⟨v1, q1, e1, h1, a1, a2⟩ := tk (n + 1) (size := 100) (h.less (by omega) : Dr "widest" ((b + 2) + 1) q) (by decide) R
    obtain ⟨v2, q2, e2, h2, c1, c2⟩ := tk (n + 1) (size := 10 ^ 9 + 1) h1 (by decide) R
    obtain ⟨d, q', e3, h3, hd⟩ := pk n (xs := [.int 0, .int 1, .int 2, .int 5, .int 7, .int (10 ^ 9), .int (10 ^ 9 - 1), .int v1, .int v2]) h2 ⟨Nat.succ_pos _, by show 9 < 1000; decide⟩ R
    have : ∃ v : Int, d = .int v ∧ 0 ≤ v ∧ v ≤ 10 ^ 9 := by
      have g : (10 : Int) ^ 9 = 1000000000 := by decide
      simp only [List.mem_cons, List.not_mem_nil, or_false] at hd
      rcases hd with rfl | rfl | rfl | rfl | rfl | rfl | rfl | rfl | rfl <;> exact ⟨_, rfl, by omega, by omega⟩
    obtain ⟨v, rfl, v0, v3⟩ := this
    refine ⟨v, q', run _ _ ?_, h3, v0, v3⟩
    simp at e1 e2 e3
    simp [runB, b17, dEq, eqD, hk, dPow, p9, dAdd, dSub, CTrue, e1, e2, szL_eq, e3]
end Q41

set_option Elab.async false
set_option linter.all false
set_option maxRecDepth 100000
set_option maxHeartbeats 4000000
/-! k41: what the package's defs answer. -/
namespace Q41
open PySem L2 DY
abbrev PL := List (Int × Int)
def prD (p : Int × Int) : D := .nd .tup [.int p.1, .int p.2]
def toldD (ps : PL) : List D := ps.map prD
structure Good (ps : PL) : Prop where
  len : ps.length ≤ 6
  all : ∀ p ∈ ps, (1 ≤ p.1 ∧ p.1 ≤ 12) ∧ 0 ≤ p.2 ∧ p.2 ≤ 10 ^ 9
theorem isnum (n : Nat) (i : Int) (st : Store) : sem (n + 1) 0 [.int i] st = .ok (.bl (decide (0 ≤ i))) st := by
  show arF 1 (runB 1 (b0 (sem n))) _ _ = _
  simp [arF, runB, b0, tyD, isiB, dGe]
theorem ismom (n : Nat) (i : Int) (st : Store) : sem (n + 2) 3 [.int i] st = .ok (.bl (decide (0 ≤ i) && decide (i ≤ 10 ^ 15))) st := by
  show arF 1 (runB 1 (b3 (sem (n + 1)))) _ _ = _
  by_cases h : 0 ≤ i <;> simp [arF, runB, b3, isnum, dLe, h]
theorem istime (n : Nat) (i : Int) (st : Store) : sem (n + 2) 6 [.int i] st = .ok (.bl (decide (0 ≤ i) && decide (i ≤ 10 ^ 9))) st := by
  show arF 1 (runB 1 (b6 (sem (n + 1)))) _ _ = _
  by_cases h : 0 ≤ i <;> simp [arF, runB, b6, isnum, dLe, h]
theorem iscount (n : Nat) (i : Int) (h0 : 0 ≤ i) (st : Store) : sem (n + 2) 7 [.int i] st = .ok (.bl (decide (1 ≤ i) && decide (i ≤ 12))) st := by
  show arF 1 (runB 1 (b7 (sem (n + 1)))) _ _ = _
  by_cases h : 1 ≤ i <;> simp [arF, runB, b7, isnum, dLe, h, h0]
theorem ispair (n : Nat) {p : Int × Int} (h : (1 ≤ p.1 ∧ p.1 ≤ 12) ∧ 0 ≤ p.2 ∧ p.2 ≤ 10 ^ 9) (st : Store) : sem (n + 3) 8 [prD p] st = .ok (.bl true) st := by
  show arF 1 (runB 1 (b8 (sem (n + 2)))) _ _ = _
  have h0 : 0 ≤ p.1 := by omega
  have h9 : p.2 ≤ 1000000000 := h.2.2
  simp [arF, runB, b8, prD, tyD, seen, isiB, dLen, seq?, lst?, tup?, dEq, eqD, dIx, atI, ixN, iscount, istime, h0, h.1.1, h.1.2, h.2.1, h9]
theorem gT2 {a b : D} {i j : Nat} {env : DEnv} {st : Store} : gT 2 (gCons' (gN i) (gCons' (gN j) gNil')) (.nd .tup [a, b]) env st = some ((env.set i (some a)).set j (some b)) := by
  simp [tup?, seen]
theorem need_rule (n : Nat) {x : D} {ps : PL} {st : Store} (hx : Sq st x (toldD ps)) (g : Good ps) : sem (n + 4) 9 [x] st = .ok .non st := by
  show arF 1 (runB 3 (b9 (sem (n + 3)))) _ _ = _
  obtain ⟨it, e1, e2, e3, e4⟩ := iEnum_sq (f := dCons (dVar 0) dNil) (env := [some x, none, none]) (st := st) (st1 := st) (by simp) hx
  obtain ⟨env', st', e, h⟩ := forL_inv (chk := it.chk) (tg := gT 2 (gCons' (gN 1) (gCons' (gN 2) (gNil')))) (body := sIf (dOr (dBool (dBin dEq (dVar 1) (dConst (.int 6)))) (dNot (dBool (dCall (sem (n + 3) 8) (dCons (dVar 2) (dNil)))))) (fun _ _ => .no) sNil)
    (items := it.items) (env := [some x, none, none]) (st := st) (fun _ env st' => (∃ a b, env = [some x, a, b]) ∧ st' = st) ⟨⟨none, none, rfl⟩, rfl⟩ (fun i d env st' hi ⟨⟨a, b, ee⟩, es⟩ => by
      subst ee es
      refine ⟨e3, ?_⟩
      rw [e2, enu_get] at hi
      cases hp : (toldD ps)[i]? with
      | none => rw [hp] at hi; cases hi
      | some d' =>
        rw [hp] at hi; cases hi
        have hp' := hp
        unfold toldD at hp
        rw [List.getElem?_map] at hp
        cases hq : ps[i]? with
        | none => rw [hq] at hp; cases hp
        | some p =>
          rw [hq] at hp; cases hp
          have hi6 : i < 6 := Nat.lt_of_lt_of_le (List.getElem?_eq_some_iff.mp hq).1 g.len
          have ne : ¬ ((i : Int) = 6) := by omega
          refine ⟨[some x, some (.int ((0 + i : Nat) : Int)), some (prD p)], [some x, some (.int ((0 + i : Nat) : Int)), some (prD p)], st', by simp [tup?, seen], .inl ?_, ⟨_, _, rfl⟩, rfl⟩
          simp [dEq, eqD, ne, ispair n (g.all p (List.mem_of_getElem? hq))])
    (fun env st' ⟨_, es⟩ => by subst es; exact e3)
  obtain ⟨⟨a, b, rfl⟩, rfl⟩ := h
  have lp := (sFor_eq (tg := gT 2 (gCons' (gN 1) (gCons' (gN 2) (gNil')))) (body := sIf (dOr (dBool (dBin dEq (dVar 1) (dConst (.int 6)))) (dNot (dBool (dCall (sem (n + 3) 8) (dCons (dVar 2) (dNil)))))) (fun _ _ => .no) sNil) e1).trans e
  rcases hx.ty with ty | ty <;> simp [arF, runB, b9, ty, isiB, lp]
/-- moments that may be walked -/
structure Asc (ms : List Int) : Prop where
  up : ms.Pairwise (· ≤ ·)
  bd : ∀ m ∈ ms, 0 ≤ m ∧ m ≤ 10 ^ 15
theorem first_bad (n : Nat) {x : D} {ms : List Int} {st : Store} (hx : Sq st x (ms.map D.int)) (g : Asc ms) : sem (n + 3) 4 [x] st = .ok .non st := by
  show arF 1 (runB 4 (b4 (sem (n + 2)))) _ _ = _
  obtain ⟨it, e1, e2, e3, e4⟩ := iEnum_sq (f := dCons (dVar 0) dNil) (env := [some x, some (.int 0), none, none]) (st := st) (st1 := st) (by simp) hx
  obtain ⟨env', st', e, h⟩ := forL_inv (chk := it.chk) (tg := gT 2 (gCons' (gN 2) (gCons' (gN 3) (gNil')))) (body := sCons (sIf (dOr (dNot (dBool (dCall (sem (n + 2) 3) (dCons (dVar 3) (dNil))))) (dBool (dBin dLt (dVar 3) (dVar 1)))) (sRet (dVar 2)) (sNil)) (sSet 1 (dVar 3)))
    (items := it.items) (env := [some x, some (.int 0), none, none]) (st := st) (fun i env st' => (∃ l a b, env = [some x, some (.int l), a, b] ∧ ∀ m ∈ ms.drop i, l ≤ m) ∧ st' = st) ⟨⟨0, none, none, rfl, fun m hm => (g.bd m (List.mem_of_mem_drop hm)).1⟩, rfl⟩ (fun i d env st' hi ⟨⟨l, a, b, ee, hl⟩, es⟩ => by
      subst ee es
      refine ⟨e3, ?_⟩
      rw [e2, enu_get, List.getElem?_map] at hi
      cases hq : ms[i]? with
      | none => rw [hq] at hi; cases hi
      | some m =>
        rw [hq] at hi; cases hi
        have hm := g.bd m (List.mem_of_getElem? hq)
        have hd := drop_cons hq
        have lm : ¬ m < l := by have := hl m (by rw [hd]; exact List.mem_cons_self); omega
        have m15 : m ≤ 1000000000000000 := hm.2
        refine ⟨[some x, some (.int l), some (.int ((0 + i : Nat) : Int)), some (.int m)], [some x, some (.int m), some (.int ((0 + i : Nat) : Int)), some (.int m)], st', by simp [tup?, seen], .inl ?_, ⟨m, _, _, rfl, fun y hy => ?_⟩, rfl⟩
        · simp [ismom, hm.1, m15, dLt, lm]
        · have := g.up
          rw [← List.take_append_drop i ms, hd] at this
          have := (List.pairwise_append.mp this).2.1
          exact (List.pairwise_cons.mp this).1 y hy)
    (fun env st' ⟨_, es⟩ => by subst es; exact e3)
  obtain ⟨⟨l, a, b, rfl, _⟩, rfl⟩ := h
  have lp := (sFor_eq (tg := gT 2 (gCons' (gN 2) (gCons' (gN 3) (gNil')))) (body := sCons (sIf (dOr (dNot (dBool (dCall (sem (n + 2) 3) (dCons (dVar 3) (dNil))))) (dBool (dBin dLt (dVar 3) (dVar 1)))) (sRet (dVar 2)) (sNil)) (sSet 1 (dVar 3))) e1).trans e
  simp [arF, runB, b4, lp]
theorem need_arr (n : Nat) {x : D} {ms : List Int} {st : Store} (hx : Sq st x (ms.map D.int)) (g : Asc ms) : sem (n + 4) 5 [x] st = .ok .non st := by
  show arF 1 (runB 2 (b5 (sem (n + 3)))) _ _ = _
  rcases hx.ty with ty | ty <;> simp [arF, runB, b5, ty, isiB, first_bad n hx g, dNotN, DY.isNon]
end Q41

set_option Elab.async false
set_option linter.all false
set_option maxRecDepth 100000
set_option maxHeartbeats 4000000
/-! k41: the tables. -/
namespace Q41
open PySem L2 DY
theorem ix_int {st : Store} {x : D} {l : List Int} {j : Int} (hx : seq? st x = some (l.map D.int)) (h0 : 0 ≤ j) (h1 : j < l.length) : dIx x (.int j) st = .ok (.int (l.getD j.toNat 0)) st := by
  have hj : j.toNat < l.length := by omega
  have e : atI (l.map D.int) j = some (.int (l.getD j.toNat 0)) := by
    simp [atI, ixN, h0, h1, hj, List.getD]
  simp [dIx, hx, e]
def rowsOf (ps : PL) : List (List Int) := (ps.filter fun p => decide (0 < p.2)).map fun p => [p.1, p.2]
def pairsOf (ps : PL) : PL := (sortU (rowsOf ps)).map fun z => (z.getD 0 0, z.getD 1 0)
theorem rows_mem {ps : PL} {z : List Int} (h : z ∈ rowsOf ps) : ∃ p ∈ ps, 0 < p.2 ∧ z = [p.1, p.2] := by
  obtain ⟨p, hp, rfl⟩ := List.mem_map.mp h
  obtain ⟨a, b⟩ := List.mem_filter.mp hp
  exact ⟨p, a, of_decide_eq_true b, rfl⟩
theorem pairs_mem {ps : PL} {p : Int × Int} : p ∈ pairsOf ps ↔ p ∈ ps ∧ 0 < p.2 := by
  unfold pairsOf
  constructor
  · intro h
    obtain ⟨z, hz, rfl⟩ := List.mem_map.mp h
    obtain ⟨p, hp, h2, rfl⟩ := rows_mem (sortU_mem.mp hz)
    exact ⟨hp, h2⟩
  · rintro ⟨h1, h2⟩
    refine List.mem_map.mpr ⟨[p.1, p.2], sortU_mem.mpr (List.mem_map.mpr ⟨p, List.mem_filter.mpr ⟨h1, by simpa using h2⟩, rfl⟩), rfl⟩
theorem rows_two {ps : PL} : (sortU (rowsOf ps)).map rowD = (pairsOf ps).map prD := by
  unfold pairsOf
  rw [List.map_map]
  apply List.map_congr_left
  intro z hz
  obtain ⟨p, _, _, rfl⟩ := rows_mem (sortU_mem.mp hz)
  rfl
theorem rows_back (ps : PL) : rows? ((rowsOf ps).map rowD) = some (rowsOf ps) := by
  generalize rowsOf ps = l
  induction l with
  | nil => rfl
  | cons z l ih => simp [rows?, rowD, ints_map, ih]
def selD : D → Option D
  | .nd .tup [.int c, .int t] => if 0 < t then some (.nd .tup [.int c, .int t]) else none
  | _ => none
theorem sel_rows (ps : PL) : (toldD ps).filterMap selD = (rowsOf ps).map rowD := by
  unfold toldD rowsOf
  induction ps with
  | nil => rfl
  | cons p ps ih =>
    by_cases h : 0 < p.2
    · simp [prD, selD, h, rowD] at ih ⊢
      exact ih
    · simp [prD, selD, h, rowD] at ih ⊢
      exact ih
theorem pairs_of (n : Nat) {x : D} {ps : PL} {st : Store} (hx : Sq st x (toldD ps)) (g : Good ps) : sem (n + 2) 10 [x] st = .ok (.nd .tup ((pairsOf ps).map prD)) st := by
  show arF 1 (runB 3 (b10 (sem (n + 1)))) _ _ = _
  obtain ⟨it, e1, e2, e3, e4⟩ := iSeq_sq (f := dVar 0) (env := [some x, none, none]) (st := st) (st1 := st) (by simp) hx
  have c1 := compL_pure (chk := it.chk) (tg := gT 2 (gCons' (gN 1) (gCons' (gN 2) (gNil')))) (tst := dBool (dBin dGt (dVar 2) (dConst (.int 0)))) (elt := dTup (dCons (dVar 1) (dCons (dVar 2) (dNil)))) (own := [1, 2]) (env := [some x, none, none]) (st := st) selD e3 (items := it.items) (acc := []) (fun d hd => by
    rw [e2] at hd
    obtain ⟨p, hp, rfl⟩ := List.mem_map.mp hd
    refine ⟨[some x, some (.int p.1), some (.int p.2)], by simp [prD, tup?, seen, wipeD], ?_⟩
    by_cases h : 0 < p.2
    · exact .inr ⟨by simp [dGt, h], .nd .tup [.int p.1, .int p.2], by simp [szL_eq], by simp [selD, prD, h]⟩
    · exact .inl ⟨by simp [dGt, h], by simp [selD, prD, h]⟩) (by
      rw [e2]
      have := g.len
      have : (toldD ps).length ≤ 6 := by simpa [toldD] using this
      simp [szL_eq]; omega)
  rw [e2, List.nil_append, sel_rows, ← e2] at c1
  have e := dLc_eq e1 c1
  have rl : (rowsOf ps).length < 64 := by
    have h1 : (rowsOf ps).length ≤ ps.length := by
      unfold rowsOf; rw [List.length_map]; exact List.length_filter_le _ _
    have := g.len; omega
  have two : ∀ z ∈ rowsOf ps, z.length = 2 := fun z hz => by
    obtain ⟨p, _, _, rfl⟩ := rows_mem hz; rfl
  have sl : sameLen (rowsOf ps) = true := by
    unfold sameLen
    split
    · rfl
    · rename_i z r hz
      rw [hz] at two
      have h1 := two z List.mem_cons_self
      simp only [Bool.and_eq_true, decide_eq_true_eq, List.all_eq_true]
      exact ⟨by omega, fun y hy => by rw [two y (List.mem_cons_of_mem _ hy), h1]⟩
  have nn : ((rowsOf ps).all fun z => z.all fun i => decide (0 ≤ i)) = true := by
    rw [List.all_eq_true]
    intro z hz
    obtain ⟨p, hp, h2, rfl⟩ := rows_mem hz
    have := g.all p hp
    simp; omega
  have s1 : sem (n + 1) 1 [.nd .lst ((rowsOf ps).map rowD)] st = .ok (.nd .tup ((pairsOf ps).map prD)) st := by
    show arF 1 (runB 1 (b1 (sem n))) _ _ = _
    have nn' : ∀ z : List Int, z ∈ rowsOf ps → ∀ i : Int, i ∈ z → 0 ≤ i := fun z hz i hi => of_decide_eq_true (List.all_eq_true.mp (List.all_eq_true.mp nn z hz) i hi)
    simp [arF, runB, b1, lst?, seen, rows_back, rl, sl, dTuple, rows_two]
    rw [if_pos nn']
  simp only [arF, List.length_singleton, if_true, runB, b10, List.map_cons, List.map_nil, List.length_cons, List.length_nil, List.replicate]
  simp [e, s1]
/-! ### what pairs make, item by item -/
def stepM (pl : PL) (l : List Int) : Int := mxL (l.getD (l.length - 1) 0 :: (pl.filter fun p => decide (p.1 ≤ (l.length : Int))).map fun p => l.getD (l.length - p.1.toNat) 0 + p.2)
def tblM (pl : PL) : Nat → List Int
  | 0 => [0]
  | n + 1 => tblM pl n ++ [stepM pl (tblM pl n)]
theorem tblM_len (pl : PL) : ∀ n, (tblM pl n).length = n + 1
  | 0 => rfl
  | n + 1 => by simp [tblM, tblM_len pl n]
def madD (k : Int) (l : List Int) : D → Option D
  | .nd .tup [.int c, .int t] => if c ≤ k then some (.int (l.getD (k - c).toNat 0 + t)) else none
  | _ => none
theorem mad_map (pl : PL) (l : List Int) (h : ∀ p ∈ pl, 1 ≤ p.1) : (pl.map prD).filterMap (madD l.length l) = ((pl.filter fun p => decide (p.1 ≤ (l.length : Int))).map fun p => l.getD (l.length - p.1.toNat) 0 + p.2).map D.int := by
  induction pl with
  | nil => rfl
  | cons p pl ih =>
    have ih := ih fun q hq => h q (List.mem_cons_of_mem _ hq)
    have h1 := h p List.mem_cons_self
    by_cases hc : p.1 ≤ (l.length : Int)
    · have : ((l.length : Int) - p.1).toNat = l.length - p.1.toNat := by omega
      simp [prD, madD, hc, this] at ih ⊢
      exact ih
    · simp [prD, madD, hc] at ih ⊢
      exact ih
theorem made (n : Nat) {pl : PL} {sz : Int} {st : Store} (h : ∀ p ∈ pl, 1 ≤ p.1) (hl : pl.length ≤ 6) (hs : 0 ≤ sz ∧ sz ≤ 400) :
    sem (n + 1) 2 [.nd .tup (pl.map prD), .int sz] st = .ok (.h st.length) (st ++ [.nd .lst (((tblM pl (sz.toNat - 1)).take sz.toNat).map D.int)]) := by
  show arF 2 (frzH (runB 6 (b2 (sem n)))) _ _ = _
  have run : ∃ g, runB 6 (b2 (sem n)) [.nd .tup (pl.map prD), .int sz] st = .ok (.h (st.length + 1)) (st ++ [.nd .lst ((tblM pl (sz.toNat - 1)).map D.int), .nd .lst (((tblM pl (sz.toNat - 1)).take sz.toNat).map D.int)]) ∧ g = () := by
    refine ⟨(), ?_, rfl⟩
    obtain ⟨env', st', e, hI⟩ := forL_inv (chk := fun _ => True) (tg := gN 3) (body := sExpr (dBML opAppend (dVar 2) (dCons (dCall dMax (dCons (dBin dAdd (dLst (dCons (dBin dIx (dVar 2) (dBin dSub (dVar 3) (dConst (.int 1)))) (dNil))) (dLc (iSeq (dVar 0)) (gT 2 (gCons' (gN 4) (gCons' (gN 5) (gNil')))) (dBool (dBin dLe (dVar 4) (dVar 3))) (dBin dAdd (dBin dIx (dVar 2) (dBin dSub (dVar 3) (dVar 4))) (dVar 5)) [4, 5])) (dNil))) (dNil))))
      (items := rng 1 (sz - 1).toNat) (env := [some (.nd .tup (pl.map prD)), some (.int sz), some (.h st.length), none, none, none]) (st := st ++ [.nd .lst [.int 0]])
      (fun i env st' => (∃ a, env = [some (.nd .tup (pl.map prD)), some (.int sz), some (.h st.length), a, none, none]) ∧ st' = st ++ [.nd .lst ((tblM pl i).map D.int)]) ⟨⟨none, rfl⟩, rfl⟩ (fun i d env st' hi ⟨⟨a, ee⟩, es⟩ => by
        subst ee es
        refine ⟨trivial, ?_⟩
        have hin : i < (sz - 1).toNat := by
          have := (List.getElem?_eq_some_iff.mp hi).1
          simpa [rng] using this
        have hd : d = .int (1 + (i : Int)) := by
          unfold rng at hi
          rw [List.getElem?_map, List.getElem?_range hin] at hi
          exact (Option.some.inj hi).symm
        subst hd
        have len := tblM_len pl i
        have ek : (1 + (i : Int)) = ((tblM pl i).length : Int) := by rw [len]; omega
        have is : Is (st ++ [.nd .lst ((tblM pl i).map D.int)]) (.h st.length) ((tblM pl i).map D.int) := .inr ⟨_, rfl, by simp⟩
        have c1 := compL_pure (chk := fun st2 => tup? st2 (.nd .tup (pl.map prD)) = some (pl.map prD)) (tg := gT 2 (gCons' (gN 4) (gCons' (gN 5) (gNil')))) (tst := dBool (dBin dLe (dVar 4) (dVar 3))) (elt := dBin dAdd (dBin dIx (dVar 2) (dBin dSub (dVar 3) (dVar 4))) (dVar 5)) (own := [4, 5])
          (env := [some (.nd .tup (pl.map prD)), some (.int sz), some (.h st.length), some (.int (1 + (i : Int))), none, none]) (st := st ++ [.nd .lst ((tblM pl i).map D.int)]) (madD (1 + (i : Int)) (tblM pl i)) rfl (items := pl.map prD) (acc := []) (fun d hd => by
            obtain ⟨p, hp, rfl⟩ := List.mem_map.mp hd
            have h1 := h p hp
            refine ⟨[some (.nd .tup (pl.map prD)), some (.int sz), some (.h st.length), some (.int (1 + (i : Int))), some (.int p.1), some (.int p.2)], by simp [prD, tup?, seen, wipeD], ?_⟩
            by_cases hc : p.1 ≤ 1 + (i : Int)
            · refine .inr ⟨by simp [dLe, hc], .int ((tblM pl i).getD (1 + (i : Int) - p.1).toNat 0 + p.2), ?_, by simp [madD, prD, hc]⟩
              have := ix_int (j := 1 + (i : Int) - p.1) is.seq (by omega) (by rw [← ek]; omega)
              simp [dSub, CTrue, dAdd, this]
            · exact .inl ⟨by simp [dLe, hc], by simp [madD, prD, hc]⟩) (by simp [szL_eq]; omega)
        rw [List.nil_append, show madD (1 + (i : Int)) (tblM pl i) = madD ((tblM pl i).length : Int) (tblM pl i) by rw [ek], mad_map pl (tblM pl i) h] at c1
        have lc := dLc_eq (fi := iSeq (dVar 0)) (it := ⟨pl.map prD, fun st2 => tup? st2 (.nd .tup (pl.map prD)) = some (pl.map prD)⟩) (st := st ++ [.nd .lst ((tblM pl i).map D.int)]) (by simp [lst?, tup?, seen]) c1
        have ixl := ix_int (j := (1 + (i : Int)) - 1) is.seq (by omega) (by rw [len]; omega)
        have ej : ((1 + (i : Int)) - 1).toNat = (tblM pl i).length - 1 := by rw [len]; omega
        rw [ej] at ixl
        refine ⟨[some (.nd .tup (pl.map prD)), some (.int sz), some (.h st.length), some (.int (1 + (i : Int))), none, none], [some (.nd .tup (pl.map prD)), some (.int sz), some (.h st.length), some (.int (1 + (i : Int))), none, none], st ++ [.nd .lst ((tblM pl (i + 1)).map D.int)], rfl, .inl ?_, ⟨_, rfl⟩, rfl⟩
        have hlf : ((pl.filter fun p => decide (p.1 ≤ ((tblM pl i).length : Int))).map fun p => (tblM pl i).getD ((tblM pl i).length - p.1.toNat) 0 + p.2).length ≤ 6 := by
          rw [List.length_map]
          exact Nat.le_trans (List.length_filter_le _ _) hl
        generalize hF : ((pl.filter fun p => decide (p.1 ≤ ((tblM pl i).length : Int))).map fun p => (tblM pl i).getD ((tblM pl i).length - p.1.toNat) 0 + p.2) = F at lc hlf
        have tt : tblM pl (i + 1) = tblM pl i ++ [mxL ((tblM pl i).getD ((tblM pl i).length - 1) 0 :: F)] := by
          show _ ++ [stepM pl (tblM pl i)] = _
          unfold stepM
          rw [hF]
        have iln : ints? (.int ((tblM pl i).getD ((tblM pl i).length - 1) 0) :: F.map D.int) = some ((tblM pl i).getD ((tblM pl i).length - 1) 0 :: F) := ints_map (_ :: F)
        have hz : F.length + 1 ≤ szL := by rw [szL_eq]; omega
        have hz2 : (tblM pl i).length < szL := by rw [len, szL_eq]; omega
        have lst1 : lst? (st ++ [.nd .lst ((tblM pl i).map D.int)]) (.h st.length) = some ((tblM pl i).map D.int) := is.lst
        have ladd : dAdd (.nd .lst [.int ((tblM pl i).getD ((tblM pl i).length - 1) 0)]) (.nd .lst (F.map D.int)) (st ++ [.nd .lst ((tblM pl i).map D.int)]) = .ok (.nd .lst (.int ((tblM pl i).getD ((tblM pl i).length - 1) 0) :: F.map D.int)) (st ++ [.nd .lst ((tblM pl i).map D.int)]) := by
          have : 1 + F.length ≤ szL := by omega
          simp [dAdd, lstX?, seen, this]
        have lmax : dMax [.nd .lst (.int ((tblM pl i).getD ((tblM pl i).length - 1) 0) :: F.map D.int)] (st ++ [.nd .lst ((tblM pl i).map D.int)]) = .ok (.int (mxL ((tblM pl i).getD ((tblM pl i).length - 1) 0 :: F))) (st ++ [.nd .lst ((tblM pl i).map D.int)]) := by
          simp only [dMax, lst?, seen, Option.bind_some, iln]
        have lapp : ∀ y : Int, opAppend (.h st.length) [.int y] (st ++ [.nd .lst ((tblM pl i).map D.int)]) = .ok .non (st ++ [.nd .lst ((tblM pl i ++ [y]).map D.int)]) := fun y => by
          simp [opAppend, hz2]
        rw [tt]
        have one : 1 ≤ szL := by rw [szL_eq]; decide
        generalize (tblM pl i).getD ((tblM pl i).length - 1) 0 = top at ixl ladd lmax
        simp only [sExpr, dBML, dVar, List.getElem?_cons_zero, List.getElem?_cons_succ, Res.bind, lst1, Option.isSome_some, if_true, dCons, dNil, dCall, dBin, dConst, dSub_i, dLst, List.length_singleton, one, ixl, lc, ladd, lmax, lapp, bindE])
      (fun env st' _ => trivial)
    obtain ⟨⟨a, rfl⟩, rfl⟩ := hI
    have rl : (rng 1 (sz - 1).toNat).length = sz.toNat - 1 := by simp [rng]
    rw [rl] at e
    have r1 : (-(2 ^ 62) ≤ (1 : Int) ∧ (1 : Int) < 2 ^ 62) ∧ (-(2 ^ 62) ≤ sz ∧ sz < 2 ^ 62) := by
      have : (2 : Int) ^ 62 = 4611686018427387904 := by decide
      omega
    have one : 1 ≤ szL := by rw [szL_eq]; decide
    have is : Is (st ++ [.nd .lst ((tblM pl (sz.toNat - 1)).map D.int)]) (.h st.length) ((tblM pl (sz.toNat - 1)).map D.int) := .inr ⟨_, rfl, by simp⟩
    have cut : cutD ((tblM pl (sz.toNat - 1)).map D.int) none (some sz) = ((tblM pl (sz.toNat - 1)).take sz.toNat).map D.int := by
      unfold cutD
      have h1 : HT.sIx ((tblM pl (sz.toNat - 1)).map D.int).length 0 none = 0 := rfl
      have h2 : HT.sIx ((tblM pl (sz.toNat - 1)).map D.int).length ((tblM pl (sz.toNat - 1)).map D.int).length (some sz) = sz.toNat := by
        show (if sz < 0 then _ else _) = _
        rw [if_neg (by omega), List.length_map, tblM_len]
        omega
      rw [h1, h2]
      simp [List.map_take]
    have lp := sFor_eq (fi := iRange2 (dCons (dConst (.int 1)) (dCons (dVar 1) (dNil)))) (tg := gN 3) (body := sExpr (dBML opAppend (dVar 2) (dCons (dCall dMax (dCons (dBin dAdd (dLst (dCons (dBin dIx (dVar 2) (dBin dSub (dVar 3) (dConst (.int 1)))) (dNil))) (dLc (iSeq (dVar 0)) (gT 2 (gCons' (gN 4) (gCons' (gN 5) (gNil')))) (dBool (dBin dLe (dVar 4) (dVar 3))) (dBin dAdd (dBin dIx (dVar 2) (dBin dSub (dVar 3) (dVar 4))) (dVar 5)) [4, 5])) (dNil))) (dNil))))
      (env := [some (.nd .tup (pl.map prD)), some (.int sz), some (.h st.length), none, none, none]) (st := st ++ [.nd .lst [.int 0]]) (it := ⟨rng 1 (sz - 1).toNat, fun _ => True⟩) (st1 := st ++ [.nd .lst [.int 0]]) (by
        simp only [iRange2, dCons, dConst, dVar, dNil, List.getElem?_cons_zero, List.getElem?_cons_succ, Res.bind]
        rw [if_pos r1])
    rw [e] at lp
    simp only [runB, b2, List.map_cons, List.map_nil, List.length_cons, List.length_nil, List.replicate, List.cons_append, List.nil_append, sCons, sSet, dLstM, dCons, dConst, dNil, Res.bind, one, if_true, bindE, List.set_cons_succ, List.set_cons_zero, SR.seq]
    rw [lp]
    simp [dCutM, is.lst, cut]
  obtain ⟨_, e, _⟩ := run
  have := frzH_ok (t := .lst) (xs := ((tblM pl (sz.toNat - 1)).take sz.toNat).map D.int) (g := [.nd .lst ((tblM pl (sz.toNat - 1)).map D.int), .nd .lst (((tblM pl (sz.toNat - 1)).take sz.toNat).map D.int)]) e (by omega) (by simp) (noH_ints _)
  simpa [arF] using this
end Q41

set_option Elab.async false
set_option linter.all false
set_option maxRecDepth 100000
set_option maxHeartbeats 4000000
/-! k41: the law's own table, and that it is the same. -/
namespace Q41
open PySem L2 DY
theorem Is.app {st g : Store} {x : D} {xs : List D} (h : Is st x xs) : Is (st ++ g) x xs := by
  rcases h with h | ⟨k, h, e⟩
  · exact .inl h
  · exact .inr ⟨k, h, by rw [List.getElem?_append_left (List.getElem?_eq_some_iff.mp e).1]; exact e⟩
theorem Sq.app {st g : Store} {x : D} {xs : List D} (h : Sq st x xs) : Sq (st ++ g) x xs := by
  rcases h with h | h
  · exact .l (Is.app h)
  · exact .t h
def stepS (ps : PL) (l : List Int) : Int := mxL (0 :: (l.drop (l.length - 1) ++ (ps.filter fun p => decide (p.1 ≤ (l.length : Int))).map fun p => l.getD (l.length - p.1.toNat) 0 + p.2))
def tblS (ps : PL) : Nat → List Int
  | 0 => []
  | n + 1 => tblS ps n ++ [stepS ps (tblS ps n)]
theorem tblS_len (ps : PL) : ∀ n, (tblS ps n).length = n
  | 0 => rfl
  | n + 1 => by simp [tblS, tblS_len ps n]
theorem cut_last (l : List Int) : cutD (l.map D.int) (some (-1)) none = (l.drop (l.length - 1)).map D.int := by
  unfold cutD
  have h1 : HT.sIx (l.map D.int).length 0 (some (-1)) = l.length - 1 := by
    show (if (-1 : Int) < 0 then ((-1 : Int) + ((l.map D.int).length : Nat)).toNat else min (-1 : Int).toNat (l.map D.int).length) = _
    rw [if_pos (by decide), List.length_map]; omega
  have h2 : HT.sIx (l.map D.int).length (l.map D.int).length none = l.length := by
    show (l.map D.int).length = _
    rw [List.length_map]
  rw [h1, h2, ← List.map_drop, ← List.map_take]
  congr 1
  apply List.take_of_length_le
  rw [List.length_drop]; omega
theorem soon (n : Nat) {x : D} {ps : PL} {sz : Int} {st : Store} (hx : Sq st x (toldD ps)) (g : Good ps) (hs : 0 ≤ sz ∧ sz ≤ 400) :
    sem (n + 1) 20 [x, .int sz] st = .ok (.nd .lst ((tblS ps sz.toNat).map D.int)) st := by
  show arF 2 (frzF (runB 7 (b20 (sem n)))) _ _ = _
  have run : runB 7 (b20 (sem n)) [x, .int sz] st = .ok (.h st.length) (st ++ [.nd .lst ((tblS ps sz.toNat).map D.int)]) := by
    obtain ⟨env', st', e, hI⟩ := forL_inv (chk := fun _ => True) (tg := gN 3) (body := sCons (sSet 4 (dLc (iSeq (dVar 0)) (gT 2 (gCons' (gN 5) (gCons' (gN 6) (gNil')))) (dBool (dBin dLe (dVar 5) (dVar 3))) (dBin dAdd (dBin dIx (dVar 2) (dBin dSub (dVar 3) (dVar 5))) (dVar 6)) [5, 6]))
        (sExpr (dBML opAppend (dVar 2) (dCons (dCall dMax (dCons (dBin dAdd (dBin dAdd (dLst (dCons (dConst (.int 0)) (dNil))) (dSlice (dVar 2) (dPart (dNeg (dConst (.int 1)))) (dNoPart))) (dVar 4)) (dNil))) (dNil)))))
      (items := rng 0 sz.toNat) (env := [some x, some (.int sz), some (.h st.length), none, none, none, none]) (st := st ++ [.nd .lst []])
      (fun i env st' => (∃ a b, env = [some x, some (.int sz), some (.h st.length), a, b, none, none]) ∧ st' = st ++ [.nd .lst ((tblS ps i).map D.int)]) ⟨⟨none, none, rfl⟩, rfl⟩ (fun i d env st' hi ⟨⟨a, b, ee⟩, es⟩ => by
        subst ee es
        refine ⟨trivial, ?_⟩
        have hin : i < sz.toNat := by
          have := (List.getElem?_eq_some_iff.mp hi).1
          simpa [rng] using this
        have hd : d = .int (i : Int) := by
          unfold rng at hi
          rw [List.getElem?_map, List.getElem?_range hin] at hi
          have := (Option.some.inj hi).symm
          simpa using this
        subst hd
        have len := tblS_len ps i
        have ek : (i : Int) = ((tblS ps i).length : Int) := by rw [len]
        have is : Is (st ++ [.nd .lst ((tblS ps i).map D.int)]) (.h st.length) ((tblS ps i).map D.int) := .inr ⟨_, rfl, by simp⟩
        obtain ⟨it, e1, e2, e3, e4⟩ := iSeq_sq (f := dVar 0) (env := [some x, some (.int sz), some (.h st.length), some (.int (i : Int)), b, none, none]) (st := st ++ [.nd .lst ((tblS ps i).map D.int)]) (st1 := st ++ [.nd .lst ((tblS ps i).map D.int)]) (by simp) (Sq.app hx)
        have c1 := compL_pure (chk := it.chk) (tg := gT 2 (gCons' (gN 5) (gCons' (gN 6) (gNil')))) (tst := dBool (dBin dLe (dVar 5) (dVar 3))) (elt := dBin dAdd (dBin dIx (dVar 2) (dBin dSub (dVar 3) (dVar 5))) (dVar 6)) (own := [5, 6])
          (env := [some x, some (.int sz), some (.h st.length), some (.int (i : Int)), b, none, none]) (st := st ++ [.nd .lst ((tblS ps i).map D.int)]) (madD (i : Int) (tblS ps i)) e3 (items := it.items) (acc := []) (fun d hd => by
            rw [e2] at hd
            obtain ⟨p, hp, rfl⟩ := List.mem_map.mp hd
            have h1 := (g.all p hp).1.1
            refine ⟨[some x, some (.int sz), some (.h st.length), some (.int (i : Int)), b, some (.int p.1), some (.int p.2)], by simp [prD, tup?, seen, wipeD], ?_⟩
            by_cases hc : p.1 ≤ (i : Int)
            · refine .inr ⟨by simp [dLe, hc], .int ((tblS ps i).getD ((i : Int) - p.1).toNat 0 + p.2), ?_, by simp [madD, prD, hc]⟩
              have := ix_int (j := (i : Int) - p.1) is.seq (by omega) (by rw [← ek]; omega)
              simp [dSub_i, dAdd, this]
            · exact .inl ⟨by simp [dLe, hc], by simp [madD, prD, hc]⟩) (by
              rw [e2]
              have := g.len
              have : (toldD ps).length ≤ 6 := by simpa [toldD] using this
              simp [szL_eq]; omega)
        rw [List.nil_append, e2, show madD (i : Int) (tblS ps i) = madD ((tblS ps i).length : Int) (tblS ps i) by rw [← ek], show toldD ps = ps.map prD from rfl, mad_map ps (tblS ps i) (fun p hp => (g.all p hp).1.1), show ps.map prD = it.items from e2.symm] at c1
        have lc := dLc_eq e1 c1
        generalize hF : ((ps.filter fun p => decide (p.1 ≤ ((tblS ps i).length : Int))).map fun p => (tblS ps i).getD ((tblS ps i).length - p.1.toNat) 0 + p.2) = F at lc
        have hlf : F.length ≤ 6 := by
          rw [← hF, List.length_map]
          exact Nat.le_trans (List.length_filter_le _ _) g.len
        have tt : tblS ps (i + 1) = tblS ps i ++ [mxL (0 :: ((tblS ps i).drop ((tblS ps i).length - 1) ++ F))] := by
          show _ ++ [stepS ps (tblS ps i)] = _
          unfold stepS
          rw [hF]
        have dl : ((tblS ps i).drop ((tblS ps i).length - 1)).length ≤ 1 := by rw [List.length_drop]; omega
        have cutl := cut_last (tblS ps i)
        generalize hL : (tblS ps i).drop ((tblS ps i).length - 1) = L1 at tt dl cutl
        have lst1 : lst? (st ++ [.nd .lst ((tblS ps i).map D.int)]) (.h st.length) = some ((tblS ps i).map D.int) := is.lst
        have hz2 : (tblS ps i).length < szL := by rw [len, szL_eq]; omega
        refine ⟨[some x, some (.int sz), some (.h st.length), some (.int (i : Int)), b, none, none], [some x, some (.int sz), some (.h st.length), some (.int (i : Int)), some (.nd .lst (F.map D.int)), none, none], st ++ [.nd .lst ((tblS ps (i + 1)).map D.int)], rfl, .inl ?_, ⟨_, _, rfl⟩, rfl⟩
        have add1 : dAdd (.nd .lst [.int 0]) (.nd .lst (L1.map D.int)) (st ++ [.nd .lst ((tblS ps i).map D.int)]) = .ok (.nd .lst (.int 0 :: L1.map D.int)) (st ++ [.nd .lst ((tblS ps i).map D.int)]) := by
          have : 1 + L1.length ≤ szL := by rw [szL_eq]; omega
          simp [dAdd, lstX?, seen, this]
        have add2 : dAdd (.nd .lst (.int 0 :: L1.map D.int)) (.nd .lst (F.map D.int)) (st ++ [.nd .lst ((tblS ps i).map D.int)]) = .ok (.nd .lst ((0 :: (L1 ++ F)).map D.int)) (st ++ [.nd .lst ((tblS ps i).map D.int)]) := by
          have : L1.length + 1 + F.length ≤ szL := by rw [szL_eq]; omega
          simp [dAdd, lstX?, seen, this]
        have lmax : dMax [.nd .lst ((0 :: (L1 ++ F)).map D.int)] (st ++ [.nd .lst ((tblS ps i).map D.int)]) = .ok (.int (mxL (0 :: (L1 ++ F)))) (st ++ [.nd .lst ((tblS ps i).map D.int)]) := by
          simp only [dMax, lst?, seen, Option.bind_some, ints_map]
        have lapp : ∀ y : Int, opAppend (.h st.length) [.int y] (st ++ [.nd .lst ((tblS ps i).map D.int)]) = .ok .non (st ++ [.nd .lst ((tblS ps i ++ [y]).map D.int)]) := fun y => by
          simp [opAppend, hz2]
        have lcut : dCut (.h st.length) (some (-1)) none (st ++ [.nd .lst ((tblS ps i).map D.int)]) = .ok (.nd .lst (L1.map D.int)) (st ++ [.nd .lst ((tblS ps i).map D.int)]) := by
          simp only [dCut, lst1, cutl]
        have one : 1 ≤ szL := by rw [szL_eq]; decide
        rw [tt]
        simp only [sCons, sSet, lc, bindE, List.set_cons_succ, List.set_cons_zero, SR.seq]
        simp only [sExpr, dBML, dVar, List.getElem?_cons_zero, List.getElem?_cons_succ, Res.bind, lst1, Option.isSome_some, if_true, dCons, dNil, dCall, dBin, dConst, dLst, dNeg, dPart, dNoPart, dSlice, List.length_singleton, one, lcut, add1, add2, lmax, lapp, bindE])
      (fun env st' _ => trivial)
    obtain ⟨⟨a, b, rfl⟩, rfl⟩ := hI
    have rl : (rng 0 sz.toNat).length = sz.toNat := by simp [rng]
    rw [rl] at e
    have r1 : -(2 ^ 62) ≤ sz ∧ sz < 2 ^ 62 := by
      have : (2 : Int) ^ 62 = 4611686018427387904 := by decide
      omega
    have lp := (sFor_eq (fi := iRange1 (dCons (dVar 1) (dNil))) (tg := gN 3) (body := sCons (sSet 4 (dLc (iSeq (dVar 0)) (gT 2 (gCons' (gN 5) (gCons' (gN 6) (gNil')))) (dBool (dBin dLe (dVar 5) (dVar 3))) (dBin dAdd (dBin dIx (dVar 2) (dBin dSub (dVar 3) (dVar 5))) (dVar 6)) [5, 6]))
        (sExpr (dBML opAppend (dVar 2) (dCons (dCall dMax (dCons (dBin dAdd (dBin dAdd (dLst (dCons (dConst (.int 0)) (dNil))) (dSlice (dVar 2) (dPart (dNeg (dConst (.int 1)))) (dNoPart))) (dVar 4)) (dNil))) (dNil)))))
      (env := [some x, some (.int sz), some (.h st.length), none, none, none, none]) (st := st ++ [.nd .lst []]) (it := ⟨rng 0 sz.toNat, fun _ => True⟩) (st1 := st ++ [.nd .lst []]) (by
        simp only [iRange1, dCons, dVar, dNil, List.getElem?_cons_zero, List.getElem?_cons_succ, Res.bind]
        rw [if_pos r1])).trans e
    have z0 : 0 ≤ szL := Nat.zero_le _
    simp only [runB, b20, List.map_cons, List.map_nil, List.length_cons, List.length_nil, List.replicate, List.cons_append, List.nil_append, sCons, sSet, dLstM, dNil, Res.bind, z0, if_true, bindE, List.set_cons_succ, List.set_cons_zero, SR.seq]
    simp [lp]
  have := frzF_ok (g := [.nd .lst ((tblS ps sz.toNat).map D.int)]) run (frz_new (t := .lst) (xs := (tblS ps sz.toNat).map D.int) (Nat.le_refl _) (by simp) (noH_ints _))
  simpa [arF] using this
/-! ### the same tables -/
structure Tb (l : List Int) : Prop where
  up : l.Pairwise (· ≤ ·)
  bd : ∀ (j : Nat) (v : Int), l[j]? = some v → 0 ≤ v ∧ v ≤ 10 ^ 9 * (j : Int)
theorem Tb.top {l : List Int} (t : Tb l) {j : Nat} {v w : Int} (h : l[j]? = some v) (hw : l[l.length - 1]? = some w) : v ≤ w := by
  obtain ⟨h1, e1⟩ := List.getElem?_eq_some_iff.mp h
  obtain ⟨h2, e2⟩ := List.getElem?_eq_some_iff.mp hw
  by_cases e : j = l.length - 1
  · subst e; rw [h] at hw; cases hw; exact Int.le_refl _
  · have := List.pairwise_iff_getElem.mp t.up j (l.length - 1) h1 h2 (by omega)
    rw [e1, e2] at this; exact this
theorem Tb.snoc {l : List Int} (t : Tb l) (h0 : l ≠ []) {x : Int} (hx : ∀ w, l[l.length - 1]? = some w → w ≤ x) (hb : x ≤ 10 ^ 9 * (l.length : Int)) : Tb (l ++ [x]) := by
  have hl : 0 < l.length := List.length_pos_iff.mpr h0
  have hw : l[l.length - 1]? = some l[l.length - 1] := List.getElem?_eq_getElem (by omega)
  refine ⟨List.pairwise_append.mpr ⟨t.up, List.pairwise_singleton _ _, fun a ha b hb => ?_⟩, fun j v h => ?_⟩
  · simp at hb; subst hb
    obtain ⟨j, hj, e⟩ := List.getElem_of_mem ha
    exact Int.le_trans (t.top (j := j) (by rw [List.getElem?_eq_getElem hj, e]) hw) (hx _ hw)
  · by_cases hj : j < l.length
    · rw [List.getElem?_append_left hj] at h
      exact t.bd j v h
    · rw [List.getElem?_append_right (by omega)] at h
      have : j = l.length := by
        have := (List.getElem?_eq_some_iff.mp h).1
        simp at this; omega
      subst this
      simp at h; subst h
      exact ⟨Int.le_trans (t.bd _ _ hw).1 (hx _ hw), hb⟩
theorem getD_get {l : List Int} {j : Nat} (h : j < l.length) : l[j]? = some (l.getD j 0) := by
  simp [List.getD, List.getElem?_eq_getElem h]
theorem stepM_ge {pl : PL} {l : List Int} : l.getD (l.length - 1) 0 ≤ stepM pl l := mxL_ge _ _ List.mem_cons_self
theorem stepM_le {pl : PL} {l : List Int} (t : Tb l) (h0 : l ≠ []) (hp : ∀ p ∈ pl, 1 ≤ p.1 ∧ p.2 ≤ 10 ^ 9) : stepM pl l ≤ 10 ^ 9 * (l.length : Int) := by
  have hl : 0 < l.length := List.length_pos_iff.mpr h0
  rcases List.mem_cons.mp (mxL_mem (l.getD (l.length - 1) 0 :: (pl.filter fun p => decide (p.1 ≤ (l.length : Int))).map fun p => l.getD (l.length - p.1.toNat) 0 + p.2) (by simp)) with h | h
  · unfold stepM
    rw [h]
    have := (t.bd _ _ (getD_get (l := l) (j := l.length - 1) (by omega))).2
    omega
  · obtain ⟨p, hq, e⟩ := List.mem_map.mp h
    obtain ⟨a, b⟩ := List.mem_filter.mp hq
    have hc := of_decide_eq_true b
    have := hp p a
    unfold stepM
    rw [← e]
    have b1 := (t.bd _ _ (getD_get (l := l) (j := l.length - p.1.toNat) (by omega))).2
    have : (((l.length - p.1.toNat : Nat)) : Int) ≤ (l.length : Int) - 1 := by omega
    omega
theorem tb_M {pl : PL} (hp : ∀ p ∈ pl, 1 ≤ p.1 ∧ p.2 ≤ 10 ^ 9) : ∀ n, Tb (tblM pl n)
  | 0 => ⟨List.pairwise_singleton _ _, fun j v h => by
    cases j with
    | zero => simp [tblM] at h; subst h; simp
    | succ j => simp [tblM] at h⟩
  | n + 1 => by
    have t := tb_M hp n
    have h0 : tblM pl n ≠ [] := fun e => by have := tblM_len pl n; rw [e] at this; simp at this
    exact t.snoc h0 (fun w hw => by
      have := stepM_ge (pl := pl) (l := tblM pl n)
      have hl := tblM_len pl n
      rw [getD_get (by omega)] at hw
      cases hw; exact this) (stepM_le t h0 hp)
theorem step_same {ps : PL} {l : List Int} (t : Tb l) (h0 : l ≠ []) (hp : ∀ p ∈ ps, 1 ≤ p.1 ∧ 0 ≤ p.2) : stepS ps l = stepM (pairsOf ps) l := by
  have hl : 0 < l.length := List.length_pos_iff.mpr h0
  have dr : l.drop (l.length - 1) = [l.getD (l.length - 1) 0] := by
    rw [List.drop_eq_getElem_cons (by omega)]
    have : l.length - 1 + 1 = l.length := by omega
    simp [this, List.getD, List.getElem?_eq_getElem (show l.length - 1 < l.length by omega)]
  have top0 := (t.bd _ _ (getD_get (l := l) (j := l.length - 1) (by omega))).1
  apply Int.le_antisymm
  · unfold stepS
    rw [dr]
    rcases List.mem_cons.mp (mxL_mem (0 :: ([l.getD (l.length - 1) 0] ++ (ps.filter fun p => decide (p.1 ≤ (l.length : Int))).map fun p => l.getD (l.length - p.1.toNat) 0 + p.2)) (by simp)) with h | h
    · rw [h]; exact Int.le_trans top0 stepM_ge
    · rcases List.mem_append.mp h with h | h
      · simp only [List.mem_singleton] at h
        rw [h]; exact stepM_ge
      · obtain ⟨p, hq, e⟩ := List.mem_map.mp h
        obtain ⟨a, b⟩ := List.mem_filter.mp hq
        have hc := of_decide_eq_true b
        have := hp p a
        rw [← e]
        by_cases hz : 0 < p.2
        · exact mxL_ge _ _ (List.mem_cons_of_mem _ (List.mem_map.mpr ⟨p, List.mem_filter.mpr ⟨pairs_mem.mpr ⟨a, hz⟩, b⟩, rfl⟩))
        · have z0 : p.2 = 0 := by omega
          rw [z0, Int.add_zero]
          exact Int.le_trans (t.top (getD_get (by omega)) (getD_get (by omega))) stepM_ge
  · rcases List.mem_cons.mp (mxL_mem (l.getD (l.length - 1) 0 :: ((pairsOf ps).filter fun p => decide (p.1 ≤ (l.length : Int))).map fun p => l.getD (l.length - p.1.toNat) 0 + p.2) (by simp)) with h | h
    · unfold stepM
      rw [h]
      exact mxL_ge _ _ (by rw [dr]; simp)
    · obtain ⟨p, hq, e⟩ := List.mem_map.mp h
      obtain ⟨a, b⟩ := List.mem_filter.mp hq
      unfold stepM
      rw [← e]
      refine mxL_ge _ _ (List.mem_cons_of_mem _ (List.mem_append_right _ (List.mem_map.mpr ⟨p, List.mem_filter.mpr ⟨(pairs_mem.mp a).1, b⟩, rfl⟩)))
theorem same_tbl {ps : PL} (g : Good ps) : ∀ n, tblS ps (n + 1) = tblM (pairsOf ps) n
  | 0 => by
    have : (ps.filter fun p => decide (p.1 ≤ ((([] : List Int).length : Nat) : Int))) = [] := by
      rw [List.filter_eq_nil_iff]
      intro p hp
      have := (g.all p hp).1.1
      simp; omega
    show [] ++ [stepS ps []] = [0]
    unfold stepS
    rw [this]
    rfl
  | n + 1 => by
    have ih := same_tbl g n
    show tblS ps (n + 1) ++ [stepS ps (tblS ps (n + 1))] = tblM (pairsOf ps) n ++ [stepM (pairsOf ps) (tblM (pairsOf ps) n)]
    have hp : ∀ p ∈ pairsOf ps, 1 ≤ p.1 ∧ p.2 ≤ 10 ^ 9 := fun p h => by
      have := g.all p (pairs_mem.mp h).1
      exact ⟨this.1.1, this.2.2⟩
    rw [ih, step_same (tb_M hp n) (fun e => by have := tblM_len (pairsOf ps) n; rw [e] at this; simp at this) fun p h => ⟨(g.all p h).1.1, (g.all p h).2.1⟩]
theorem same_all {ps : PL} (g : Good ps) (m : Nat) : (tblM (pairsOf ps) (m - 1)).take m = tblS ps m := by
  cases m with
  | zero => rfl
  | succ m =>
    rw [Nat.add_sub_cancel, ← same_tbl g m]
    apply List.take_of_length_le
    rw [tblS_len]; exact Nat.le_refl _
end Q41

set_option Elab.async false
set_option linter.all false
set_option maxRecDepth 100000
set_option maxHeartbeats 4000000
/-! k41: fastest, keeps, and the law's own account of keeping. -/
namespace Q41
open PySem L2 DY
theorem ins_len (x : List Int) : ∀ l : List (List Int), (insU x l).length ≤ l.length + 1
  | [] => by simp [insU]
  | y :: ys => by
    have := ins_len x ys
    unfold insU
    split
    · simp
    · split
      · simp
      · simp; omega
theorem sortU_len : ∀ l : List (List Int), (sortU l).length ≤ l.length
  | [] => Nat.le_refl _
  | x :: l => by
    have h1 := ins_len x (sortU l)
    have h2 := sortU_len l
    show (insU x (sortU l)).length ≤ _
    simp; omega
theorem pairs_len {ps : PL} (g : Good ps) : (pairsOf ps).length ≤ 6 := by
  unfold pairsOf rowsOf
  rw [List.length_map]
  refine Nat.le_trans (sortU_len _) ?_
  rw [List.length_map]
  exact Nat.le_trans (List.length_filter_le _ _) g.len
theorem fastest (n : Nat) {x : D} {ps : PL} {sz : Int} {st : Store} (hx : Sq st x (toldD ps)) (g : Good ps) (hs : 0 ≤ sz ∧ sz ≤ 400) :
    sem (n + 5) 12 [x, .int sz] st = .ok (.h st.length) (st ++ [.nd .lst ((tblS ps sz.toNat).map D.int)]) := by
  show arF 2 (runB 2 (b12 (sem (n + 4)))) _ _ = _
  have m := made (n + 3) (pl := pairsOf ps) (sz := sz) (st := st) (fun p hp => (g.all p (pairs_mem.mp hp).1).1.1) (pairs_len g) hs
  rw [same_all g] at m
  have n0 : ¬ (400 < sz) := by omega
  simp [arF, runB, b12, need_rule n hx g, isnum, hs.1, dGt, n0, pairs_of (n + 2) hx g, m]
/-! ### keeping -/
def keepB (ps : PL) (ms : List Int) : Bool := ps.all fun p => (ms.zip (ms.drop p.1.toNat)).all fun z => decide (p.2 ≤ z.2 - z.1)
theorem zip_ints : ∀ (as bs : List Int), zipD (as.map D.int) (bs.map D.int) = (as.zip bs).map fun z => .nd .tup [.int z.1, .int z.2]
  | [], _ => by simp [zipD]
  | _ :: _, [] => by simp [zipD]
  | a :: as, b :: bs => by simp [zipD, zip_ints as bs]
theorem bools_map (l : List Bool) : bools? (l.map D.bl) = some l := by
  induction l with
  | nil => rfl
  | cons b l ih => simp [bools?, ih]
theorem cut_from {ms : List Int} {c : Int} (h : 0 ≤ c) : cutD (ms.map D.int) (some c) none = (ms.drop c.toNat).map D.int := by
  unfold cutD
  have h1 : HT.sIx (ms.map D.int).length 0 (some c) = min c.toNat ms.length := by
    show (if c < 0 then (c + ((ms.map D.int).length : Nat)).toNat else min c.toNat (ms.map D.int).length) = _
    rw [if_neg (by omega), List.length_map]
  have h2 : HT.sIx (ms.map D.int).length (ms.map D.int).length none = ms.length := by
    show (ms.map D.int).length = _
    rw [List.length_map]
  rw [h1, h2, ← List.map_drop, ← List.map_take]
  congr 1
  by_cases hc : c.toNat ≤ ms.length
  · rw [Nat.min_eq_left hc]
    apply List.take_of_length_le
    rw [List.length_drop]; omega
  · rw [Nat.min_eq_right (by omega), List.drop_length, List.drop_eq_nil_of_le (by omega)]
    simp
def okP (ms : List Int) : D → Bool
  | .nd .tup [.int c, .int t] => (ms.zip (ms.drop c.toNat)).all fun z => decide (t ≤ z.2 - z.1)
  | _ => true
def difD (t : Int) : D → Option D
  | .nd .tup [.int a, .int b] => some (.bl (decide (t ≤ b - a)))
  | _ => none
theorem dif_map (t : Int) (zs : List (Int × Int)) : (zs.map fun z => D.nd .tup [.int z.1, .int z.2]).filterMap (difD t) = (zs.map fun z => decide (t ≤ z.2 - z.1)).map D.bl := by
  induction zs with
  | nil => rfl
  | cons z zs ih => simp [difD] at ih ⊢; exact ih
theorem keeps (n : Nat) {x y : D} {ps : PL} {ms : List Int} {st : Store} (hx : Sq st x (toldD ps)) (g : Good ps) (hy : Sq st y (ms.map D.int)) (ga : Asc ms) (hm : ms.length ≤ 1000) :
    sem (n + 5) 11 [x, y] st = .ok (.bl (keepB ps ms)) st := by
  show arF 2 (runB 6 (b11 (sem (n + 4)))) _ _ = _
  obtain ⟨it, e1, e2, e3, e4⟩ := iSeq_sq (f := dVar 0) (env := [some x, some y, none, none, none, none]) (st := st) (st1 := st) (by simp) hx
  have loop := forL_ret (chk := it.chk) (tg := gT 2 (gCons' (gN 2) (gCons' (gN 3) (gNil')))) (body := sIf (dNot (dBool (dCall dAll (dCons (dLc (iZip2 (dCons (dVar 1) (dCons (dSlice (dVar 1) (dPart (dVar 2)) (dNoPart)) (dNil)))) (gT 2 (gCons' (gN 4) (gCons' (gN 5) (gNil')))) (tYesD) (dBin dGe (dBin dSub (dVar 5) (dVar 4)) (dVar 3)) [4, 5]) (dNil))))) (sRet (dConst (.bl false))) (sNil))
    (r := .bl false) (p := okP ms) (items := it.items) (fun env => ∃ a b, env = [some x, some y, a, b, none, none]) (env := [some x, some y, none, none, none, none]) (st := st) ⟨none, none, rfl⟩ e3 (fun d env hd ⟨a, b, ee⟩ => by
      subst ee
      rw [e2] at hd
      obtain ⟨p, hp, rfl⟩ := List.mem_map.mp hd
      have gp := g.all p hp
      refine ⟨[some x, some y, some (.int p.1), some (.int p.2), none, none], by simp [prD, tup?, seen], ?_⟩
      -- the zip
      have zi : ∃ chk : Store → Prop, chk st ∧ iZip2 (dCons (dVar 1) (dCons (dSlice (dVar 1) (dPart (dVar 2)) (dNoPart)) (dNil))) [some x, some y, some (.int p.1), some (.int p.2), none, none] st = .ok ⟨(ms.zip (ms.drop p.1.toNat)).map fun z => .nd .tup [.int z.1, .int z.2], chk⟩ st := by
        have cf := cut_from (ms := ms) (c := p.1) (by omega)
        rcases hy with hy | rfl
        · have l2 : lst? st (.nd .lst ((ms.drop p.1.toNat).map D.int)) = some ((ms.drop p.1.toNat).map D.int) := rfl
          refine ⟨fun st2 => lst? st2 y = some (ms.map D.int) ∧ lst? st2 (.nd .lst ((ms.drop p.1.toNat).map D.int)) = some ((ms.drop p.1.toNat).map D.int), ⟨hy.lst, rfl⟩, ?_⟩
          simp only [iZip2, dCons, dVar, dSlice, dPart, dNoPart, dNil, List.getElem?_cons_zero, List.getElem?_cons_succ, Res.bind, dCut, hy.lst, cf, l2, zip_ints]
        · have l1 : lst? st (.nd .tup (ms.map D.int)) = none := rfl
          have l2 : tupX? st (.nd .tup (ms.map D.int)) = some (ms.map D.int) := rfl
          have l3 : tup? st (.nd .tup (ms.map D.int)) = some (ms.map D.int) := rfl
          have l4 : tup? st (.nd .tup ((ms.drop p.1.toNat).map D.int)) = some ((ms.drop p.1.toNat).map D.int) := rfl
          refine ⟨fun st2 => tup? st2 (.nd .tup (ms.map D.int)) = some (ms.map D.int) ∧ tup? st2 (.nd .tup ((ms.drop p.1.toNat).map D.int)) = some ((ms.drop p.1.toNat).map D.int), ⟨rfl, rfl⟩, ?_⟩
          simp only [iZip2, dCons, dVar, dSlice, dPart, dNoPart, dNil, List.getElem?_cons_zero, List.getElem?_cons_succ, Res.bind, dCut, l1, l2, l3, l4, cf, zip_ints]
      obtain ⟨chk, hchk, ez⟩ := zi
      have c1 := compL_pure (chk := chk) (tg := gT 2 (gCons' (gN 4) (gCons' (gN 5) (gNil')))) (tst := tYesD) (elt := dBin dGe (dBin dSub (dVar 5) (dVar 4)) (dVar 3)) (own := [4, 5]) (env := [some x, some y, some (.int p.1), some (.int p.2), none, none]) (st := st) (difD p.2) hchk (items := (ms.zip (ms.drop p.1.toNat)).map fun z => .nd .tup [.int z.1, .int z.2]) (acc := []) (fun d hd => by
        obtain ⟨z, hz, rfl⟩ := List.mem_map.mp hd
        refine ⟨[some x, some y, some (.int p.1), some (.int p.2), some (.int z.1), some (.int z.2)], by simp [tup?, seen, wipeD], .inr ⟨rfl, _, ?_, rfl⟩⟩
        simp [dSub_i, dGe]) (by
        simp [szL_eq]; omega)
      rw [List.nil_append, dif_map] at c1
      have lc := dLc_eq ez c1
      have ba : okP ms (prD p) = ((ms.zip (ms.drop p.1.toNat)).map fun z => decide (p.2 ≤ z.2 - z.1)).all id := by
        show ((ms.zip (ms.drop p.1.toNat)).all fun z => decide (p.2 ≤ z.2 - z.1)) = _
        rw [List.all_map]; rfl
      generalize hB : ((ms.zip (ms.drop p.1.toNat)).map fun z => decide (p.2 ≤ z.2 - z.1)) = Bs at lc ba
      have la : dAll [.nd .lst (Bs.map D.bl)] st = .ok (.bl (Bs.all id)) st := by
        simp only [dAll, lst?, seen, Option.bind_some, bools_map]
      rw [ba]
      cases hb : Bs.all id with
      | true => exact .inl ⟨rfl, [some x, some y, some (.int p.1), some (.int p.2), none, none], by simp only [sIf, dNot, dBool, dCall, dCons, lc, Res.bind, dNil, la, hb, bindE]; rfl, _, _, rfl⟩
      | false => exact .inr ⟨rfl, by simp only [sIf, dNot, dBool, dCall, dCons, lc, Res.bind, dNil, la, hb, bindE]; rfl⟩)
  have kb : it.items.all (okP ms) = keepB ps ms := by
    rw [e2]
    show (ps.map prD).all _ = _
    rw [List.all_map]; rfl
  rw [kb] at loop
  have sf := sFor_eq (tg := gT 2 (gCons' (gN 2) (gCons' (gN 3) (gNil')))) (body := sIf (dNot (dBool (dCall dAll (dCons (dLc (iZip2 (dCons (dVar 1) (dCons (dSlice (dVar 1) (dPart (dVar 2)) (dNoPart)) (dNil)))) (gT 2 (gCons' (gN 4) (gCons' (gN 5) (gNil')))) (tYesD) (dBin dGe (dBin dSub (dVar 5) (dVar 4)) (dVar 3)) [4, 5]) (dNil))))) (sRet (dConst (.bl false))) (sNil)) e1
  rcases loop with ⟨hk, env', el, _⟩ | ⟨hk, el⟩
  · rw [el] at sf
    simp [arF, runB, b11, need_rule n hx g, need_arr n hy ga, sf, hk]
  · rw [el] at sf
    simp [arF, runB, b11, need_rule n hx g, need_arr n hy ga, sf, hk]
/-! ### the law's account -/
def lateD (ms : List Int) (c t : Int) : D → Option D
  | .int i => if ms.getD i.toNat 0 - ms.getD (i - c).toNat 0 < t then some (.int i) else none
  | _ => none
def lateL (ms : List Int) (c t : Int) : List Int := ((List.range ((ms.length : Int) - c).toNat).map fun (j : Nat) => c + (j : Int)).filter fun i => decide (ms.getD i.toNat 0 - ms.getD (i - c).toNat 0 < t)
theorem late_map (ms : List Int) (c t : Int) : (rng c ((ms.length : Int) - c).toNat).filterMap (lateD ms c t) = (lateL ms c t).map D.int := by
  unfold rng lateL
  generalize List.range ((ms.length : Int) - c).toNat = l
  induction l with
  | nil => rfl
  | cons j l ih =>
    rw [List.map_cons, List.map_cons, List.filterMap_cons, List.filter_cons]
    by_cases h : ms.getD (c + (j : Int)).toNat 0 - ms.getD (c + (j : Int) - c).toNat 0 < t
    · rw [show lateD ms c t (.int (c + (j : Int))) = some (.int (c + (j : Int))) from if_pos h, if_pos (decide_eq_true h), List.map_cons]
      dsimp only
      rw [ih]
    · rw [show lateD ms c t (.int (c + (j : Int))) = none from if_neg h, if_neg (by simpa using h)]
      exact ih
def keepL (ps : PL) (ms : List Int) : Bool := ps.all fun p => decide (lateL ms p.1 p.2 = [])
def okL (ms : List Int) : D → Bool
  | .nd .tup [.int c, .int t] => decide (lateL ms c t = [])
  | _ => true
theorem keeps_all (n : Nat) {x y : D} {ps : PL} {ms : List Int} {st : Store} (hx : Sq st x (toldD ps)) (g : Good ps) (hy : Is st y (ms.map D.int)) (hm : ms.length ≤ 1000) :
    sem (n + 1) 18 [x, y] st = .ok (.bl (keepL ps ms)) st := by
  show arF 2 (runB 5 (b18 (sem n))) _ _ = _
  obtain ⟨it, e1, e2, e3, e4⟩ := iSeq_sq (f := dVar 0) (env := [some x, some y, none, none, none]) (st := st) (st1 := st) (by simp) hx
  have len : dLen [y] st = .ok (.int (ms.length : Int)) st := by
    simp [dLen, hy.seq]
  have loop := forL_ret (chk := it.chk) (tg := gT 2 (gCons' (gN 2) (gCons' (gN 3) (gNil')))) (body := sIf (dBool (dBin dNe (dLc (iRange2 (dCons (dVar 2) (dCons (dCall dLen (dCons (dVar 1) (dNil))) (dNil)))) (gN 4) (dBool (dBin dLt (dBin dSub (dBin dIx (dVar 1) (dVar 4)) (dBin dIx (dVar 1) (dBin dSub (dVar 4) (dVar 2)))) (dVar 3))) (dVar 4) [4]) (dLst (dNil)))) (sRet (dConst (.bl false))) (sNil))
    (r := .bl false) (p := okL ms) (items := it.items) (fun env => ∃ a b, env = [some x, some y, a, b, none]) (env := [some x, some y, none, none, none]) (st := st) ⟨none, none, rfl⟩ e3 (fun d env hd ⟨a, b, ee⟩ => by
      subst ee
      rw [e2] at hd
      obtain ⟨p, hp, rfl⟩ := List.mem_map.mp hd
      have gp := g.all p hp
      refine ⟨[some x, some y, some (.int p.1), some (.int p.2), none], by simp [prD, tup?, seen], ?_⟩
      have r1 : (-(2 ^ 62) ≤ p.1 ∧ p.1 < 2 ^ 62) ∧ (-(2 ^ 62) ≤ (ms.length : Int) ∧ (ms.length : Int) < 2 ^ 62) := by
        have : (2 : Int) ^ 62 = 4611686018427387904 := by decide
        omega
      have ez : iRange2 (dCons (dVar 2) (dCons (dCall dLen (dCons (dVar 1) (dNil))) (dNil))) [some x, some y, some (.int p.1), some (.int p.2), none] st = .ok ⟨rng p.1 ((ms.length : Int) - p.1).toNat, fun _ => True⟩ st := by
        simp only [iRange2, dCons, dVar, dCall, dNil, List.getElem?_cons_zero, List.getElem?_cons_succ, Res.bind, len]
        rw [if_pos r1]
      have c1 := compL_pure (chk := fun _ => True) (tg := gN 4) (tst := dBool (dBin dLt (dBin dSub (dBin dIx (dVar 1) (dVar 4)) (dBin dIx (dVar 1) (dBin dSub (dVar 4) (dVar 2)))) (dVar 3))) (elt := dVar 4) (own := [4]) (env := [some x, some y, some (.int p.1), some (.int p.2), none]) (st := st) (lateD ms p.1 p.2) trivial (items := rng p.1 ((ms.length : Int) - p.1).toNat) (acc := []) (fun d hd => by
        unfold rng at hd
        obtain ⟨j, hj, rfl⟩ := List.mem_map.mp hd
        have hj' := List.mem_range.mp hj
        refine ⟨[some x, some y, some (.int p.1), some (.int p.2), some (.int (p.1 + (j : Int)))], by simp [wipeD], ?_⟩
        have i1 := ix_int (j := p.1 + (j : Int)) hy.seq (by omega) (by omega)
        have i2 := ix_int (j := p.1 + (j : Int) - p.1) hy.seq (by omega) (by omega)
        by_cases hc : ms.getD (p.1 + (j : Int)).toNat 0 - ms.getD (p.1 + (j : Int) - p.1).toNat 0 < p.2
        · exact .inr ⟨by simp only [dBool, dBin, dVar, List.getElem?_cons_zero, List.getElem?_cons_succ, Res.bind, i1, dSub_i, i2, dLt, onIB, decide_eq_true hc], .int (p.1 + (j : Int)), by simp, by simp only [lateD, if_pos hc]⟩
        · exact .inl ⟨by simp only [dBool, dBin, dVar, List.getElem?_cons_zero, List.getElem?_cons_succ, Res.bind, i1, dSub_i, i2, dLt, onIB, decide_eq_false hc], by simp only [lateD, if_neg hc]⟩) (by
        simp [rng, szL_eq]; omega)
      rw [List.nil_append, late_map] at c1
      have lc := dLc_eq ez c1
      have ne := ne_nil (st := st) (x := .nd .lst ((lateL ms p.1 p.2).map D.int)) (is := lateL ms p.1 p.2) (.inl rfl)
      have z0 : 0 ≤ szL := Nat.zero_le _
      show (decide (lateL ms p.1 p.2 = []) = true ∧ _) ∨ (decide (lateL ms p.1 p.2 = []) = false ∧ _)
      by_cases hb : lateL ms p.1 p.2 = []
      · refine .inl ⟨decide_eq_true hb, [some x, some y, some (.int p.1), some (.int p.2), none], ?_, _, _, rfl⟩
        rw [decide_eq_true hb] at ne
        simp only [sIf, dBool, dBin, lc, Res.bind, dLst, dNil, List.length_nil, z0, if_true, ne, bindE]
        rfl
      · refine .inr ⟨decide_eq_false hb, ?_⟩
        rw [decide_eq_false hb] at ne
        simp only [sIf, dBool, dBin, lc, Res.bind, dLst, dNil, List.length_nil, z0, if_true, ne, bindE]
        rfl)
  have kb : it.items.all (okL ms) = keepL ps ms := by
    rw [e2]
    show (ps.map prD).all _ = _
    rw [List.all_map]; rfl
  rw [kb] at loop
  have sf := sFor_eq (tg := gT 2 (gCons' (gN 2) (gCons' (gN 3) (gNil')))) (body := sIf (dBool (dBin dNe (dLc (iRange2 (dCons (dVar 2) (dCons (dCall dLen (dCons (dVar 1) (dNil))) (dNil)))) (gN 4) (dBool (dBin dLt (dBin dSub (dBin dIx (dVar 1) (dVar 4)) (dBin dIx (dVar 1) (dBin dSub (dVar 4) (dVar 2)))) (dVar 3))) (dVar 4) [4]) (dLst (dNil)))) (sRet (dConst (.bl false))) (sNil)) e1
  rcases loop with ⟨hk, env', el, _⟩ | ⟨hk, el⟩
  · rw [el] at sf
    simp [arF, runB, b18, sf, hk]
  · rw [el] at sf
    simp [arF, runB, b18, sf, hk]
theorem late_nil {ms : List Int} {c t : Int} (hc : 1 ≤ c) : lateL ms c t = [] ↔ ∀ i, i + c.toNat < ms.length → t ≤ ms.getD (i + c.toNat) 0 - ms.getD i 0 := by
  unfold lateL
  rw [List.filter_eq_nil_iff]
  constructor
  · intro h i hi
    have := h (c + (i : Int)) (List.mem_map.mpr ⟨i, List.mem_range.mpr (by omega), rfl⟩)
    have e1 : (c + (i : Int)).toNat = i + c.toNat := by omega
    have e2 : (c + (i : Int) - c).toNat = i := by omega
    rw [e1, e2] at this
    simp at this; simp; omega
  · intro h a ha
    obtain ⟨j, hj, rfl⟩ := List.mem_map.mp ha
    have := h j (by have := List.mem_range.mp hj; omega)
    have e1 : (c + (j : Int)).toNat = j + c.toNat := by omega
    have e2 : (c + (j : Int) - c).toNat = j := by omega
    rw [e1, e2]
    simp at this ⊢; omega
theorem zip_all {ms : List Int} {k : Nat} {t : Int} : ((ms.zip (ms.drop k)).all fun z => decide (t ≤ z.2 - z.1)) = true ↔ ∀ i, i + k < ms.length → t ≤ ms.getD (i + k) 0 - ms.getD i 0 := by
  rw [List.all_eq_true]
  constructor
  · intro h i hi
    have m : (ms.getD i 0, ms.getD (i + k) 0) ∈ ms.zip (ms.drop k) := by
      apply List.mem_of_getElem? (i := i)
      rw [List.getElem?_zip_eq_some]
      refine ⟨getD_get (by omega), ?_⟩
      rw [List.getElem?_drop, Nat.add_comm k i]
      exact getD_get hi
    exact of_decide_eq_true (h _ m)
  · intro h z hz
    obtain ⟨i, hi, e⟩ := List.getElem_of_mem hz
    have hg : (ms.zip (ms.drop k))[i]? = some z := by rw [List.getElem?_eq_getElem hi, e]
    rw [List.getElem?_zip_eq_some] at hg
    obtain ⟨g1, g2⟩ := hg
    rw [List.getElem?_drop, Nat.add_comm k i] at g2
    have hl : i + k < ms.length := (List.getElem?_eq_some_iff.mp g2).1
    have := h i hl
    rw [getD_get (by omega)] at g1
    rw [getD_get hl] at g2
    have e1 := Option.some.inj g1
    have e2 := Option.some.inj g2
    rw [← e1, ← e2]
    exact decide_eq_true this
theorem keep_same {ps : PL} (g : Good ps) (ms : List Int) : keepB ps ms = keepL ps ms := by
  unfold keepB keepL
  have : ∀ l : PL, (∀ p ∈ l, 1 ≤ p.1) → (l.all fun p => (ms.zip (ms.drop p.1.toNat)).all fun z => decide (p.2 ≤ z.2 - z.1)) = (l.all fun p => decide (lateL ms p.1 p.2 = [])) := by
    intro l
    induction l with
    | nil => intro _; rfl
    | cons p l ih =>
      intro h
      rw [List.all_cons, List.all_cons, ih fun q hq => h q (List.mem_cons_of_mem _ hq)]
      congr 1
      rw [Bool.eq_iff_iff, zip_all, decide_eq_true_iff, late_nil (h p List.mem_cons_self)]
  exact this ps fun p hp => (g.all p hp).1.1
/-- the fastest moments keep the rule -/
theorem tbl_get {ps : PL} : ∀ (n j : Nat), j < n → (tblS ps n).getD j 0 = stepS ps (tblS ps j)
  | n + 1, j, h => by
    have len := tblS_len ps n
    show ((tblS ps n ++ [stepS ps (tblS ps n)])[j]?).getD 0 = _
    by_cases hj : j < n
    · rw [List.getElem?_append_left (by rw [len]; exact hj)]
      exact tbl_get n j hj
    · have : j = n := by omega
      subst this
      rw [List.getElem?_append_right (by rw [len]; exact Nat.le_refl _), len]
      simp
theorem tbl_pre {ps : PL} {n j i : Nat} (hj : j ≤ n) (hi : i < j) : (tblS ps j).getD i 0 = (tblS ps n).getD i 0 := by
  rw [tbl_get j i hi, tbl_get n i (by omega)]
theorem due_keeps {ps : PL} (g : Good ps) (m : Nat) : keepB ps (tblS ps m) = true := by
  unfold keepB
  rw [List.all_eq_true]
  intro p hp
  rw [zip_all]
  intro i hi
  rw [tblS_len] at hi
  have c1 := (g.all p hp).1.1
  have e : (tblS ps m).getD (i + p.1.toNat) 0 = stepS ps (tblS ps (i + p.1.toNat)) := tbl_get m _ hi
  rw [e]
  have len := tblS_len ps (i + p.1.toNat)
  have mem : (tblS ps (i + p.1.toNat)).getD i 0 + p.2 ≤ stepS ps (tblS ps (i + p.1.toNat)) := by
    refine mxL_ge _ _ (List.mem_cons_of_mem _ (List.mem_append_right _ (List.mem_map.mpr ⟨p, List.mem_filter.mpr ⟨hp, decide_eq_true (by rw [len]; omega)⟩, ?_⟩)))
    rw [len]
    have : i + p.1.toNat - p.1.toNat = i := by omega
    rw [this]
  rw [tbl_pre (n := m) (by omega) (by omega)] at mem
  omega
end Q41

set_option Elab.async false
set_option linter.all false
set_option maxRecDepth 100000
set_option maxHeartbeats 4000000
/-! k41: the law's drawn moments. -/
namespace Q41
open PySem L2 DY
/-- whatever the draws' state -/
def Sq2 (R : Store) (x : D) (xs : List D) : Prop := ∀ q : List D, q.length = 2 → Sq (q ++ R) x xs
theorem Sq2.dr {R : Store} {x : D} {xs : List D} (h : Sq2 R x xs) {kw : Str} {b : Nat} {q : List D} (d : Dr kw b q) : Sq (q ++ R) x xs := h q (dr_len d)
theorem Sq2.app {R g : Store} {x : D} {xs : List D} (h : Sq2 R x xs) : Sq2 (R ++ g) x xs := fun q hq => by
  rw [← List.append_assoc]; exact Sq.app (h q hq)
/-- the moments drawn so far -/
structure Lm (l : List Int) : Prop where
  bd : ∀ v ∈ l, 0 ≤ v ∧ v ≤ 2 * 10 ^ 9 * (l.length : Int)
theorem getD_mem {l : List Int} {j : Nat} (h : j < l.length) : l.getD j 0 ∈ l := List.mem_of_getElem? (getD_get h)
theorem spaced (n : Nat) {b : Nat} {x : D} {ps : PL} {sz : Int} {q : List D} {R : Store} (h : Dr "widest" (b + 70) q) (hx : Sq2 R x (toldD ps)) (g : Good ps) (hs : 0 ≤ sz ∧ sz ≤ 20) :
    ∃ (ms : List Int) (q' : List D), sem (n + 4) 19 [.h 1, x, .int sz] (q ++ R) = .ok (.nd .lst (ms.map D.int)) (q' ++ R) ∧ Dr "widest" b q' ∧ ms.length = sz.toNat ∧ ∀ v ∈ ms, 0 ≤ v ∧ v ≤ 10 ^ 12 := by
  have hq := dr_len h
  -- the slack
  obtain ⟨d0, q0, e0, h0, m0⟩ := pk n (xs := [.int 1, .int 1, .int 2, .int 30]) (h.less (by omega) : Dr "widest" ((b + 69) + 1) q) ⟨Nat.succ_pos _, by show 4 < 1000; decide⟩ (R ++ [.nd .lst []])
  have : ∃ s : Int, d0 = .int s ∧ 1 ≤ s ∧ s ≤ 30 := by
    simp only [List.mem_cons, List.not_mem_nil, or_false] at m0
    rcases m0 with rfl | rfl | rfl | rfl <;> exact ⟨_, rfl, by decide, by decide⟩
  obtain ⟨s, rfl, s1, s30⟩ := this
  have hk : (q0 ++ (R ++ [D.nd .lst []])).length = 2 + R.length + 1 := by simp [dr_len h0]; omega
  have slack : s.natAbs.log2 < 9000 := by
    have : s.natAbs < 2 ^ 64 := by omega
    by_cases hz : s.natAbs = 0
    · omega
    · have := (Nat.log2_lt hz).mpr this; omega
  obtain ⟨env', st', e, hI⟩ := forL_inv (chk := fun _ => True) (tg := gN 5) (body := sCons (sSet 6 (dIfE (dBool (dBin dGt (dVar 5) (dConst (.int 0)))) (dBin dIx (dVar 3) (dBin dSub (dVar 5) (dConst (.int 1)))) (dCall (sem (n + 3) 16) (dCons (dVar 0) (dCons (dLst (dCons (dConst (.int 0)) (dCons (dConst (.int 0)) (dCons (dConst (.int 5)) (dNil))))) (dNil))))))
      (sCons (sFor (iSeq (dVar 1)) (gT 2 (gCons' (gN 7) (gCons' (gN 8) (gNil')))) (sIf (dBool (dBin dGe (dVar 5) (dVar 7))) (sSet 6 (dCall dMax (dCons (dVar 6) (dCons (dBin dAdd (dBin dIx (dVar 3) (dBin dSub (dVar 5) (dVar 7))) (dVar 8)) (dNil))))) (sNil)))
      (sExpr (dBML opAppend (dVar 3) (dCons (dBin dAdd (dVar 6) (dCall (sem (n + 3) 16) (dCons (dVar 0) (dCons (dLst (dCons (dConst (.int 0)) (dCons (dConst (.int 0)) (dCons (dConst (.int 0)) (dCons (dCall (sem (n + 3) 15) (dCons (dVar 0) (dCons (dVar 4) (dNil)))) (dNil)))))) (dNil))))) (dNil))))))
    (items := rng 0 sz.toNat) (env := [some (.h 1), some x, some (.int sz), some (.h (2 + R.length)), some (.int s), none, none, none, none]) (st := q0 ++ (R ++ [.nd .lst []]))
    (fun i env st' => i ≤ sz.toNat ∧ (∃ a b c d, env = [some (.h 1), some x, some (.int sz), some (.h (2 + R.length)), some (.int s), a, b, c, d]) ∧ ∃ q1 l, st' = q1 ++ (R ++ [.nd .lst (l.map D.int)]) ∧ Dr "widest" (b + 3 * (20 - i)) q1 ∧ l.length = i ∧ Lm l)
    ⟨Nat.zero_le _, ⟨none, none, none, none, rfl⟩, q0, [], rfl, h0.less (by omega), rfl, ⟨fun v hv => by cases hv⟩⟩ (fun i d env st' hi ⟨hisz, ⟨a, b0, c, d', ee⟩, q1, l, es, hq1, hl, hlm⟩ => by
      subst ee es
      refine ⟨trivial, ?_⟩
      have hin : i < sz.toNat := by
        have := (List.getElem?_eq_some_iff.mp hi).1
        simpa [rng] using this
      have hi20 : i < 20 := by omega
      have hd : d = .int (i : Int) := by
        unfold rng at hi
        rw [List.getElem?_map, List.getElem?_range hin] at hi
        have := (Option.some.inj hi).symm
        simpa using this
      subst hd
      have isL : ∀ q2 : List D, q2.length = 2 → Is (q2 ++ (R ++ [.nd .lst (l.map D.int)])) (.h (2 + R.length)) (l.map D.int) := fun q2 h2 => .inr ⟨_, rfl, by
        rw [List.getElem?_append_right (by omega), List.getElem?_append_right (by omega)]
        have : 2 + R.length - q2.length - R.length = 0 := by omega
        rw [this]; rfl⟩
      -- the first moment
      have first : ∃ (v : Int) (q2 : List D), dIfE (dBool (dBin dGt (dVar 5) (dConst (.int 0)))) (dBin dIx (dVar 3) (dBin dSub (dVar 5) (dConst (.int 1)))) (dCall (sem (n + 3) 16) (dCons (dVar 0) (dCons (dLst (dCons (dConst (.int 0)) (dCons (dConst (.int 0)) (dCons (dConst (.int 5)) (dNil))))) (dNil)))) [some (.h 1), some x, some (.int sz), some (.h (2 + R.length)), some (.int s), some (.int (i : Int)), b0, c, d'] (q1 ++ (R ++ [.nd .lst (l.map D.int)])) = .ok (.int v) (q2 ++ (R ++ [.nd .lst (l.map D.int)])) ∧ Dr "widest" (b + 3 * (20 - (i + 1)) + 2) q2 ∧ 0 ≤ v ∧ v ≤ 2 * 10 ^ 9 * (i : Int) + 5 := by
        by_cases hi0 : 0 < (i : Int)
        · have ix := ix_int (j := (i : Int) - 1) (isL q1 (dr_len hq1)).seq (by omega) (by omega)
          have mem := hlm.bd _ (getD_mem (l := l) (j := ((i : Int) - 1).toNat) (by omega))
          refine ⟨_, q1, ?_, hq1.less (by omega), mem.1, ?_⟩
          · simp only [dIfE, dBool, dBin, dVar, List.getElem?_cons_zero, List.getElem?_cons_succ, Res.bind, dConst, dGt, onIB, decide_eq_true hi0, if_true, dSub_i, ix]
          · rw [hl] at mem; omega
        · obtain ⟨d, q2, e2, h2, m2⟩ := pk n (xs := [.int 0, .int 0, .int 5]) (hq1.less (by omega) : Dr "widest" ((b + 3 * (20 - (i + 1)) + 2) + 1) q1) ⟨Nat.succ_pos _, by show 3 < 1000; decide⟩ (R ++ [.nd .lst (l.map D.int)])
          have : ∃ v : Int, d = .int v ∧ 0 ≤ v ∧ v ≤ 5 := by
            simp only [List.mem_cons, List.not_mem_nil, or_false] at m2
            rcases m2 with rfl | rfl | rfl <;> exact ⟨_, rfl, by decide, by decide⟩
          obtain ⟨v, rfl, v0, v5⟩ := this
          refine ⟨v, q2, ?_, h2, v0, by omega⟩
          have z3 : 3 ≤ szL := by rw [szL_eq]; decide
          simp only [dIfE, dBool, dBin, dVar, List.getElem?_cons_zero, List.getElem?_cons_succ, Res.bind, dConst, dGt, onIB, decide_eq_false hi0, Bool.false_eq_true, if_false, dCall, dCons, dNil, dLst, List.length_cons, List.length_nil, Nat.zero_add, Nat.reduceAdd, z3, if_true, e2]
      obtain ⟨v, q2, ef, hq2, v0, v5⟩ := first
      have iq2 := isL q2 (dr_len hq2)
      -- the rule
      obtain ⟨it, e1, e2, e3, e4⟩ := iSeq_sq (f := dVar 1) (env := [some (.h 1), some x, some (.int sz), some (.h (2 + R.length)), some (.int s), some (.int (i : Int)), some (.int v), c, d']) (st := q2 ++ (R ++ [.nd .lst (l.map D.int)])) (st1 := q2 ++ (R ++ [.nd .lst (l.map D.int)])) (by simp) (hx.app.dr hq2)
      obtain ⟨env2, st2, el, hJ⟩ := forL_inv (chk := it.chk) (tg := gT 2 (gCons' (gN 7) (gCons' (gN 8) (gNil')))) (body := sIf (dBool (dBin dGe (dVar 5) (dVar 7))) (sSet 6 (dCall dMax (dCons (dVar 6) (dCons (dBin dAdd (dBin dIx (dVar 3) (dBin dSub (dVar 5) (dVar 7))) (dVar 8)) (dNil))))) (sNil))
        (items := it.items) (env := [some (.h 1), some x, some (.int sz), some (.h (2 + R.length)), some (.int s), some (.int (i : Int)), some (.int v), c, d']) (st := q2 ++ (R ++ [.nd .lst (l.map D.int)]))
        (fun _ env st' => (∃ w a b, env = [some (.h 1), some x, some (.int sz), some (.h (2 + R.length)), some (.int s), some (.int (i : Int)), some (.int w), a, b] ∧ 0 ≤ w ∧ w ≤ 2 * 10 ^ 9 * (i : Int) + 10 ^ 9 + 5) ∧ st' = q2 ++ (R ++ [.nd .lst (l.map D.int)])) ⟨⟨v, c, d', rfl, v0, by omega⟩, rfl⟩ (fun k dd env st' hk ⟨⟨w, a, b', ee, w0, w1⟩, es⟩ => by
          subst ee es
          refine ⟨e3, ?_⟩
          rw [e2] at hk
          unfold toldD at hk
          rw [List.getElem?_map] at hk
          cases hp : ps[k]? with
          | none => rw [hp] at hk; cases hk
          | some p =>
            rw [hp] at hk; cases hk
            have gp := g.all p (List.mem_of_getElem? hp)
            by_cases hc : p.1 ≤ (i : Int)
            · have ix := ix_int (j := (i : Int) - p.1) iq2.seq (by omega) (by omega)
              have mem := hlm.bd _ (getD_mem (l := l) (j := ((i : Int) - p.1).toNat) (by omega))
              rw [hl] at mem
              refine ⟨[some (.h 1), some x, some (.int sz), some (.h (2 + R.length)), some (.int s), some (.int (i : Int)), some (.int w), some (.int p.1), some (.int p.2)], [some (.h 1), some x, some (.int sz), some (.h (2 + R.length)), some (.int s), some (.int (i : Int)), some (.int (if l.getD ((i : Int) - p.1).toNat 0 + p.2 > w then l.getD ((i : Int) - p.1).toNat 0 + p.2 else w)), some (.int p.1), some (.int p.2)], q2 ++ (R ++ [.nd .lst (l.map D.int)]), by simp [prD, tup?, seen], .inl ?_, ⟨_, _, _, rfl, ?_, ?_⟩, rfl⟩
              · simp only [sIf, dBool, dBin, dVar, List.getElem?_cons_zero, List.getElem?_cons_succ, Res.bind, dGe, onIB, decide_eq_true hc, bindE, if_true, sSet, dCall, dCons, dNil, dSub_i, ix, dAdd_i, dMax, List.set_cons_succ, List.set_cons_zero]
              · split <;> omega
              · split <;> omega
            · refine ⟨[some (.h 1), some x, some (.int sz), some (.h (2 + R.length)), some (.int s), some (.int (i : Int)), some (.int w), some (.int p.1), some (.int p.2)], [some (.h 1), some x, some (.int sz), some (.h (2 + R.length)), some (.int s), some (.int (i : Int)), some (.int w), some (.int p.1), some (.int p.2)], q2 ++ (R ++ [.nd .lst (l.map D.int)]), by simp [prD, tup?, seen], .inl ?_, ⟨_, _, _, rfl, w0, w1⟩, rfl⟩
              simp [dGe, hc])
        (fun env st' ⟨_, es⟩ => by subst es; exact e3)
      obtain ⟨⟨w, a2, b2, rfl, w0, w1⟩, rfl⟩ := hJ
      have sf := (sFor_eq (tg := gT 2 (gCons' (gN 7) (gCons' (gN 8) (gNil')))) (body := sIf (dBool (dBin dGe (dVar 5) (dVar 7))) (sSet 6 (dCall dMax (dCons (dVar 6) (dCons (dBin dAdd (dBin dIx (dVar 3) (dBin dSub (dVar 5) (dVar 7))) (dVar 8)) (dNil))))) (sNil)) e1).trans el
      -- the last draw
      obtain ⟨t, q3, et, hq3, t0, t1⟩ := tk (n + 1) (size := s) (hq2.less (by omega) : Dr "widest" ((b + 3 * (20 - (i + 1)) + 1) + 1) q2) ⟨by omega, slack⟩ (R ++ [.nd .lst (l.map D.int)])
      obtain ⟨d4, q4, e4', hq4, m4⟩ := pk n (xs := [.int 0, .int 0, .int 0, .int t]) (hq3 : Dr "widest" ((b + 3 * (20 - (i + 1))) + 1) q3) ⟨Nat.succ_pos _, by show 4 < 1000; decide⟩ (R ++ [.nd .lst (l.map D.int)])
      have : ∃ u : Int, d4 = .int u ∧ 0 ≤ u ∧ u ≤ 30 := by
        simp only [List.mem_cons, List.not_mem_nil, or_false] at m4
        rcases m4 with rfl | rfl | rfl | rfl
        · exact ⟨0, rfl, by decide, by decide⟩
        · exact ⟨0, rfl, by decide, by decide⟩
        · exact ⟨0, rfl, by decide, by decide⟩
        · exact ⟨t, rfl, t0, by omega⟩
      obtain ⟨u, rfl, u0, u30⟩ := this
      have lst2 : lst? (q2 ++ (R ++ [.nd .lst (l.map D.int)])) (.h (2 + R.length)) = some (l.map D.int) := iq2.lst
      have app : opAppend (.h (2 + R.length)) [.int (w + u)] (q4 ++ (R ++ [.nd .lst (l.map D.int)])) = .ok .non (q4 ++ (R ++ [.nd .lst ((l ++ [w + u]).map D.int)])) := by
        have h4 := dr_len hq4
        have g4 : (q4 ++ (R ++ [D.nd .lst (l.map D.int)]))[2 + R.length]? = some (.nd .lst (l.map D.int)) := by
          rw [List.getElem?_append_right (by omega), List.getElem?_append_right (by omega)]
          have : 2 + R.length - q4.length - R.length = 0 := by omega
          rw [this]; rfl
        have st4 : (q4 ++ (R ++ [D.nd .lst (l.map D.int)])).set (2 + R.length) (.nd .lst ((l ++ [w + u]).map D.int)) = q4 ++ (R ++ [.nd .lst ((l ++ [w + u]).map D.int)]) := by
          rw [List.set_append_right _ _ (by omega), List.set_append_right _ _ (by omega)]
          have : 2 + R.length - q4.length - R.length = 0 := by omega
          rw [this]; rfl
        have hz : (l.map D.int).length < szL := by rw [List.length_map, szL_eq]; omega
        simp only [opAppend, g4, if_pos hz]
        rw [← st4]; simp
      refine ⟨[some (.h 1), some x, some (.int sz), some (.h (2 + R.length)), some (.int s), some (.int (i : Int)), b0, c, d'], [some (.h 1), some x, some (.int sz), some (.h (2 + R.length)), some (.int s), some (.int (i : Int)), some (.int w), a2, b2], q4 ++ (R ++ [.nd .lst ((l ++ [w + u]).map D.int)]), rfl, .inl ?_, by omega, ⟨_, _, _, _, rfl⟩, q4, l ++ [w + u], rfl, hq4, by simp [hl], ⟨fun y hy => ?_⟩⟩
      · have z3 : 3 ≤ szL := by rw [szL_eq]; decide
        have z4 : 4 ≤ szL := by rw [szL_eq]; decide
        simp only [sCons, sSet, ef, bindE, List.set_cons_succ, List.set_cons_zero, SR.seq]
        rw [sf]
        simp only [sExpr, dBML, dVar, List.getElem?_cons_zero, List.getElem?_cons_succ, Res.bind, lst2, Option.isSome_some, if_true, dCons, dNil, dCall, dBin, dConst, dLst, et, List.length_cons, List.length_nil, Nat.zero_add, z4, e4', dAdd_i, app, bindE]
      · rw [List.length_append, hl]
        rcases List.mem_append.mp hy with hy | hy
        · have := hlm.bd y hy
          rw [hl] at this
          simp; omega
        · simp at hy; subst hy
          simp; omega)
    (fun env st' _ => trivial)
  obtain ⟨_, ⟨a, b', c, d, rfl⟩, q1, l, rfl, hq1, hl, hlm⟩ := hI
  have rl : (rng 0 sz.toNat).length = sz.toNat := by simp [rng]
  rw [rl] at hl hq1
  refine ⟨l, q1, ?_, hq1.less (by omega), hl, fun v hv => ?_⟩
  · have r1 : -(2 ^ 62) ≤ sz ∧ sz < 2 ^ 62 := by
      have : (2 : Int) ^ 62 = 4611686018427387904 := by decide
      omega
    have ez : iRange1 (dCons (dVar 2) (dNil)) [some (.h 1), some x, some (.int sz), some (.h (2 + R.length)), some (.int s), none, none, none, none] (q0 ++ (R ++ [.nd .lst []])) = .ok ⟨rng 0 sz.toNat, fun _ => True⟩ (q0 ++ (R ++ [.nd .lst []])) := by
      simp only [iRange1, dCons, dVar, dNil, List.getElem?_cons_zero, List.getElem?_cons_succ, Res.bind]
      rw [if_pos r1]
    have sf := (sFor_eq ez).trans e
    have run : runB 9 (b19 (sem (n + 3))) [.h 1, x, .int sz] (q ++ R) = .ok (.h (2 + R.length)) (q1 ++ R ++ [.nd .lst (l.map D.int)]) := by
      have z0 : 0 ≤ szL := Nat.zero_le _
      have z4 : 4 ≤ szL := by rw [szL_eq]; decide
      have lq : (q ++ R).length = 2 + R.length := by simp [hq]
      simp only [runB, b19, List.map_cons, List.map_nil, List.length_cons, List.length_nil, List.replicate, List.cons_append, List.nil_append, sCons, sPar, dCons, dLstM, dNil, Res.bind, z0, if_true, dCall, dVar, List.getElem?_cons_zero, List.getElem?_cons_succ, dLst, dConst, Nat.zero_add, z4, lq, List.append_assoc, e0, bindE, List.set_cons_succ, List.set_cons_zero, SR.seq]
      rw [sf]
      simp
    have lq : (q ++ R).length = 2 + R.length := by simp [hq]
    have lq1 : (q1 ++ R).length = 2 + R.length := by simp [dr_len hq1]
    have g1 : (q1 ++ R ++ [D.nd .lst (l.map D.int)])[2 + R.length]? = some (.nd .lst (l.map D.int)) := by
      rw [List.getElem?_append_right (by omega), lq1]
      simp
    have fr := frz_new (st := q1 ++ R) (g := [.nd .lst (l.map D.int)]) (t := .lst) (xs := l.map D.int) (k := 2 + R.length) (by omega) g1 (noH_ints _)
    rw [lq1, ← lq] at fr
    have fz := frzF_dr (g := [.nd .lst (l.map D.int)]) h hq1 run (by rw [← lq]; exact fr)
    show arF 3 (frzF (runB 9 (b19 (sem (n + 3))))) _ _ = _
    simpa [arF] using fz
  · have := hlm.bd v hv
    rw [hl] at this
    have : (sz.toNat : Int) ≤ 20 := by omega
    omega
end Q41

set_option Elab.async false
set_option linter.all false
set_option maxRecDepth 100000
set_option maxHeartbeats 4000000
/-! k41: the law's loops. -/
namespace Q41
open PySem L2 DY
theorem range1 {f : SemA} {env : DEnv} {st st1 : Store} {v : Int} (e : f env st = .ok [.int v] st1) (h : 0 ≤ v ∧ v ≤ 1000) : iRange1 f env st = .ok ⟨rng 0 v.toNat, fun _ => True⟩ st1 := by
  have r1 : -(2 ^ 62) ≤ v ∧ v < 2 ^ 62 := by
    have : (2 : Int) ^ 62 = 4611686018427387904 := by decide
    omega
  simp only [iRange1, e, Res.bind]
  rw [if_pos r1]
theorem rng_len (v : Nat) : (rng 0 v).length = v := by simp [rng]
theorem rng_lt {v i : Nat} {d : D} (h : (rng 0 v)[i]? = some d) : i < v ∧ d = .int (i : Int) := by
  have hin : i < v := by
    have := (List.getElem?_eq_some_iff.mp h).1
    simpa [rng] using this
  refine ⟨hin, ?_⟩
  unfold rng at h
  rw [List.getElem?_map, List.getElem?_range hin] at h
  have := (Option.some.inj h).symm
  simpa using this
theorem last_get {R : Store} {q : List D} {c : D} (h : q.length = 2) : (q ++ (R ++ [c]))[2 + R.length]? = some c := by
  rw [List.getElem?_append_right (by omega), List.getElem?_append_right (by omega)]
  have : 2 + R.length - q.length - R.length = 0 := by omega
  rw [this]; rfl
theorem last_set {R : Store} {q : List D} {c d : D} (h : q.length = 2) : (q ++ (R ++ [c])).set (2 + R.length) d = q ++ (R ++ [d]) := by
  rw [List.set_append_right _ _ (by omega), List.set_append_right _ _ (by omega)]
  have : 2 + R.length - q.length - R.length = 0 := by omega
  rw [this]; rfl
/-- an item more in the list at the end -/
theorem last_app {R : Store} {q : List D} {xs : List D} {y : D} (h : q.length = 2) (hz : xs.length ≤ 1000) : opAppend (.h (2 + R.length)) [y] (q ++ (R ++ [.nd .lst xs])) = .ok .non (q ++ (R ++ [.nd .lst (xs ++ [y])])) := by
  have : xs.length < szL := by rw [szL_eq]; omega
  simp only [opAppend, last_get h, if_pos this, last_set h]
theorem last_is {R : Store} {q : List D} {xs : List D} (h : q.length = 2) : Is (q ++ (R ++ [.nd .lst xs])) (.h (2 + R.length)) xs := .inr ⟨_, rfl, last_get h⟩
/-- the rule -/
theorem told_loop (n : Nat) {b : Nat} {q : List D} {R : Store} {e0 e2 e4 e5 e6 e7 e8 e9 e10 e11 e12 e13 : Option D} (h : Dr "widest" (b + 40) q) :
    ∃ (ps : PL) (q' : List D) (e4' : Option D), Good ps ∧ Dr "widest" b q' ∧
      sFor (iRange1 (dCons (dCall (sem (n + 5) 15) (dCons (dVar 1) (dCons (dConst (.int 7)) (dNil)))) (dNil))) (gN 4) (sExpr (dBML opAppend (dVar 3) (dCons (dTup (dCons (dBin dAdd (dConst (.int 1)) (dCall (sem (n + 5) 15) (dCons (dVar 1) (dCons (dConst (.int 12)) (dNil))))) (dCons (dCall (sem (n + 5) 17) (dCons (dVar 1) (dCons (dCall (sem (n + 5) 16) (dCons (dVar 1) (dCons (dLst (dCons (dConst (.str "small")) (dCons (dConst (.str "any")) (dNil)))) (dNil)))) (dNil)))) (dNil)))) (dNil))))
        [e0, some (.h 1), e2, some (.h (2 + R.length)), e4, e5, e6, e7, e8, e9, e10, e11, e12, e13] (q ++ (R ++ [.nd .lst []])) = .nx [e0, some (.h 1), e2, some (.h (2 + R.length)), e4', e5, e6, e7, e8, e9, e10, e11, e12, e13] (q' ++ (R ++ [.nd .lst (toldD ps)])) := by
  obtain ⟨v, q0, et, h0, v0, v7⟩ := tk (n + 3) (size := 7) (h.less (by omega) : Dr "widest" ((b + 39) + 1) q) (by decide) (R ++ [.nd .lst []])
  obtain ⟨env', st', e, hI⟩ := forL_inv (chk := fun _ => True) (tg := gN 4) (body := sExpr (dBML opAppend (dVar 3) (dCons (dTup (dCons (dBin dAdd (dConst (.int 1)) (dCall (sem (n + 5) 15) (dCons (dVar 1) (dCons (dConst (.int 12)) (dNil))))) (dCons (dCall (sem (n + 5) 17) (dCons (dVar 1) (dCons (dCall (sem (n + 5) 16) (dCons (dVar 1) (dCons (dLst (dCons (dConst (.str "small")) (dCons (dConst (.str "any")) (dNil)))) (dNil)))) (dNil)))) (dNil)))) (dNil))))
    (items := rng 0 v.toNat) (env := [e0, some (.h 1), e2, some (.h (2 + R.length)), e4, e5, e6, e7, e8, e9, e10, e11, e12, e13]) (st := q0 ++ (R ++ [.nd .lst []]))
    (fun i env st' => i ≤ v.toNat ∧ (∃ a, env = [e0, some (.h 1), e2, some (.h (2 + R.length)), a, e5, e6, e7, e8, e9, e10, e11, e12, e13]) ∧ ∃ q1 ps, st' = q1 ++ (R ++ [.nd .lst (toldD ps)]) ∧ Dr "widest" (b + 5 * (7 - i)) q1 ∧ ps.length = i ∧ ∀ p ∈ ps, (1 ≤ p.1 ∧ p.1 ≤ 12) ∧ 0 ≤ p.2 ∧ p.2 ≤ 10 ^ 9)
    ⟨Nat.zero_le _, ⟨e4, rfl⟩, q0, [], rfl, h0.less (by omega), rfl, fun p hp => by cases hp⟩ (fun i d env st' hi ⟨hiv, ⟨a, ee⟩, q1, ps, es, hq1, hl, hg⟩ => by
      subst ee es
      obtain ⟨hin, rfl⟩ := rng_lt hi
      refine ⟨trivial, ?_⟩
      have hi7 : i < 7 := by omega
      obtain ⟨c, q2, ec, h2, c0, c12⟩ := tk (n + 3) (size := 12) (hq1.less (by omega) : Dr "widest" ((b + 5 * (7 - (i + 1)) + 4) + 1) q1) (by decide) (R ++ [.nd .lst (toldD ps)])
      obtain ⟨k, q3, ek, h3, mk⟩ := pk (n + 2) (xs := [.str "small", .str "any"]) (h2 : Dr "widest" ((b + 5 * (7 - (i + 1)) + 3) + 1) q2) ⟨Nat.succ_pos _, by show 2 < 1000; decide⟩ (R ++ [.nd .lst (toldD ps)])
      have : ∃ s, k = .str s := by
        simp only [List.mem_cons, List.not_mem_nil, or_false] at mk
        rcases mk with rfl | rfl <;> exact ⟨_, rfl⟩
      obtain ⟨s, rfl⟩ := this
      obtain ⟨t, q4, et, h4, t0, t9⟩ := tm (n + 1) (b := b + 5 * (7 - (i + 1))) (k := s) h3 (R ++ [.nd .lst (toldD ps)])
      have z2 : 2 ≤ szL := by rw [szL_eq]; decide
      have lst1 := (last_is (R := R) (xs := toldD ps) (dr_len hq1)).lst
      have app := last_app (R := R) (xs := toldD ps) (y := prD (1 + c, t)) (dr_len h4) (by simp [toldD]; omega)
      refine ⟨[e0, some (.h 1), e2, some (.h (2 + R.length)), some (.int (i : Int)), e5, e6, e7, e8, e9, e10, e11, e12, e13], [e0, some (.h 1), e2, some (.h (2 + R.length)), some (.int (i : Int)), e5, e6, e7, e8, e9, e10, e11, e12, e13], q4 ++ (R ++ [.nd .lst (toldD (ps ++ [(1 + c, t)]))]), rfl, .inl ?_, by omega, ⟨_, rfl⟩, q4, ps ++ [(1 + c, t)], rfl, h4, by simp [hl], fun p hp => ?_⟩
      · have e1 : toldD (ps ++ [(1 + c, t)]) = toldD ps ++ [prD (1 + c, t)] := by simp [toldD]
        rw [e1]
        unfold prD at app ⊢
        simp only [sExpr, dBML, dVar, List.getElem?_cons_zero, List.getElem?_cons_succ, Res.bind, lst1, Option.isSome_some, if_true, dCons, dNil, dCall, dBin, dConst, dLst, dTup, ec, dAdd_i, List.length_cons, List.length_nil, Nat.zero_add, Nat.reduceAdd, z2, ek, et, app, bindE]
      · rcases List.mem_append.mp hp with hp | hp
        · exact hg p hp
        · simp only [List.mem_singleton] at hp
          subst hp
          exact ⟨⟨by show 1 ≤ 1 + c; omega, by show 1 + c ≤ 12; omega⟩, t0, t9⟩)
    (fun env st' _ => trivial)
  obtain ⟨_, ⟨a, rfl⟩, q1, ps, rfl, hq1, hl, hg⟩ := hI
  rw [rng_len] at hl hq1
  refine ⟨ps, q1, a, ⟨by omega, hg⟩, hq1.less (by omega), ?_⟩
  exact (sFor_eq (range1 (v := v) (by simp only [dCons, dCall, dVar, dConst, dNil, List.getElem?_cons_zero, List.getElem?_cons_succ, Res.bind, et]) ⟨v0, by omega⟩)).trans e
/-- moments as the law changes them -/
structure Mo (ms : List Int) : Prop where
  len : ms.length ≤ 20
  bd : ∀ v ∈ ms, 0 ≤ v ∧ v ≤ 10 ^ 12
theorem cut_to {xs : List D} {j : Int} (h : 0 ≤ j) : cutD xs none (some j) = xs.take j.toNat := by
  unfold cutD
  have h1 : HT.sIx xs.length 0 none = 0 := rfl
  have h2 : HT.sIx xs.length xs.length (some j) = min j.toNat xs.length := by
    show (if j < 0 then (j + (xs.length : Nat)).toNat else min j.toNat xs.length) = _
    rw [if_neg (by omega)]
  rw [h1, h2]
  simp only [List.drop_zero, Nat.sub_zero]
  by_cases hj : j.toNat ≤ xs.length
  · rw [Nat.min_eq_left hj]
  · rw [Nat.min_eq_right (by omega), List.take_length, List.take_of_length_le (by omega)]
noncomputable def changeB (n : Nat) : SemS := sFor (iRange1 (dCons (dCall (sem (n + 3) 16) (dCons (dVar 1) (dCons (dLst (dCons (dConst (.int 0)) (dCons (dConst (.int 1)) (dCons (dConst (.int 1)) (dCons (dConst (.int 2)) (dNil)))))) (dNil)))) (dNil))) (gN 10) (sIf (dBool (dBin dNe (dVar 9) (dLst (dNil)))) (sCons (sSet 11 (dCall (sem (n + 3) 15) (dCons (dVar 1) (dCons (dCall dLen (dCons (dVar 9) (dNil))) (dNil)))))
    (sSet 9 (dBin dAdd (dBin dAdd (dSlice (dVar 9) (dNoPart) (dPart (dVar 11))) (dLst (dCons (dCall dMax (dCons (dConst (.int 0)) (dCons (dBin dSub (dBin dIx (dVar 9) (dVar 11)) (dCall (sem (n + 3) 16) (dCons (dVar 1) (dCons (dLst (dCons (dConst (.int 1)) (dCons (dConst (.int 1)) (dCons (dConst (.int 5)) (dNil))))) (dNil))))) (dNil)))) (dNil)))) (dSlice (dVar 9) (dPart (dBin dAdd (dVar 11) (dConst (.int 1)))) (dNoPart))))) (sNil))
theorem change (n : Nat) {b : Nat} {q : List D} {R : Store} {ms : List Int} {e0 e2 e3 e4 e5 e6 e7 e8 e10 e11 e12 e13 : Option D} (h : Dr "widest" (b + 5) q) (hm : Mo ms) :
    ∃ (ms' : List Int) (q' : List D) (e10' e11' : Option D), Mo ms' ∧ Dr "widest" b q' ∧
      changeB n [e0, some (.h 1), e2, e3, e4, e5, e6, e7, e8, some (.nd .lst (ms.map D.int)), e10, e11, e12, e13] (q ++ R) = .nx [e0, some (.h 1), e2, e3, e4, e5, e6, e7, e8, some (.nd .lst (ms'.map D.int)), e10', e11', e12, e13] (q' ++ R) := by
  obtain ⟨d0, q0, ed, h0, m0⟩ := pk n (xs := [.int 0, .int 1, .int 1, .int 2]) (h.less (by omega) : Dr "widest" ((b + 4) + 1) q) ⟨Nat.succ_pos _, by show 4 < 1000; decide⟩ R
  have : ∃ s : Int, d0 = .int s ∧ 0 ≤ s ∧ s ≤ 2 := by
    simp only [List.mem_cons, List.not_mem_nil, or_false] at m0
    rcases m0 with rfl | rfl | rfl | rfl <;> exact ⟨_, rfl, by decide, by decide⟩
  obtain ⟨v, rfl, v0, v2⟩ := this
  have z4 : 4 ≤ szL := by rw [szL_eq]; decide
  have z3 : 3 ≤ szL := by rw [szL_eq]; decide
  have z1 : 1 ≤ szL := by rw [szL_eq]; decide
  have z0 : 0 ≤ szL := Nat.zero_le _
  have er := range1 (f := dCons (dCall (sem (n + 3) 16) (dCons (dVar 1) (dCons (dLst (dCons (dConst (.int 0)) (dCons (dConst (.int 1)) (dCons (dConst (.int 1)) (dCons (dConst (.int 2)) (dNil)))))) (dNil)))) (dNil)) (env := [e0, some (.h 1), e2, e3, e4, e5, e6, e7, e8, some (.nd .lst (ms.map D.int)), e10, e11, e12, e13]) (st := q ++ R) (st1 := q0 ++ R) (v := v) (by
    simp only [dCons, dCall, dVar, dConst, dNil, dLst, List.getElem?_cons_zero, List.getElem?_cons_succ, Res.bind, List.length_cons, List.length_nil, Nat.zero_add, Nat.reduceAdd, z4, if_true, ed]) ⟨v0, by omega⟩
  obtain ⟨env', st', e, hI⟩ := forL_inv (chk := fun _ => True) (tg := gN 10) (body := sIf (dBool (dBin dNe (dVar 9) (dLst (dNil)))) (sCons (sSet 11 (dCall (sem (n + 3) 15) (dCons (dVar 1) (dCons (dCall dLen (dCons (dVar 9) (dNil))) (dNil)))))
    (sSet 9 (dBin dAdd (dBin dAdd (dSlice (dVar 9) (dNoPart) (dPart (dVar 11))) (dLst (dCons (dCall dMax (dCons (dConst (.int 0)) (dCons (dBin dSub (dBin dIx (dVar 9) (dVar 11)) (dCall (sem (n + 3) 16) (dCons (dVar 1) (dCons (dLst (dCons (dConst (.int 1)) (dCons (dConst (.int 1)) (dCons (dConst (.int 5)) (dNil))))) (dNil))))) (dNil)))) (dNil)))) (dSlice (dVar 9) (dPart (dBin dAdd (dVar 11) (dConst (.int 1)))) (dNoPart))))) (sNil))
    (items := rng 0 v.toNat) (env := [e0, some (.h 1), e2, e3, e4, e5, e6, e7, e8, some (.nd .lst (ms.map D.int)), e10, e11, e12, e13]) (st := q0 ++ R)
    (fun i env st' => i ≤ v.toNat ∧ ∃ q1 ms1 a c, env = [e0, some (.h 1), e2, e3, e4, e5, e6, e7, e8, some (.nd .lst (ms1.map D.int)), a, c, e12, e13] ∧ st' = q1 ++ R ∧ Dr "widest" (b + 2 * (2 - i)) q1 ∧ Mo ms1)
    ⟨Nat.zero_le _, q0, ms, e10, e11, rfl, rfl, h0, hm⟩ (fun i d env st' hi ⟨hiv, q1, ms1, a, c, ee, es, hq1, hm1⟩ => by
      subst ee es
      obtain ⟨hin, rfl⟩ := rng_lt hi
      refine ⟨trivial, ?_⟩
      have hi2 : i < 2 := by omega
      have ne := ne_nil (st := q1 ++ R) (x := .nd .lst (ms1.map D.int)) (is := ms1) (.inl rfl)
      by_cases hz : ms1 = []
      · rw [decide_eq_true hz] at ne
        refine ⟨[e0, some (.h 1), e2, e3, e4, e5, e6, e7, e8, some (.nd .lst (ms1.map D.int)), some (.int (i : Int)), c, e12, e13], [e0, some (.h 1), e2, e3, e4, e5, e6, e7, e8, some (.nd .lst (ms1.map D.int)), some (.int (i : Int)), c, e12, e13], q1 ++ R, rfl, .inl ?_, by omega, q1, ms1, _, _, rfl, rfl, hq1.less (by omega), hm1⟩
        simp only [sIf, dBool, dBin, dVar, List.getElem?_cons_zero, List.getElem?_cons_succ, Res.bind, dLst, dNil, List.length_nil, z0, if_true, ne, bindE, Bool.not_true, Bool.false_eq_true, if_false, sNil]
      · rw [decide_eq_false hz] at ne
        have hl : 0 < ms1.length := List.length_pos_iff.mpr hz
        obtain ⟨j, q2, ej, h2, j0, j1⟩ := tk (n + 1) (size := (ms1.length : Int)) (hq1.less (by omega) : Dr "widest" ((b + 2 * (2 - (i + 1)) + 1) + 1) q1) ⟨by omega, by
          have := hm1.len
          have h64 : (ms1.length : Int).natAbs < 2 ^ 64 := by omega
          have := (Nat.log2_lt (n := (ms1.length : Int).natAbs) (by omega)).mpr h64
          omega⟩ R
        obtain ⟨d5, q3, e5', h3, m5⟩ := pk n (xs := [.int 1, .int 1, .int 5]) (h2 : Dr "widest" ((b + 2 * (2 - (i + 1))) + 1) q2) ⟨Nat.succ_pos _, by show 3 < 1000; decide⟩ R
        have : ∃ s : Int, d5 = .int s ∧ 0 ≤ s ∧ s ≤ 5 := by
          simp only [List.mem_cons, List.not_mem_nil, or_false] at m5
          rcases m5 with rfl | rfl | rfl <;> exact ⟨_, rfl, by decide, by decide⟩
        obtain ⟨s, rfl, s0, s5⟩ := this
        have len : dLen [.nd .lst (ms1.map D.int)] (q1 ++ R) = .ok (.int (ms1.length : Int)) (q1 ++ R) := by simp [dLen, seq?, lst?, seen]
        have ix := ix_int (x := .nd .lst (ms1.map D.int)) (st := q2 ++ R) (l := ms1) (j := j) rfl j0 j1
        have c1 : ∀ st, dCut (.nd .lst (ms1.map D.int)) none (some j) st = .ok (.nd .lst ((ms1.take j.toNat).map D.int)) st := fun st => by
          have := cut_to (xs := ms1.map D.int) j0
          simp only [dCut, lst?, seen, this, List.map_take]
        have c2 : ∀ st, dCut (.nd .lst (ms1.map D.int)) (some (j + 1)) none st = .ok (.nd .lst ((ms1.drop (j + 1).toNat).map D.int)) st := fun st => by
          have := cut_from (ms := ms1) (c := j + 1) (by omega)
          simp only [dCut, lst?, seen, this]
        have cat : ∀ (xs ys : List Int) (st : Store), xs.length + ys.length ≤ 100 → dAdd (.nd .lst (xs.map D.int)) (.nd .lst (ys.map D.int)) st = .ok (.nd .lst ((xs ++ ys).map D.int)) st := fun xs ys st hxy => by
          have : xs.length + ys.length ≤ szL := by rw [szL_eq]; omega
          simp [dAdd, lstX?, seen, this]
        have mx : dMax [.int 0, .int (ms1.getD j.toNat 0 - s)] (q3 ++ R) = .ok (.int (if ms1.getD j.toNat 0 - s > 0 then ms1.getD j.toNat 0 - s else 0)) (q3 ++ R) := rfl
        have gb := hm1.bd _ (getD_mem (l := ms1) (j := j.toNat) (by omega))
        generalize hy : (if ms1.getD j.toNat 0 - s > 0 then ms1.getD j.toNat 0 - s else 0) = y at mx
        have y0 : 0 ≤ y ∧ y ≤ 10 ^ 12 := by rw [← hy]; split <;> omega
        have l1 := hm1.len
        have t1 : (ms1.take j.toNat).length = j.toNat := by rw [List.length_take]; omega
        have a1 := cat (ms1.take j.toNat) [y] (q3 ++ R) (by rw [t1]; simp; omega)
        have a2 := cat (ms1.take j.toNat ++ [y]) (ms1.drop (j + 1).toNat) (q3 ++ R) (by rw [List.length_append, t1, List.length_drop]; simp; omega)
        have a1' : dAdd (.nd .lst ((ms1.take j.toNat).map D.int)) (.nd .lst [.int y]) (q3 ++ R) = .ok (.nd .lst ((ms1.take j.toNat ++ [y]).map D.int)) (q3 ++ R) := a1
        refine ⟨[e0, some (.h 1), e2, e3, e4, e5, e6, e7, e8, some (.nd .lst (ms1.map D.int)), some (.int (i : Int)), c, e12, e13], [e0, some (.h 1), e2, e3, e4, e5, e6, e7, e8, some (.nd .lst ((ms1.take j.toNat ++ [y] ++ ms1.drop (j + 1).toNat).map D.int)), some (.int (i : Int)), some (.int j), e12, e13], q3 ++ R, rfl, .inl ?_, by omega, q3, ms1.take j.toNat ++ [y] ++ ms1.drop (j + 1).toNat, _, _, rfl, rfl, h3, ⟨?_, fun z hz => ?_⟩⟩
        · simp only [sIf, dBool, dBin, dVar, List.getElem?_cons_zero, List.getElem?_cons_succ, Res.bind, dLst, dNil, List.length_nil, z0, if_true, ne, bindE, Bool.not_false, sCons, sSet, dCall, dCons, len, ej, List.set_cons_succ, List.set_cons_zero, SR.seq, dSlice, dNoPart, dPart, c1, dConst, ix, e5', dSub_i, mx, List.length_cons, Nat.zero_add, Nat.reduceAdd, z1, z3, a1', dAdd_i, c2, a2]
        · rw [List.length_append, List.length_append, t1, List.length_drop]; simp; omega
        · rcases List.mem_append.mp hz with hz | hz
          · rcases List.mem_append.mp hz with hz | hz
            · exact hm1.bd z (List.mem_of_mem_take hz)
            · simp only [List.mem_singleton] at hz; subst hz; exact y0
          · exact hm1.bd z (List.mem_of_mem_drop hz))
    (fun env st' _ => trivial)
  obtain ⟨_, q1, ms1, a, c, rfl, rfl, hq1, hm1⟩ := hI
  refine ⟨ms1, q1, a, c, hm1, hq1.less (by omega), ?_⟩
  unfold changeB
  exact (sFor_eq er).trans e
end Q41

set_option Elab.async false
set_option linter.all false
set_option maxRecDepth 100000
set_option maxHeartbeats 4000000
/-! k41: a round of the law. -/
namespace Q41
open PySem L2 DY
theorem enc_int (st : Store) (i : Int) : encD st (.int i) = .int i := rfl
theorem le_int (st : Store) (a b : Int) : decide (a ≤ b) = PySem.W.dataLe false (encD st) (.int a) (.int b) := by
  have h1 := congrFun (congrFun (PySem.W.dataLe_int (fun b : Int => b)) a) b
  rw [PySem.W.dataLe_eq] at h1
  rw [PySem.W.dataLe_eq]
  exact h1.symm
theorem sort_ints (st : Store) (ms : List Int) : sortD st (ms.map D.int) = (ms.mergeSort fun a b => decide (a ≤ b)).map D.int := by
  unfold sortD
  exact (List.map_mergeSort (fun a _ b _ => le_int st a b)).symm
theorem sort_ok (st : Store) (ms : List Int) : sortOk st (ms.map D.int) := by
  refine ⟨fun d hd => ?_, fun d hd d' hd' => ?_, .inr fun d hd => ?_⟩
  · obtain ⟨i, _, rfl⟩ := List.mem_map.mp hd
    exact ⟨⟨_, rfl⟩, by rw [enc_int]; simp [PyData.depth]⟩
  · obtain ⟨x, hx, rfl⟩ := List.mem_map.mp hd
    obtain ⟨i, _, rfl⟩ := List.mem_map.mp hx
    obtain ⟨y, hy, rfl⟩ := List.mem_map.mp hd'
    obtain ⟨j, _, rfl⟩ := List.mem_map.mp hy
    rw [enc_int, enc_int]; simp [PySem.W.alike]
  · obtain ⟨x, hx, rfl⟩ := List.mem_map.mp hd
    obtain ⟨i, _, rfl⟩ := List.mem_map.mp hx
    rw [enc_int]
    exact ⟨(fun z => nomatch z), (fun xs z => nomatch z)⟩
theorem sorted_ints (st : Store) (ms : List Int) : dSorted [.nd .lst (ms.map D.int)] st = .ok (.nd .lst ((ms.mergeSort fun a b => decide (a ≤ b)).map D.int)) st := by
  have : lst? st (.nd .lst (ms.map D.int)) = some (ms.map D.int) := rfl
  simp only [dSorted, this]
  rw [if_pos (sort_ok st ms), sort_ints]
theorem asc_sort {ms : List Int} (h : Mo ms) : Asc (ms.mergeSort fun a b => decide (a ≤ b)) ∧ (ms.mergeSort fun a b => decide (a ≤ b)).length ≤ 20 := by
  have pm := List.mergeSort_perm ms (fun a b => decide (a ≤ b))
  refine ⟨⟨?_, fun m hm => ?_⟩, by rw [pm.length_eq]; exact h.len⟩
  · have := List.pairwise_mergeSort (le := fun a b : Int => decide (a ≤ b)) (fun a b c h1 h2 => by
      have := of_decide_eq_true h1; have := of_decide_eq_true h2; exact decide_eq_true (by omega)) (fun a b => by
      rcases Int.le_total a b with z | z <;> simp [z]) ms
    exact this.imp fun h => of_decide_eq_true h
  · have := h.bd m (pm.mem_iff.mp hm)
    have e : (10 : Int) ^ 12 ≤ 10 ^ 15 := by decide
    omega
/-- the list of two answers, shown -/
theorem repr_two (a : Bool) (st : Store) : dRepr [.nd .lst [.bl a, .bl a]] st = .ok (.str (PyData.list [.bool a, .bool a]).shown) st :=
  repr_list (xs := [.bl a, .bl a]) (.inl rfl) (by show toPg _ _ = _; simp [toPg, toPgL]) (by simp [PyData.showableAll, PyData.showable]) (by cases a <;> decide) (by simp [shWL, shW])
theorem ne_str (s : Str) (st : Store) : dNe (.str s) (.str s) st = .ok (.bl false) st := by simp [dNe, eqD]
noncomputable def roundB (n : Nat) : SemS := sCons (sSet 9 (dCall (sem (n + 6) 19) (dCons (dVar 1) (dCons (dVar 3) (dCons (dCall (sem (n + 6) 15) (dCons (dVar 1) (dCons (dConst (.int 20)) (dNil)))) (dNil))))))
    (sCons (changeB (n + 3))
    (sCons (sSet 9 (dCall dSorted (dCons (dVar 9) (dNil))))
    (sCons (sPar 12 13 (dCons (dCall (sem (n + 6) 18) (dCons (dVar 3) (dCons (dVar 9) (dNil)))) (dCons (dCall dList (dCons (dVar 9) (dNil))) (dNil))))
    (sCons (sIf (dBool (dBin dNe (dCall dRepr (dCons (dLst (dCons (dCall (sem (n + 6) 11) (dCons (dVar 3) (dCons (dVar 9) (dNil)))) (dCons (dCall (kwF 2 2 [1, 0] (sem (n + 6) 11)) (dCons (dCall dTuple (dCons (dVar 9) (dNil))) (dCons (dVar 3) (dNil)))) (dNil)))) (dNil))) (dCall dRepr (dCons (dLst (dCons (dVar 12) (dCons (dVar 12) (dNil)))) (dNil))))) (sRet (dConst (.bl false))) (sNil))
    (sIf (dBool (dBin dNe (dVar 9) (dVar 13))) (sRet (dConst (.bl false))) (sNil))))))
theorem round (n : Nat) {b : Nat} {q : List D} {R : Store} {x : D} {ps : PL} {e0 e2 e4 e5 e6 e7 e8 e9 e10 e11 e12 e13 : Option D} (h : Dr "widest" (b + 80) q) (hx : Sq2 R x (toldD ps)) (g : Good ps) :
    ∃ (q' : List D) (e9' e10' e11' e12' e13' : Option D), Dr "widest" b q' ∧
      roundB n [e0, some (.h 1), e2, some x, e4, e5, e6, e7, e8, e9, e10, e11, e12, e13] (q ++ R) = .nx [e0, some (.h 1), e2, some x, e4, e5, e6, e7, e8, e9', e10', e11', e12', e13'] (q' ++ R) := by
  obtain ⟨v, q0, et, h0, v0, v20⟩ := tk (n + 4) (size := 20) (h.less (by omega) : Dr "widest" ((b + 79) + 1) q) (by decide) R
  obtain ⟨ms, q1, es, h1, hl, hb⟩ := spaced (n + 2) (b := b + 9) (sz := v) h0 hx g ⟨v0, by omega⟩
  have mo : Mo ms := ⟨by omega, hb⟩
  obtain ⟨ms2, q2, a10, a11, mo2, h2, ec⟩ := change (n + 3) (b := b + 4) (R := R) (e0 := e0) (e2 := e2) (e3 := some x) (e4 := e4) (e5 := e5) (e6 := e6) (e7 := e7) (e8 := e8) (e10 := e10) (e11 := e11) (e12 := e12) (e13 := e13) h1 mo
  obtain ⟨asc, l3⟩ := asc_sort mo2
  have so := sorted_ints (q2 ++ R) ms2
  generalize (ms2.mergeSort fun a b => decide (a ≤ b)) = ms3 at asc l3 so
  have sx := hx.dr h2
  have ka := keeps_all (n + 5) sx g (y := .nd .lst (ms3.map D.int)) (.inl rfl) (by omega)
  have k1 := keeps (n + 1) sx g (y := .nd .lst (ms3.map D.int)) (.l (.inl rfl)) asc (by omega)
  have k2 := keeps (n + 1) sx g (y := .nd .tup (ms3.map D.int)) (.t rfl) asc (by omega)
  rw [keep_same g] at k1 k2
  have li : dList [.nd .lst (ms3.map D.int)] (q2 ++ R) = .ok (.nd .lst (ms3.map D.int)) (q2 ++ R) := rfl
  have tu : dTuple [.nd .lst (ms3.map D.int)] (q2 ++ R) = .ok (.nd .tup (ms3.map D.int)) (q2 ++ R) := rfl
  have kw : kwF 2 2 [1, 0] (sem (n + 6) 11) [.nd .tup (ms3.map D.int), x] (q2 ++ R) = .ok (.bl (keepL ps ms3)) (q2 ++ R) := by
    show (if _ then _ else _) = _
    rw [if_pos ⟨rfl, rfl, rfl⟩]
    exact k2
  have r2 := repr_two (keepL ps ms3) (q2 ++ R)
  have nes := ne_str (PyData.list [.bool (keepL ps ms3), .bool (keepL ps ms3)]).shown (q2 ++ R)
  have nei := ne_ints (st := q2 ++ R) (x := .nd .lst (ms3.map D.int)) (y := .nd .lst (ms3.map D.int)) (is := ms3) (js := ms3) (.inl rfl) (.inl rfl)
  rw [decide_eq_true rfl] at nei
  have z2 : 2 ≤ szL := by rw [szL_eq]; decide
  refine ⟨q2, some (.nd .lst (ms3.map D.int)), a10, a11, some (.bl (keepL ps ms3)), some (.nd .lst (ms3.map D.int)), h2.less (by omega), ?_⟩
  unfold roundB
  simp only [sCons, sSet, dCall, dCons, dVar, dConst, dNil, List.getElem?_cons_zero, List.getElem?_cons_succ, Res.bind, et, es, bindE, List.set_cons_succ, List.set_cons_zero, SR.seq]
  rw [ec]
  simp only [sCons, sSet, dCall, dCons, dVar, dConst, dNil, List.getElem?_cons_zero, List.getElem?_cons_succ, Res.bind, so, bindE, List.set_cons_succ, List.set_cons_zero, SR.seq, sPar, ka, li, sIf, dBool, dBin, dLst, k1, tu, kw, List.length_cons, List.length_nil, Nat.zero_add, Nat.reduceAdd, z2, if_true, r2, nes, Bool.false_eq_true, if_false, sNil, nei, Bool.not_true]
end Q41

set_option Elab.async false
set_option linter.all false
set_option maxRecDepth 100000
set_option maxHeartbeats 4000000
/-! k41: the law holds on data. -/
namespace Q41
open PySem L2 DY
def prP (p : Int × Int) : PyData := .tuple [.int p.1, .int p.2]
theorem toPg_told (dr : Nat → Option PyData) : ∀ ps : PL, toPgL dr (toldD ps) = some (ps.map prP)
  | [] => rfl
  | p :: ps => by
    have ih := toPg_told dr ps
    unfold toldD at ih ⊢
    simp only [List.map_cons, toPgL, ih]
    simp [prD, prP, toPg, toPgL]
theorem repr_told {x : D} {st : Store} {ps : PL} (hx : Is st x (toldD ps)) (g : Good ps) : dRepr [x] st = .ok (.str (PyData.list (ps.map prP)).shown) st := by
  have hp : toP deepP st x = some (.list (ps.map prP)) := hx.toPd fun dr => toPg_told dr ps
  have sm : ∀ l : PL, (∀ p ∈ l, (1 ≤ p.1 ∧ p.1 ≤ 12) ∧ 0 ≤ p.2 ∧ p.2 ≤ 10 ^ 9) → PyData.showableAll (l.map prP) = true ∧ PyData.plainAll (l.map prP) = true ∧ PyData.depthAll (l.map prP) ≤ 2 ∧ shWL (l.map prP) ≤ 4000 * l.length := by
    intro l
    induction l with
    | nil => intro _; simp [PyData.showableAll, PyData.plainAll, PyData.depthAll, shWL]
    | cons p l ih =>
      intro h
      obtain ⟨a, b, c, d⟩ := ih fun q hq => h q (List.mem_cons_of_mem _ hq)
      have hp := h p List.mem_cons_self
      have p64 : (2 : Int) ^ 64 = 18446744073709551616 := by decide
      have s1 := log_small (i := p.1) (by omega) (by omega)
      have s2 := log_small (i := p.2) (by omega) (by omega)
      refine ⟨by simp [PyData.showableAll, PyData.showable, prP, s1, s2] at a ⊢; exact a, by simp [PyData.plainAll, PyData.plain, prP] at b ⊢; exact b, ?_, ?_⟩
      · simp only [List.map_cons, PyData.depthAll, prP, PyData.depth] at c ⊢
        omega
      · simp only [List.map_cons, shWL, prP, shW, List.length_cons] at d ⊢
        omega
  obtain ⟨a, b, c, d⟩ := sm ps g.all
  have := g.len
  refine repr_list hx hp a ?_ (by omega)
  unfold shp
  simp only [PyData.plain, b, Bool.true_and, PyData.depth]
  exact decide_eq_true (by omega)
theorem tbl_tb {ps : PL} (g : Good ps) (m : Nat) : Tb (tblS ps m) := by
  cases m with
  | zero => exact ⟨List.Pairwise.nil, fun j v h => by simp [tblS] at h⟩
  | succ m =>
    rw [same_tbl g m]
    refine tb_M (fun p h => ?_) m
    have := g.all p (pairs_mem.mp h).1
    exact ⟨this.1.1, this.2.2⟩
theorem tbl_bd {ps : PL} (g : Good ps) {m : Nat} (hm : m ≤ 400) : ∀ v ∈ tblS ps m, 0 ≤ v ∧ v ≤ 10 ^ 12 := by
  intro v hv
  obtain ⟨j, hj, e⟩ := List.getElem_of_mem hv
  have := (tbl_tb g m).bd j v (by rw [List.getElem?_eq_getElem hj, e])
  rw [tblS_len] at hj
  have h1 : (j : Int) ≤ 400 := by omega
  omega
theorem tbl_asc {ps : PL} (g : Good ps) {m : Nat} (hm : m ≤ 400) : Asc (tblS ps m) :=
  ⟨(tbl_tb g m).up, fun v hv => by
    have := tbl_bd g hm v hv
    have e : (10 : Int) ^ 12 ≤ 10 ^ 15 := by decide
    omega⟩
noncomputable def outB (n : Nat) : SemS :=
    sCons (sSet 3 (dLstM (dNil)))
    (sCons (sFor (iRange1 (dCons (dCall (sem (n + 6) 15) (dCons (dVar 1) (dCons (dConst (.int 7)) (dNil)))) (dNil))) (gN 4) (sExpr (dBML opAppend (dVar 3) (dCons (dTup (dCons (dBin dAdd (dConst (.int 1)) (dCall (sem (n + 6) 15) (dCons (dVar 1) (dCons (dConst (.int 12)) (dNil))))) (dCons (dCall (sem (n + 6) 17) (dCons (dVar 1) (dCons (dCall (sem (n + 6) 16) (dCons (dVar 1) (dCons (dLst (dCons (dConst (.str "small")) (dCons (dConst (.str "any")) (dNil)))) (dNil)))) (dNil)))) (dNil)))) (dNil)))))
    (sCons (sPar 3 5 (dCons (dCall (sem (n + 6) 16) (dCons (dVar 1) (dCons (dLst (dCons (dVar 3) (dCons (dBin dAdd (dSlice (dVar 3) (dNoPart) (dPart (dConst (.int 1)))) (dSlice (dVar 3) (dNoPart) (dPart (dConst (.int 1))))) (dCons (dVar 3) (dNil))))) (dNil)))) (dCons (dCall (sem (n + 6) 16) (dCons (dVar 1) (dCons (dLst (dCons (dConst (.int 0)) (dCons (dConst (.int 1)) (dCons (dConst (.int 5)) (dCons (dConst (.int 13)) (dCons (dConst (.int 30)) (dCons (dConst (.int 400)) (dNil)))))))) (dNil)))) (dNil))))
    (sCons (sPar 6 7 (dCons (dCall dRepr (dCons (dVar 3) (dNil))) (dCons (dCall (sem (n + 6) 20) (dCons (dVar 3) (dCons (dVar 5) (dNil)))) (dNil))))
    (sCons (sSet 8 (dCall (sem (n + 6) 12) (dCons (dVar 3) (dCons (dVar 5) (dNil)))))
    (sCons (sIf (dOr (dBool (dBin dNe (dCall dRepr (dCons (dVar 8) (dNil))) (dCall dRepr (dCons (dVar 7) (dNil))))) (dBool (dBin dNe (dCall dRepr (dCons (dVar 3) (dNil))) (dVar 6)))) (sRet (dConst (.bl false))) (sNil))
    (sCons (sExpr (dBML opAppend (dVar 8) (dCons (dConst (.int 0)) (dNil))))
    (sCons (sIf (dOr (dBool (dBin dNe (dCall (kwF 2 2 [0, 1] (sem (n + 6) 12)) (dCons (dCall dTuple (dCons (dVar 3) (dNil))) (dCons (dVar 5) (dNil)))) (dVar 7))) (dBool (dBin dNotB (dCall (sem (n + 6) 11) (dCons (dVar 3) (dCons (dVar 7) (dNil)))) (dConst (.bl true))))) (sRet (dConst (.bl false))) (sNil))
    (sFor (iRange1 (dCons (dConst (.int 3)) (dNil))) (gN 4) (roundB n)))))))))
theorem rounds (n : Nat) {b : Nat} {q : List D} {R : Store} {x : D} {ps : PL} {e0 e2 e4 e5 e6 e7 e8 e9 e10 e11 e12 e13 : Option D} (h : Dr "widest" (b + 240) q) (hx : Sq2 R x (toldD ps)) (g : Good ps) :
    ∃ (q' : List D) (e4' e9' e10' e11' e12' e13' : Option D), Dr "widest" b q' ∧
      sFor (iRange1 (dCons (dConst (.int 3)) (dNil))) (gN 4) (roundB n) [e0, some (.h 1), e2, some x, e4, e5, e6, e7, e8, e9, e10, e11, e12, e13] (q ++ R) = .nx [e0, some (.h 1), e2, some x, e4', e5, e6, e7, e8, e9', e10', e11', e12', e13'] (q' ++ R) := by
  obtain ⟨env', st', e, hI⟩ := forL_inv (chk := fun _ => True) (tg := gN 4) (body := roundB n) (items := rng 0 3) (env := [e0, some (.h 1), e2, some x, e4, e5, e6, e7, e8, e9, e10, e11, e12, e13]) (st := q ++ R)
    (fun i env st' => i ≤ 3 ∧ ∃ q1 a4 a9 a10 a11 a12 a13, env = [e0, some (.h 1), e2, some x, a4, e5, e6, e7, e8, a9, a10, a11, a12, a13] ∧ st' = q1 ++ R ∧ Dr "widest" (b + 80 * (3 - i)) q1) ⟨Nat.zero_le _, q, e4, e9, e10, e11, e12, e13, rfl, rfl, h⟩
    (fun i d env st' hi ⟨_, q1, a4, a9, a10, a11, a12, a13, ee, es, h1⟩ => by
      subst ee es
      obtain ⟨hin, rfl⟩ := rng_lt hi
      obtain ⟨q2, b9, b10, b11, b12, b13, h2, er⟩ := round n (b := b + 80 * (3 - (i + 1))) (R := R) (x := x) (ps := ps) (e0 := e0) (e2 := e2) (e4 := some (.int (i : Int))) (e5 := e5) (e6 := e6) (e7 := e7) (e8 := e8) (e9 := a9) (e10 := a10) (e11 := a11) (e12 := a12) (e13 := a13) (h1.less (by omega)) hx g
      exact ⟨trivial, _, _, _, rfl, .inl er, by omega, q2, _, b9, b10, b11, b12, b13, rfl, rfl, h2⟩)
    (fun env st' _ => trivial)
  obtain ⟨_, q1, a4, a9, a10, a11, a12, a13, rfl, rfl, h1⟩ := hI
  refine ⟨q1, a4, a9, a10, a11, a12, a13, h1.less (by omega), ?_⟩
  exact (sFor_eq (range1 (v := 3) (by simp only [dCons, dConst, dNil, Res.bind]) (by decide))).trans e
theorem out (n : Nat) {b : Nat} {q : List D} {R : Store} {e0 e2 e3 e4 e5 e6 e7 e8 e9 e10 e11 e12 e13 : Option D} (h : Dr "widest" (b + 300) q) :
    ∃ (q' : List D) (R' : Store) (a3 a4 a5 a6 a7 a8 a9 a10 a11 a12 a13 : Option D), Dr "widest" b q' ∧
      outB n [e0, some (.h 1), e2, e3, e4, e5, e6, e7, e8, e9, e10, e11, e12, e13] (q ++ R) = .nx [e0, some (.h 1), e2, a3, a4, a5, a6, a7, a8, a9, a10, a11, a12, a13] (q' ++ R') := by
  have z0 : 0 ≤ szL := Nat.zero_le _
  have z3 : 3 ≤ szL := by rw [szL_eq]; decide
  have z6 : 6 ≤ szL := by rw [szL_eq]; decide
  have lq : (q ++ R).length = 2 + R.length := by simp [dr_len h]
  obtain ⟨ps, q1, a4, g, h1, et⟩ := told_loop (n + 1) (b := b + 242) (R := R) (e0 := e0) (e2 := e2) (e4 := e4) (e5 := e5) (e6 := e6) (e7 := e7) (e8 := e8) (e9 := e9) (e10 := e10) (e11 := e11) (e12 := e12) (e13 := e13) (h.less (by omega))
  -- the rule that is taken
  have is1 := fun (q2 : List D) (h2 : q2.length = 2) => last_is (R := R) (xs := toldD ps) (q := q2) h2
  have tl : (toldD ps).length ≤ 6 := by simpa [toldD] using g.len
  have cut1 : dCut (.h (2 + R.length)) none (some 1) (q1 ++ (R ++ [.nd .lst (toldD ps)])) = .ok (.nd .lst ((toldD ps).take 1)) (q1 ++ (R ++ [.nd .lst (toldD ps)])) := by
    have c := cut_to (xs := toldD ps) (j := 1) (by decide)
    simp only [dCut, (is1 q1 (dr_len h1)).lst, c]
    rfl
  have add1 : dAdd (.nd .lst ((toldD ps).take 1)) (.nd .lst ((toldD ps).take 1)) (q1 ++ (R ++ [.nd .lst (toldD ps)])) = .ok (.nd .lst ((toldD ps).take 1 ++ (toldD ps).take 1)) (q1 ++ (R ++ [.nd .lst (toldD ps)])) := by
    have : ((toldD ps).take 1).length + ((toldD ps).take 1).length ≤ szL := by rw [List.length_take, szL_eq]; omega
    simp only [dAdd, lstX?, seen, if_pos this]
  obtain ⟨x, q2, ex, h2, mx⟩ := pk (n + 3) (xs := [.h (2 + R.length), .nd .lst ((toldD ps).take 1 ++ (toldD ps).take 1), .h (2 + R.length)]) (h1 : Dr "widest" ((b + 241) + 1) q1) ⟨Nat.succ_pos _, by show 3 < 1000; decide⟩ (R ++ [.nd .lst (toldD ps)])
  have : ∃ ps' : PL, Good ps' ∧ ∀ q3 : List D, q3.length = 2 → Is (q3 ++ (R ++ [.nd .lst (toldD ps)])) x (toldD ps') := by
    simp only [List.mem_cons, List.not_mem_nil, or_false] at mx
    rcases mx with rfl | rfl | rfl
    · exact ⟨ps, g, is1⟩
    · refine ⟨ps.take 1 ++ ps.take 1, ⟨by rw [List.length_append, List.length_take]; omega, fun p hp => ?_⟩, fun q3 _ => .inl ?_⟩
      · rcases List.mem_append.mp hp with hp | hp <;> exact g.all p (List.mem_of_mem_take hp)
      · simp [toldD]
    · exact ⟨ps, g, is1⟩
  obtain ⟨ps', g', isx⟩ := this
  generalize hR1 : R ++ [D.nd .lst (toldD ps)] = R1 at et cut1 add1 ex isx
  have sqx : Sq2 R1 x (toldD ps') := fun q3 h3 => .l (isx q3 h3)
  -- the number of items
  obtain ⟨d5, q3, e5', h3, m5⟩ := pk (n + 3) (xs := [.int 0, .int 1, .int 5, .int 13, .int 30, .int 400]) (h2 : Dr "widest" ((b + 240) + 1) q2) ⟨Nat.succ_pos _, by show 6 < 1000; decide⟩ R1
  have : ∃ s : Int, d5 = .int s ∧ 0 ≤ s ∧ s ≤ 400 := by
    simp only [List.mem_cons, List.not_mem_nil, or_false] at m5
    rcases m5 with rfl | rfl | rfl | rfl | rfl | rfl <;> exact ⟨_, rfl, by decide, by decide⟩
  obtain ⟨sz, rfl, s0, s4⟩ := this
  have m400 : sz.toNat ≤ 400 := by omega
  have l3 := dr_len h3
  -- both tables
  have rt := repr_told (isx q3 l3) g'
  have so := soon (n + 5) (sqx q3 l3) g' ⟨s0, s4⟩
  have fa := fastest (n + 1) (sqx q3 l3) g' ⟨s0, s4⟩
  have lq3 : (q3 ++ R1).length = 2 + R1.length := by simp [l3]
  rw [lq3, List.append_assoc] at fa
  generalize hT : tblS ps' sz.toNat = T at so fa
  have tT : T.length ≤ 400 := by rw [← hT, tblS_len]; exact m400
  have bT : ∀ v ∈ T, 0 ≤ v ∧ v < 2 ^ 64 := by
    intro v hv
    rw [← hT] at hv
    have := tbl_bd g' m400 v hv
    have e : (10 : Int) ^ 12 < 2 ^ 64 := by decide
    omega
  have isx2 : Is (q3 ++ (R1 ++ [.nd .lst (T.map D.int)])) x (toldD ps') := by
    rw [← List.append_assoc]; exact Is.app (isx q3 l3)
  have rt2 := repr_told isx2 g'
  have rf := repr_ints (last_is (R := R1) (xs := T.map D.int) (q := q3) l3) (by omega) bT
  have rd := repr_ints (x := .nd .lst (T.map D.int)) (st := q3 ++ (R1 ++ [.nd .lst (T.map D.int)])) (.inl rfl) (by omega) bT
  have n1 := ne_str (PyData.list (T.map PyData.int)).shown (q3 ++ (R1 ++ [.nd .lst (T.map D.int)]))
  have n2 := ne_str (PyData.list (ps'.map prP)).shown (q3 ++ (R1 ++ [.nd .lst (T.map D.int)]))
  have lstT := (last_is (R := R1) (xs := T.map D.int) (q := q3) l3).lst
  have ap := last_app (R := R1) (xs := T.map D.int) (y := .int 0) (q := q3) l3 (by rw [List.length_map]; omega)
  have isx3 : Is (q3 ++ (R1 ++ [.nd .lst (T.map D.int ++ [.int 0])])) x (toldD ps') := by
    rw [← List.append_assoc]; exact Is.app (isx q3 l3)
  have tu : dTuple [x] (q3 ++ (R1 ++ [.nd .lst (T.map D.int ++ [.int 0])])) = .ok (.nd .tup (toldD ps')) (q3 ++ (R1 ++ [.nd .lst (T.map D.int ++ [.int 0])])) := by
    simp only [dTuple, isx3.lst]
  have fk0 := fastest (n + 1) (x := .nd .tup (toldD ps')) (ps := ps') (sz := sz) (st := q3 ++ (R1 ++ [.nd .lst (T.map D.int ++ [.int 0])])) (.t rfl) g' ⟨s0, s4⟩
  rw [hT] at fk0
  have fk : kwF 2 2 [0, 1] (sem (n + 6) 12) [.nd .tup (toldD ps'), .int sz] (q3 ++ (R1 ++ [.nd .lst (T.map D.int ++ [.int 0])])) = .ok (.h (q3 ++ (R1 ++ [D.nd .lst (T.map D.int ++ [.int 0])])).length) (q3 ++ (R1 ++ [D.nd .lst (T.map D.int ++ [.int 0])]) ++ [D.nd .lst (T.map D.int)]) := by
    show (if _ then _ else _) = _
    rw [if_pos ⟨rfl, rfl, rfl⟩]
    exact fk0
  generalize hS : q3 ++ (R1 ++ [D.nd .lst (T.map D.int ++ [.int 0])]) = S at fk tu isx3 ap
  have isx4 : Is (S ++ [D.nd .lst (T.map D.int)]) x (toldD ps') := Is.app isx3
  have nei := ne_ints (st := S ++ [D.nd .lst (T.map D.int)]) (x := .h S.length) (y := .nd .lst (T.map D.int)) (is := T) (js := T) (.inr ⟨_, rfl, by simp⟩) (.inl rfl)
  rw [decide_eq_true rfl] at nei
  have kp := keeps (n + 1) (x := x) (y := .nd .lst (T.map D.int)) (ms := T) (st := S ++ [D.nd .lst (T.map D.int)]) (.l isx4) g' (.l (.inl rfl)) (by rw [← hT]; exact tbl_asc g' m400) (by omega)
  have kt : keepB ps' T = true := by rw [← hT]; exact due_keeps g' _
  rw [kt] at kp
  have nb : dNotB (.bl true) (.bl true) (S ++ [D.nd .lst (T.map D.int)]) = .ok (.bl false) (S ++ [D.nd .lst (T.map D.int)]) := rfl
  have eS : S ++ [D.nd .lst (T.map D.int)] = q3 ++ (R1 ++ [D.nd .lst (T.map D.int ++ [.int 0])] ++ [D.nd .lst (T.map D.int)]) := by rw [← hS]; simp
  have sq4 : Sq2 (R1 ++ [D.nd .lst (T.map D.int ++ [.int 0])] ++ [D.nd .lst (T.map D.int)]) x (toldD ps') := Sq2.app (Sq2.app sqx)
  obtain ⟨q4, b4, b9, b10, b11, b12, b13, h4, er⟩ := rounds n (b := b) (q := q3) (R := R1 ++ [D.nd .lst (T.map D.int ++ [.int 0])] ++ [D.nd .lst (T.map D.int)]) (x := x) (ps := ps') (e0 := e0) (e2 := e2) (e4 := a4) (e5 := some (.int sz)) (e6 := some (.str (PyData.list (ps'.map prP)).shown)) (e7 := some (.nd .lst (T.map D.int))) (e8 := some (.h (2 + R1.length))) (e9 := e9) (e10 := e10) (e11 := e11) (e12 := e12) (e13 := e13) h3 sq4 g'
  refine ⟨q4, R1 ++ [D.nd .lst (T.map D.int ++ [.int 0])] ++ [D.nd .lst (T.map D.int)], some x, b4, some (.int sz), some (.str (PyData.list (ps'.map prP)).shown), some (.nd .lst (T.map D.int)), some (.h (2 + R1.length)), b9, b10, b11, b12, b13, h4, ?_⟩
  unfold outB
  simp only [sCons, sSet, dLstM, dNil, Res.bind, List.length_nil, z0, if_true, bindE, List.set_cons_succ, List.set_cons_zero, SR.seq, lq, List.append_assoc]
  rw [et]
  simp only [sCons, sPar, SR.seq, dCons, dCall, dVar, dLst, dSlice, dNoPart, dPart, dConst, dBin, dNil, List.getElem?_cons_zero, List.getElem?_cons_succ, Res.bind, cut1, add1, List.length_cons, List.length_nil, Nat.zero_add, Nat.reduceAdd, z3, z6, if_true, ex, e5', bindE, List.set_cons_succ, List.set_cons_zero, rt, so, sSet, fa]
  simp only [sCons, SR.seq, sIf, dOr, dBool, dBin, dCall, dCons, dVar, dNil, dConst, List.getElem?_cons_zero, List.getElem?_cons_succ, Res.bind, rf, rd, n1, rt2, n2, bindE, Bool.false_eq_true, if_false, sNil, sExpr, dBML, lstT, Option.isSome_some, if_true, ap, tu, fk, nei, Bool.not_true, kp, nb]
  rw [eS, er]
  simp only [List.append_assoc]
theorem law_all (n : Nat) {ns : List Int} (hl : ns.length ≤ 63) : ∃ st, sem (n + 7) 21 [scrD ns] [] = .ok (.bl true) st := by
  obtain ⟨q, eb, hq⟩ := beg_ok (kw := "widest") kwW hl
  have eb' : sem (n + 6) 13 [scrD ns] [] = .ok (.h 1) q := eb
  have lenS : dLen [scrD ns] q = .ok (.int (ns.length : Int)) q := by simp [dLen, seq?, lst?, seen, scrD]
  have mn : ∃ m : Int, dMin [.int (ns.length : Int), .int 20] q = .ok (.int m) q ∧ 0 ≤ m ∧ m ≤ 20 := by
    refine ⟨if (20 : Int) < ns.length then 20 else ns.length, rfl, ?_, ?_⟩ <;> split <;> omega
  obtain ⟨m, em, m0, m20⟩ := mn
  obtain ⟨env', st', e, hI⟩ := forL_inv (chk := fun _ => True) (tg := gN 2) (body := outB n) (items := rng 0 (4 + m).toNat) (env := [some (scrD ns), some (.h 1), none, none, none, none, none, none, none, none, none, none, none, none]) (st := q)
    (fun i env st' => i ≤ (4 + m).toNat ∧ ∃ q1 R a2 a3 a4 a5 a6 a7 a8 a9 a10 a11 a12 a13, env = [some (scrD ns), some (.h 1), a2, a3, a4, a5, a6, a7, a8, a9, a10, a11, a12, a13] ∧ st' = q1 ++ R ∧ Dr "widest" (300 * (24 - i)) q1)
    ⟨Nat.zero_le _, q, [], none, none, none, none, none, none, none, none, none, none, none, none, rfl, by simp, hq.less (by decide)⟩
    (fun i d env st' hi ⟨_, q1, R, a2, a3, a4, a5, a6, a7, a8, a9, a10, a11, a12, a13, ee, es, h1⟩ => by
      subst ee es
      obtain ⟨hin, rfl⟩ := rng_lt hi
      have hi24 : i < 24 := by omega
      obtain ⟨q2, R2, b3, b4, b5, b6, b7, b8, b9, b10, b11, b12, b13, h2, eo⟩ := out n (b := 300 * (24 - (i + 1))) (R := R) (e0 := some (scrD ns)) (e2 := some (.int (i : Int))) (e3 := a3) (e4 := a4) (e5 := a5) (e6 := a6) (e7 := a7) (e8 := a8) (e9 := a9) (e10 := a10) (e11 := a11) (e12 := a12) (e13 := a13) (h1.less (by omega))
      exact ⟨trivial, _, _, _, rfl, .inl eo, by omega, q2, R2, _, b3, b4, b5, b6, b7, b8, b9, b10, b11, b12, b13, rfl, rfl, h2⟩)
    (fun env st' _ => trivial)
  obtain ⟨_, q1, R, a2, a3, a4, a5, a6, a7, a8, a9, a10, a11, a12, a13, rfl, rfl, h1⟩ := hI
  have sf := (sFor_eq (fi := iRange1 (dCons (dBin dAdd (dConst (.int 4)) (dCall dMin (dCons (dCall dLen (dCons (dVar 0) (dNil))) (dCons (dConst (.int 20)) (dNil))))) (dNil))) (tg := gN 2) (body := outB n) (range1 (v := 4 + m) (env := [some (scrD ns), some (.h 1), none, none, none, none, none, none, none, none, none, none, none, none]) (st := q) (st1 := q) (by
    simp only [dCons, dBin, dCall, dVar, dConst, dNil, List.getElem?_cons_zero, Res.bind, lenS, em, dAdd_i]) (by omega))).trans e
  have b21e : b21 (sem (n + 6)) = sCons (sSet 1 (dCall (sem (n + 6) 13) (dCons (dVar 0) (dNil)))) (sCons (sFor (iRange1 (dCons (dBin dAdd (dConst (.int 4)) (dCall dMin (dCons (dCall dLen (dCons (dVar 0) (dNil))) (dCons (dConst (.int 20)) (dNil))))) (dNil))) (gN 2) (outB n)) (sRet (dConst (.bl true)))) := rfl
  refine ⟨q1 ++ R, ?_⟩
  show arF 1 (runB 14 (b21 (sem (n + 6)))) _ _ = _
  rw [b21e]
  simp only [arF, List.length_cons, List.length_nil, Nat.zero_add, if_true, runB, List.map_cons, List.map_nil, List.replicate, List.cons_append, List.nil_append, sCons, sSet, dCall, dCons, dVar, dNil, List.getElem?_cons_zero, Res.bind, eb', bindE, List.set_cons_succ, List.set_cons_zero, SR.seq]
  rw [sf]
  simp
theorem law_ok (ns : List Int) (hl : ns.length ≤ 63) : ∃ st, sem 40 21 [scrD ns] [] = .ok (.bl true) st := law_all 33 hl
end Q41

set_option Elab.async false
set_option linter.all false
set_option maxRecDepth 100000
set_option maxHeartbeats 4000000
namespace Q41
open PySem PySem.Spec PyProof.Rows L2 DY
theorem all_mk {l : PySem.W.OpenLaw} {w : World} {K : PySem.W.Frag} {h : Heap} {mg : Str → Option Value} {q0 : Addr} (X : K.In h) (G : h.Ns mainGlobals mg) (hfa : mg "law" = some (.ref q0))
    {f0 f1 f2 f3 f4 f5 f6 f7 f8 f9 f10 f11 f12 f13 f14 f15 f16 f17 f18 f19 f20 f21 : Addr} {od0 an0 od1 an1 od2 an2 od3 an3 od4 an4 od5 an5 od6 an6 od7 an7 od8 an8 od9 an9 od10 an10 od11 an11 od12 an12 od13 an13 od14 an14 od15 an15 od16 an16 od17 an17 od18 an18 od19 an19 od20 an20 od21 an21 : Option Addr} {sl0 sl1 sl2 sl3 sl4 sl5 sl6 sl7 sl8 sl9 sl10 sl11 sl12 sl13 sl14 sl15 sl16 sl17 sl18 sl19 sl20 sl21 : Array (Option Value)}
    {oc0 kV0 dc0 pm0 cd0 ct0 oc1 kV1 dc1 pm1 cd1 ct1 oc2 kV2 dc2 pm2 cd2 ct2 oc3 kV3 dc3 pm3 cd3 ct3 oc4 kV4 dc4 pm4 cd4 ct4 oc5 kV5 dc5 pm5 cd5 ct5 oc6 kV6 dc6 pm6 cd6 ct6 oc7 kV7 dc7 pm7 cd7 ct7 oc8 kV8 dc8 pm8 cd8 ct8 oc9 kV9 dc9 pm9 cd9 ct9 oc10 kV10 dc10 pm10 cd10 ct10 oc11 kV11 dc11 pm11 cd11 ct11 oc12 kV12 dc12 pm12 cd12 ct12 oc13 kV13 dc13 pm13 cd13 ct13 oc14 kV14 dc14 pm14 cd14 ct14 oc15 kV15 dc15 pm15 cd15 ct15 oc16 kV16 dc16 pm16 cd16 ct16 oc17 kV17 dc17 pm17 cd17 ct17 oc18 kV18 dc18 pm18 cd18 ct18 oc19 kV19 dc19 pm19 cd19 ct19 oc20 kV20 dc20 pm20 cd20 ct20 oc21 kV21 dc21 pm21 cd21 ct21 : Value} {t_GREATEST_MOMENT t_GREATEST_TIME t_MOST_COUNT t_MOST_PAIRS t_MOST_ITEMS : Tok}
    (a0 : PySem.W.nsIn K mainGlobals "is_number" = some (some (.ref f0)))
    (l0 : K.lookup f0 = some ⟨oc0, od0, .func (PySem.W.fnOf "is_number" "is_number" (defArgs s0) (defBody s0) (defScope s0) .none kV0 dc0 pm0 an0 cd0 ct0), sl0⟩)
    (c0 : PySem.W.codeIn K cd0 "is_number" = true)
    (k0 : PySem.W.keepIn K (.ref f0) = true)
    (a1 : PySem.W.nsIn K mainGlobals "sorted_pairs" = some (some (.ref f1)))
    (l1 : K.lookup f1 = some ⟨oc1, od1, .func (PySem.W.fnOf "sorted_pairs" "sorted_pairs" (defArgs s1) (defBody s1) (defScope s1) .none kV1 dc1 pm1 an1 cd1 ct1), sl1⟩)
    (c1 : PySem.W.codeIn K cd1 "sorted_pairs" = true)
    (k1 : PySem.W.keepIn K (.ref f1) = true)
    (a2 : PySem.W.nsIn K mainGlobals "made_table" = some (some (.ref f2)))
    (l2 : K.lookup f2 = some ⟨oc2, od2, .func (PySem.W.fnOf "made_table" "made_table" (defArgs s2) (defBody s2) (defScope s2) .none kV2 dc2 pm2 an2 cd2 ct2), sl2⟩)
    (c2 : PySem.W.codeIn K cd2 "made_table" = true)
    (k2 : PySem.W.keepIn K (.ref f2) = true)
    (a3 : PySem.W.nsIn K mainGlobals "is_moment" = some (some (.ref f3)))
    (l3 : K.lookup f3 = some ⟨oc3, od3, .func (PySem.W.fnOf "is_moment" "is_moment" (defArgs s3) (defBody s3) (defScope s3) .none kV3 dc3 pm3 an3 cd3 ct3), sl3⟩)
    (c3 : PySem.W.codeIn K cd3 "is_moment" = true)
    (k3 : PySem.W.keepIn K (.ref f3) = true)
    (a4 : PySem.W.nsIn K mainGlobals "first_bad" = some (some (.ref f4)))
    (l4 : K.lookup f4 = some ⟨oc4, od4, .func (PySem.W.fnOf "first_bad" "first_bad" (defArgs s4) (defBody s4) (defScope s4) .none kV4 dc4 pm4 an4 cd4 ct4), sl4⟩)
    (c4 : PySem.W.codeIn K cd4 "first_bad" = true)
    (k4 : PySem.W.keepIn K (.ref f4) = true)
    (a5 : PySem.W.nsIn K mainGlobals "need_arrivals" = some (some (.ref f5)))
    (l5 : K.lookup f5 = some ⟨oc5, od5, .func (PySem.W.fnOf "need_arrivals" "need_arrivals" (defArgs s5) (defBody s5) (defScope s5) .none kV5 dc5 pm5 an5 cd5 ct5), sl5⟩)
    (c5 : PySem.W.codeIn K cd5 "need_arrivals" = true)
    (k5 : PySem.W.keepIn K (.ref f5) = true)
    (a6 : PySem.W.nsIn K mainGlobals "is_time" = some (some (.ref f6)))
    (l6 : K.lookup f6 = some ⟨oc6, od6, .func (PySem.W.fnOf "is_time" "is_time" (defArgs s6) (defBody s6) (defScope s6) .none kV6 dc6 pm6 an6 cd6 ct6), sl6⟩)
    (c6 : PySem.W.codeIn K cd6 "is_time" = true)
    (k6 : PySem.W.keepIn K (.ref f6) = true)
    (a7 : PySem.W.nsIn K mainGlobals "is_count" = some (some (.ref f7)))
    (l7 : K.lookup f7 = some ⟨oc7, od7, .func (PySem.W.fnOf "is_count" "is_count" (defArgs s7) (defBody s7) (defScope s7) .none kV7 dc7 pm7 an7 cd7 ct7), sl7⟩)
    (c7 : PySem.W.codeIn K cd7 "is_count" = true)
    (k7 : PySem.W.keepIn K (.ref f7) = true)
    (a8 : PySem.W.nsIn K mainGlobals "is_pair" = some (some (.ref f8)))
    (l8 : K.lookup f8 = some ⟨oc8, od8, .func (PySem.W.fnOf "is_pair" "is_pair" (defArgs s8) (defBody s8) (defScope s8) .none kV8 dc8 pm8 an8 cd8 ct8), sl8⟩)
    (c8 : PySem.W.codeIn K cd8 "is_pair" = true)
    (k8 : PySem.W.keepIn K (.ref f8) = true)
    (a9 : PySem.W.nsIn K mainGlobals "need_rule" = some (some (.ref f9)))
    (l9 : K.lookup f9 = some ⟨oc9, od9, .func (PySem.W.fnOf "need_rule" "need_rule" (defArgs s9) (defBody s9) (defScope s9) .none kV9 dc9 pm9 an9 cd9 ct9), sl9⟩)
    (c9 : PySem.W.codeIn K cd9 "need_rule" = true)
    (k9 : PySem.W.keepIn K (.ref f9) = true)
    (a10 : PySem.W.nsIn K mainGlobals "pairs_of" = some (some (.ref f10)))
    (l10 : K.lookup f10 = some ⟨oc10, od10, .func (PySem.W.fnOf "pairs_of" "pairs_of" (defArgs s10) (defBody s10) (defScope s10) .none kV10 dc10 pm10 an10 cd10 ct10), sl10⟩)
    (c10 : PySem.W.codeIn K cd10 "pairs_of" = true)
    (k10 : PySem.W.keepIn K (.ref f10) = true)
    (a11 : PySem.W.nsIn K mainGlobals "keeps" = some (some (.ref f11)))
    (l11 : K.lookup f11 = some ⟨oc11, od11, .func (PySem.W.fnOf "keeps" "keeps" (defArgs s11) (defBody s11) (defScope s11) .none kV11 dc11 pm11 an11 cd11 ct11), sl11⟩)
    (c11 : PySem.W.codeIn K cd11 "keeps" = true)
    (k11 : PySem.W.keepIn K (.ref f11) = true)
    (a12 : PySem.W.nsIn K mainGlobals "fastest" = some (some (.ref f12)))
    (l12 : K.lookup f12 = some ⟨oc12, od12, .func (PySem.W.fnOf "fastest" "fastest" (defArgs s12) (defBody s12) (defScope s12) .none kV12 dc12 pm12 an12 cd12 ct12), sl12⟩)
    (c12 : PySem.W.codeIn K cd12 "fastest" = true)
    (k12 : PySem.W.keepIn K (.ref f12) = true)
    (a13 : PySem.W.nsIn K mainGlobals "_law_begun" = some (some (.ref f13)))
    (l13 : K.lookup f13 = some ⟨oc13, od13, .func (PySem.W.fnOf "_law_begun" "_law_begun" (defArgs s13) (defBody s13) (defScope s13) .none kV13 dc13 pm13 an13 cd13 ct13), sl13⟩)
    (c13 : PySem.W.codeIn K cd13 "_law_begun" = true)
    (k13 : PySem.W.keepIn K (.ref f13) = true)
    (a14 : PySem.W.nsIn K mainGlobals "_law_mixed" = some (some (.ref f14)))
    (l14 : K.lookup f14 = some ⟨oc14, od14, .func (PySem.W.fnOf "_law_mixed" "_law_mixed" (defArgs s14) (defBody s14) (defScope s14) .none kV14 dc14 pm14 an14 cd14 ct14), sl14⟩)
    (c14 : PySem.W.codeIn K cd14 "_law_mixed" = true)
    (k14 : PySem.W.keepIn K (.ref f14) = true)
    (a15 : PySem.W.nsIn K mainGlobals "_law_take" = some (some (.ref f15)))
    (l15 : K.lookup f15 = some ⟨oc15, od15, .func (PySem.W.fnOf "_law_take" "_law_take" (defArgs s15) (defBody s15) (defScope s15) .none kV15 dc15 pm15 an15 cd15 ct15), sl15⟩)
    (c15 : PySem.W.codeIn K cd15 "_law_take" = true)
    (k15 : PySem.W.keepIn K (.ref f15) = true)
    (a16 : PySem.W.nsIn K mainGlobals "_law_pick" = some (some (.ref f16)))
    (l16 : K.lookup f16 = some ⟨oc16, od16, .func (PySem.W.fnOf "_law_pick" "_law_pick" (defArgs s16) (defBody s16) (defScope s16) .none kV16 dc16 pm16 an16 cd16 ct16), sl16⟩)
    (c16 : PySem.W.codeIn K cd16 "_law_pick" = true)
    (k16 : PySem.W.keepIn K (.ref f16) = true)
    (a17 : PySem.W.nsIn K mainGlobals "_law_time" = some (some (.ref f17)))
    (l17 : K.lookup f17 = some ⟨oc17, od17, .func (PySem.W.fnOf "_law_time" "_law_time" (defArgs s17) (defBody s17) (defScope s17) .none kV17 dc17 pm17 an17 cd17 ct17), sl17⟩)
    (c17 : PySem.W.codeIn K cd17 "_law_time" = true)
    (k17 : PySem.W.keepIn K (.ref f17) = true)
    (a18 : PySem.W.nsIn K mainGlobals "_law_keeps_all" = some (some (.ref f18)))
    (l18 : K.lookup f18 = some ⟨oc18, od18, .func (PySem.W.fnOf "_law_keeps_all" "_law_keeps_all" (defArgs s18) (defBody s18) (defScope s18) .none kV18 dc18 pm18 an18 cd18 ct18), sl18⟩)
    (c18 : PySem.W.codeIn K cd18 "_law_keeps_all" = true)
    (k18 : PySem.W.keepIn K (.ref f18) = true)
    (a19 : PySem.W.nsIn K mainGlobals "_law_spaced" = some (some (.ref f19)))
    (l19 : K.lookup f19 = some ⟨oc19, od19, .func (PySem.W.fnOf "_law_spaced" "_law_spaced" (defArgs s19) (defBody s19) (defScope s19) .none kV19 dc19 pm19 an19 cd19 ct19), sl19⟩)
    (c19 : PySem.W.codeIn K cd19 "_law_spaced" = true)
    (k19 : PySem.W.keepIn K (.ref f19) = true)
    (a20 : PySem.W.nsIn K mainGlobals "_law_soon" = some (some (.ref f20)))
    (l20 : K.lookup f20 = some ⟨oc20, od20, .func (PySem.W.fnOf "_law_soon" "_law_soon" (defArgs s20) (defBody s20) (defScope s20) .none kV20 dc20 pm20 an20 cd20 ct20), sl20⟩)
    (c20 : PySem.W.codeIn K cd20 "_law_soon" = true)
    (k20 : PySem.W.keepIn K (.ref f20) = true)
    (a21 : PySem.W.nsIn K mainGlobals "law" = some (some (.ref f21)))
    (l21 : K.lookup f21 = some ⟨oc21, od21, .func (PySem.W.fnOf "law" "law" (defArgs s21) (defBody s21) (defScope s21) .none kV21 dc21 pm21 an21 cd21 ct21), sl21⟩)
    (c21 : PySem.W.codeIn K cd21 "law" = true)
    (k21 : PySem.W.keepIn K (.ref f21) = true)
    (g_GREATEST_MOMENT : PySem.W.nsIn K mainGlobals "GREATEST_MOMENT" = some (some (.int 1000000000000000 t_GREATEST_MOMENT)))
    (g_GREATEST_TIME : PySem.W.nsIn K mainGlobals "GREATEST_TIME" = some (some (.int 1000000000 t_GREATEST_TIME)))
    (g_MOST_COUNT : PySem.W.nsIn K mainGlobals "MOST_COUNT" = some (some (.int 12 t_MOST_COUNT)))
    (g_MOST_PAIRS : PySem.W.nsIn K mainGlobals "MOST_PAIRS" = some (some (.int 6 t_MOST_PAIRS)))
    (g_MOST_ITEMS : PySem.W.nsIn K mainGlobals "MOST_ITEMS" = some (some (.int 400 t_MOST_ITEMS)))
    (z_isinstance : PySem.W.nsIn K mainGlobals "isinstance" = some none)
    (z_int : PySem.W.nsIn K mainGlobals "int" = some none)
    (z_bool : PySem.W.nsIn K mainGlobals "bool" = some none)
    (z_sorted : PySem.W.nsIn K mainGlobals "sorted" = some none)
    (z_set : PySem.W.nsIn K mainGlobals "set" = some none)
    (z_tuple : PySem.W.nsIn K mainGlobals "tuple" = some none)
    (z_range : PySem.W.nsIn K mainGlobals "range" = some none)
    (z_max : PySem.W.nsIn K mainGlobals "max" = some none)
    (z_enumerate : PySem.W.nsIn K mainGlobals "enumerate" = some none)
    (z_list : PySem.W.nsIn K mainGlobals "list" = some none)
    (z_len : PySem.W.nsIn K mainGlobals "len" = some none)
    (z_zip : PySem.W.nsIn K mainGlobals "zip" = some none)
    (z_all : PySem.W.nsIn K mainGlobals "all" = some none)
    (z_abs : PySem.W.nsIn K mainGlobals "abs" = some none)
    (z_min : PySem.W.nsIn K mainGlobals "min" = some none)
    (z_repr : PySem.W.nsIn K mainGlobals "repr" = some none)
    : ∃ (fd : FuncData) (cl : Nat → Addr), (∀ (s : Shared) (u : Value), BindsTo s fd ⟨[u], []⟩ [("_law_script", u)]) ∧ ∀ base : Heap, K.In base → base.Ns mainGlobals mg → FnG l.prog w K mg base (2 * 40) q0 fd ["_law_script"] (spF ⟨K, cl⟩ 1 (sem 40 21)) := by
  cases hfa.symm.trans (PySem.W.mg_of X G a21)
  have F0 := fun_mk (st := s0) l0 c0 k0
  have F1 := fun_mk (st := s1) l1 c1 k1
  have F2 := fun_mk (st := s2) l2 c2 k2
  have F3 := fun_mk (st := s3) l3 c3 k3
  have F4 := fun_mk (st := s4) l4 c4 k4
  have F5 := fun_mk (st := s5) l5 c5 k5
  have F6 := fun_mk (st := s6) l6 c6 k6
  have F7 := fun_mk (st := s7) l7 c7 k7
  have F8 := fun_mk (st := s8) l8 c8 k8
  have F9 := fun_mk (st := s9) l9 c9 k9
  have F10 := fun_mk (st := s10) l10 c10 k10
  have F11 := fun_mk (st := s11) l11 c11 k11
  have F12 := fun_mk (st := s12) l12 c12 k12
  have F13 := fun_mk (st := s13) l13 c13 k13
  have F14 := fun_mk (st := s14) l14 c14 k14
  have F15 := fun_mk (st := s15) l15 c15 k15
  have F16 := fun_mk (st := s16) l16 c16 k16
  have F17 := fun_mk (st := s17) l17 c17 k17
  have F18 := fun_mk (st := s18) l18 c18 k18
  have F19 := fun_mk (st := s19) l19 c19 k19
  have F20 := fun_mk (st := s20) l20 c20 k20
  have F21 := fun_mk (st := s21) l21 c21 k21
  have b0 := F0.binds (ps := p0) fun _ _ _ _ _ _ us hl => match us, hl with | [_], _ => rfl
  have b1 := F1.binds (ps := p1) fun _ _ _ _ _ _ us hl => match us, hl with | [_], _ => rfl
  have b2 := F2.binds (ps := p2) fun _ _ _ _ _ _ us hl => match us, hl with | [_, _], _ => rfl
  have b3 := F3.binds (ps := p3) fun _ _ _ _ _ _ us hl => match us, hl with | [_], _ => rfl
  have b4 := F4.binds (ps := p4) fun _ _ _ _ _ _ us hl => match us, hl with | [_], _ => rfl
  have b5 := F5.binds (ps := p5) fun _ _ _ _ _ _ us hl => match us, hl with | [_], _ => rfl
  have b6 := F6.binds (ps := p6) fun _ _ _ _ _ _ us hl => match us, hl with | [_], _ => rfl
  have b7 := F7.binds (ps := p7) fun _ _ _ _ _ _ us hl => match us, hl with | [_], _ => rfl
  have b8 := F8.binds (ps := p8) fun _ _ _ _ _ _ us hl => match us, hl with | [_], _ => rfl
  have b9 := F9.binds (ps := p9) fun _ _ _ _ _ _ us hl => match us, hl with | [_], _ => rfl
  have b10 := F10.binds (ps := p10) fun _ _ _ _ _ _ us hl => match us, hl with | [_], _ => rfl
  have b11 := F11.binds (ps := p11) fun _ _ _ _ _ _ us hl => match us, hl with | [_, _], _ => rfl
  have b12 := F12.binds (ps := p12) fun _ _ _ _ _ _ us hl => match us, hl with | [_, _], _ => rfl
  have b13 := F13.binds (ps := p13) fun _ _ _ _ _ _ us hl => match us, hl with | [_], _ => rfl
  have b14 := F14.binds (ps := p14) fun _ _ _ _ _ _ us hl => match us, hl with | [_], _ => rfl
  have b15 := F15.binds (ps := p15) fun _ _ _ _ _ _ us hl => match us, hl with | [_, _], _ => rfl
  have b16 := F16.binds (ps := p16) fun _ _ _ _ _ _ us hl => match us, hl with | [_, _], _ => rfl
  have b17 := F17.binds (ps := p17) fun _ _ _ _ _ _ us hl => match us, hl with | [_, _], _ => rfl
  have b18 := F18.binds (ps := p18) fun _ _ _ _ _ _ us hl => match us, hl with | [_, _], _ => rfl
  have b19 := F19.binds (ps := p19) fun _ _ _ _ _ _ us hl => match us, hl with | [_, _, _], _ => rfl
  have b20 := F20.binds (ps := p20) fun _ _ _ _ _ _ us hl => match us, hl with | [_, _], _ => rfl
  have b21 := F21.binds (ps := p21) fun _ _ _ _ _ _ us hl => match us, hl with | [_], _ => rfl
  let fa : Nat → Addr := fun i => [f0, f1, f2, f3, f4, f5, f6, f7, f8, f9, f10, f11, f12, f13, f14, f15, f16, f17, f18, f19, f20, q0].getD i 0
  let fd : Nat → FuncData := fun i => [(PySem.W.fnOf "is_number" "is_number" (defArgs s0) (defBody s0) (defScope s0) .none kV0 dc0 pm0 an0 cd0 ct0), (PySem.W.fnOf "sorted_pairs" "sorted_pairs" (defArgs s1) (defBody s1) (defScope s1) .none kV1 dc1 pm1 an1 cd1 ct1), (PySem.W.fnOf "made_table" "made_table" (defArgs s2) (defBody s2) (defScope s2) .none kV2 dc2 pm2 an2 cd2 ct2), (PySem.W.fnOf "is_moment" "is_moment" (defArgs s3) (defBody s3) (defScope s3) .none kV3 dc3 pm3 an3 cd3 ct3), (PySem.W.fnOf "first_bad" "first_bad" (defArgs s4) (defBody s4) (defScope s4) .none kV4 dc4 pm4 an4 cd4 ct4), (PySem.W.fnOf "need_arrivals" "need_arrivals" (defArgs s5) (defBody s5) (defScope s5) .none kV5 dc5 pm5 an5 cd5 ct5), (PySem.W.fnOf "is_time" "is_time" (defArgs s6) (defBody s6) (defScope s6) .none kV6 dc6 pm6 an6 cd6 ct6), (PySem.W.fnOf "is_count" "is_count" (defArgs s7) (defBody s7) (defScope s7) .none kV7 dc7 pm7 an7 cd7 ct7), (PySem.W.fnOf "is_pair" "is_pair" (defArgs s8) (defBody s8) (defScope s8) .none kV8 dc8 pm8 an8 cd8 ct8), (PySem.W.fnOf "need_rule" "need_rule" (defArgs s9) (defBody s9) (defScope s9) .none kV9 dc9 pm9 an9 cd9 ct9), (PySem.W.fnOf "pairs_of" "pairs_of" (defArgs s10) (defBody s10) (defScope s10) .none kV10 dc10 pm10 an10 cd10 ct10), (PySem.W.fnOf "keeps" "keeps" (defArgs s11) (defBody s11) (defScope s11) .none kV11 dc11 pm11 an11 cd11 ct11), (PySem.W.fnOf "fastest" "fastest" (defArgs s12) (defBody s12) (defScope s12) .none kV12 dc12 pm12 an12 cd12 ct12), (PySem.W.fnOf "_law_begun" "_law_begun" (defArgs s13) (defBody s13) (defScope s13) .none kV13 dc13 pm13 an13 cd13 ct13), (PySem.W.fnOf "_law_mixed" "_law_mixed" (defArgs s14) (defBody s14) (defScope s14) .none kV14 dc14 pm14 an14 cd14 ct14), (PySem.W.fnOf "_law_take" "_law_take" (defArgs s15) (defBody s15) (defScope s15) .none kV15 dc15 pm15 an15 cd15 ct15), (PySem.W.fnOf "_law_pick" "_law_pick" (defArgs s16) (defBody s16) (defScope s16) .none kV16 dc16 pm16 an16 cd16 ct16), (PySem.W.fnOf "_law_time" "_law_time" (defArgs s17) (defBody s17) (defScope s17) .none kV17 dc17 pm17 an17 cd17 ct17), (PySem.W.fnOf "_law_keeps_all" "_law_keeps_all" (defArgs s18) (defBody s18) (defScope s18) .none kV18 dc18 pm18 an18 cd18 ct18), (PySem.W.fnOf "_law_spaced" "_law_spaced" (defArgs s19) (defBody s19) (defScope s19) .none kV19 dc19 pm19 an19 cd19 ct19), (PySem.W.fnOf "_law_soon" "_law_soon" (defArgs s20) (defBody s20) (defScope s20) .none kV20 dc20 pm20 an20 cd20 ct20), (PySem.W.fnOf "law" "law" (defArgs s21) (defBody s21) (defScope s21) .none kV21 dc21 pm21 an21 cd21 ct21)].getD i (PySem.W.fnOf "is_number" "is_number" (defArgs s0) (defBody s0) (defScope s0) .none kV0 dc0 pm0 an0 cd0 ct0)
  let cl : Nat → Addr := fun i => ([] : List Addr).getD i 0
  have FXi : FX K fa fd := ⟨F0, F1, F2, F3, F4, F5, F6, F7, F8, F9, F10, F11, F12, F13, F14, F15, F16, F17, F18, F19, F20, F21, b0, b1, b2, b3, b4, b5, b6, b7, b8, b9, b10, b11, b12, b13, b14, b15, b16, b17, b18, b19, b20, b21, k0, k1, k2, k3, k4, k5, k6, k7, k8, k9, k10, k11, k12, k13, k14, k15, k16, k17, k18, k19, k20, k21⟩
  have LXi : LX K mg cl fa fd := ⟨PySem.W.mg_of X G a0, PySem.W.mg_of X G a1, PySem.W.mg_of X G a2, PySem.W.mg_of X G a3, PySem.W.mg_of X G a4, PySem.W.mg_of X G a5, PySem.W.mg_of X G a6, PySem.W.mg_of X G a7, PySem.W.mg_of X G a8, PySem.W.mg_of X G a9, PySem.W.mg_of X G a10, PySem.W.mg_of X G a11, PySem.W.mg_of X G a12, PySem.W.mg_of X G a13, PySem.W.mg_of X G a14, PySem.W.mg_of X G a15, PySem.W.mg_of X G a16, PySem.W.mg_of X G a17, PySem.W.mg_of X G a18, PySem.W.mg_of X G a19, PySem.W.mg_of X G a20, PySem.W.mg_of X G a21, ⟨_, PySem.W.mg_of X G g_GREATEST_MOMENT⟩, ⟨_, PySem.W.mg_of X G g_GREATEST_TIME⟩, ⟨_, PySem.W.mg_of X G g_MOST_COUNT⟩, ⟨_, PySem.W.mg_of X G g_MOST_PAIRS⟩, ⟨_, PySem.W.mg_of X G g_MOST_ITEMS⟩, PySem.W.mg_none_of X G z_isinstance, PySem.W.mg_none_of X G z_int, PySem.W.mg_none_of X G z_bool, PySem.W.mg_none_of X G z_sorted, PySem.W.mg_none_of X G z_set, PySem.W.mg_none_of X G z_tuple, PySem.W.mg_none_of X G z_range, PySem.W.mg_none_of X G z_max, PySem.W.mg_none_of X G z_enumerate, PySem.W.mg_none_of X G z_list, PySem.W.mg_none_of X G z_len, PySem.W.mg_none_of X G z_zip, PySem.W.mg_none_of X G z_all, PySem.W.mg_none_of X G z_abs, PySem.W.mg_none_of X G z_min, PySem.W.mg_none_of X G z_repr, fun s ws _ hl => match ws, hl with | [_, _], _ => .of_eq rfl, fun s ws _ hl => match ws, hl with | [_, _], _ => .of_eq rfl⟩
  exact ⟨fd 21, cl, fun s u => .of_eq rfl, fun base _ _ => fn_all FXi LXi 40 21 (by decide)⟩
end Q41
open PySem PySem.W PyProof.Rows
set_option maxHeartbeats 0 in
theorem PySem.Challenge.cw_onceburst_k41_fastest_arrivals_holds : PySem.Challenge.rw_onceburst_k41_fastest_arrivals.Holds := by
  w_on; o_law; k_head; (case hw => w_witness2)
  k_fill
  refine DY.law_walks (l := PySem.Challenge.rw_onceburst_k41_fastest_arrivals) (m := 63) (k := 80) (x := "_law_script") (G := Q41.sem 40 21) rfl (by decide) rfl ⟨rfl, by decide, by decide⟩ (fun w h Y => PySem.W.kIn_of Y) ?F Q41.law_ok
  case F =>
    intro w mg fa h KX G hmg
    refine' Q41.all_mk KX G hmg ?a0 ?l0 ?c0 ?k0 ?a1 ?l1 ?c1 ?k1 ?a2 ?l2 ?c2 ?k2 ?a3 ?l3 ?c3 ?k3 ?a4 ?l4 ?c4 ?k4 ?a5 ?l5 ?c5 ?k5 ?a6 ?l6 ?c6 ?k6 ?a7 ?l7 ?c7 ?k7 ?a8 ?l8 ?c8 ?k8 ?a9 ?l9 ?c9 ?k9 ?a10 ?l10 ?c10 ?k10 ?a11 ?l11 ?c11 ?k11 ?a12 ?l12 ?c12 ?k12 ?a13 ?l13 ?c13 ?k13 ?a14 ?l14 ?c14 ?k14 ?a15 ?l15 ?c15 ?k15 ?a16 ?l16 ?c16 ?k16 ?a17 ?l17 ?c17 ?k17 ?a18 ?l18 ?c18 ?k18 ?a19 ?l19 ?c19 ?k19 ?a20 ?l20 ?c20 ?k20 ?a21 ?l21 ?c21 ?k21 ?g_GREATEST_MOMENT ?g_GREATEST_TIME ?g_MOST_COUNT ?g_MOST_PAIRS ?g_MOST_ITEMS ?z_isinstance ?z_int ?z_bool ?z_sorted ?z_set ?z_tuple ?z_range ?z_max ?z_enumerate ?z_list ?z_len ?z_zip ?z_all ?z_abs ?z_min ?z_repr
    (case a0 => k_is)
    (case l0 => k_is)
    (case c0 => k_is)
    (case k0 => k_is)
    (case a1 => k_is)
    (case l1 => k_is)
    (case c1 => k_is)
    (case k1 => k_is)
    (case a2 => k_is)
    (case l2 => k_is)
    (case c2 => k_is)
    (case k2 => k_is)
    (case a3 => k_is)
    (case l3 => k_is)
    (case c3 => k_is)
    (case k3 => k_is)
    (case a4 => k_is)
    (case l4 => k_is)
    (case c4 => k_is)
    (case k4 => k_is)
    (case a5 => k_is)
    (case l5 => k_is)
    (case c5 => k_is)
    (case k5 => k_is)
    (case a6 => k_is)
    (case l6 => k_is)
    (case c6 => k_is)
    (case k6 => k_is)
    (case a7 => k_is)
    (case l7 => k_is)
    (case c7 => k_is)
    (case k7 => k_is)
    (case a8 => k_is)
    (case l8 => k_is)
    (case c8 => k_is)
    (case k8 => k_is)
    (case a9 => k_is)
    (case l9 => k_is)
    (case c9 => k_is)
    (case k9 => k_is)
    (case a10 => k_is)
    (case l10 => k_is)
    (case c10 => k_is)
    (case k10 => k_is)
    (case a11 => k_is)
    (case l11 => k_is)
    (case c11 => k_is)
    (case k11 => k_is)
    (case a12 => k_is)
    (case l12 => k_is)
    (case c12 => k_is)
    (case k12 => k_is)
    (case a13 => k_is)
    (case l13 => k_is)
    (case c13 => k_is)
    (case k13 => k_is)
    (case a14 => k_is)
    (case l14 => k_is)
    (case c14 => k_is)
    (case k14 => k_is)
    (case a15 => k_is)
    (case l15 => k_is)
    (case c15 => k_is)
    (case k15 => k_is)
    (case a16 => k_is)
    (case l16 => k_is)
    (case c16 => k_is)
    (case k16 => k_is)
    (case a17 => k_is)
    (case l17 => k_is)
    (case c17 => k_is)
    (case k17 => k_is)
    (case a18 => k_is)
    (case l18 => k_is)
    (case c18 => k_is)
    (case k18 => k_is)
    (case a19 => k_is)
    (case l19 => k_is)
    (case c19 => k_is)
    (case k19 => k_is)
    (case a20 => k_is)
    (case l20 => k_is)
    (case c20 => k_is)
    (case k20 => k_is)
    (case a21 => k_is)
    (case l21 => k_is)
    (case c21 => k_is)
    (case k21 => k_is)
    (case g_GREATEST_MOMENT => k_is)
    (case g_GREATEST_TIME => k_is)
    (case g_MOST_COUNT => k_is)
    (case g_MOST_PAIRS => k_is)
    (case g_MOST_ITEMS => k_is)
    (case z_isinstance => k_is)
    (case z_int => k_is)
    (case z_bool => k_is)
    (case z_sorted => k_is)
    (case z_set => k_is)
    (case z_tuple => k_is)
    (case z_range => k_is)
    (case z_max => k_is)
    (case z_enumerate => k_is)
    (case z_list => k_is)
    (case z_len => k_is)
    (case z_zip => k_is)
    (case z_all => k_is)
    (case z_abs => k_is)
    (case z_min => k_is)
    (case z_repr => k_is)
