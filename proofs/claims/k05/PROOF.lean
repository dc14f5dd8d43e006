import PyProof.Rows.All
import Wide.All
import OpenK.AllK
import Wide.FinOn
import KE.KStateDown
import HandS.ExcInit
import HandS.Lambda
import HandS.Words
import HandS.Head0
import HandS.Head1
import HandS.Head2
import HandS.HeadHook1
import HandS.HeadHook2
import HandS.More
import HandS.ForMost
import HandS.Exc
import HandS.WordsExc
import HandS.Wide
import HandS.TupAny
import HandS.IsInst
import HandS.Flow
import HandS.Style
import HandS.SortInts
import HandS.Star
import HandS.ClsMeth
import KE.DataEq
import KE.SortData
import KE.GoesEnum
import HandS.Zip
import HandS.RaiseMore
import HandS.TupSets
import HandS.Defaults
import PyProof.ReprRoads
import HandS.Sort
import PyProof.FitsInt
import HandS.DictComp
import KE.DatumOrd
import KE.KDictZip
import HandS.FStr
import KE.KeyNested
import HandS.Set
import KE.KUnpack
import KE.DataFind
import OpenK.KMeth
import HandS.ExcIs
import HandS.ExcField
import HandS.TryOnly
import KE.KExcIs
import HandS.Dict
import OpenK.KOps
import HandS.Property
import HandS.DictSubView0
import HandS.Conv
import HandS.TupMul
import HandS.ExcOwn
import HandS.Text
import HandS.TryMany
import HandS.GenList
import PySem.Challenge.RW_onceburst_k05_moments_at_which_items_lea
set_option Elab.async false
set_option linter.all false
set_option maxRecDepth 100000
set_option maxHeartbeats 4000000
/-! A head that is run in the kernel: the top is not written out, its facts are read by a Hook. -/
namespace DY
open PySem PySem.Spec PyProof.Rows L2
/-! ### where things stand -/
/-- the object of a static method, and what it gives -/
def hStq (K : PySem.W.Frag) (C : Addr) (m : Str) : Addr := match PySem.W.findCls K (.ref C) (.type "type") m with
  | some (.get _ (.ref q) _ _) => q
  | _ => 0
def hStf (K : PySem.W.Frag) (q : Addr) : Addr := match PySem.W.recIn K q "staticmethod" with
  | some (.ref f :: _) => f
  | _ => 0
def hStB (K : PySem.W.Frag) (C : Addr) (m : Str) : Bool := match PySem.W.findCls K (.ref C) (.type "type") m with
  | some (.get (.builtin n) (.ref q) _ (.ref C')) => (n == "staticmethod.__get__") && ((C' == C) && (match PySem.W.recIn K q "staticmethod" with
    | some (.ref _ :: _) => true
    | _ => false))
  | _ => false
theorem hStB_ok {K : PySem.W.Frag} {C : Addr} {m : Str} (h : hStB K C m = true) : ∃ ob rs, PySem.W.findCls K (.ref C) (.type "type") m = some (.get (.builtin "staticmethod.__get__") (.ref (hStq K C m)) ob (.ref C)) ∧
    PySem.W.recIn K (hStq K C m) "staticmethod" = some (.ref (hStf K (hStq K C m)) :: rs) := by
  unfold hStB at h
  cases e : PySem.W.findCls K (.ref C) (.type "type") m with
  | none => rw [e] at h; cases h
  | some r =>
    rw [e] at h
    cases r with
    | val v => cases h
    | get v1 v2 v3 v4 =>
      cases v1 with
      | builtin n =>
        cases v2 with
        | ref q =>
          cases v4 with
          | ref C' =>
            have h1 : ((n == "staticmethod.__get__") && ((C' == C) && (match PySem.W.recIn K q "staticmethod" with
              | some (.ref _ :: _) => true
              | _ => false))) = true := h
            obtain ⟨hn, h2⟩ := Bool.and_eq_true_iff.mp h1
            obtain ⟨hC, h3⟩ := Bool.and_eq_true_iff.mp h2
            obtain rfl : n = "staticmethod.__get__" := eq_of_beq hn
            obtain rfl : C' = C := eq_of_beq hC
            have eq : hStq K C' m = q := by unfold hStq; rw [e]
            rw [eq]
            cases e2 : PySem.W.recIn K q "staticmethod" with
            | none => rw [e2] at h3; cases h3
            | some l =>
              rw [e2] at h3
              cases l with
              | nil => cases h3
              | cons v rs =>
                cases v with
                | ref f =>
                  have ef : hStf K q = f := by unfold hStf; rw [e2]
                  rw [ef]
                  exact ⟨v3, rs, rfl, rfl⟩
                | _ => cases h3
          | _ => cases h
        | _ => cases h
      | _ => cases h
def hInt (K : PySem.W.Frag) (x : Str) (i : Int) : Bool := match PySem.W.nsIn K mainGlobals x with
  | some (some (.int j _)) => decide (j = i)
  | _ => false
theorem hInt_ok {K : PySem.W.Frag} {x : Str} {i : Int} (h : hInt K x i = true) : ∃ t, PySem.W.nsIn K mainGlobals x = some (some (.int i t)) := by
  unfold hInt at h
  cases e : PySem.W.nsIn K mainGlobals x with
  | none => rw [e] at h; cases h
  | some o =>
    rw [e] at h
    cases o with
    | none => cases h
    | some v =>
      cases v with
      | int j t => obtain rfl : j = i := of_decide_eq_true h; exact ⟨t, rfl⟩
      | _ => cases h
/-! ### defs -/
structure HDef where
  adr : PySem.W.Frag → Addr
  name : Str
  qual : Str
  st : Stmt
def HDef.val (d : HDef) : He.FnV := some (d.name, d.qual, defArgs d.st, .stmts (defBody d.st), defScope d.st, mainGlobals, [], .none, builtinsNs)
def fnAt (K : PySem.W.Frag) (a : Addr) : He.FnV := match K.lookup a with
  | some ⟨_, _, .func fd, _⟩ => some (fd.name, fd.qualname, fd.params, fd.body, fd.scope, fd.globals, fd.closure, fd.defaults, fd.builtins)
  | _ => none
def hCd (K : PySem.W.Frag) (a : Addr) (q : Str) : Bool := match K.lookup a with
  | some ⟨_, _, .func fd, _⟩ => PySem.W.codeIn K fd.code q
  | _ => false
theorem hdef_ok {K : PySem.W.Frag} {a : Addr} {name qual : Str} {st : Stmt} (e : fnAt K a = some (name, qual, defArgs st, .stmts (defBody st), defScope st, mainGlobals, [], .none, builtinsNs)) (c : hCd K a qual = true) :
    ∃ oc od kV dc pm an cd ct sl, K.lookup a = some ⟨oc, od, .func (PySem.W.fnOf name qual (defArgs st) (defBody st) (defScope st) .none kV dc pm an cd ct), sl⟩ ∧ PySem.W.codeIn K cd qual = true := by
  unfold hCd at c
  unfold fnAt at e
  cases q : K.lookup a with
  | none => rw [q] at c; cases c
  | some o =>
    obtain ⟨oc, od, dt, osl⟩ := o
    rw [q] at c e
    cases dt with
    | func fd =>
      obtain ⟨n1, n2, n3, n4, n5, n6, n7, n8, n9, n10, n11, n12, n13, n14, n15⟩ := fd
      have e2 : (some (n1, n2, n3, n4, n5, n6, n7, n8, n15) : He.FnV) = some (name, qual, defArgs st, .stmts (defBody st), defScope st, mainGlobals, [], .none, builtinsNs) := e
      simp only [Option.some.injEq, Prod.mk.injEq] at e2
      obtain ⟨h1, h2, h3, h4, h5, h6, h7, h8, h9⟩ := e2
      subst h1 h2 h3 h4 h5 h6 h7 h8 h9
      exact ⟨oc, od, n9, n10, n11, n12, n13, n14, osl, rfl, c⟩
    | _ => cases c
/-! ### the Hook -/
/-- what is looked at of an object -/
def refsH (o : Obj) : List Addr := match o.data with
  | .dict es _ => es.toList.flatMap fun e => He.refV e.val
  | .func fd => He.refV fd.code
  | .cls cd => [cd.ns]
  | .fields vs => (match o.cls with
    | .type n => (match (n == "staticmethod" || n == "property") with
      | true => vs.toList.flatMap He.refV
      | false => [])
    | _ => [])
  | _ => []
def nextH (g : Addr → Option Obj) (as : List Addr) : List Addr := as.flatMap fun a => match g a with
  | some o => refsH o
  | none => []
/-- level by level from what stands at hand: functions, classes; codes, names of classes; methods; their codes -/
def lvlsH (g : Addr → Option Obj) : Nat → List Addr → List Addr
  | 0, as => as
  | n + 1, as => as ++ lvlsH g n (nextH g as)
def frL {α : Type} : PySem.W.Frag → (PySem.W.Frag → α) → α
  | [], k => k []
  | (a, ⟨c, d, dt, sl⟩) :: r, k => HandSHeadRun.frNat a fun a => frL r fun r => k ((a, ⟨c, d, dt, sl⟩) :: r)
theorem frL_eq {α : Type} : ∀ (K : PySem.W.Frag) (k : PySem.W.Frag → α), frL K k = k K
  | [], _ => rfl
  | (a, ⟨c, d, dt, sl⟩) :: r, k => by
    show (HandSHeadRun.frNat a fun a => frL r fun r => k ((a, ⟨c, d, dt, sl⟩) :: r)) = _
    rw [HandSHeadRun.frNat_eq, frL_eq]
def frK (n : Nat) (g : Addr → Option Obj) : PySem.W.Frag := He.frG g (sysModules :: cStatics :: lvlsH g n [mainGlobals])
abbrev HAl : Type := Bool × List He.FnV × List (Option Obj)
section
variable (n : Nat) (fa : List (PySem.W.Frag → Bool)) (fn : List HDef) (ts : List (PySem.W.Frag → Addr))
def hObsK (g : Addr → Option Obj) (K : PySem.W.Frag) : HAl := (fa.all fun f => f K, fn.map fun d => fnAt K (d.adr K), ts.map fun t => g (t K))
def hObs (g : Addr → Option Obj) : HAl := frL (frK n g) fun K => hObsK fa fn ts g K
def hVal : HAl := (true, fn.map HDef.val, ts.map fun _ => some (PySem.W.tabObj #[]))
/-- what the end leans on -/
structure HSays (K : PySem.W.Frag) (h : Heap) : Prop where
  inH : K.In h
  fact : fa.all (fun f => f K) = true
  defs : fn.map (fun d => fnAt K (d.adr K)) = fn.map HDef.val
  tabs : ∀ t ∈ ts, h.get? (t K) = some (PySem.W.tabObj #[])
def hHook : PySem.W.Hook where
  α := HAl
  obs := fun s => hObs n fa fn ts s.heap.get?
  val := fun _ => hVal fn ts
  says := fun _ h => ∃ K : PySem.W.Frag, HSays fa fn ts K h
  of := fun _ s e => by
    unfold hObs at e
    rw [frL_eq] at e
    have e1 : (fa.all fun f => f (frK n s.heap.get?)) = true := congrArg (fun z : HAl => z.1) e
    have e2 := congrArg (fun z : HAl => z.2.1) e
    have e3 : ts.map (fun t => s.heap.get? (t (frK n s.heap.get?))) = ts.map fun _ => some (PySem.W.tabObj #[]) := congrArg (fun z : HAl => z.2.2) e
    exact ⟨_, He.frG_in, e1, e2, List.map_inj_left.mp e3⟩
  keeps := fun _ _ _ ⟨K, a, b, c, d⟩ k => ⟨K, PySem.W.Frag.In.keeps a k, b, c, fun t ht => k _ _ (d t ht)⟩
def hOb (s : PySem.W.SharedT) : HAl := hObs n fa fn ts (HandSHeadRun.getT s)
theorem hOb_eq (s : PySem.W.SharedT) : hOb n fa fn ts s = (hHook n fa fn ts).obs s.abs := by
  have e : HandSHeadRun.getT s = s.abs.heap.get? := funext (HandSHeadRun.getT_eq s)
  show hObs n fa fn ts (HandSHeadRun.getT s) = hObs n fa fn ts s.abs.heap.get?
  rw [e]
end
theorem HSays.f {fa : List (PySem.W.Frag → Bool)} {fn : List HDef} {ts : List (PySem.W.Frag → Addr)} {K : PySem.W.Frag} {h : Heap} (c : HSays fa fn ts K h) (i : Nat) {f : PySem.W.Frag → Bool} (e : fa[i]? = some f) : f K = true :=
  List.all_eq_true.mp c.fact f (List.mem_of_getElem? e)
theorem HSays.p {fa : List (PySem.W.Frag → Bool)} {fn : List HDef} {ts : List (PySem.W.Frag → Addr)} {K : PySem.W.Frag} {h : Heap} (c : HSays fa fn ts K h) (i : Nat) {p : PySem.W.Frag → Prop} {dp : ∀ K, Decidable (p K)} (e : fa[i]? = some fun K => @decide (p K) (dp K)) : p K :=
  @of_decide_eq_true _ (dp K) (c.f i e)
theorem HSays.d {fa : List (PySem.W.Frag → Bool)} {fn : List HDef} {ts : List (PySem.W.Frag → Addr)} {K : PySem.W.Frag} {h : Heap} (c : HSays fa fn ts K h) (i : Nat) {d : HDef} (e : fn[i]? = some d) : fnAt K (d.adr K) = d.val := by
  have e2 : (fn.map fun d => fnAt K (d.adr K))[i]? = (fn.map HDef.val)[i]? := by rw [c.defs]
  rw [List.getElem?_map, List.getElem?_map, e] at e2
  exact Option.some.inj e2
theorem HSays.t {fa : List (PySem.W.Frag → Bool)} {fn : List HDef} {ts : List (PySem.W.Frag → Addr)} {K : PySem.W.Frag} {h : Heap} (c : HSays fa fn ts K h) (i : Nat) {t : PySem.W.Frag → Addr} (e : ts[i]? = some t) : h.get? (t K) = some (PySem.W.tabObj #[]) := c.tabs t (List.mem_of_getElem? e)
end DY

/-! Tuples of texts among a module's names: what is looked at. -/
namespace DY
open PySem PySem.Spec PyProof.Rows L2
end DY

/-! A head that asks whether a special method's binding may raise: both answers are run. -/
namespace DY
open PySem PySem.Spec PyProof.Rows L2
/-! ### dicts of texts, and texts, under a module's name -/
abbrev DcRow : Type := Str × Int × Str
def dcRows : List DictEntry → Option (List DcRow)
  | [] => some []
  | ⟨h, .str k _, .str v _⟩ :: r => (match dcRows r with
    | some l => some ((k, h, v) :: l)
    | none => none)
  | _ => none
def dcAt (K : PySem.W.Frag) (x : Str) : Option (List DcRow) := match PySem.W.nsIn K mainGlobals x with
  | some (some (.ref a)) => (match K.lookup a with
    | some ⟨.type n0, none, .dict es _, sl⟩ => (match (n0 == "dict") && ((!(a == sysModules)) && (sl.size == 0)) with
      | true => dcRows es.toList
      | false => none)
    | _ => none)
  | _ => none
def dcVal (w : World) (ps : List (Str × Str)) : Option (List DcRow) := some (ps.map fun p => (p.1, PyData.keyHash w.params p.1, p.2))
theorem dcRows_ok {w : World} : ∀ {es : List DictEntry} {ps : List (Str × Str)}, dcRows es = some (ps.map fun p => (p.1, PyData.keyHash w.params p.1, p.2)) → PySem.W.KeysLit w.params es ∧ es.any (·.refKey) = false ∧ ∀ z, (match ps.lookup z with
    | some v => ∃ e t, es.find? (·.key.isStr z) = some e ∧ e.val = .str v t
    | none => es.find? (·.key.isStr z) = none)
  | [], [], _ => ⟨trivial, rfl, fun z => rfl⟩
  | [], _ :: _, h => by simp [dcRows] at h
  | ⟨hh, k, v⟩ :: r, ps, h => by
    cases k with
    | str k tk =>
      cases v with
      | str v tv =>
        cases e : dcRows r with
        | none => simp [dcRows, e] at h
        | some l =>
          simp only [dcRows, e, Option.some.injEq] at h
          cases ps with
          | nil => simp at h
          | cons p ps =>
            obtain ⟨p1, p2⟩ := p
            simp only [List.map_cons, List.cons.injEq, Prod.mk.injEq] at h
            obtain ⟨⟨rfl, rfl, rfl⟩, rfl⟩ := h
            obtain ⟨i1, i2, i3⟩ := dcRows_ok e
            refine ⟨⟨⟨k, tk, rfl, rfl⟩, i1⟩, ?_, fun z => ?_⟩
            · rw [List.any_cons, i2]; rfl
            · by_cases hz : z = k
              · subst hz
                have l1 : ((z, v) :: ps).lookup z = some v := by simp [List.lookup]
                rw [l1]
                refine ⟨⟨PyData.keyHash w.params z, .str z tk, .str v tv⟩, tv, ?_, rfl⟩
                rw [List.find?_cons]
                simp [Value.isStr]
              · have l1 : ((k, v) :: ps).lookup z = ps.lookup z := by
                  have : (z == k) = false := by simpa using hz
                  simp [List.lookup, this]
                rw [l1]
                have f1 : (⟨PyData.keyHash w.params k, .str k tk, .str v tv⟩ :: r : List DictEntry).find? (·.key.isStr z) = r.find? (·.key.isStr z) := by
                  rw [List.find?_cons]
                  have : (Value.isStr (Value.str k tk) z) = false := by
                    simp [Value.isStr]
                    exact fun h => hz h.symm
                  simp only [this]
                rw [f1]
                exact i3 z
      | _ => simp [dcRows] at h
    | _ => simp [dcRows] at h
def GDic0 (K : PySem.W.Frag) (w : World) (x : Str) (ps : List (Str × Str)) : Prop := ∃ d es n, PySem.W.nsIn K mainGlobals x = some (some (.ref d)) ∧ KDict K w d es n ∧ ∀ z, ∃ r, PySem.W.nsIn K d z = some r ∧ (match ps.lookup z with
  | some v => ∃ t, r = some (.str v t)
  | none => r = none)
theorem dcAt_ok {K : PySem.W.Frag} {w : World} {x : Str} {ps : List (Str × Str)} (h : dcAt K x = dcVal w ps) : GDic0 K w x ps := by
  unfold dcAt dcVal at h
  split at h
  · rename_i a ha
    split at h
    · rename_i n0 es n sl ho
      split at h
      · rename_i hc
        simp only [Bool.and_eq_true, beq_iff_eq, Bool.not_eq_true'] at hc
        obtain ⟨rfl, h2, h3⟩ := hc
        obtain ⟨i1, i2, i3⟩ := dcRows_ok h
        have hsl : sl = #[] := Array.eq_empty_of_size_eq_zero h3
        subst hsl
        refine ⟨a, es, n, ha, ⟨ho, i1, h2⟩, fun z => ?_⟩
        have i3 := i3 z
        unfold PySem.W.nsIn
        rw [ho]
        dsimp only
        cases e : ps.lookup z with
        | none =>
          rw [e] at i3
          have i3 : es.toList.find? (·.key.isStr z) = none := i3
          rw [i3, i2]
          exact ⟨_, rfl, rfl⟩
        | some v =>
          rw [e] at i3
          obtain ⟨en, t, q1, q2⟩ := i3
          rw [q1]
          exact ⟨_, rfl, t, by rw [q2]⟩
      · cases h
    · cases h
  · cases h
section
variable (n : Nat) (fa : List (PySem.W.Frag → Bool)) (fn : List HDef) (ts : List (PySem.W.Frag → Addr)) (ds : List (Str × List (Str × Str)))
structure HSaysD (w : World) (K : PySem.W.Frag) (h : Heap) : Prop extends HSays fa fn ts K h where
  dics : (ds.map fun d => dcAt K d.1) = ds.map fun d => dcVal w d.2
end
theorem HSaysD.g {fa : List (PySem.W.Frag → Bool)} {fn : List HDef} {ts : List (PySem.W.Frag → Addr)} {ds : List (Str × List (Str × Str))} {w : World} {K : PySem.W.Frag} {h : Heap} (c : HSaysD fa fn ts ds w K h) (i : Nat) {d : Str × List (Str × Str)} (e : ds[i]? = some d) : GDic0 K w d.1 d.2 := by
  have e2 : (ds.map fun d => dcAt K d.1)[i]? = (ds.map fun d => dcVal w d.2)[i]? := by rw [c.dics]
  rw [List.getElem?_map, List.getElem?_map, e] at e2
  exact dcAt_ok (Option.some.inj e2)
end DY

/-! The run of the program's head, looked at piece by piece: each piece is a check of its own, so that less is held at once. -/
namespace DY
open PySem PySem.Spec PySem.W PyProof.Rows L2 HandSHeadRun
noncomputable section
def fL (r : OpenRow) (w : World) : SharedT → Bool := fun s => looksF r.prog (boot_heap w.params) s.abs
section
variable (n : Nat)
end
end
end DY

namespace Q
open PySem PySem.Spec PyProof.Rows L2 DY
def top (i : Nat) : Stmt := PySem.Challenge.pw_onceburst_k05_moments_at_which_items_lea.main.body.getD i (.Pass ⟨0, 0, 0, 0⟩)
/-- is_number -/
abbrev s0 : Stmt := (top 12)
/-- is_moment -/
abbrev s1 : Stmt := (top 28)
/-- first_bad -/
abbrev s2 : Stmt := (top 29)
/-- need_arrivals -/
abbrev s3 : Stmt := (top 30)
/-- Walk.__init__ -/
abbrev s4 : Stmt := (inClass (top 31) 0)
/-- Walk.earlier -/
abbrev s5 : Stmt := (inClass (top 31) 1)
/-- Walk.left -/
abbrev s6 : Stmt := (inClass (top 31) 2)
/-- Walk.go -/
abbrev s7 : Stmt := (inClass (top 31) 3)
/-- Walk.rows -/
abbrev s8 : Stmt := (inClass (top 31) 4)
/-- inner_parts -/
abbrev s9 : Stmt := (top 32)
/-- walk_of -/
abbrev s10 : Stmt := (top 33)
/-- walked -/
abbrev s11 : Stmt := (top 34)
/-- leavings -/
abbrev sG0 : Stmt := (top 35)
/-- is_time -/
abbrev s12 : Stmt := (top 40)
/-- is_count -/
abbrev s13 : Stmt := (top 41)
/-- need_count -/
abbrev s14 : Stmt := (top 42)
/-- need_time -/
abbrev s15 : Stmt := (top 43)
/-- paths_of -/
abbrev s16 : Stmt := (top 44)
/-- Line.__init__ -/
abbrev s17 : Stmt := (inClass (top 45) 0)
/-- Line.belt -/
abbrev s18 : Stmt := (inClass (top 45) 1)
/-- Line.gap -/
abbrev s19 : Stmt := (inClass (top 45) 2)
/-- Line.hold -/
abbrev s20 : Stmt := (inClass (top 45) 3)
/-- Line.limited -/
abbrev s21 : Stmt := (inClass (top 45) 4)
/-- Line.__add__ -/
abbrev s22 : Stmt := (inClass (top 45) 5)
/-- Line.__and__ -/
abbrev s23 : Stmt := (inClass (top 45) 6)
/-- Line.__call__ -/
abbrev s24 : Stmt := (inClass (top 45) 11)
/-- Line.parts -/
abbrev s25 : Stmt := (inClass (top 45) 12)
/-- _law_begun -/
abbrev s26 : Stmt := (top 47)
/-- _law_mixed -/
abbrev s27 : Stmt := (top 48)
/-- _law_take -/
abbrev s28 : Stmt := (top 49)
/-- _law_pick -/
abbrev s29 : Stmt := (top 50)
/-- _law_time -/
abbrev s30 : Stmt := (top 51)
/-- _law_leaf -/
abbrev s31 : Stmt := (top 52)
/-- _law_tree -/
abbrev s32 : Stmt := (top 53)
/-- _law_line -/
abbrev s33 : Stmt := (top 54)
/-- _law_inner -/
abbrev s34 : Stmt := (top 55)
/-- _law_walk -/
abbrev s35 : Stmt := (top 56)
/-- _law_behind -/
abbrev s36 : Stmt := (top 57)
/-- _law_go -/
abbrev s37 : Stmt := (top 58)
/-- _law_left -/
abbrev s38 : Stmt := (top 59)
/-- _law_arrivals -/
abbrev s39 : Stmt := (top 60)
/-- _law_twice_right -/
abbrev s40 : Stmt := (top 61)
/-- law -/
abbrev s41 : Stmt := (top 62)
abbrev RR : PySem.W.OpenRow := PySem.W.OpenLaw.row PySem.Challenge.rw_onceburst_k05_moments_at_which_items_lea
def aC0 (K : PySem.W.Frag) : Addr := He.ga K "Walk"
def aC1 (K : PySem.W.Frag) : Addr := He.ga K "Line"
def aF0 (K : PySem.W.Frag) : Addr := He.ga K "is_number"
def aF1 (K : PySem.W.Frag) : Addr := He.ga K "is_moment"
def aF2 (K : PySem.W.Frag) : Addr := He.ga K "first_bad"
def aF3 (K : PySem.W.Frag) : Addr := He.ga K "need_arrivals"
def aF4 (K : PySem.W.Frag) : Addr := He.ma K (aC0 K) "__init__"
def aF5 (K : PySem.W.Frag) : Addr := He.ma K (aC0 K) "earlier"
def aF6 (K : PySem.W.Frag) : Addr := He.ma K (aC0 K) "left"
def aF7 (K : PySem.W.Frag) : Addr := He.ma K (aC0 K) "go"
def aF8 (K : PySem.W.Frag) : Addr := He.ma K (aC0 K) "rows"
def aF9 (K : PySem.W.Frag) : Addr := He.ga K "inner_parts"
def aF10 (K : PySem.W.Frag) : Addr := He.ga K "walk_of"
def aF11 (K : PySem.W.Frag) : Addr := He.ga K "walked"
def aF12 (K : PySem.W.Frag) : Addr := He.ga K "is_time"
def aF13 (K : PySem.W.Frag) : Addr := He.ga K "is_count"
def aF14 (K : PySem.W.Frag) : Addr := He.ga K "need_count"
def aF15 (K : PySem.W.Frag) : Addr := He.ga K "need_time"
def aF16 (K : PySem.W.Frag) : Addr := He.ga K "paths_of"
def aF17 (K : PySem.W.Frag) : Addr := He.ma K (aC1 K) "__init__"
def aF18 (K : PySem.W.Frag) : Addr := hStf K (hStq K (aC1 K) "belt")
def aF19 (K : PySem.W.Frag) : Addr := hStf K (hStq K (aC1 K) "gap")
def aF20 (K : PySem.W.Frag) : Addr := hStf K (hStq K (aC1 K) "hold")
def aF21 (K : PySem.W.Frag) : Addr := He.ma K (aC1 K) "limited"
def aF22 (K : PySem.W.Frag) : Addr := He.ma K (aC1 K) "__add__"
def aF23 (K : PySem.W.Frag) : Addr := He.ma K (aC1 K) "__and__"
def aF24 (K : PySem.W.Frag) : Addr := He.ma K (aC1 K) "__call__"
def aF25 (K : PySem.W.Frag) : Addr := He.ma K (aC1 K) "parts"
def aF26 (K : PySem.W.Frag) : Addr := He.ga K "_law_begun"
def aF27 (K : PySem.W.Frag) : Addr := He.ga K "_law_mixed"
def aF28 (K : PySem.W.Frag) : Addr := He.ga K "_law_take"
def aF29 (K : PySem.W.Frag) : Addr := He.ga K "_law_pick"
def aF30 (K : PySem.W.Frag) : Addr := He.ga K "_law_time"
def aF31 (K : PySem.W.Frag) : Addr := He.ga K "_law_leaf"
def aF32 (K : PySem.W.Frag) : Addr := He.ga K "_law_tree"
def aF33 (K : PySem.W.Frag) : Addr := He.ga K "_law_line"
def aF34 (K : PySem.W.Frag) : Addr := He.ga K "_law_inner"
def aF35 (K : PySem.W.Frag) : Addr := He.ga K "_law_walk"
def aF36 (K : PySem.W.Frag) : Addr := He.ga K "_law_behind"
def aF37 (K : PySem.W.Frag) : Addr := He.ga K "_law_go"
def aF38 (K : PySem.W.Frag) : Addr := He.ga K "_law_left"
def aF39 (K : PySem.W.Frag) : Addr := He.ga K "_law_arrivals"
def aF40 (K : PySem.W.Frag) : Addr := He.ga K "_law_twice_right"
def aF41 (K : PySem.W.Frag) : Addr := He.ga K "law"
def aFG0 (K : PySem.W.Frag) : Addr := He.ga K "leavings"
def fa_0 : List (PySem.W.Frag → Bool) := [fun K => decide (PySem.W.nsIn K mainGlobals "Walk" = some (some (.ref (aC0 K)))),
  fun K => PySem.W.plainGet K (aC0 K) Str.empty,
  fun K => PySem.W.hasDictIn K (aC0 K),
  fun K => PySem.W.plainOver K (aC0 K),
  fun K => decide (PySem.W.findIn K (.ref (aC0 K)) "__setattr__" = some (some (.builtin "object.__setattr__"))),
  fun K => decide (PySem.W.findIn K (.ref (aC0 K)) "entries" = some none),
  fun K => decide (PySem.W.findIn K (.ref (aC0 K)) "inner" = some none),
  fun K => decide (PySem.W.findIn K (.ref (aC0 K)) "leavings" = some none),
  fun K => decide (PySem.W.findIn K (.ref (aC0 K)) "path" = some none),
  fun K => decide (PySem.W.findIn K (.ref (aC0 K)) "piece" = some none),
  fun K => PySem.W.makesIn K (aC0 K),
  fun K => PySem.W.keepIn K (.ref (aC0 K)),
  fun K => decide (PySem.W.nsIn K mainGlobals "Line" = some (some (.ref (aC1 K)))),
  fun K => PySem.W.plainGet K (aC1 K) Str.empty,
  fun K => PySem.W.hasDictIn K (aC1 K),
  fun K => PySem.W.plainOver K (aC1 K),
  fun K => decide (PySem.W.findIn K (.ref (aC1 K)) "__setattr__" = some (some (.builtin "object.__setattr__"))),
  fun K => decide (PySem.W.findIn K (.ref (aC1 K)) "all_paths" = some none),
  fun K => decide (PySem.W.findIn K (.ref (aC1 K)) "nested" = some none),
  fun K => PySem.W.makesIn K (aC1 K),
  fun K => PySem.W.keepIn K (.ref (aC1 K)),
  fun K => PySem.W.selfFirst K (aC1 K),
  fun K => decide (PySem.W.specialIn K (.ref (aC1 K)) "__getattribute__" = some (some (.builtin "type.__getattribute__"))),
  fun K => decide (PySem.W.nsIn K mainGlobals "is_number" = some (some (.ref (aF0 K)))),
  fun K => hCd K (aF0 K) "is_number"]
def fa_1 : List (PySem.W.Frag → Bool) := [fun K => PySem.W.keepIn K (.ref (aF0 K)),
  fun K => decide (PySem.W.nsIn K mainGlobals "is_moment" = some (some (.ref (aF1 K)))),
  fun K => hCd K (aF1 K) "is_moment",
  fun K => PySem.W.keepIn K (.ref (aF1 K)),
  fun K => decide (PySem.W.nsIn K mainGlobals "first_bad" = some (some (.ref (aF2 K)))),
  fun K => hCd K (aF2 K) "first_bad",
  fun K => PySem.W.keepIn K (.ref (aF2 K)),
  fun K => decide (PySem.W.nsIn K mainGlobals "need_arrivals" = some (some (.ref (aF3 K)))),
  fun K => hCd K (aF3 K) "need_arrivals",
  fun K => PySem.W.keepIn K (.ref (aF3 K)),
  fun K => decide (PySem.W.findIn K (.ref (aC0 K)) "__init__" = some (some (.ref (aF4 K)))),
  fun K => PySem.W.isFn K (.ref (aF4 K)),
  fun K => hCd K (aF4 K) "Walk.__init__",
  fun K => PySem.W.keepIn K (.ref (aF4 K)),
  fun K => decide (PySem.W.findIn K (.ref (aC0 K)) "earlier" = some (some (.ref (aF5 K)))),
  fun K => PySem.W.isFn K (.ref (aF5 K)),
  fun K => hCd K (aF5 K) "Walk.earlier",
  fun K => PySem.W.keepIn K (.ref (aF5 K)),
  fun K => decide (PySem.W.findIn K (.ref (aC0 K)) "left" = some (some (.ref (aF6 K)))),
  fun K => PySem.W.isFn K (.ref (aF6 K)),
  fun K => hCd K (aF6 K) "Walk.left",
  fun K => PySem.W.keepIn K (.ref (aF6 K)),
  fun K => decide (PySem.W.findIn K (.ref (aC0 K)) "go" = some (some (.ref (aF7 K)))),
  fun K => PySem.W.isFn K (.ref (aF7 K)),
  fun K => hCd K (aF7 K) "Walk.go"]
def fa_2 : List (PySem.W.Frag → Bool) := [fun K => PySem.W.keepIn K (.ref (aF7 K)),
  fun K => decide (PySem.W.findIn K (.ref (aC0 K)) "rows" = some (some (.ref (aF8 K)))),
  fun K => PySem.W.isFn K (.ref (aF8 K)),
  fun K => hCd K (aF8 K) "Walk.rows",
  fun K => PySem.W.keepIn K (.ref (aF8 K)),
  fun K => decide (PySem.W.nsIn K mainGlobals "inner_parts" = some (some (.ref (aF9 K)))),
  fun K => hCd K (aF9 K) "inner_parts",
  fun K => PySem.W.keepIn K (.ref (aF9 K)),
  fun K => decide (PySem.W.nsIn K mainGlobals "walk_of" = some (some (.ref (aF10 K)))),
  fun K => hCd K (aF10 K) "walk_of",
  fun K => PySem.W.keepIn K (.ref (aF10 K)),
  fun K => decide (PySem.W.nsIn K mainGlobals "walked" = some (some (.ref (aF11 K)))),
  fun K => hCd K (aF11 K) "walked",
  fun K => PySem.W.keepIn K (.ref (aF11 K)),
  fun K => decide (PySem.W.nsIn K mainGlobals "is_time" = some (some (.ref (aF12 K)))),
  fun K => hCd K (aF12 K) "is_time",
  fun K => PySem.W.keepIn K (.ref (aF12 K)),
  fun K => decide (PySem.W.nsIn K mainGlobals "is_count" = some (some (.ref (aF13 K)))),
  fun K => hCd K (aF13 K) "is_count",
  fun K => PySem.W.keepIn K (.ref (aF13 K)),
  fun K => decide (PySem.W.nsIn K mainGlobals "need_count" = some (some (.ref (aF14 K)))),
  fun K => hCd K (aF14 K) "need_count",
  fun K => PySem.W.keepIn K (.ref (aF14 K)),
  fun K => decide (PySem.W.nsIn K mainGlobals "need_time" = some (some (.ref (aF15 K)))),
  fun K => hCd K (aF15 K) "need_time"]
def fa_3 : List (PySem.W.Frag → Bool) := [fun K => PySem.W.keepIn K (.ref (aF15 K)),
  fun K => decide (PySem.W.nsIn K mainGlobals "paths_of" = some (some (.ref (aF16 K)))),
  fun K => hCd K (aF16 K) "paths_of",
  fun K => PySem.W.keepIn K (.ref (aF16 K)),
  fun K => decide (PySem.W.findIn K (.ref (aC1 K)) "__init__" = some (some (.ref (aF17 K)))),
  fun K => PySem.W.isFn K (.ref (aF17 K)),
  fun K => hCd K (aF17 K) "Line.__init__",
  fun K => PySem.W.keepIn K (.ref (aF17 K)),
  fun K => hStB K (aC1 K) "belt",
  fun K => PySem.W.readsIn K (aC1 K) (.type "type"),
  fun K => hCd K (aF18 K) "Line.belt",
  fun K => PySem.W.keepIn K (.ref (aF18 K)),
  fun K => hStB K (aC1 K) "gap",
  fun K => PySem.W.readsIn K (aC1 K) (.type "type"),
  fun K => hCd K (aF19 K) "Line.gap",
  fun K => PySem.W.keepIn K (.ref (aF19 K)),
  fun K => hStB K (aC1 K) "hold",
  fun K => PySem.W.readsIn K (aC1 K) (.type "type"),
  fun K => hCd K (aF20 K) "Line.hold",
  fun K => PySem.W.keepIn K (.ref (aF20 K)),
  fun K => decide (PySem.W.findIn K (.ref (aC1 K)) "limited" = some (some (.ref (aF21 K)))),
  fun K => PySem.W.isFn K (.ref (aF21 K)),
  fun K => hCd K (aF21 K) "Line.limited",
  fun K => PySem.W.keepIn K (.ref (aF21 K)),
  fun K => decide (PySem.W.findIn K (.ref (aC1 K)) "__add__" = some (some (.ref (aF22 K))))]
def fa_4 : List (PySem.W.Frag → Bool) := [fun K => PySem.W.isFn K (.ref (aF22 K)),
  fun K => hCd K (aF22 K) "Line.__add__",
  fun K => PySem.W.keepIn K (.ref (aF22 K)),
  fun K => decide (PySem.W.findIn K (.ref (aC1 K)) "__and__" = some (some (.ref (aF23 K)))),
  fun K => PySem.W.isFn K (.ref (aF23 K)),
  fun K => hCd K (aF23 K) "Line.__and__",
  fun K => PySem.W.keepIn K (.ref (aF23 K)),
  fun K => decide (PySem.W.findIn K (.ref (aC1 K)) "__call__" = some (some (.ref (aF24 K)))),
  fun K => PySem.W.isFn K (.ref (aF24 K)),
  fun K => hCd K (aF24 K) "Line.__call__",
  fun K => PySem.W.keepIn K (.ref (aF24 K)),
  fun K => decide (PySem.W.findIn K (.ref (aC1 K)) "parts" = some (some (.ref (aF25 K)))),
  fun K => PySem.W.isFn K (.ref (aF25 K)),
  fun K => hCd K (aF25 K) "Line.parts",
  fun K => PySem.W.keepIn K (.ref (aF25 K)),
  fun K => decide (PySem.W.nsIn K mainGlobals "_law_begun" = some (some (.ref (aF26 K)))),
  fun K => hCd K (aF26 K) "_law_begun",
  fun K => PySem.W.keepIn K (.ref (aF26 K)),
  fun K => decide (PySem.W.nsIn K mainGlobals "_law_mixed" = some (some (.ref (aF27 K)))),
  fun K => hCd K (aF27 K) "_law_mixed",
  fun K => PySem.W.keepIn K (.ref (aF27 K)),
  fun K => decide (PySem.W.nsIn K mainGlobals "_law_take" = some (some (.ref (aF28 K)))),
  fun K => hCd K (aF28 K) "_law_take",
  fun K => PySem.W.keepIn K (.ref (aF28 K)),
  fun K => decide (PySem.W.nsIn K mainGlobals "_law_pick" = some (some (.ref (aF29 K))))]
def fa_5 : List (PySem.W.Frag → Bool) := [fun K => hCd K (aF29 K) "_law_pick",
  fun K => PySem.W.keepIn K (.ref (aF29 K)),
  fun K => decide (PySem.W.nsIn K mainGlobals "_law_time" = some (some (.ref (aF30 K)))),
  fun K => hCd K (aF30 K) "_law_time",
  fun K => PySem.W.keepIn K (.ref (aF30 K)),
  fun K => decide (PySem.W.nsIn K mainGlobals "_law_leaf" = some (some (.ref (aF31 K)))),
  fun K => hCd K (aF31 K) "_law_leaf",
  fun K => PySem.W.keepIn K (.ref (aF31 K)),
  fun K => decide (PySem.W.nsIn K mainGlobals "_law_tree" = some (some (.ref (aF32 K)))),
  fun K => hCd K (aF32 K) "_law_tree",
  fun K => PySem.W.keepIn K (.ref (aF32 K)),
  fun K => decide (PySem.W.nsIn K mainGlobals "_law_line" = some (some (.ref (aF33 K)))),
  fun K => hCd K (aF33 K) "_law_line",
  fun K => PySem.W.keepIn K (.ref (aF33 K)),
  fun K => decide (PySem.W.nsIn K mainGlobals "_law_inner" = some (some (.ref (aF34 K)))),
  fun K => hCd K (aF34 K) "_law_inner",
  fun K => PySem.W.keepIn K (.ref (aF34 K)),
  fun K => decide (PySem.W.nsIn K mainGlobals "_law_walk" = some (some (.ref (aF35 K)))),
  fun K => hCd K (aF35 K) "_law_walk",
  fun K => PySem.W.keepIn K (.ref (aF35 K)),
  fun K => decide (PySem.W.nsIn K mainGlobals "_law_behind" = some (some (.ref (aF36 K)))),
  fun K => hCd K (aF36 K) "_law_behind",
  fun K => PySem.W.keepIn K (.ref (aF36 K)),
  fun K => decide (PySem.W.nsIn K mainGlobals "_law_go" = some (some (.ref (aF37 K)))),
  fun K => hCd K (aF37 K) "_law_go"]
def fa_6 : List (PySem.W.Frag → Bool) := [fun K => PySem.W.keepIn K (.ref (aF37 K)),
  fun K => decide (PySem.W.nsIn K mainGlobals "_law_left" = some (some (.ref (aF38 K)))),
  fun K => hCd K (aF38 K) "_law_left",
  fun K => PySem.W.keepIn K (.ref (aF38 K)),
  fun K => decide (PySem.W.nsIn K mainGlobals "_law_arrivals" = some (some (.ref (aF39 K)))),
  fun K => hCd K (aF39 K) "_law_arrivals",
  fun K => PySem.W.keepIn K (.ref (aF39 K)),
  fun K => decide (PySem.W.nsIn K mainGlobals "_law_twice_right" = some (some (.ref (aF40 K)))),
  fun K => hCd K (aF40 K) "_law_twice_right",
  fun K => PySem.W.keepIn K (.ref (aF40 K)),
  fun K => decide (PySem.W.nsIn K mainGlobals "law" = some (some (.ref (aF41 K)))),
  fun K => hCd K (aF41 K) "law",
  fun K => PySem.W.keepIn K (.ref (aF41 K)),
  fun K => decide (PySem.W.nsIn K mainGlobals "leavings" = some (some (.ref (aFG0 K)))),
  fun K => hCd K (aFG0 K) "leavings",
  fun K => PySem.W.keepIn K (.ref (aFG0 K)),
  fun K => PySem.W.fnIn K (aF24 K),
  fun K => hInt K "GREATEST_MOMENT" 1000000000000000,
  fun K => hInt K "GREATEST_TIME" 1000000000,
  fun K => hInt K "MOST_COUNT" 12,
  fun K => hInt K "MOST_PARTS" 12,
  fun K => decide (PySem.W.nsIn K mainGlobals "isinstance" = some none),
  fun K => decide (PySem.W.nsIn K mainGlobals "int" = some none),
  fun K => decide (PySem.W.nsIn K mainGlobals "bool" = some none),
  fun K => decide (PySem.W.nsIn K mainGlobals "enumerate" = some none)]
def fa_7 : List (PySem.W.Frag → Bool) := [fun K => decide (PySem.W.nsIn K mainGlobals "list" = some none),
  fun K => decide (PySem.W.nsIn K mainGlobals "tuple" = some none),
  fun K => decide (PySem.W.nsIn K mainGlobals "len" = some none),
  fun K => decide (PySem.W.nsIn K mainGlobals "max" = some none),
  fun K => decide (PySem.W.nsIn K mainGlobals "sorted" = some none),
  fun K => decide (PySem.W.nsIn K mainGlobals "abs" = some none),
  fun K => decide (PySem.W.nsIn K mainGlobals "range" = some none),
  fun K => decide (PySem.W.nsIn K mainGlobals "min" = some none),
  fun K => decide (PySem.W.nsIn K mainGlobals "repr" = some none)]
def fa : List (PySem.W.Frag → Bool) := fa_0 ++ (fa_1 ++ (fa_2 ++ (fa_3 ++ (fa_4 ++ (fa_5 ++ (fa_6 ++ (fa_7)))))))
def fn_0 : List HDef := [⟨aF0, "is_number", "is_number", s0⟩,
  ⟨aF1, "is_moment", "is_moment", s1⟩,
  ⟨aF2, "first_bad", "first_bad", s2⟩,
  ⟨aF3, "need_arrivals", "need_arrivals", s3⟩,
  ⟨aF4, "__init__", "Walk.__init__", s4⟩,
  ⟨aF5, "earlier", "Walk.earlier", s5⟩,
  ⟨aF6, "left", "Walk.left", s6⟩,
  ⟨aF7, "go", "Walk.go", s7⟩,
  ⟨aF8, "rows", "Walk.rows", s8⟩,
  ⟨aF9, "inner_parts", "inner_parts", s9⟩,
  ⟨aF10, "walk_of", "walk_of", s10⟩,
  ⟨aF11, "walked", "walked", s11⟩,
  ⟨aF12, "is_time", "is_time", s12⟩,
  ⟨aF13, "is_count", "is_count", s13⟩,
  ⟨aF14, "need_count", "need_count", s14⟩,
  ⟨aF15, "need_time", "need_time", s15⟩,
  ⟨aF16, "paths_of", "paths_of", s16⟩,
  ⟨aF17, "__init__", "Line.__init__", s17⟩,
  ⟨aF18, "belt", "Line.belt", s18⟩,
  ⟨aF19, "gap", "Line.gap", s19⟩,
  ⟨aF20, "hold", "Line.hold", s20⟩,
  ⟨aF21, "limited", "Line.limited", s21⟩,
  ⟨aF22, "__add__", "Line.__add__", s22⟩,
  ⟨aF23, "__and__", "Line.__and__", s23⟩,
  ⟨aF24, "__call__", "Line.__call__", s24⟩]
def fn_1 : List HDef := [⟨aF25, "parts", "Line.parts", s25⟩,
  ⟨aF26, "_law_begun", "_law_begun", s26⟩,
  ⟨aF27, "_law_mixed", "_law_mixed", s27⟩,
  ⟨aF28, "_law_take", "_law_take", s28⟩,
  ⟨aF29, "_law_pick", "_law_pick", s29⟩,
  ⟨aF30, "_law_time", "_law_time", s30⟩,
  ⟨aF31, "_law_leaf", "_law_leaf", s31⟩,
  ⟨aF32, "_law_tree", "_law_tree", s32⟩,
  ⟨aF33, "_law_line", "_law_line", s33⟩,
  ⟨aF34, "_law_inner", "_law_inner", s34⟩,
  ⟨aF35, "_law_walk", "_law_walk", s35⟩,
  ⟨aF36, "_law_behind", "_law_behind", s36⟩,
  ⟨aF37, "_law_go", "_law_go", s37⟩,
  ⟨aF38, "_law_left", "_law_left", s38⟩,
  ⟨aF39, "_law_arrivals", "_law_arrivals", s39⟩,
  ⟨aF40, "_law_twice_right", "_law_twice_right", s40⟩,
  ⟨aF41, "law", "law", s41⟩,
  ⟨aFG0, "leavings", "leavings", sG0⟩]
def fn : List HDef := fn_0 ++ (fn_1)
def ts : List (PySem.W.Frag → Addr) := []
def loose_0 : List PySem.Str := ["LineError",
  "BadTime",
  "BadCount",
  "BadMoments",
  "BadNumber",
  "BadPath",
  "TooMany",
  "MOST_TERMS",
  "MOST_INNER",
  "GREATEST",
  "is_number",
  "need_number",
  "sorted_pairs",
  "joined",
  "listed",
  "repeated",
  "section_terms",
  "terms_of",
  "best_pair",
  "bound_of",
  "made_table",
  "made_of",
  "value",
  "function_value",
  "GREATEST_MOMENT"]
def loose_1 : List PySem.Str := ["is_moment",
  "first_bad",
  "need_arrivals",
  "Walk",
  "inner_parts",
  "walk_of",
  "walked",
  "leavings",
  "GREATEST_TIME",
  "MOST_COUNT",
  "MOST_PARTS",
  "is_time",
  "is_count",
  "need_count",
  "need_time",
  "paths_of",
  "Line",
  "_law_begun",
  "_law_mixed",
  "_law_take",
  "_law_pick",
  "_law_time",
  "_law_leaf",
  "_law_tree",
  "_law_line"]
def loose_2 : List PySem.Str := ["_law_inner",
  "_law_walk",
  "_law_behind",
  "_law_go",
  "_law_left",
  "_law_arrivals",
  "_law_twice_right"]
def loose : List PySem.Str := loose_0 ++ (loose_1 ++ (loose_2))
abbrev hk : PySem.W.Hook := hHook 5 fa fn ts
def ob (s : PySem.W.SharedT) : HAl := hOb 5 fa fn ts s
theorem ob_eq (s : PySem.W.SharedT) : ob s = hk.obs s.abs := hOb_eq 5 fa fn ts s
theorem run (w : World) : HandSHeadRun.RunEq RR (PySem.W.view RR.prog [62]) hk ob 20000 loose w := by
  intro os
  kernel_rfl
end Q

/-! Values as trees over a store of mutable things, and how the abstract heap bears them. -/
namespace DY
open PySem PySem.Spec PyProof.Rows L2

/-- what a node is -/
inductive Hd where
  | lst | tup | scr | ktp
  | dk (ks : List Key) | dt (ks : List (List Key))
  | ins (c : Nat) (ns : List Str)
  | exc (c : Nat) (ns : List Str)
  | fn (f c : Addr) (q : Str) (caps : List V)
  | glb (c : Nat)
  deriving DecidableEq

/-- data: h k is the k-th thing of the store -/
inductive D where
  | non | bl (b : Bool) | int (i : Int) | str (s : Str) | h (k : Nat) | nd (t : Hd) (xs : List D) | ty (n : String)

abbrev Store := List D
abbrev DEnv := List (Option D)
/-- an exception: its class, its attributes -/
structure Ex where
  c : Nat
  ns : List Str
  xs : List D

inductive Res (A : Type) where
  | ok (a : A) (st : Store)
  | er (e : Ex) (st : Store)
  | no

def Res.bind {A B : Type} (r : Res A) (k : A → Store → Res B) : Res B :=
  match r with
  | .ok a s => k a s
  | .er e s => .er e s
  | .no => .no

/-- where the classes stand; the tables of code objects, with the names that these bear -/
structure ClsT where
  at_ : Nat → Addr
  tb : List (Addr × Str)
instance : CoeFun ClsT (fun _ => Nat → Addr) := ⟨ClsT.at_⟩
/-- what is fixed: the written part, where the classes stand -/
structure Gd where
  K : PySem.W.Frag
  cls : ClsT
/-- no table, no object told by a wish of its own -/
def NX (o : HO) : Prop := (∀ ps, o ≠ .tbl ps) ∧ ∀ φ, o ≠ .ext φ
/-- no tuple -/
def NT (o : HO) : Prop := ∀ vs, o ≠ .tup vs
theorem nt_lst {vs : List V} : NT (.lst vs) := fun _ z => by cases z
theorem nt_dK {kvs : List (Key × V)} : NT (.dK kvs) := fun _ z => by cases z
theorem nt_dT {kvs : List (List Key × V)} : NT (.dT kvs) := fun _ z => by cases z
theorem nx_lst {vs : List V} : NX (.lst vs) := ⟨fun _ z => (by cases z), fun _ z => (by cases z)⟩
theorem nx_tup {vs : List V} : NX (.tup vs) := ⟨fun _ z => (by cases z), fun _ z => (by cases z)⟩
theorem nx_frz {o : Obj} {u : HO} : NX (.frz o u) := ⟨fun _ z => (by cases z), fun _ z => (by cases z)⟩
theorem nx_dK {kvs : List (Key × V)} : NX (.dK kvs) := ⟨fun _ z => (by cases z), fun _ z => (by cases z)⟩
theorem nx_dT {kvs : List (List Key × V)} : NX (.dT kvs) := ⟨fun _ z => (by cases z), fun _ z => (by cases z)⟩
theorem nx_ins {c dx : Addr} {fs : List (Str × V)} : NX (.ins c dx fs) := ⟨fun _ z => (by cases z), fun _ z => (by cases z)⟩
/-- an exception object, behind its flight -/
def ExK (cls : Value) (d : Option Addr) (a : Addr) : HO := .ext fun h => ∃ (oe : Obj) (fv : Array Value), h.get? a = some oe ∧ Zc cls d oe ∧ oe.data = .fields fv

def KLs (K : PySem.W.Frag) (a : Addr) (xs : List V) : Prop :=
  ∃ (o : Obj) (its : Array Value) (n : Nat), K.lookup a = some o ∧ o.cls = .type "list" ∧ o.dict = none ∧ o.data = .seq its n ∧ its.size ≤ sizeLine ∧ Vals xs its.toList
def KTs (K : PySem.W.Frag) (a : Addr) (xs : List V) : Prop :=
  ∃ (o : Obj) (its : Array Value) (n : Nat), K.lookup a = some o ∧ o.cls = .type "tuple" ∧ o.data = .seq its n ∧ its.size ≤ sizeLine ∧ Vals xs its.toList

/-- the address is no mutable thing -/
def Nin (Z r : List Addr) (a : Addr) : Prop := a ∉ Z ∧ a ∉ r

/-- what stands at a frozen node -/
def Hat (g : Gd) (Z r : List Addr) (H : Hp) (a : Addr) (t : Hd) (vs : List V) : Prop :=
  match t with
  | .lst => Nin Z r a ∧ H a = some (.lst vs)
  | .tup => Nin Z r a ∧ H a = some (.tup vs)
  | .ktp => (Nin Z r a ∧ Rd H a (.tup vs)) ∨ KTs g.K a vs
  | .scr => (Nin Z r a ∧ Rd H a (.lst vs)) ∨ KLs g.K a vs
  | .dk ks => Nin Z r a ∧ (ks.length = vs.length ∧ ks.Nodup) ∧ H a = some (.dK (ks.zip vs))
  | .dt ks => Nin Z r a ∧ (ks.length = vs.length ∧ ks.Nodup) ∧ H a = some (.dT (ks.zip vs))
  | .ins c ns => Nin Z r a ∧ (ns.length = vs.length ∧ ns.Nodup) ∧ ∃ dx, H a = some (.ins (g.cls c) dx (ns.zip vs))
  | .exc c ns => Nin Z r a ∧ ∃ d, H a = some (ExK (.ref (g.cls c)) d a) ∧ ((d = none ∧ ns = [] ∧ vs = []) ∨ ∃ dx, d = some dx ∧ ns.length = vs.length ∧ Nin Z r dx ∧ H dx = some (.xd (ns.zip vs)))
  | .fn f c q caps => a = f ∧ vs = caps ∧ Nin Z r c ∧ H c = some (LamX.CodeO c q)
  | .glb c => a = g.cls c ∧ vs = []

/-- what stands at a mutable thing -/
def HatM (g : Gd) (H : Hp) (a : Addr) (t : Hd) (vs : List V) : Prop :=
  match t with
  | .lst => H a = some (.lst vs)
  | .tup => False
  | .scr => False
  | .ktp => False
  | .dk ks => (ks.length = vs.length ∧ ks.Nodup) ∧ H a = some (.dK (ks.zip vs))
  | .dt ks => (ks.length = vs.length ∧ ks.Nodup) ∧ H a = some (.dT (ks.zip vs))
  | .ins c ns => (ns.length = vs.length ∧ ns.Nodup) ∧ ∃ dx, H a = some (.ins (g.cls c) dx (ns.zip vs))
  | .exc _ _ => False
  | .fn _ _ _ _ => False
  | .glb _ => False

section
variable (g : Gd) (Z r : List Addr) (H : Hp)
mutual
def Rep : D → V → Prop
  | .non, v => v = .non
  | .bl b, v => v = .bl b
  | .int i, v => v = .int i
  | .str s, v => v = .str s
  | .h k, v => ∃ a, v = .ref a ∧ r[k]? = some a
  | .ty n, v => v = .ty n
  | .nd t xs, v => ∃ a vs, v = .ref a ∧ Hat g Z r H a t vs ∧ RepL xs vs
def RepL : List D → List V → Prop
  | [], vs => vs = []
  | d :: ds, vs => ∃ v q, vs = v :: q ∧ Rep d v ∧ RepL ds q
end
def Cell (d : D) (a : Addr) : Prop := ∃ t xs vs, d = .nd t xs ∧ HatM g H a t vs ∧ RepL g Z r H xs vs
/-- the store is borne -/
structure Rl (st : Store) : Prop where
  len : r.length = st.length
  nd : r.Nodup
  z : ∀ a ∈ Z, a ∉ r ∧ ∃ o, H a = some o ∧ NX o ∧ NT o
  tb : LamX.Tabs g.cls.tb H
  cell : ∀ (k : Nat) (d : D), st[k]? = some d → ∃ a, r[k]? = some a ∧ Cell g Z r H d a
end

/-- the store may have grown and turned, all else stands -/
structure Ext (r : List Addr) (H : Hp) (r' : List Addr) (H' : Hp) : Prop where
  pre : ∃ q, r' = r ++ q
  keep : ∀ a o, H a = some o → (∀ ps, o ≠ .tbl ps) → a ∉ r → H' a = some o ∧ a ∉ r'

theorem Ext.refl (r : List Addr) (H : Hp) : Ext r H r H := ⟨⟨[], by simp⟩, fun a o h _ n => ⟨h, n⟩⟩
theorem Ext.trans {r r1 r2 : List Addr} {H H1 H2 : Hp} (a : Ext r H r1 H1) (b : Ext r1 H1 r2 H2) : Ext r H r2 H2 := by
  obtain ⟨q1, e1⟩ := a.pre
  obtain ⟨q2, e2⟩ := b.pre
  refine ⟨⟨q1 ++ q2, by rw [e2, e1, List.append_assoc]⟩, fun x o h t n => ?_⟩
  obtain ⟨h1, n1⟩ := a.keep x o h t n
  exact b.keep x o h1 t n1
theorem Ext.get {r r1 : List Addr} {H H1 : Hp} (a : Ext r H r1 H1) {k : Nat} {x : Addr} (h : r[k]? = some x) : r1[k]? = some x := by
  obtain ⟨q, e⟩ := a.pre
  have hk : k < r.length := (List.getElem?_eq_some_iff.mp h).1
  rw [e, List.getElem?_append_left hk]; exact h
theorem Rd.some {H : Hp} {a : Addr} {u : HO} (h : Rd H a u) : ∃ o, H a = some o := by
  rcases h with h | ⟨o, h⟩
  · exact ⟨_, h⟩
  · exact ⟨_, h⟩
theorem Ext.rd {r r1 : List Addr} {H H1 : Hp} (e : Ext r H r1 H1) {Z : List Addr} {a : Addr} {u : HO} (t : NX u) (n : Nin Z r a) (h : Rd H a u) : Nin Z r1 a ∧ Rd H1 a u := by
  rcases h with h | ⟨o, h⟩
  · obtain ⟨h1, n1⟩ := e.keep a _ h t.1 n.2
    exact ⟨⟨n.1, n1⟩, .inl h1⟩
  · obtain ⟨h1, n1⟩ := e.keep a _ h nx_frz.1 n.2
    exact ⟨⟨n.1, n1⟩, .inr ⟨o, h1⟩⟩
theorem Ext.at' {r r1 : List Addr} {H H1 : Hp} (e : Ext r H r1 H1) {Z : List Addr} {a : Addr} {u : HO} (t : ∀ ps, u ≠ .tbl ps) (n : Nin Z r a) (h : H a = some u) : Nin Z r1 a ∧ H1 a = some u := by
  obtain ⟨h1, n1⟩ := e.keep a _ h t n.2
  exact ⟨⟨n.1, n1⟩, h1⟩
theorem Hat.ext {g : Gd} {Z r r1 : List Addr} {H H1 : Hp} (e : Ext r H r1 H1) {a : Addr} {t : Hd} {vs : List V} (h : Hat g Z r H a t vs) : Hat g Z r1 H1 a t vs := by
  cases t with
  | lst => exact e.at' nx_lst.1 h.1 h.2
  | scr => rcases h with ⟨n, h⟩ | h
           · exact .inl (e.rd nx_lst n h)
           · exact .inr h
  | tup => exact e.at' nx_tup.1 h.1 h.2
  | ktp => rcases h with ⟨n, h⟩ | h
           · exact .inl (e.rd nx_tup n h)
           · exact .inr h
  | dk ks => obtain ⟨n, l, h⟩ := h; obtain ⟨n1, h1⟩ := e.at' nx_dK.1 n h; exact ⟨n1, l, h1⟩
  | dt ks => obtain ⟨n, l, h⟩ := h; obtain ⟨n1, h1⟩ := e.at' nx_dT.1 n h; exact ⟨n1, l, h1⟩
  | ins c ns => obtain ⟨n, l, dx, h⟩ := h; obtain ⟨n1, h1⟩ := e.at' nx_ins.1 n h; exact ⟨n1, l, dx, h1⟩
  | exc c ns =>
    obtain ⟨n, d, h, q⟩ := h
    obtain ⟨n1, h1⟩ := e.at' (fun _ z => by cases z) n h
    refine ⟨n1, d, h1, ?_⟩
    rcases q with q | ⟨dx, e1, l, nd, hd⟩
    · exact .inl q
    · obtain ⟨n2, h2⟩ := e.at' (fun _ z => by cases z) nd hd
      exact .inr ⟨dx, e1, l, n2, h2⟩
  | glb c => exact h
  | fn f c q caps =>
    obtain ⟨e1, e2, n, h⟩ := h
    obtain ⟨n1, h1⟩ := e.at' (fun _ z => by cases z) n h
    exact ⟨e1, e2, n1, h1⟩
mutual
theorem Rep.ext {g : Gd} {Z r r1 : List Addr} {H H1 : Hp} (e : Ext r H r1 H1) : ∀ (d : D) {v : V}, Rep g Z r H d v → Rep g Z r1 H1 d v
  | .non, _, h => h
  | .bl _, _, h => h
  | .int _, _, h => h
  | .str _, _, h => h
  | .ty _, _, h => h
  | .h k, _, h => by obtain ⟨a, e1, e2⟩ := h; exact ⟨a, e1, e.get e2⟩
  | .nd t xs, _, h => by obtain ⟨a, vs, e1, h1, h2⟩ := h; exact ⟨a, vs, e1, h1.ext e, RepL.ext e xs h2⟩
theorem RepL.ext {g : Gd} {Z r r1 : List Addr} {H H1 : Hp} (e : Ext r H r1 H1) : ∀ (ds : List D) {vs : List V}, RepL g Z r H ds vs → RepL g Z r1 H1 ds vs
  | [], _, h => h
  | d :: ds, _, h => by obtain ⟨v, q, e1, h1, h2⟩ := h; exact ⟨v, q, e1, Rep.ext e d h1, RepL.ext e ds h2⟩
end

section
variable {g : Gd} {Z r : List Addr} {H : Hp}
theorem RepL.length : ∀ {ds : List D} {vs : List V}, RepL g Z r H ds vs → ds.length = vs.length
  | [], _, h => by cases h; rfl
  | d :: ds, _, h => by obtain ⟨v, q, e1, h1, h2⟩ := h; subst e1; simp [RepL.length h2]
theorem RepL.get : ∀ {ds : List D} {vs : List V} {i : Nat} {d : D}, RepL g Z r H ds vs → ds[i]? = some d → ∃ v, vs[i]? = some v ∧ Rep g Z r H d v
  | [], _, _, _, h, e => by simp at e
  | d :: ds, _, 0, _, h, e => by
    obtain ⟨v, q, e1, h1, h2⟩ := h; subst e1
    simp at e; subst e; exact ⟨v, by simp, h1⟩
  | d :: ds, _, i + 1, _, h, e => by
    obtain ⟨v, q, e1, h1, h2⟩ := h; subst e1
    simp at e
    obtain ⟨w, a, b⟩ := RepL.get h2 e
    exact ⟨w, by simpa using a, b⟩
theorem RepL.append : ∀ {ds es : List D} {vs ws : List V}, RepL g Z r H ds vs → RepL g Z r H es ws → RepL g Z r H (ds ++ es) (vs ++ ws)
  | [], _, _, _, h, h' => by cases h; simpa using h'
  | d :: ds, _, _, _, h, h' => by
    obtain ⟨v, q, e1, h1, h2⟩ := h; subst e1
    exact ⟨v, q ++ _, rfl, h1, RepL.append h2 h'⟩
theorem RepL.take : ∀ {ds : List D} {vs : List V} (n : Nat), RepL g Z r H ds vs → RepL g Z r H (ds.take n) (vs.take n)
  | _, _, 0, _ => by simp [RepL]
  | [], _, n + 1, h => by cases h; simp [RepL]
  | d :: ds, _, n + 1, h => by
    obtain ⟨v, q, e1, h1, h2⟩ := h; subst e1
    exact ⟨v, _, by simp, h1, RepL.take n h2⟩
theorem RepL.drop : ∀ {ds : List D} {vs : List V} (n : Nat), RepL g Z r H ds vs → RepL g Z r H (ds.drop n) (vs.drop n)
  | _, _, 0, h => by simpa using h
  | [], _, n + 1, h => by cases h; simp [RepL]
  | d :: ds, _, n + 1, h => by
    obtain ⟨v, q, e1, h1, h2⟩ := h; subst e1
    simpa using RepL.drop n h2
theorem RepL.set {d : D} {v : V} (hd : Rep g Z r H d v) : ∀ {ds : List D} {vs : List V} (n : Nat), RepL g Z r H ds vs → RepL g Z r H (ds.set n d) (vs.set n v)
  | [], _, _, h => by cases h; simp [RepL]
  | e :: ds, _, 0, h => by
    obtain ⟨w, q, e1, h1, h2⟩ := h; subst e1
    exact ⟨v, q, rfl, hd, h2⟩
  | e :: ds, _, n + 1, h => by
    obtain ⟨w, q, e1, h1, h2⟩ := h; subst e1
    exact ⟨w, _, rfl, h1, RepL.set hd n h2⟩
theorem RepL.one {d : D} {v : V} (h : Rep g Z r H d v) : RepL g Z r H [d] [v] := ⟨v, [], rfl, h, rfl⟩
theorem RepL.reverse : ∀ {ds : List D} {vs : List V}, RepL g Z r H ds vs → RepL g Z r H ds.reverse vs.reverse
  | [], _, h => by cases h; simp [RepL]
  | d :: ds, _, h => by
    obtain ⟨v, q, e1, h1, h2⟩ := h; subst e1
    simp only [List.reverse_cons]
    exact RepL.append (RepL.reverse h2) (RepL.one h1)
theorem RepL.erase : ∀ {ds : List D} {vs : List V} (n : Nat), RepL g Z r H ds vs → RepL g Z r H (ds.eraseIdx n) (vs.eraseIdx n)
  | [], _, _, h => by cases h; simp [RepL]
  | d :: ds, _, 0, h => by obtain ⟨v, q, e1, h1, h2⟩ := h; subst e1; simpa using h2
  | d :: ds, _, n + 1, h => by
    obtain ⟨v, q, e1, h1, h2⟩ := h; subst e1
    exact ⟨v, _, by simp, h1, RepL.erase n h2⟩
theorem RepL.ints : ∀ (ns : List Int), RepL g Z r H (ns.map D.int) (ns.map V.int)
  | [] => rfl
  | n :: ns => ⟨_, _, rfl, rfl, RepL.ints ns⟩
theorem RepL.replicate {d : D} {v : V} (h : Rep g Z r H d v) : ∀ n : Nat, RepL g Z r H (List.replicate n d) (List.replicate n v)
  | 0 => rfl
  | n + 1 => ⟨v, _, rfl, h, RepL.replicate h n⟩

/-- frozen lists and tuples may be read -/
theorem Hat.lst {a : Addr} {vs : List V} (h : Hat g Z r H a .lst vs) : SqL g.K H a vs := .inl (.inl h.2)
theorem Hat.scr {a : Addr} {vs : List V} (h : Hat g Z r H a .scr vs) : SqL g.K H a vs := by
  rcases h with ⟨_, h⟩ | h
  · exact .inl h
  · exact .inr h
theorem Hat.tup {a : Addr} {vs : List V} (h : Hat g Z r H a .tup vs) : SqT g.K H a vs := .inl (.inl h.2)
theorem Hat.ktp {a : Addr} {vs : List V} (h : Hat g Z r H a .ktp vs) : SqT g.K H a vs := by
  rcases h with ⟨_, h⟩ | h
  · exact .inl h
  · exact .inr h

theorem Rl.free {st : Store} (R : Rl g Z r H st) {p : Addr} (h : H p = none) : p ∉ Z ∧ p ∉ r := by
  refine ⟨fun m => ?_, fun m => ?_⟩
  · obtain ⟨_, o, e, _⟩ := R.z p m; rw [h] at e; cases e
  · obtain ⟨k, hk, e⟩ := List.getElem_of_mem m
    have hk' : k < st.length := by rw [← R.len]; exact hk
    obtain ⟨a, ea, t, xs, vs, _, hm, _⟩ := R.cell k st[k] (List.getElem?_eq_getElem hk')
    have : r[k]? = some p := by rw [List.getElem?_eq_getElem hk, e]
    rw [this] at ea; cases ea
    cases t with
    | lst => rw [show H p = some (.lst vs) from hm] at h; cases h
    | tup => exact hm
    | scr => exact hm
    | ktp => exact hm
    | dk ks => obtain ⟨_, q⟩ := hm; rw [q] at h; cases h
    | dt ks => obtain ⟨_, q⟩ := hm; rw [q] at h; cases h
    | ins c ns => obtain ⟨_, _, q⟩ := hm; rw [q] at h; cases h
    | exc c ns => exact hm
    | glb c => exact hm
    | fn f c q caps => exact hm
end

/-- a change at an address that is not tracked as frozen and is no cell: Rep stands -/
theorem Hat.off {g : Gd} {Z r : List Addr} {H : Hp} {p : Addr} {o : HO} {a : Addr} {t : Hd} {vs : List V} (hp : ¬ Nin Z r p) (h : Hat g Z r H a t vs) : Hat g Z r (upd H p o) a t vs := by
  have ne : ∀ {b : Addr}, Nin Z r b → b ≠ p := fun n e => hp (e ▸ n)
  have rd : ∀ {b : Addr} {u : HO}, Nin Z r b → Rd H b u → Rd (upd H p o) b u := fun n q => by
    rcases q with q | ⟨x, q⟩
    · exact .inl (by rw [upd_ne (ne n)]; exact q)
    · exact .inr ⟨x, by rw [upd_ne (ne n)]; exact q⟩
  cases t with
  | lst => obtain ⟨n, h⟩ := h; exact ⟨n, by rw [upd_ne (ne n)]; exact h⟩
  | scr => rcases h with ⟨n, h⟩ | h
           · exact .inl ⟨n, rd n h⟩
           · exact .inr h
  | tup => obtain ⟨n, h⟩ := h; exact ⟨n, by rw [upd_ne (ne n)]; exact h⟩
  | ktp => rcases h with ⟨n, h⟩ | h
           · exact .inl ⟨n, rd n h⟩
           · exact .inr h
  | dk ks => obtain ⟨n, l, h⟩ := h; exact ⟨n, l, by rw [upd_ne (ne n)]; exact h⟩
  | dt ks => obtain ⟨n, l, h⟩ := h; exact ⟨n, l, by rw [upd_ne (ne n)]; exact h⟩
  | ins c ns => obtain ⟨n, l, dx, h⟩ := h; exact ⟨n, l, dx, by rw [upd_ne (ne n)]; exact h⟩
  | exc c ns =>
    obtain ⟨n, d, h, q⟩ := h
    refine ⟨n, d, by rw [upd_ne (ne n)]; exact h, ?_⟩
    rcases q with q | ⟨dx, e1, l, nd, hd⟩
    · exact .inl q
    · exact .inr ⟨dx, e1, l, nd, by rw [upd_ne (ne nd)]; exact hd⟩
  | glb c => exact h
  | fn f c q caps => obtain ⟨e1, e2, n, h⟩ := h; exact ⟨e1, e2, n, by rw [upd_ne (ne n)]; exact h⟩
mutual
theorem Rep.off {g : Gd} {Z r : List Addr} {H : Hp} {p : Addr} {o : HO} (hp : ¬ Nin Z r p) : ∀ (d : D) {v : V}, Rep g Z r H d v → Rep g Z r (upd H p o) d v
  | .non, _, h => h
  | .bl _, _, h => h
  | .int _, _, h => h
  | .str _, _, h => h
  | .ty _, _, h => h
  | .h k, _, h => h
  | .nd t xs, _, h => by obtain ⟨a, vs, e1, h1, h2⟩ := h; exact ⟨a, vs, e1, h1.off hp, RepL.off hp xs h2⟩
theorem RepL.off {g : Gd} {Z r : List Addr} {H : Hp} {p : Addr} {o : HO} (hp : ¬ Nin Z r p) : ∀ (ds : List D) {vs : List V}, RepL g Z r H ds vs → RepL g Z r (upd H p o) ds vs
  | [], _, h => h
  | d :: ds, _, h => by obtain ⟨v, q, e1, h1, h2⟩ := h; exact ⟨v, q, e1, Rep.off hp d h1, RepL.off hp ds h2⟩
end
/-- another list of forbidden addresses, another store -/
theorem Hat.turn {g : Gd} {Z r Z' r' : List Addr} {H : Hp} (f : ∀ a, Nin Z r a → (∃ o, H a = some o) → Nin Z' r' a) {a : Addr} {t : Hd} {vs : List V} (h : Hat g Z r H a t vs) : Hat g Z' r' H a t vs := by
  cases t with
  | lst => obtain ⟨n, h⟩ := h; exact ⟨f a n ⟨_, h⟩, h⟩
  | scr => rcases h with ⟨n, h⟩ | h
           · exact .inl ⟨f a n (Rd.some h), h⟩
           · exact .inr h
  | tup => obtain ⟨n, h⟩ := h; exact ⟨f a n ⟨_, h⟩, h⟩
  | ktp => rcases h with ⟨n, h⟩ | h
           · exact .inl ⟨f a n (Rd.some h), h⟩
           · exact .inr h
  | dk ks => obtain ⟨n, l, h⟩ := h; exact ⟨f a n ⟨_, h⟩, l, h⟩
  | dt ks => obtain ⟨n, l, h⟩ := h; exact ⟨f a n ⟨_, h⟩, l, h⟩
  | ins c ns => obtain ⟨n, l, dx, h⟩ := h; exact ⟨f a n ⟨_, h⟩, l, dx, h⟩
  | exc c ns =>
    obtain ⟨n, d, h, q⟩ := h
    refine ⟨f a n ⟨_, h⟩, d, h, ?_⟩
    rcases q with q | ⟨dx, e1, l, nd, hd⟩
    · exact .inl q
    · exact .inr ⟨dx, e1, l, f dx nd ⟨_, hd⟩, hd⟩
  | glb c => exact h
  | fn f' c q caps => obtain ⟨e1, e2, n, h⟩ := h; exact ⟨e1, e2, f c n ⟨_, h⟩, h⟩
mutual
theorem Rep.turn {g : Gd} {Z r Z' r' : List Addr} {H : Hp} (f : ∀ a, Nin Z r a → (∃ o, H a = some o) → Nin Z' r' a) (hr : ∀ (k : Nat) a, r[k]? = some a → r'[k]? = some a) : ∀ (d : D) {v : V}, Rep g Z r H d v → Rep g Z' r' H d v
  | .non, _, h => h
  | .bl _, _, h => h
  | .int _, _, h => h
  | .str _, _, h => h
  | .ty _, _, h => h
  | .h k, _, h => by obtain ⟨a, e1, e2⟩ := h; exact ⟨a, e1, hr k a e2⟩
  | .nd t xs, _, h => by obtain ⟨a, vs, e1, h1, h2⟩ := h; exact ⟨a, vs, e1, h1.turn f, RepL.turn f hr xs h2⟩
theorem RepL.turn {g : Gd} {Z r Z' r' : List Addr} {H : Hp} (f : ∀ a, Nin Z r a → (∃ o, H a = some o) → Nin Z' r' a) (hr : ∀ (k : Nat) a, r[k]? = some a → r'[k]? = some a) : ∀ (ds : List D) {vs : List V}, RepL g Z r H ds vs → RepL g Z' r' H ds vs
  | [], _, h => h
  | d :: ds, _, h => by obtain ⟨v, q, e1, h1, h2⟩ := h; exact ⟨v, q, e1, Rep.turn f hr d h1, RepL.turn f hr ds h2⟩
end

section
variable {g : Gd} {Z r : List Addr} {H : Hp} {st : Store}
/-- a new thing at p that nobody knows -/
theorem Ext.new {p : Addr} {o : HO} (h : H p = none) : Ext r H r (upd H p o) :=
  ⟨⟨[], by simp⟩, fun a u e _ n => ⟨by rw [upd_ne (ne_of_none e h)]; exact e, n⟩⟩
theorem tabs_upd {T : List (Addr × Str)} {a : Addr} {o : HO} (ha : ∀ u, H a = some u → NX u) (h : LamX.Tabs T H) : LamX.Tabs T (upd H a o) := fun p hp => by
  obtain ⟨ps, h1, h2, h3⟩ := h p hp
  have n1 : p.1 ≠ a := fun z => (ha (.tbl ps) (by rw [← z]; exact h1)).1 ps rfl
  refine ⟨ps, by rw [upd_ne n1]; exact h1, h2, fun pos cv hc => ?_⟩
  obtain ⟨c, e1, e2⟩ := h3 pos cv hc
  have n2 : c ≠ a := fun z => (ha (LamX.CodeO c p.2) (by rw [← z]; exact e2)).2 _ rfl
  exact ⟨c, e1, by rw [upd_ne n2]; exact e2⟩
theorem HatM.nx {a : Addr} {t : Hd} {vs : List V} (h : HatM g H a t vs) : ∀ u, H a = some u → NX u := fun u e => by
  cases t with
  | lst => rw [show H a = some (.lst vs) from h] at e; cases e; exact nx_lst
  | tup => exact h.elim
  | scr => exact h.elim
  | ktp => exact h.elim
  | dk ks => rw [h.2] at e; cases e; exact nx_dK
  | dt ks => rw [h.2] at e; cases e; exact nx_dT
  | ins c ns => obtain ⟨_, dx, h⟩ := h; rw [h] at e; cases e; exact nx_ins
  | exc c ns => exact h.elim
  | glb c => exact h.elim
  | fn f c q caps => exact h.elim
theorem HatM.some {a : Addr} {t : Hd} {vs : List V} (h : HatM g H a t vs) : ∃ o, H a = some o := by
  cases t with
  | lst => exact ⟨_, h⟩
  | tup => exact h.elim
  | scr => exact h.elim
  | ktp => exact h.elim
  | dk ks => exact ⟨_, h.2⟩
  | dt ks => exact ⟨_, h.2⟩
  | ins c ns => obtain ⟨_, dx, h⟩ := h; exact ⟨_, h⟩
  | exc c ns => exact h.elim
  | glb c => exact h.elim
  | fn f c q caps => exact h.elim
theorem HatM.keep {H' : Hp} {a : Addr} {t : Hd} {vs : List V} (e : H' a = H a) (h : HatM g H a t vs) : HatM g H' a t vs := by
  cases t with
  | lst => exact e.trans h
  | tup => exact h.elim
  | scr => exact h.elim
  | ktp => exact h.elim
  | dk ks => exact ⟨h.1, e.trans h.2⟩
  | dt ks => exact ⟨h.1, e.trans h.2⟩
  | ins c ns => obtain ⟨l, dx, h⟩ := h; exact ⟨l, dx, e.trans h⟩
  | exc c ns => exact h.elim
  | glb c => exact h.elim
  | fn f c q caps => exact h.elim
theorem Rl.new {p : Addr} {o : HO} (R : Rl g Z r H st) (h : H p = none) : Rl g Z r (upd H p o) st := by
  refine ⟨R.len, R.nd, fun a m => ?_, tabs_upd (fun u z => by rw [h] at z; cases z) R.tb, fun k d e => ?_⟩
  · obtain ⟨n, u, e, x⟩ := R.z a m
    exact ⟨n, u, by rw [upd_ne (ne_of_none e h)]; exact e, x⟩
  · obtain ⟨a, ea, t, xs, vs, ed, hm, hx⟩ := R.cell k d e
    obtain ⟨u, eu⟩ := hm.some
    exact ⟨a, ea, t, xs, vs, ed, hm.keep (upd_ne (ne_of_none eu h)), RepL.ext (Ext.new h) xs hx⟩
/-- a new thing that is kept in the store -/
theorem Ext.grow {p : Addr} {o : HO} (h : H p = none) : Ext r H (r ++ [p]) (upd H p o) :=
  ⟨⟨[p], rfl⟩, fun a u e _ n => by
    have ne := ne_of_none e h
    exact ⟨by rw [upd_ne ne]; exact e, by simp [n, ne]⟩⟩
theorem Rl.grow {p : Addr} {o : HO} {t : Hd} {xs : List D} {vs : List V} (R : Rl g Z r H st) (h : H p = none) (hm : HatM g (upd H p o) p t vs) (hx : RepL g Z r H xs vs) :
    Rl g Z (r ++ [p]) (upd H p o) (st ++ [.nd t xs]) := by
  have fr := R.free h
  refine ⟨by simp [R.len], ?_, fun a m => ?_, tabs_upd (fun u z => by rw [h] at z; cases z) R.tb, fun k d e => ?_⟩
  · refine List.nodup_append.mpr ⟨R.nd, by simp, ?_⟩
    intro a ha b hb; simp at hb; subst hb; intro e; subst e; exact fr.2 ha
  · obtain ⟨n, u, e, x⟩ := R.z a m
    have ne := ne_of_none e h
    exact ⟨by simp [n, ne], u, by rw [upd_ne ne]; exact e, x⟩
  · by_cases hk : k < st.length
    · rw [List.getElem?_append_left hk] at e
      obtain ⟨a, ea, t', xs', vs', ed, hm', hx'⟩ := R.cell k d e
      obtain ⟨u, eu⟩ := hm'.some
      have hk' : k < r.length := by rw [R.len]; exact hk
      exact ⟨a, by rw [List.getElem?_append_left hk']; exact ea, t', xs', vs', ed, hm'.keep (upd_ne (ne_of_none eu h)), RepL.ext (Ext.grow h) xs' hx'⟩
    · have hk2 : k = st.length := by
        have := (List.getElem?_eq_some_iff.mp e).1
        simp at this; omega
      subst hk2
      simp at e; subst e
      exact ⟨p, by rw [← R.len]; simp, t, xs, vs, rfl, hm, RepL.ext (Ext.grow h) xs hx⟩
/-- a thing of the store is written -/
theorem Ext.write {k : Nat} {a : Addr} {o : HO} (h : r[k]? = some a) : Ext r H r (upd H a o) :=
  ⟨⟨[], by simp⟩, fun b u e _ n => ⟨by rw [upd_ne (show b ≠ a from fun z => n (by rw [z]; exact List.mem_of_getElem? h))]; exact e, n⟩⟩
theorem Rl.write {k : Nat} {a : Addr} {o : HO} {t : Hd} {xs : List D} {vs : List V} (R : Rl g Z r H st) (h : r[k]? = some a) (hm : HatM g (upd H a o) a t vs) (hx : RepL g Z r H xs vs) :
    Rl g Z r (upd H a o) (st.set k (.nd t xs)) := by
  have hna : ¬ Nin Z r a := fun n => n.2 (List.mem_of_getElem? h)
  have hat : ∀ u, H a = some u → NX u := fun u e => by
    obtain ⟨hk, _⟩ := List.getElem?_eq_some_iff.mp h
    have hk' : k < st.length := by rw [← R.len]; exact hk
    obtain ⟨b, eb, t', xs', vs', ed, hm', hx'⟩ := R.cell k _ (List.getElem?_eq_getElem hk')
    rw [h] at eb; cases eb
    exact hm'.nx u e
  refine ⟨by simp [R.len], R.nd, fun b m => ?_, tabs_upd hat R.tb, fun j d e => ?_⟩
  · obtain ⟨n, u, e, x⟩ := R.z b m
    exact ⟨n, u, by rw [upd_ne (show b ≠ a from fun z => n (by rw [z]; exact List.mem_of_getElem? h))]; exact e, x⟩
  · by_cases hj : j = k
    · subst hj
      have hk' : j < st.length := by rw [← R.len]; exact (List.getElem?_eq_some_iff.mp h).1
      rw [List.getElem?_set_self hk'] at e
      cases e
      exact ⟨a, h, t, xs, vs, rfl, hm, RepL.off hna xs hx⟩
    · rw [List.getElem?_set_ne (Ne.symm hj)] at e
      obtain ⟨b, eb, t', xs', vs', ed, hm', hx'⟩ := R.cell j d e
      have ne : b ≠ a := fun z => by
        subst z
        obtain ⟨h1, e1⟩ := List.getElem?_eq_some_iff.mp eb
        obtain ⟨h2, e2⟩ := List.getElem?_eq_some_iff.mp h
        exact hj ((List.getElem_inj R.nd).mp (e1.trans e2.symm))
      exact ⟨b, eb, t', xs', vs', ed, hm'.keep (upd_ne ne), RepL.off hna xs' hx'⟩
end

/-- the names' values -/
structure EnvR (g : Gd) (Z r : List Addr) (H : Hp) (env : DEnv) (sg : L2.St) : Prop where
  len : env.length = sg.length
  at_ : ∀ (i : Nat) (d : D), env[i]? = some (some d) → ∃ v, sg[i]? = some (some v) ∧ Rep g Z r H d v
theorem EnvR.ext {g : Gd} {Z r r1 : List Addr} {H H1 : Hp} {env : DEnv} {sg : L2.St} (E : EnvR g Z r H env sg) (e : Ext r H r1 H1) : EnvR g Z r1 H1 env sg :=
  ⟨E.len, fun i d h => let ⟨v, a, b⟩ := E.at_ i d h; ⟨v, a, Rep.ext e d b⟩⟩
theorem EnvR.set {g : Gd} {Z r : List Addr} {H : Hp} {env : DEnv} {sg : L2.St} (E : EnvR g Z r H env sg) (i : Nat) {d : D} {v : V} (h : Rep g Z r H d v) : EnvR g Z r H (env.set i (some d)) (sg.set i (some v)) := by
  refine ⟨by simp [E.len], fun j e hj => ?_⟩
  by_cases hij : j = i
  · subst hij
    have hl : j < env.length := by
      have := (List.getElem?_eq_some_iff.mp hj).1
      simpa using this
    rw [List.getElem?_set_self hl] at hj
    cases hj
    exact ⟨v, by rw [List.getElem?_set_self (by rw [← E.len]; exact hl)], h⟩
  · rw [List.getElem?_set_ne (Ne.symm hij)] at hj ⊢
    exact E.at_ j e hj
end DY

/-! Expressions by what they compute on data. -/
namespace DY
open PySem PySem.Spec PyProof.Rows L2

/-- the number that the built-in class KeyError bears -/
def kKE : Nat := 1000000
def exV (g : Gd) (c : Nat) : Value := if c = kKE then .type "KeyError" else .ref (g.cls c)
/-- an exception of e's class with its attributes -/
def RepX (g : Gd) (Z r : List Addr) (H : Hp) (e : Ex) (cls : Value) (d : Option Addr) : Prop :=
  cls = exV g e.c ∧ ((e.c = kKE ∧ e.ns = [] ∧ e.xs = []) ∨ (d = none ∧ e.ns = [] ∧ e.xs = []) ∨ ∃ dx vs, d = some dx ∧ e.ns.length = vs.length ∧ Nin Z r dx ∧ H dx = some (.xd (e.ns.zip vs)) ∧ RepL g Z r H e.xs vs)

/-- the result stands as it is told, whatever addresses it takes -/
def Post {A B : Type} (g : Gd) (Z r : List Addr) (H : Hp) (RA : List Addr → Hp → A → B → Prop) (x : Res A) (Q : B → Hp → Prop) (W : Value → Option Addr → Hp → Prop) : Prop :=
  match x with
  | .ok a st => ∀ r' H' b, Ext r H r' H' → Rl g Z r' H' st → RA r' H' a b → Q b H'
  | .er e st => ∀ r' H' cls d, Ext r H r' H' → Rl g Z r' H' st → RepX g Z r' H' e cls d → W cls d H'
  | .no => False
theorem Post.ext {A B : Type} {g : Gd} {Z r r1 : List Addr} {H H1 : Hp} {RA : List Addr → Hp → A → B → Prop} {x : Res A} {Q : B → Hp → Prop} {W : Value → Option Addr → Hp → Prop}
    (e : Ext r H r1 H1) (h : Post g Z r H RA x Q W) : Post g Z r1 H1 RA x Q W := by
  cases x with
  | ok a st => exact fun r' H' b e' R q => h r' H' b (e.trans e') R q
  | er x st => exact fun r' H' c d e' R q => h r' H' c d (e.trans e') R q
  | no => exact h
theorem Post.bind {A B C F : Type} {g : Gd} {Z r : List Addr} {H : Hp} {RA : List Addr → Hp → A → B → Prop} {RC : List Addr → Hp → C → F → Prop} {x : Res A} {k : A → Store → Res C} {Q : B → Hp → Prop} {QC : F → Hp → Prop} {W : Value → Option Addr → Hp → Prop}
    (h : Post g Z r H RC (x.bind k) QC W)
    (hk : ∀ a st r' H' b, x = .ok a st → Ext r H r' H' → Rl g Z r' H' st → RA r' H' a b → Post g Z r' H' RC (k a st) QC W → Q b H') : Post g Z r H RA x Q W := by
  cases x with
  | ok a st => exact fun r' H' b e R q => hk a st r' H' b rfl e R q (Post.ext e h)
  | er x st => exact h
  | no => exact h
theorem Post.imp {A B : Type} {g : Gd} {Z r : List Addr} {H : Hp} {RA : List Addr → Hp → A → B → Prop} {x : Res A} {Q Q' : B → Hp → Prop} {W : Value → Option Addr → Hp → Prop}
    (h : Post g Z r H RA x Q W) (f : ∀ b H', Q b H' → Q' b H') : Post g Z r H RA x Q' W := by
  cases x with
  | ok a st => exact fun r' H' b e R q => f b H' (h r' H' b e R q)
  | er x st => exact h
  | no => exact h

abbrev RV (g : Gd) (Z : List Addr) : List Addr → Hp → D → V → Prop := fun r H => Rep g Z r H
abbrev RVs (g : Gd) (Z : List Addr) : List Addr → Hp → List D → List V → Prop := fun r H => RepL g Z r H
abbrev RB : List Addr → Hp → Bool → Bool → Prop := fun _ _ a b => a = b

abbrev SemE := DEnv → Store → Res D
abbrev SemA := DEnv → Store → Res (List D)
abbrev SemT := DEnv → Store → Res Bool

def rdE (g : Gd) (W : WX) (f : SemE) : TE := fun sg H Q => ∃ Z r env st, EnvR g Z r H env sg ∧ Rl g Z r H st ∧ Post g Z r H (RV g Z) (f env st) Q (fun c d H' => W c d sg H')
def rdA (g : Gd) (W : WX) (f : SemA) : TA := fun sg H Q => ∃ Z r env st, EnvR g Z r H env sg ∧ Rl g Z r H st ∧ Post g Z r H (RVs g Z) (f env st) Q (fun c d H' => W c d sg H')
def rdT (g : Gd) (W : WX) (f : SemT) : TT := fun sg H Q => ∃ Z r env st, EnvR g Z r H env sg ∧ Rl g Z r H st ∧ Post g Z r H RB (f env st) Q (fun c d H' => W c d sg H')

/-- e computes f -/
structure SE (X : Cx) (cl : ClsT) (W : WX) (e : Expr) (f : SemE) : Prop where
  run : PE X e (rdE ⟨X.K, cl⟩ W f)
structure SA (X : Cx) (cl : ClsT) (W : WX) (es : List Expr) (f : SemA) : Prop where
  run : PA X es (rdA ⟨X.K, cl⟩ W f)
structure ST (X : Cx) (cl : ClsT) (W : WX) (e : Expr) (f : SemT) : Prop where
  run : PT X e (rdT ⟨X.K, cl⟩ W f)
/-- a part of a conjunction -/
structure SW (X : Cx) (cl : ClsT) (W : WX) (e : Expr) (f : SemT) : Prop where
  run : PW X e (rdT ⟨X.K, cl⟩ W f)

theorem _root_.L2.PE.imp {X : Cx} {e : Expr} {t t' : TE} (h : PE X e t) (f : ∀ sg H Q, t' sg H Q → t sg H Q) : PE X e t' := ⟨fun pins s sg H Q I q => h.run pins s sg H Q I (f sg H Q q)⟩
theorem _root_.L2.PA.imp {X : Cx} {e : List Expr} {t t' : TA} (h : PA X e t) (f : ∀ sg H Q, t' sg H Q → t sg H Q) : PA X e t' := ⟨fun pos pins s sg H Q I q => h.run pos pins s sg H Q I (f sg H Q q)⟩
theorem _root_.L2.PT.imp {X : Cx} {e : Expr} {t t' : TT} (h : PT X e t) (f : ∀ sg H Q, t' sg H Q → t sg H Q) : PT X e t' := ⟨fun pins s sg H Q I q => h.run pins s sg H Q I (f sg H Q q)⟩
theorem _root_.L2.PW.imp {X : Cx} {e : Expr} {t t' : TT} (h : PW X e t) (f : ∀ sg H Q, t' sg H Q → t sg H Q) : PW X e t' := ⟨fun wh pins s sg H Q I q => h.run wh pins s sg H Q I (f sg H Q q)⟩

/-! ### the store read -/
/-- what stands at a datum -/
def seen (st : Store) : D → Option (Hd × List D)
  | .nd t xs => some (t, xs)
  | .h k => match st[k]? with
    | some (.nd t xs) => some (t, xs)
    | _ => none
  | _ => none
/-- a list's items -/
def lst? (st : Store) (d : D) : Option (List D) := match seen st d with
  | some (.lst, xs) => some xs
  | some (.scr, xs) => some xs
  | _ => none
/-- of a list that may be joined with another one -/
def lstX? (st : Store) (d : D) : Option (List D) := match seen st d with
  | some (.lst, xs) => some xs
  | _ => none
def tup? (st : Store) (d : D) : Option (List D) := match seen st d with
  | some (.tup, xs) => some xs
  | some (.ktp, xs) => some xs
  | _ => none
def tupX? (st : Store) (d : D) : Option (List D) := match seen st d with
  | some (.tup, xs) => some xs
  | _ => none

section
variable {g : Gd} {Z r : List Addr} {H : Hp} {st : Store} {d : D} {v : V} {xs : List D}
/-- what is read stands there -/
theorem seen_ok (R : Rl g Z r H st) (h : Rep g Z r H d v) {t : Hd} (e : seen st d = some (t, xs)) : ∃ a vs, v = .ref a ∧ RepL g Z r H xs vs ∧ (Hat g Z r H a t vs ∨ HatM g H a t vs) := by
  cases d with
  | nd t' ys =>
    cases e
    obtain ⟨a, vs, e1, h1, h2⟩ := h
    exact ⟨a, vs, e1, h2, .inl h1⟩
  | h k =>
    obtain ⟨a, e1, e2⟩ := h
    have e' : (match st[k]? with | some (.nd t xs) => some (t, xs) | _ => none) = some (t, xs) := e
    cases hk : st[k]? with
    | none => rw [hk] at e'; cases e'
    | some c =>
      rw [hk] at e'
      cases c with
      | nd t' ys =>
        cases e'
        obtain ⟨b, eb, t2, ys2, vs, ed, hm, hx⟩ := R.cell k _ hk
        cases ed
        rw [e2] at eb; cases eb
        exact ⟨a, vs, e1, hx, .inr hm⟩
      | non => cases e'
      | bl b => cases e'
      | int i => cases e'
      | str s => cases e'
      | ty s => cases e'
      | h j => cases e'
  | non => cases e
  | bl b => cases e
  | int i => cases e
  | str s => cases e
  | ty s => cases e
theorem lst_ok (R : Rl g Z r H st) (h : Rep g Z r H d v) (e : lst? st d = some xs) : ∃ a vs, v = .ref a ∧ RepL g Z r H xs vs ∧ SqL g.K H a vs := by
  unfold lst? at e
  split at e
  · rename_i ys es
    cases e
    obtain ⟨a, vs, e1, h2, h3⟩ := seen_ok R h es
    refine ⟨a, vs, e1, h2, ?_⟩
    rcases h3 with h3 | h3
    · exact Hat.lst h3
    · exact SqL.of h3
  · rename_i ys es
    cases e
    obtain ⟨a, vs, e1, h2, h3⟩ := seen_ok R h es
    refine ⟨a, vs, e1, h2, ?_⟩
    rcases h3 with h3 | h3
    · exact Hat.scr h3
    · exact h3.elim
  · cases e
theorem lstX_ok (R : Rl g Z r H st) (h : Rep g Z r H d v) (e : lstX? st d = some xs) : ∃ a vs, v = .ref a ∧ RepL g Z r H xs vs ∧ H a = some (.lst vs) := by
  unfold lstX? at e
  split at e
  · rename_i ys es
    cases e
    obtain ⟨a, vs, e1, h2, h3⟩ := seen_ok R h es
    refine ⟨a, vs, e1, h2, ?_⟩
    rcases h3 with h3 | h3
    · exact h3.2
    · exact h3
  · cases e
theorem tup_ok (R : Rl g Z r H st) (h : Rep g Z r H d v) (e : tup? st d = some xs) : ∃ a vs, v = .ref a ∧ RepL g Z r H xs vs ∧ SqT g.K H a vs := by
  unfold tup? at e
  split at e
  · rename_i ys es
    cases e
    obtain ⟨a, vs, e1, h2, h3⟩ := seen_ok R h es
    refine ⟨a, vs, e1, h2, ?_⟩
    rcases h3 with h3 | h3
    · exact Hat.tup h3
    · exact h3.elim
  · rename_i ys es
    cases e
    obtain ⟨a, vs, e1, h2, h3⟩ := seen_ok R h es
    refine ⟨a, vs, e1, h2, ?_⟩
    rcases h3 with h3 | h3
    · exact Hat.ktp h3
    · exact h3.elim
  · cases e
theorem tupX_ok (R : Rl g Z r H st) (h : Rep g Z r H d v) (e : tupX? st d = some xs) : ∃ a vs, v = .ref a ∧ RepL g Z r H xs vs ∧ H a = some (.tup vs) := by
  unfold tupX? at e
  split at e
  · rename_i ys es
    cases e
    obtain ⟨a, vs, e1, h2, h3⟩ := seen_ok R h es
    refine ⟨a, vs, e1, h2, ?_⟩
    rcases h3 with h3 | h3
    · exact h3.2
    · exact h3.elim
  · cases e
end

/-! ### leaves -/
section
variable {X : Cx} {cl : ClsT} {W : WX}
def dConst (d : D) : SemE := fun _ st => .ok d st
def dVar (i : Nat) : SemE := fun env st => match env[i]? with
  | some (some d) => .ok d st
  | _ => .no
theorem post_ok {A B : Type} {g : Gd} {Z r : List Addr} {H : Hp} {RA : List Addr → Hp → A → B → Prop} {a : A} {st : Store} {Q : B → Hp → Prop} {W' : Value → Option Addr → Hp → Prop} {b : B}
    (h : Post g Z r H RA (.ok a st) Q W') (R : Rl g Z r H st) (q : RA r H a b) : Q b H := h r H b (Ext.refl r H) R q
theorem se_int {i : Int} {j : Nat} {pos : Pos} : SE X cl W (.Constant (.int i) j pos) (dConst (.int i)) := ⟨pe_int.imp fun sg H Q ⟨Z, r, env, st, E, R, h⟩ => post_ok h R rfl⟩
theorem se_bl {b : Bool} {j : Nat} {pos : Pos} : SE X cl W (.Constant (.bool b) j pos) (dConst (.bl b)) := ⟨pe_bl.imp fun sg H Q ⟨Z, r, env, st, E, R, h⟩ => post_ok h R rfl⟩
theorem se_non {j : Nat} {pos : Pos} : SE X cl W (.Constant .none j pos) (dConst .non) := ⟨pe_non.imp fun sg H Q ⟨Z, r, env, st, E, R, h⟩ => post_ok h R rfl⟩
theorem se_str {x : Str} {j : Nat} {pos : Pos} : SE X cl W (.Constant (.str x) j pos) (dConst (.str x)) := ⟨pe_str.imp fun sg H Q ⟨Z, r, env, st, E, R, h⟩ => post_ok h R rfl⟩
theorem se_var (i : Nat) {x : Str} {pos : Pos} (hN : X.N[i]? = some x := by rfl) (hv : Vis X.env.scope x := by first | exact Or.inl rfl | exact Or.inr (Or.inl rfl) | exact Or.inr (Or.inr rfl))
    (hd : (x == ("__debug__" : Str)) = false := by decide +kernel) (hcd : (x == ("__classdict__" : Str)) = false := by decide +kernel) : SE X cl W (.Name x pos) (dVar i) := by
  refine ⟨(pe_var hN hv hd hcd).imp fun sg H Q ⟨Z, r, env, st, E, R, h⟩ => ?_⟩
  unfold dVar at h
  cases he : env[i]? with
  | none => rw [he] at h; exact h.elim
  | some o =>
    cases o with
    | none => rw [he] at h; exact h.elim
    | some d =>
      rw [he] at h
      obtain ⟨v, e1, q⟩ := E.at_ i d he
      exact ⟨v, e1, post_ok h R q⟩
/-- a module's constant -/
theorem se_glob {x : Str} {v : V} {u : Value} {d : D} {pos : Pos} (hg : Gl X x) (hm : X.mg x = some u) (rv : RelV v u) (hd : ∀ Z r H, Rep ⟨X.K, cl⟩ Z r H d v) (hdb : (x == ("__debug__" : Str)) = false := by decide +kernel) : SE X cl W (.Name x pos) (dConst d) :=
  ⟨(pe_glob hg hm rv hdb).imp fun sg H Q ⟨Z, r, env, st, E, R, h⟩ => post_ok h R (hd Z r H)⟩

/-! ### operators -/
def dBin (op : D → D → Store → Res D) (fa fb : SemE) : SemE := fun env st => (fa env st).bind fun x st1 => (fb env st1).bind fun y st2 => op x y st2
/-- what an operator does on values is what op does on data -/
structure OpS (X : Cx) (cl : ClsT) (f : Value → Value → Sem Value) (op : D → D → Store → Res D) : Prop where
  ex : ∃ rr : R2, OpR X f rr ∧ ∀ {Z r : List Addr} {H : Hp} {st : Store} {x y : D} {v u : V} {Q : VK} {W' : Value → Option Addr → Hp → Prop}, Rl ⟨X.K, cl⟩ Z r H st → Rep ⟨X.K, cl⟩ Z r H x v → Rep ⟨X.K, cl⟩ Z r H y u →
    Post ⟨X.K, cl⟩ Z r H (RV ⟨X.K, cl⟩ Z) (op x y st) Q W' → rr v u H Q
theorem rd_bin {rr : R2} {op : D → D → Store → Res D} {fa fb : SemE} {W : WX} (hop : ∀ {Z r : List Addr} {H : Hp} {st : Store} {x y : D} {v u : V} {Q : VK} {W' : Value → Option Addr → Hp → Prop}, Rl ⟨X.K, cl⟩ Z r H st → Rep ⟨X.K, cl⟩ Z r H x v → Rep ⟨X.K, cl⟩ Z r H y u →
    Post ⟨X.K, cl⟩ Z r H (RV ⟨X.K, cl⟩ Z) (op x y st) Q W' → rr v u H Q) (sg : L2.St) (H : Hp) (Q : VK) (h : rdE ⟨X.K, cl⟩ W (dBin op fa fb) sg H Q) : tOp rr (rdE ⟨X.K, cl⟩ W fa) (rdE ⟨X.K, cl⟩ W fb) sg H Q := by
  obtain ⟨Z, r, env, st, E, R, h⟩ := h
  refine ⟨Z, r, env, st, E, R, Post.bind h fun x st1 r1 H1 v _ e1 R1 q1 h1 => ?_⟩
  refine ⟨Z, r1, env, st1, E.ext e1, R1, Post.bind h1 fun y st2 r2 H2 u _ e2 R2 q2 h2 => ?_⟩
  exact hop R2 (Rep.ext e2 x q1) q2 h2
theorem se_bin {op : Operator} {o : D → D → Store → Res D} (ho : OpS X cl (binaryOp op) o) {a b : Expr} {fa fb : SemE} {pos : Pos} (ha : SE X cl W a fa) (hb : SE X cl W b fb) : SE X cl W (.BinOp a op b pos) (dBin o fa fb) := by
  obtain ⟨rr, hr, hop⟩ := ho.ex
  exact ⟨(pe_op hr ha.run hb.run).imp (rd_bin hop)⟩
theorem se_cmp {op : CmpOp} {o : D → D → Store → Res D} (ho : OpS X cl (compareOp op) o) {a b : Expr} {fa fb : SemE} {pos : Pos} (ha : SE X cl W a fa) (hb : SE X cl W b fb) (hm : behindInMarks op b = false := by rfl) : SE X cl W (.Compare a [op] [b] pos) (dBin o fa fb) := by
  obtain ⟨rr, hr, hop⟩ := ho.ex
  exact ⟨(pe_cmpR hr ha.run hb.run hm).imp (rd_bin hop)⟩
/-- a value's bool -/
def dBool (f : SemE) : SemT := fun env st => (f env st).bind fun x st1 => match x with
  | .bl b => .ok b st1
  | _ => .no
theorem rd_bool {g : Gd} {f : SemE} {W : WX} {t : TE} (ht : ∀ sg H Q, rdE g W f sg H Q → t sg H Q) (sg : L2.St) (H : Hp) (Q : Bool → Hp → Prop) (h : rdT g W (dBool f) sg H Q) : tTest t sg H Q := by
  obtain ⟨Z, r, env, st, E, R, h⟩ := h
  refine ht sg H _ ⟨Z, r, env, st, E, R, Post.bind h fun x st1 r1 H1 v _ e1 R1 q1 h1 => ?_⟩
  cases x with
  | bl b => exact ⟨b, q1, post_ok h1 R1 rfl⟩
  | non => exact h1.elim
  | int i => exact h1.elim
  | str s => exact h1.elim
  | ty s => exact h1.elim
  | h k => exact h1.elim
  | nd t xs => exact h1.elim
theorem st_cmp {op : CmpOp} {o : D → D → Store → Res D} (ho : OpS X cl (compareOp op) o) {a b : Expr} {fa fb : SemE} {pos : Pos} (ha : SE X cl W a fa) (hb : SE X cl W b fb) (hm : behindInMarks op b = false := by rfl) : ST X cl W (.Compare a [op] [b] pos) (dBool (dBin o fa fb)) := by
  obtain ⟨rr, hr, hop⟩ := ho.ex
  exact ⟨(pt_cmpR hr ha.run hb.run hm).imp (rd_bool (rd_bin hop))⟩
/-- any expression whose value is a bool -/
theorem st_val {e : Expr} {f : SemE} (h : SE X cl W e f) (he : ∀ whole, isTrue e X.env whole = (do let v ← whole; standAt e.pos; holding [v] (truthy v)) := by intro _; rfl) : ST X cl W e (dBool f) :=
  ⟨(pt_val h.run he).imp (rd_bool fun _ _ _ q => q)⟩
/-- a op1 b op2 c -/
def dChain (o o' : D → D → Store → Res D) (fa fb fc : SemE) : SemE := fun env st => (fa env st).bind fun x st1 => (fb env st1).bind fun y st2 => (o x y st2).bind fun z st3 => match z with
  | .bl true => (fc env st3).bind fun w st4 => o' y w st4
  | .bl false => .ok (.bl false) st3
  | _ => .no
theorem rd_chain {rr rr' : R2} {o o' : D → D → Store → Res D} {fa fb fc : SemE} {W : WX} (hop : ∀ {Z r : List Addr} {H : Hp} {st : Store} {x y : D} {v u : V} {Q : VK} {W' : Value → Option Addr → Hp → Prop}, Rl ⟨X.K, cl⟩ Z r H st → Rep ⟨X.K, cl⟩ Z r H x v → Rep ⟨X.K, cl⟩ Z r H y u →
    Post ⟨X.K, cl⟩ Z r H (RV ⟨X.K, cl⟩ Z) (o x y st) Q W' → rr v u H Q) (hop' : ∀ {Z r : List Addr} {H : Hp} {st : Store} {x y : D} {v u : V} {Q : VK} {W' : Value → Option Addr → Hp → Prop}, Rl ⟨X.K, cl⟩ Z r H st → Rep ⟨X.K, cl⟩ Z r H x v → Rep ⟨X.K, cl⟩ Z r H y u →
    Post ⟨X.K, cl⟩ Z r H (RV ⟨X.K, cl⟩ Z) (o' x y st) Q W' → rr' v u H Q) (sg : L2.St) (H : Hp) (Q : VK) (h : rdE ⟨X.K, cl⟩ W (dChain o o' fa fb fc) sg H Q) : tChain rr rr' (rdE ⟨X.K, cl⟩ W fa) (rdE ⟨X.K, cl⟩ W fb) (rdE ⟨X.K, cl⟩ W fc) sg H Q := by
  obtain ⟨Z, r, env, st, E, R, h⟩ := h
  refine ⟨Z, r, env, st, E, R, Post.bind h fun x st1 r1 H1 v _ e1 R1 q1 h1 => ?_⟩
  refine ⟨Z, r1, env, st1, E.ext e1, R1, Post.bind h1 fun y st2 r2 H2 u _ e2 R2 q2 h2 => ?_⟩
  refine hop R2 (Rep.ext e2 x q1) q2 (Post.bind h2 fun z st3 r3 H3 zv _ e3 R3 q3 h3 => ?_)
  cases z with
  | bl b =>
    refine ⟨b, q3, ?_⟩
    cases b with
    | true =>
      rw [if_pos rfl]
      refine ⟨Z, r3, env, st3, E.ext ((e1.trans e2).trans e3), R3, Post.bind h3 fun w st4 r4 H4 wv _ e4 R4 q4 h4 => ?_⟩
      exact hop' R4 (Rep.ext (e3.trans e4) y q2) q4 h4
    | false =>
      rw [if_neg (by decide)]
      exact post_ok h3 R3 rfl
  | non => exact h3.elim
  | int i => exact h3.elim
  | str s => exact h3.elim
  | ty s => exact h3.elim
  | h k => exact h3.elim
  | nd t xs => exact h3.elim
theorem se_chain {op op' : CmpOp} {o o' : D → D → Store → Res D} (ho : OpS X cl (compareOp op) o) (ho' : OpS X cl (compareOp op') o') {a b c : Expr} {fa fb fc : SemE} {pos : Pos} (ha : SE X cl W a fa) (hb : SE X cl W b fb) (hc : SE X cl W c fc)
    (hm : lastMarks [op, op'] [b, c] = false := by with_unfolding_all rfl) : SE X cl W (.Compare a [op, op'] [b, c] pos) (dChain o o' fa fb fc) := by
  obtain ⟨rr, hr, hop⟩ := ho.ex
  obtain ⟨rr', hr', hop'⟩ := ho'.ex
  exact ⟨(pe_chain hr hr' ha.run hb.run hc.run hm).imp (rd_chain hop hop')⟩
/-! ### and, or, not, if else -/
def dAnd (fa fb : SemT) : SemT := fun env st => (fa env st).bind fun x st1 => if x = true then fb env st1 else .ok false st1
def dOr (fa fb : SemT) : SemT := fun env st => (fa env st).bind fun x st1 => if x = true then .ok true st1 else fb env st1
def dNot (fa : SemT) : SemT := fun env st => (fa env st).bind fun x st1 => .ok (!x) st1
theorem rd_and {g : Gd} {fa fb : SemT} (sg : L2.St) (H : Hp) (Q : Bool → Hp → Prop) (h : rdT g W (dAnd fa fb) sg H Q) : tAnd (rdT g W fa) (rdT g W fb) sg H Q := by
  obtain ⟨Z, r, env, st, E, R, h⟩ := h
  refine ⟨Z, r, env, st, E, R, Post.bind h fun x st1 r1 H1 v _ e1 R1 q1 h1 => ?_⟩
  cases q1
  cases x with
  | true => rw [if_pos rfl] at h1 ⊢; exact ⟨Z, r1, env, st1, E.ext e1, R1, h1⟩
  | false => rw [if_neg (by decide)] at h1 ⊢; exact post_ok h1 R1 rfl
theorem rd_or {g : Gd} {fa fb : SemT} (sg : L2.St) (H : Hp) (Q : Bool → Hp → Prop) (h : rdT g W (dOr fa fb) sg H Q) : tOr (rdT g W fa) (rdT g W fb) sg H Q := by
  obtain ⟨Z, r, env, st, E, R, h⟩ := h
  refine ⟨Z, r, env, st, E, R, Post.bind h fun x st1 r1 H1 v _ e1 R1 q1 h1 => ?_⟩
  cases q1
  cases x with
  | true => rw [if_pos rfl] at h1 ⊢; exact post_ok h1 R1 rfl
  | false => rw [if_neg (by decide)] at h1 ⊢; exact ⟨Z, r1, env, st1, E.ext e1, R1, h1⟩
theorem SW.st {e : Expr} {f : SemT} (h : SW X cl W e f) : ST X cl W e f := ⟨h.run.pt⟩
variable {a b c : Expr} {rest : List Expr} {pos : Pos}
theorem sw_and1 {fa : SemT} (ha : ST X cl W a fa) : SW X cl W (.BoolOp .And [a] pos) fa := ⟨pw_and1 ha.run⟩
theorem sw_or1 {fa : SemT} (ha : ST X cl W a fa) : SW X cl W (.BoolOp .Or [a] pos) fa := ⟨pw_or1 ha.run⟩
theorem sw_and {fa fb : SemT} (ha : ST X cl W a fa) (hb : SW X cl W (.BoolOp .And (b :: rest) pos) fb) : SW X cl W (.BoolOp .And (a :: b :: rest) pos) (dAnd fa fb) := ⟨(pw_and ha.run hb.run).imp (rd_and (W := W))⟩
theorem sw_or {fa fb : SemT} (ha : ST X cl W a fa) (hb : SW X cl W (.BoolOp .Or (b :: rest) pos) fb) : SW X cl W (.BoolOp .Or (a :: b :: rest) pos) (dOr fa fb) := ⟨(pw_or ha.run hb.run).imp (rd_or (W := W))⟩
theorem st_not {fa : SemT} (ha : ST X cl W a fa) : ST X cl W (.UnaryOp .Not a pos) (dNot fa) := by
  refine ⟨(pt_not ha.run).imp fun sg H Q ⟨Z, r, env, st, E, R, h⟩ => ?_⟩
  refine ⟨Z, r, env, st, E, R, Post.bind h fun x st1 r1 H1 v _ e1 R1 q1 h1 => ?_⟩
  cases q1
  exact post_ok h1 R1 rfl
/-- as values -/
def dAndV (fa fb : SemE) : SemE := fun env st => (fa env st).bind fun x st1 => match x with
  | .bl true => fb env st1
  | .bl false => .ok (.bl false) st1
  | _ => .no
def dOrV (fa fb : SemE) : SemE := fun env st => (fa env st).bind fun x st1 => match x with
  | .bl true => .ok (.bl true) st1
  | .bl false => fb env st1
  | _ => .no
def dNotV (fa : SemE) : SemE := fun env st => (fa env st).bind fun x st1 => match x with
  | .bl b => .ok (.bl (!b)) st1
  | _ => .no
theorem se_one {op : BoolOp} {fa : SemE} (h : SE X cl W a fa) : SE X cl W (.BoolOp op [a] pos) fa := ⟨pe_one h.run⟩
theorem se_and {fa fb : SemE} (ha : SE X cl W a fa) (hb : SE X cl W (.BoolOp .And (b :: rest) pos) fb) : SE X cl W (.BoolOp .And (a :: b :: rest) pos) (dAndV fa fb) := by
  refine ⟨(pe_and ha.run hb.run).imp fun sg H Q ⟨Z, r, env, st, E, R, h⟩ => ?_⟩
  refine ⟨Z, r, env, st, E, R, Post.bind h fun x st1 r1 H1 v _ e1 R1 q1 h1 => ?_⟩
  cases x with
  | bl b =>
    refine ⟨b, q1, ?_⟩
    cases b with
    | true => rw [if_pos rfl]; exact ⟨Z, r1, env, st1, E.ext e1, R1, h1⟩
    | false => rw [if_neg (by decide)]; exact post_ok h1 R1 rfl
  | non => exact h1.elim
  | int i => exact h1.elim
  | str s => exact h1.elim
  | ty s => exact h1.elim
  | h k => exact h1.elim
  | nd t xs => exact h1.elim
theorem se_not {fa : SemE} (ha : SE X cl W a fa) : SE X cl W (.UnaryOp .Not a pos) (dNotV fa) := by
  refine ⟨(pe_not ha.run).imp fun sg H Q ⟨Z, r, env, st, E, R, h⟩ => ?_⟩
  refine ⟨Z, r, env, st, E, R, Post.bind h fun x st1 r1 H1 v _ e1 R1 q1 h1 => ?_⟩
  cases x with
  | bl b => exact ⟨b, q1, post_ok h1 R1 rfl⟩
  | non => exact h1.elim
  | int i => exact h1.elim
  | str s => exact h1.elim
  | ty s => exact h1.elim
  | h k => exact h1.elim
  | nd t xs => exact h1.elim
def dIfE (ft : SemT) (fa fb : SemE) : SemE := fun env st => (ft env st).bind fun x st1 => if x = true then fa env st1 else fb env st1
theorem se_ifE {ft : SemT} {fa fb : SemE} (hc : ST X cl W c ft) (ha : SE X cl W a fa) (hb : SE X cl W b fb) : SE X cl W (.IfExp c a b pos) (dIfE ft fa fb) := by
  refine ⟨(pe_ifExp hc.run ha.run hb.run).imp fun sg H Q ⟨Z, r, env, st, E, R, h⟩ => ?_⟩
  refine ⟨Z, r, env, st, E, R, Post.bind h fun x st1 r1 H1 v _ e1 R1 q1 h1 => ?_⟩
  cases q1
  cases x with
  | true => rw [if_pos rfl] at h1 ⊢; exact ⟨Z, r1, env, st1, E.ext e1, R1, h1⟩
  | false => rw [if_neg (by decide)] at h1 ⊢; exact ⟨Z, r1, env, st1, E.ext e1, R1, h1⟩
/-! ### argument lists, displays -/
def dNil : SemA := fun _ st => .ok [] st
def dCons (fa : SemE) (fr : SemA) : SemA := fun env st => (fa env st).bind fun x st1 => (fr env st1).bind fun xs st2 => .ok (x :: xs) st2
theorem sa_nil : SA X cl W [] dNil := ⟨pa_nil.imp fun sg H Q ⟨Z, r, env, st, E, R, h⟩ => post_ok h R rfl⟩
theorem sa_cons {e : Expr} {es : List Expr} {fa : SemE} {fr : SemA} (ha : SE X cl W e fa) (hr : SA X cl W es fr) (hs : starEach (e :: es) X.env = (false, eval e X.env) :: starEach es X.env := by rfl) : SA X cl W (e :: es) (dCons fa fr) := by
  refine ⟨(pa_cons ha.run hr.run hs).imp fun sg H Q ⟨Z, r, env, st, E, R, h⟩ => ?_⟩
  refine ⟨Z, r, env, st, E, R, Post.bind h fun x st1 r1 H1 v _ e1 R1 q1 h1 => ?_⟩
  refine ⟨Z, r1, env, st1, E.ext e1, R1, Post.bind h1 fun xs st2 r2 H2 vs _ e2 R2 q2 h2 => ?_⟩
  exact post_ok h2 R2 ⟨v, vs, rfl, Rep.ext e2 x q1, q2⟩
abbrev szL : Nat := sizeLine
def dTup (f : SemA) : SemE := fun env st => (f env st).bind fun xs st1 => if xs.length ≤ szL then .ok (.nd .tup xs) st1 else .no
/-- a list that stays as it is -/
def dLst (f : SemA) : SemE := fun env st => (f env st).bind fun xs st1 => if xs.length ≤ szL then .ok (.nd .lst xs) st1 else .no
/-- a list that will be changed -/
def dLstM (f : SemA) : SemE := fun env st => (f env st).bind fun xs st1 => if xs.length ≤ szL then .ok (.h st1.length) (st1 ++ [.nd .lst xs]) else .no
section
variable {g : Gd} {Z r : List Addr} {H : Hp} {st : Store} {xs : List D} {vs : List V} {p : Addr}
theorem new_lst (R : Rl g Z r H st) (hx : RepL g Z r H xs vs) (hp : H p = none) : Rep g Z r (upd H p (.lst vs)) (.nd .lst xs) (.ref p) :=
  ⟨p, vs, rfl, ⟨R.free hp, upd_same⟩, RepL.ext (Ext.new hp) xs hx⟩
theorem new_tup (R : Rl g Z r H st) (hx : RepL g Z r H xs vs) (hp : H p = none) : Rep g Z r (upd H p (.tup vs)) (.nd .tup xs) (.ref p) :=
  ⟨p, vs, rfl, ⟨R.free hp, upd_same⟩, RepL.ext (Ext.new hp) xs hx⟩
theorem new_lstM (R : Rl g Z r H st) (hx : RepL g Z r H xs vs) (hp : H p = none) : Rl g Z (r ++ [p]) (upd H p (.lst vs)) (st ++ [.nd .lst xs]) ∧ Rep g Z (r ++ [p]) (upd H p (.lst vs)) (.h st.length) (.ref p) :=
  ⟨R.grow hp (show HatM g (upd H p (.lst vs)) p .lst vs from upd_same) hx, p, rfl, by rw [← R.len]; simp⟩
end
theorem se_tup {es : List Expr} {f : SemA} {k : Nat} (h : SA X cl W es f) : SE X cl W (.Tuple es k pos) (dTup f) := by
  refine ⟨(pe_tup h.run).imp fun sg H Q ⟨Z, r, env, st, E, R, h⟩ => ?_⟩
  refine ⟨Z, r, env, st, E, R, Post.bind h fun xs st1 r1 H1 vs _ e1 R1 q1 h1 => ?_⟩
  split at h1
  · rename_i hl
    exact ⟨by rw [← RepL.length q1]; exact hl, fun p hp => h1 r1 _ _ (Ext.new hp) (R1.new hp) (new_tup R1 q1 hp)⟩
  · exact h1.elim
theorem se_lst {es : List Expr} {f : SemA} (h : SA X cl W es f) : SE X cl W (.List es pos) (dLst f) := by
  refine ⟨(pe_lst h.run).imp fun sg H Q ⟨Z, r, env, st, E, R, h⟩ => ?_⟩
  refine ⟨Z, r, env, st, E, R, Post.bind h fun xs st1 r1 H1 vs _ e1 R1 q1 h1 => ?_⟩
  split at h1
  · rename_i hl
    exact ⟨by rw [← RepL.length q1]; exact hl, fun p hp => h1 r1 _ _ (Ext.new hp) (R1.new hp) (new_lst R1 q1 hp)⟩
  · exact h1.elim
theorem se_lstM {es : List Expr} {f : SemA} (h : SA X cl W es f) : SE X cl W (.List es pos) (dLstM f) := by
  refine ⟨(pe_lst h.run).imp fun sg H Q ⟨Z, r, env, st, E, R, h⟩ => ?_⟩
  refine ⟨Z, r, env, st, E, R, Post.bind h fun xs st1 r1 H1 vs _ e1 R1 q1 h1 => ?_⟩
  split at h1
  · rename_i hl
    exact ⟨by rw [← RepL.length q1]; exact hl, fun p hp => let ⟨a, b⟩ := new_lstM R1 q1 hp; h1 _ _ _ (Ext.grow hp) a b⟩
  · exact h1.elim
end
end DY

/-! Operators on data. -/
namespace DY
open PySem PySem.Spec PyProof.Rows L2

section
variable {X : Cx} {cl : ClsT}
/-- two data ints -/
def onI (C : Int → Int → Prop) [∀ i j, Decidable (C i j)] (f : Int → Int → D) : D → D → Store → Res D := fun x y st => match x, y with
  | .int i, .int j => if C i j then .ok (f i j) st else .no
  | _, _ => .no
theorem ops_int {f : Value → Value → Sem Value} {C : Int → Int → Prop} [∀ i j, Decidable (C i j)] {k : Int → Int → Int} (ho : OpR X f (rI C fun i j => .int (k i j))) : OpS X cl f (onI C fun i j => .int (k i j)) := by
  refine ⟨_, ho, fun {Z r H st x y v u Q W'} R hx hy h => ?_⟩
  unfold onI at h
  split at h
  · rename_i i j
    split at h
    · rename_i hc
      exact ⟨i, j, hx, hy, hc, post_ok h R rfl⟩
    · exact h.elim
  · exact h.elim
instance (i j : Int) : Decidable (CMul i j) := by unfold CMul; infer_instance
instance (i j : Int) : Decidable (CMulW i j) := by unfold CMulW; infer_instance
instance (i j : Int) : Decidable (CDiv i j) := by unfold CDiv; infer_instance
instance (i j : Int) : Decidable (CDivW i j) := by unfold CDivW; infer_instance
instance (i j : Int) : Decidable (CPow i j) := by unfold CPow; infer_instance
def CTrue (_ _ : Int) : Prop := True
instance (i j : Int) : Decidable (CTrue i j) := .isTrue trivial
theorem opr_true {f : Value → Value → Sem Value} {k : Int → Int → V} (h : OpR X f (rI0 k)) : OpR X f (rI CTrue k) := fun pins s sg H x y v u Q I rx ry q => by
  obtain ⟨i, j, h1, h2, _, h3⟩ := q
  exact h pins s sg H x y v u Q I rx ry ⟨i, j, h1, h2, h3⟩
theorem opr_or {f : Value → Value → Sem Value} {C C' : Int → Int → Prop} {k : Int → Int → V} (h : OpR X f (rI C k)) (h' : OpR X f (rI C' k)) : OpR X f (rI (fun i j => C i j ∨ C' i j) k) := fun pins s sg H x y v u Q I rx ry q => by
  obtain ⟨i, j, h1, h2, hc, h3⟩ := q
  rcases hc with hc | hc
  · exact h pins s sg H x y v u Q I rx ry ⟨i, j, h1, h2, hc, h3⟩
  · exact h' pins s sg H x y v u Q I rx ry ⟨i, j, h1, h2, hc, h3⟩
def dSub : D → D → Store → Res D := onI CTrue fun i j => .int (i - j)
theorem ops_sub : OpS X cl (binaryOp .Sub) dSub := ops_int (opr_true op_sub)
def dFdiv : D → D → Store → Res D := onI (fun i j => CDiv i j ∨ CDivW i j) fun i j => .int (i / j)
theorem ops_fdiv : OpS X cl (binaryOp .FloorDiv) dFdiv := ops_int (opr_or op_fdiv op_fdivW)
def dMod : D → D → Store → Res D := onI (fun _ j => 0 < j) fun i j => .int (i % j)
theorem ops_mod : OpS X cl (binaryOp .Mod) dMod := ops_int op_mod
def dPow : D → D → Store → Res D := onI CPow fun i j => .int (i ^ j.toNat)
theorem ops_pow : OpS X cl (binaryOp .Pow) dPow := ops_int op_pow
/-- + -/
def dAdd (x y : D) (st : Store) : Res D :=
  match x, y with
  | .int i, .int j => .ok (.int (i + j)) st
  | .str a, .str b => if a.length + b.length ≤ szL then .ok (.str (a ++ b)) st else .no
  | x, y => match lstX? st x, lstX? st y with
    | some xs, some ys => if xs.length + ys.length ≤ szL then .ok (.nd .lst (xs ++ ys)) st else .no
    | _, _ => match tupX? st x, tupX? st y with
      | some xs, some ys => if xs.length + ys.length ≤ szL then .ok (.nd .tup (xs ++ ys)) st else .no
      | _, _ => .no
theorem RepL.nil_of {g : Gd} {Z r : List Addr} {H : Hp} {xs : List D} {vs : List V} (h : RepL g Z r H xs vs) : xs = [] ↔ vs = [] := by
  have := h.length
  constructor
  · rintro rfl; exact List.length_eq_zero_iff.mp this.symm
  · rintro rfl; exact List.length_eq_zero_iff.mp this
theorem tup_is {g : Gd} {Z r : List Addr} {H : Hp} {st : Store} (R : Rl g Z r H st) {x : D} {xs : List D} (e : tupX? st x = some xs) : x = .nd .tup xs := by
  unfold tupX? at e
  cases hs : seen st x with
  | none => rw [hs] at e; cases e
  | some p =>
    obtain ⟨t, ys⟩ := p
    rw [hs] at e
    cases t <;> cases e
    cases x with
    | nd t zs => cases hs; rfl
    | h k =>
      have h' : (match st[k]? with | some (.nd t xs) => some (t, xs) | _ => none) = some (Hd.tup, xs) := hs
      cases hk : st[k]? with
      | none => rw [hk] at h'; cases h'
      | some c =>
        rw [hk] at h'
        cases c with
        | nd t' ys =>
          cases h'
          obtain ⟨b, _, t2, ys2, vs, ed, hm, _⟩ := R.cell k _ hk
          cases ed
          exact hm.elim
        | non => cases h'
        | bl b => cases h'
        | int i => cases h'
        | str s => cases h'
        | ty s => cases h'
        | h j => cases h'
    | non => cases hs
    | bl b => cases hs
    | int i => cases hs
    | str s => cases hs
    | ty s => cases hs
/-- two tuples joined -/
theorem cat_tups {Z r : List Addr} {H : Hp} {st : Store} {x y : D} {v u : V} {xs ys : List D} {Q : VK} {W' : Value → Option Addr → Hp → Prop} (R : Rl ⟨X.K, cl⟩ Z r H st) (hx : Rep ⟨X.K, cl⟩ Z r H x v) (hy : Rep ⟨X.K, cl⟩ Z r H y u)
    (ex : tupX? st x = some xs) (ey : tupX? st y = some ys) (hl : xs.length + ys.length ≤ szL) (h : Post ⟨X.K, cl⟩ Z r H (RV ⟨X.K, cl⟩ Z) (.ok (.nd .tup (xs ++ ys)) st) Q W') : rCatA X.K v u H Q := by
  obtain ⟨a, vs, rfl, q1, s1⟩ := tupX_ok R hx ex
  obtain ⟨b, us, rfl, q2, s2⟩ := tupX_ok R hy ey
  refine ⟨a, b, vs, us, rfl, rfl, SqT.of s1, SqT.of s2, by rw [← q1.length, ← q2.length]; exact hl, fun e => ?_, fun e e' => ?_, fun _ _ p hp => ?_⟩
  · have ex0 : xs = [] := q1.nil_of.mpr e
    subst ex0
    rw [tup_is R ey] at hy
    exact post_ok h R (by simpa using hy)
  · have ey0 : ys = [] := q2.nil_of.mpr e'
    subst ey0
    rw [tup_is R ex] at hx
    exact post_ok h R (by simpa using hx)
  · exact h r _ _ (Ext.new hp) (R.new hp) (new_tup R (q1.append q2) hp)
theorem ops_add : OpS X cl (binaryOp .Add) dAdd := by
  refine ⟨_, ((op_add.or op_add_str).or op_cat).or op_catA, fun {Z r H st x y v u Q W'} R hx hy h => ?_⟩
  unfold dAdd at h
  split at h
  · rename_i i j
    exact .inl (.inl (.inl ⟨i, j, hx, hy, post_ok h R rfl⟩))
  · rename_i a b
    split at h
    · rename_i hl
      exact .inl (.inl (.inr ⟨a, b, hx, hy, hl, post_ok h R rfl⟩))
    · exact h.elim
  · split at h
    · rename_i xs ys ex ey
      split at h
      · rename_i hl
        obtain ⟨a, vs, rfl, q1, s1⟩ := lstX_ok R hx ex
        obtain ⟨b, us, rfl, q2, s2⟩ := lstX_ok R hy ey
        exact .inl (.inr ⟨a, b, vs, us, rfl, rfl, s1, s2, by rw [← q1.length, ← q2.length]; exact hl, fun p hp => h r _ _ (Ext.new hp) (R.new hp) (new_lst R (q1.append q2) hp)⟩)
      · exact h.elim
    · split at h
      · rename_i xs ys ex ey
        split at h
        · rename_i hl
          exact .inr (cat_tups R hx hy ex ey hl h)
        · exact h.elim
      · exact h.elim
theorem RepL.flat {g : Gd} {Z r : List Addr} {H : Hp} {xs : List D} {vs : List V} (h : RepL g Z r H xs vs) : ∀ k : Nat, RepL g Z r H (List.replicate k xs).flatten (List.replicate k vs).flatten
  | 0 => rfl
  | k + 1 => by simpa [List.replicate_succ] using h.append (RepL.flat h k)
/-- * -/
def dMul (x y : D) (st : Store) : Res D :=
  match x, y with
  | .int i, .int j => if CMul i j ∨ CMulW i j then .ok (.int (i * j)) st else .no
  | x, .int k => match lstX? st x with
    | some xs => if (-(2 ^ 63) ≤ k ∧ k < 2 ^ 63) ∧ xs.length * k.toNat ≤ szL then .ok (.nd .lst (List.replicate k.toNat xs).flatten) st else .no
    | none => .no
  | _, _ => .no
theorem ops_mul : OpS X cl (binaryOp .Mult) dMul := by
  refine ⟨_, (opr_or op_mul op_mulW).or op_rep, fun {Z r H st x y v u Q W'} R hx hy h => ?_⟩
  unfold dMul at h
  split at h
  · rename_i i j
    split at h
    · rename_i hc
      exact .inl ⟨i, j, hx, hy, hc, post_ok h R rfl⟩
    · exact h.elim
  · rename_i k _
    split at h
    · rename_i xs ex
      split at h
      · rename_i hc
        obtain ⟨a, vs, rfl, q1, s1⟩ := lstX_ok R hx ex
        exact .inr ⟨a, k, vs, rfl, hy, s1, hc.1.1, hc.1.2, by rw [← q1.length]; exact hc.2, fun p hp => h r _ _ (Ext.new hp) (R.new hp) (new_lst R (q1.flat _) hp)⟩
      · exact h.elim
    · exact h.elim
  · exact h.elim

/-! ### comparisons -/
def onIB (f : Int → Int → Bool) : D → D → Store → Res D := fun x y st => match x, y with
  | .int i, .int j => .ok (.bl (f i j)) st
  | _, _ => .no
theorem ops_intB {f : Value → Value → Sem Value} {k : Int → Int → Bool} (ho : OpR X f (rI0 fun i j => .bl (k i j))) : OpS X cl f (onIB k) := by
  refine ⟨_, ho, fun {Z r H st x y v u Q W'} R hx hy h => ?_⟩
  unfold onIB at h
  split at h
  · rename_i i j
    exact ⟨i, j, hx, hy, post_ok h R rfl⟩
  · exact h.elim
def dLt : D → D → Store → Res D := onIB fun i j => decide (i < j)
def dLe : D → D → Store → Res D := onIB fun i j => decide (i ≤ j)
def dGt : D → D → Store → Res D := onIB fun i j => decide (j < i)
def dGe : D → D → Store → Res D := onIB fun i j => decide (j ≤ i)
theorem ops_lt : OpS X cl (compareOp .Lt) dLt := ops_intB op_lt
theorem ops_le : OpS X cl (compareOp .LtE) dLe := ops_intB op_le
theorem ops_gt : OpS X cl (compareOp .Gt) dGt := ops_intB op_gt
theorem ops_ge : OpS X cl (compareOp .GtE) dGe := ops_intB op_ge
def isNon : D → Bool
  | .non => true
  | _ => false
/-- is None -/
def dIsN : D → D → Store → Res D := fun x y st => match y with
  | .non => .ok (.bl (isNon x)) st
  | _ => .no
def dNotN : D → D → Store → Res D := fun x y st => match y with
  | .non => .ok (.bl (!isNon x)) st
  | _ => .no
theorem isN_of {g : Gd} {Z r : List Addr} {H : Hp} {x : D} {v : V} (h : Rep g Z r H x v) : isNon x = decide (v = .non) := by
  cases x with
  | non => cases (show v = .non from h); rfl
  | bl b => cases (show v = .bl b from h); rfl
  | int i => cases (show v = .int i from h); rfl
  | str s => cases (show v = .str s from h); rfl
  | ty s => cases (show v = .ty s from h); rfl
  | h k => obtain ⟨a, e, _⟩ := h; subst e; rfl
  | nd t xs => obtain ⟨a, vs, e, _⟩ := h; subst e; rfl
theorem ops_notN : OpS X cl (compareOp .IsNot) dNotN := by
  refine ⟨_, op_notN, fun {Z r H st x y v u Q W'} R hx hy h => ?_⟩
  unfold dNotN at h
  split at h
  · exact ⟨hy, post_ok h R (by rw [isN_of hx]; rfl)⟩
  · exact h.elim

/-! ### data without things of one's own -/
mutual
def toPg (dr : Nat → Option PyData) : D → Option PyData
  | .non => some .none
  | .bl b => some (.bool b)
  | .int i => some (.int i)
  | .str s => some (.str s)
  | .h k => dr k
  | .nd .lst xs => (toPgL dr xs).map .list
  | .nd .scr xs => (toPgL dr xs).map .list
  | .nd .tup xs => (toPgL dr xs).map .tuple
  | .nd .ktp xs => (toPgL dr xs).map .tuple
  | .nd (.dk _) _ => none
  | .nd (.dt _) _ => none
  | .nd (.ins _ _) _ => none
  | .nd (.exc _ _) _ => none
  | .nd (.fn _ _ _ _) _ => none
  | .nd (.glb _) _ => none
  | .ty _ => none
def toPgL (dr : Nat → Option PyData) : List D → Option (List PyData)
  | [] => some []
  | d :: ds => match toPg dr d, toPgL dr ds with
    | some p, some ps => some (p :: ps)
    | _, _ => none
end
/-- with the mutable things read, to a depth -/
def toP : Nat → Store → D → Option PyData
  | 0, _, d => toPg (fun _ => none) d
  | n + 1, st, d => toPg (fun k => match st[k]? with
    | some c => toP n st c
    | none => none) d
section
variable {g : Gd} {Z r : List Addr} {H : Hp} {st : Store}
mutual
theorem toPg_ok {dr : Nat → Option PyData} (hd : ∀ k p v, dr k = some p → Rep g Z r H (.h k) v → Dp g.K H v p) : ∀ (d : D) {p : PyData} {v : V}, toPg dr d = some p → Rep g Z r H d v → Dp g.K H v p
  | .non, p, v, e, h => by cases e; cases (show v = .non from h); exact .non
  | .bl b, p, v, e, h => by cases e; cases (show v = .bl b from h); exact .bl b
  | .int i, p, v, e, h => by cases e; cases (show v = .int i from h); exact .int i
  | .str s, p, v, e, h => by cases e; cases (show v = .str s from h); exact .str s
  | .h k, p, v, e, h => hd k p v e h
  | .ty _, p, v, e, h => by cases e
  | .nd .lst xs, p, v, e, h => by
    simp only [toPg] at e
    cases e1 : toPgL dr xs with
    | none => rw [e1] at e; cases e
    | some ps =>
      rw [e1] at e; cases e
      obtain ⟨a, vs, rfl, h1, h2⟩ := h
      exact .lst (Hat.lst h1) (toPgL_ok hd xs e1 h2)
  | .nd .scr xs, p, v, e, h => by
    simp only [toPg] at e
    cases e1 : toPgL dr xs with
    | none => rw [e1] at e; cases e
    | some ps =>
      rw [e1] at e; cases e
      obtain ⟨a, vs, rfl, h1, h2⟩ := h
      exact .lst (Hat.scr h1) (toPgL_ok hd xs e1 h2)
  | .nd .tup xs, p, v, e, h => by
    simp only [toPg] at e
    cases e1 : toPgL dr xs with
    | none => rw [e1] at e; cases e
    | some ps =>
      rw [e1] at e; cases e
      obtain ⟨a, vs, rfl, h1, h2⟩ := h
      exact .tup (Hat.tup h1) (toPgL_ok hd xs e1 h2)
  | .nd .ktp xs, p, v, e, h => by
    simp only [toPg] at e
    cases e1 : toPgL dr xs with
    | none => rw [e1] at e; cases e
    | some ps =>
      rw [e1] at e; cases e
      obtain ⟨a, vs, rfl, h1, h2⟩ := h
      exact .tup (Hat.ktp h1) (toPgL_ok hd xs e1 h2)
  | .nd (.dk _) xs, p, v, e, h => by simp [toPg] at e
  | .nd (.dt _) xs, p, v, e, h => by simp [toPg] at e
  | .nd (.ins _ _) xs, p, v, e, h => by simp [toPg] at e
  | .nd (.exc _ _) xs, p, v, e, h => by simp [toPg] at e
  | .nd (.fn _ _ _ _) xs, p, v, e, h => by simp [toPg] at e
theorem toPgL_ok {dr : Nat → Option PyData} (hd : ∀ k p v, dr k = some p → Rep g Z r H (.h k) v → Dp g.K H v p) : ∀ (ds : List D) {ps : List PyData} {vs : List V}, toPgL dr ds = some ps → RepL g Z r H ds vs → DpAll g.K H vs ps
  | [], ps, vs, e, h => by cases e; cases (show vs = [] from h); exact .nil
  | d :: ds, ps, vs, e, h => by
    simp only [toPgL] at e
    split at e
    · rename_i p qs e1 e2
      cases e
      obtain ⟨v, q, rfl, h1, h2⟩ := h
      exact .cons (toPg_ok hd d e1 h1) (toPgL_ok hd ds e2 h2)
    · cases e
end
/-- the things of the store by their content -/
theorem toP_cell (R : Rl g Z r H st) {dr : Nat → Option PyData} (hd : ∀ k p v, dr k = some p → Rep g Z r H (.h k) v → Dp g.K H v p) {k : Nat} {c : D} {p : PyData} {v : V} (hc : st[k]? = some c) (e : toPg dr c = some p) (h : Rep g Z r H (.h k) v) : Dp g.K H v p := by
  obtain ⟨a, rfl, e2⟩ := h
  obtain ⟨b, eb, t, xs, vs, rfl, hm, hx⟩ := R.cell k c hc
  rw [e2] at eb; cases eb
  cases t with
  | lst =>
    simp only [toPg] at e
    cases e1 : toPgL dr xs with
    | none => rw [e1] at e; cases e
    | some ps => rw [e1] at e; cases e; exact .lst (SqL.of hm) (toPgL_ok hd xs e1 hx)
  | tup => exact hm.elim
  | scr => exact hm.elim
  | ktp => exact hm.elim
  | dk ks => simp [toPg] at e
  | dt ks => simp [toPg] at e
  | ins c ns => simp [toPg] at e
  | exc c ns => simp [toPg] at e
  | glb c => simp [toPg] at e
  | fn f c q caps => simp [toPg] at e
theorem toP_ok (R : Rl g Z r H st) : ∀ (n : Nat) (d : D) {p : PyData} {v : V}, toP n st d = some p → Rep g Z r H d v → Dp g.K H v p
  | 0, d, p, v, e, h => toPg_ok (fun k p v e _ => by cases e) d e h
  | n + 1, d, p, v, e, h => by
    refine toPg_ok (fun k q w e h => ?_) d e h
    cases hc : st[k]? with
    | some c =>
      rw [hc] at e
      cases n with
      | zero => exact toP_cell R (fun k p v e _ => by cases e) hc e h
      | succ n =>
        refine toP_cell R (fun k p v e h => ?_) hc e h
        have e' : toP (n + 1) st (.h k) = some p := e
        exact toP_ok R (n + 1) (.h k) e' h
    | none => rw [hc] at e; cases e
end
abbrev deepP : Nat := 4
def shp (p : PyData) : Bool := p.plain && decide (p.depth ≤ 60)
/-- == -/
def eqD (x y : D) (st : Store) : Option Bool :=
  match x, y with
  | .int i, .int j => some (decide (i = j))
  | .str a, .str b => some (decide (a = b))
  | .bl a, .bl b => some (decide (a = b))
  | .non, .non => some true
  | x, y => match toP deepP st x, toP deepP st y with
    | some p, some q => if shp p && shp q then some (PyData.eqv p q) else none
    | _, _ => none
def dEq (x y : D) (st : Store) : Res D := match eqD x y st with
  | some b => .ok (.bl b) st
  | none => .no
def dNe (x y : D) (st : Store) : Res D := match eqD x y st with
  | some b => .ok (.bl (!b)) st
  | none => .no
def rEqP (K : PySem.W.Frag) : R2 := fun x y H Q => ∃ d e, Dp K H x d ∧ Dp K H y e ∧ shp d = true ∧ shp e = true ∧ Q (.bl (PyData.eqv d e)) H
def rNeP (K : PySem.W.Frag) : R2 := fun x y H Q => ∃ d e, Dp K H x d ∧ Dp K H y e ∧ shp d = true ∧ shp e = true ∧ Q (.bl (!PyData.eqv d e)) H
theorem shp_plain {p : PyData} (h : shp p = true) : p.plain = true := (Bool.and_eq_true_iff.mp h).1
theorem shp_depth {p : PyData} (h : shp p = true) : p.depth ≤ 60 := of_decide_eq_true (Bool.and_eq_true_iff.mp h).2
theorem op_eqP (hu : X.A.units + 64 < cLine) : OpR X (compareOp .Eq) (rEqP X.K) := by
  intro pins s sg H x y v u Q I rx ry h
  obtain ⟨d, e, hd, he, sd, se, q⟩ := h
  obtain ⟨as, r1⟩ := Dp.reads I d x v hd rx
  obtain ⟨bs, r2⟩ := Dp.reads I e y u he ry
  exact PySem.SeqAt.eq_plain r1 r2 (shp_plain sd) (shp_plain se) (by have := shp_depth sd; omega) ⟨.bl _, H, I, rfl, q⟩
theorem op_neP (hu : X.A.units + 64 < cLine) : OpR X (compareOp .NotEq) (rNeP X.K) := by
  intro pins s sg H x y v u Q I rx ry h
  obtain ⟨d, e, hd, he, sd, se, q⟩ := h
  obtain ⟨as, r1⟩ := Dp.reads I d x v hd rx
  obtain ⟨bs, r2⟩ := Dp.reads I e y u he ry
  exact PySem.SeqAt.ne_plain r1 r2 (shp_plain sd) (shp_plain se) (by have := shp_depth sd; omega) ⟨.bl _, H, I, rfl, q⟩
end
end DY

/-! Comparisons, subscripts, attributes, built-ins on data. -/
namespace DY
open PySem PySem.Spec PyProof.Rows L2

section
variable {X : Cx} {cl : ClsT}
theorem eqD_cases {x y : D} {st : Store} {b : Bool} (h : eqD x y st = some b) :
    (∃ i j, x = .int i ∧ y = .int j ∧ b = decide (i = j)) ∨ (∃ i j, x = .str i ∧ y = .str j ∧ b = decide (i = j)) ∨ (∃ i j, x = .bl i ∧ y = .bl j ∧ b = decide (i = j)) ∨ (x = .non ∧ y = .non ∧ b = true) ∨
    ∃ p q, toP deepP st x = some p ∧ toP deepP st y = some q ∧ shp p = true ∧ shp q = true ∧ b = PyData.eqv p q := by
  unfold eqD at h
  split at h
  · rename_i i j; exact .inl ⟨i, j, rfl, rfl, (Option.some.inj h).symm⟩
  · rename_i i j; exact .inr (.inl ⟨i, j, rfl, rfl, (Option.some.inj h).symm⟩)
  · rename_i i j; exact .inr (.inr (.inl ⟨i, j, rfl, rfl, (Option.some.inj h).symm⟩))
  · exact .inr (.inr (.inr (.inl ⟨rfl, rfl, (Option.some.inj h).symm⟩)))
  · split at h
    · rename_i p q e1 e2
      split at h
      · rename_i hs
        obtain ⟨h1, h2⟩ := Bool.and_eq_true_iff.mp hs
        exact .inr (.inr (.inr (.inr ⟨p, q, e1, e2, h1, h2, (Option.some.inj h).symm⟩)))
      · cases h
    · cases h
theorem ops_eq (hu : X.A.units + 64 < cLine) : OpS X cl (compareOp .Eq) dEq := by
  refine ⟨_, op_eq.or (op_eqP hu), fun {Z r H st x y v u Q W'} R hx hy h => ?_⟩
  unfold dEq at h
  cases e : eqD x y st with
  | none => rw [e] at h; exact h.elim
  | some b =>
    rw [e] at h
    have q : Q (.bl b) H := post_ok h R rfl
    rcases eqD_cases e with ⟨i, j, rfl, rfl, rfl⟩ | ⟨i, j, rfl, rfl, rfl⟩ | ⟨i, j, rfl, rfl, rfl⟩ | ⟨rfl, rfl, rfl⟩ | ⟨p, p', e1, e2, s1, s2, rfl⟩
    · cases (show v = .int i from hx); cases (show u = .int j from hy)
      exact .inl ⟨rfl, by simpa using q⟩
    · cases (show v = .str i from hx); cases (show u = .str j from hy)
      exact .inl ⟨rfl, by simpa using q⟩
    · cases (show v = .bl i from hx); cases (show u = .bl j from hy)
      exact .inl ⟨rfl, by simpa using q⟩
    · cases (show v = .non from hx); cases (show u = .non from hy)
      exact .inl ⟨rfl, by simpa using q⟩
    · exact .inr ⟨p, p', toP_ok R _ _ e1 hx, toP_ok R _ _ e2 hy, s1, s2, q⟩
theorem ops_ne (hu : X.A.units + 64 < cLine) : OpS X cl (compareOp .NotEq) dNe := by
  refine ⟨_, op_ne.or (op_neP hu), fun {Z r H st x y v u Q W'} R hx hy h => ?_⟩
  unfold dNe at h
  cases e : eqD x y st with
  | none => rw [e] at h; exact h.elim
  | some b =>
    rw [e] at h
    have q : Q (.bl (!b)) H := post_ok h R rfl
    rcases eqD_cases e with ⟨i, j, rfl, rfl, rfl⟩ | ⟨i, j, rfl, rfl, rfl⟩ | ⟨i, j, rfl, rfl, rfl⟩ | ⟨rfl, rfl, rfl⟩ | ⟨p, p', e1, e2, s1, s2, rfl⟩
    · cases (show v = .int i from hx); cases (show u = .int j from hy)
      exact .inl ⟨rfl, by simpa using q⟩
    · cases (show v = .str i from hx); cases (show u = .str j from hy)
      exact .inl ⟨rfl, by simpa using q⟩
    · cases (show v = .bl i from hx); cases (show u = .bl j from hy)
      exact .inl ⟨rfl, by simpa using q⟩
    · cases (show v = .non from hx); cases (show u = .non from hy)
      exact .inl ⟨rfl, by simpa using q⟩
    · exact .inr ⟨p, p', toP_ok R _ _ e1 hx, toP_ok R _ _ e2 hy, s1, s2, q⟩

/-! ### in -/
def fv : D → Option V
  | .non => some .non
  | .bl b => some (.bl b)
  | .int i => some (.int i)
  | .str s => some (.str s)
  | _ => none
def fvs : List D → Option (List V)
  | [] => some []
  | d :: ds => match fv d, fvs ds with
    | some v, some vs => some (v :: vs)
    | _, _ => none
theorem fv_ok {g : Gd} {Z r : List Addr} {H : Hp} {d : D} {v w : V} (e : fv d = some w) (h : Rep g Z r H d v) : v = w ∧ flatV w = true := by
  cases d <;> cases e <;> exact ⟨h, rfl⟩
theorem fvs_ok {g : Gd} {Z r : List Addr} {H : Hp} : ∀ {ds : List D} {vs ws : List V}, fvs ds = some ws → RepL g Z r H ds vs → vs = ws ∧ ws.all flatV = true
  | [], vs, ws, e, h => by cases e; exact ⟨h, rfl⟩
  | d :: ds, vs, ws, e, h => by
    simp only [fvs] at e
    split at e
    · rename_i w us e1 e2
      cases e
      obtain ⟨v, q, rfl, h1, h2⟩ := h
      obtain ⟨rfl, f1⟩ := fv_ok e1 h1
      obtain ⟨rfl, f2⟩ := fvs_ok e2 h2
      exact ⟨rfl, by simp [f1, f2]⟩
    · cases e
def seq? (st : Store) (d : D) : Option (List D) := match lst? st d with
  | some xs => some xs
  | none => tup? st d
theorem seq_ok {g : Gd} {Z r : List Addr} {H : Hp} {st : Store} {d : D} {v : V} {xs : List D} (R : Rl g Z r H st) (h : Rep g Z r H d v) (e : seq? st d = some xs) : ∃ a vs, v = .ref a ∧ RepL g Z r H xs vs ∧ (SqL g.K H a vs ∨ SqT g.K H a vs) := by
  unfold seq? at e
  split at e
  · rename_i ys e1
    cases e
    obtain ⟨a, vs, e2, q, s⟩ := lst_ok R h e1
    exact ⟨a, vs, e2, q, .inl s⟩
  · obtain ⟨a, vs, e2, q, s⟩ := tup_ok R h e
    exact ⟨a, vs, e2, q, .inr s⟩
/-- whether x is in y -/
def inD (x y : D) (st : Store) : Option Bool :=
  match y, x with
  | .str b, .str a => some (!(Builtin.Str.occurrences b a 0 b.length 1).isEmpty)
  | y, x => match fv x, (seq? st y).bind fvs with
    | some v, some vs => some (inV v vs)
    | _, _ => match toP deepP st y, toP deepP st x with
      | some (.list ds), some d => if shp (.list ds) && shp d then some (ds.any fun z => PyData.eqv z d) else none
      | some (.tuple ds), some d => if shp (.tuple ds) && shp d then some (ds.any fun z => PyData.eqv z d) else none
      | _, _ => none
def dIn (x y : D) (st : Store) : Res D := match inD x y st with
  | some b => .ok (.bl b) st
  | none => .no
def rInPL (K : PySem.W.Frag) (neg : Bool) : R2 := fun x y H Q => ∃ d ds, Dp K H x d ∧ Dp K H y (.list ds) ∧ shp d = true ∧ shp (.list ds) = true ∧ Q (.bl (if neg then !(ds.any fun z => PyData.eqv z d) else ds.any fun z => PyData.eqv z d)) H
def rInPT (K : PySem.W.Frag) (neg : Bool) : R2 := fun x y H Q => ∃ d ds, Dp K H x d ∧ Dp K H y (.tuple ds) ∧ shp d = true ∧ shp (.tuple ds) = true ∧ Q (.bl (if neg then !(ds.any fun z => PyData.eqv z d) else ds.any fun z => PyData.eqv z d)) H
theorem op_inPL (hu : X.A.units + 64 < cLine) : OpR X (compareOp .In) (rInPL X.K false) := by
  intro pins s sg H x y v u Q I rx ry h
  obtain ⟨d, ds, hd, he, sd, se, q⟩ := h
  obtain ⟨as, r1⟩ := Dp.reads I d x v hd rx
  obtain ⟨bs, r2⟩ := Dp.reads I _ y u he ry
  exact PySem.SeqAt.in_list_data r2 r1 (by simpa [PyData.plain] using shp_plain se) (shp_plain sd) (by have := shp_depth sd; omega) ⟨.bl _, H, I, rfl, q⟩
theorem op_inPT (hu : X.A.units + 64 < cLine) : OpR X (compareOp .In) (rInPT X.K false) := by
  intro pins s sg H x y v u Q I rx ry h
  obtain ⟨d, ds, hd, he, sd, se, q⟩ := h
  obtain ⟨as, r1⟩ := Dp.reads I d x v hd rx
  obtain ⟨bs, r2⟩ := Dp.reads I _ y u he ry
  exact PySem.SeqAt.in_tuple_data r2 r1 (by simpa [PyData.plain] using shp_plain se) (shp_plain sd) (by have := shp_depth sd; omega) ⟨.bl _, H, I, rfl, q⟩
theorem inD_cases {Z r : List Addr} {H : Hp} {st : Store} {x y : D} {v u : V} {b : Bool} (R : Rl ⟨X.K, cl⟩ Z r H st) (hx : Rep ⟨X.K, cl⟩ Z r H x v) (hy : Rep ⟨X.K, cl⟩ Z r H y u) (e : inD x y st = some b) :
    (∃ i j, v = .str i ∧ u = .str j ∧ b = !(Builtin.Str.occurrences j i 0 j.length 1).isEmpty) ∨ (∃ p xs, u = .ref p ∧ (SqL X.K H p xs ∨ SqT X.K H p xs) ∧ flatV v = true ∧ xs.all flatV = true ∧ b = inV v xs) ∨
    (∃ d ds, Dp X.K H v d ∧ Dp X.K H u (.list ds) ∧ shp d = true ∧ shp (.list ds) = true ∧ b = ds.any fun z => PyData.eqv z d) ∨
    ∃ d ds, Dp X.K H v d ∧ Dp X.K H u (.tuple ds) ∧ shp d = true ∧ shp (.tuple ds) = true ∧ b = ds.any fun z => PyData.eqv z d := by
  unfold inD at e
  split at e
  · rename_i j i
    exact .inl ⟨i, j, hx, hy, (Option.some.inj e).symm⟩
  · split at e
    · rename_i w ws e1 e2
      cases e
      obtain ⟨rfl, f1⟩ := fv_ok e1 hx
      cases hs : seq? st y with
      | none => rw [hs] at e2; cases e2
      | some ys =>
        rw [hs] at e2
        obtain ⟨p, us, rfl, q, s⟩ := seq_ok R hy hs
        obtain ⟨rfl, f2⟩ := fvs_ok (show fvs ys = some ws from e2) q
        exact .inr (.inl ⟨p, us, rfl, s, f1, f2, rfl⟩)
    · split at e
      · rename_i ds d e1 e2
        split at e
        · rename_i hs
          obtain ⟨s1, s2⟩ := Bool.and_eq_true_iff.mp hs
          exact .inr (.inr (.inl ⟨d, ds, toP_ok R _ _ e2 hx, toP_ok R _ _ e1 hy, s2, s1, (Option.some.inj e).symm⟩))
        · cases e
      · rename_i ds d e1 e2
        split at e
        · rename_i hs
          obtain ⟨s1, s2⟩ := Bool.and_eq_true_iff.mp hs
          exact .inr (.inr (.inr ⟨d, ds, toP_ok R _ _ e2 hx, toP_ok R _ _ e1 hy, s2, s1, (Option.some.inj e).symm⟩))
        · cases e
      · cases e
theorem ops_in (hu : X.A.units + 64 < cLine) : OpS X cl (compareOp .In) dIn := by
  refine ⟨_, ((op_in_str.or op_in_seq).or (op_inPL hu)).or (op_inPT hu), fun {Z r H st x y v u Q W'} R hx hy h => ?_⟩
  unfold dIn at h
  cases e : inD x y st with
  | none => rw [e] at h; exact h.elim
  | some b =>
    rw [e] at h
    have q : Q (.bl b) H := post_ok h R rfl
    rcases inD_cases R hx hy e with ⟨i, j, e1, e2, rfl⟩ | ⟨p, xs, e1, s, f1, f2, rfl⟩ | ⟨d, ds, h1, h2, s1, s2, rfl⟩ | ⟨d, ds, h1, h2, s1, s2, rfl⟩
    · exact .inl (.inl (.inl ⟨i, j, e1, e2, q⟩))
    · exact .inl (.inl (.inr ⟨p, xs, e1, s, f1, f2, q⟩))
    · exact .inl (.inr ⟨d, ds, h1, h2, s1, s2, q⟩)
    · exact .inr ⟨d, ds, h1, h2, s1, s2, q⟩
/-! ### subscripts -/
variable {W : WX} {a b : Expr} {fa fb : SemE} {pos : Pos}
theorem atI_rep {g : Gd} {Z r : List Addr} {H : Hp} {ds : List D} {vs : List V} {i : Int} {d : D} (h : RepL g Z r H ds vs) (e : atI ds i = some d) : ∃ v, atI vs i = some v ∧ Rep g Z r H d v := by
  unfold atI at e ⊢
  rw [← h.length]
  cases hx : ixN ds.length i with
  | none => rw [hx] at e; cases e
  | some j => rw [hx] at e; exact h.get e
/-- xs[i] -/
def dIx (x y : D) (st : Store) : Res D :=
  match y with
  | .int i => match seq? st x with
    | some xs => match atI xs i with
      | some d => .ok d st
      | none => .no
    | none => match x with
      | .str z => if z.length ≤ szL then (match atI z.cps.toList i with
        | some c => .ok (.str ⟨#[c]⟩) st
        | none => .no) else .no
      | _ => .no
  | _ => .no
theorem se_ix (ha : SE X cl W a fa) (hb : SE X cl W b fb) (hs : PlainIx b := by exact fun _ _ => rfl) : SE X cl W (.Subscript a b pos) (dBin dIx fa fb) := by
  refine ⟨(pe_ix ix_seq ha.run hb.run hs).imp (rd_bin fun {Z r H st x y v u Q W'} R hx hy h => ?_)⟩
  unfold dIx at h
  cases y with
  | int i =>
    dsimp only at h
    cases hsq : seq? st x with
    | some xs =>
      rw [hsq] at h
      dsimp only at h
      obtain ⟨p, vs, rfl, q, s⟩ := seq_ok R hx hsq
      cases hat : atI xs i with
      | none => rw [hat] at h; exact h.elim
      | some d =>
        rw [hat] at h
        obtain ⟨w, e1, e2⟩ := atI_rep q hat
        rcases s with s | s
        · exact .inl ⟨p, vs, i, w, rfl, hy, s, e1, post_ok h R e2⟩
        · exact .inr (.inl ⟨p, vs, i, w, rfl, hy, s, e1, post_ok h R e2⟩)
    | none =>
      rw [hsq] at h
      cases x with
      | str z =>
        dsimp only at h
        split at h
        · rename_i hz
          cases hat : atI z.cps.toList i with
          | none => rw [hat] at h; exact h.elim
          | some c => rw [hat] at h; exact .inr (.inr ⟨z, i, c, hx, hy, hz, hat, post_ok h R rfl⟩)
        · exact h.elim
      | ty z => exact h.elim
      | non => exact h.elim
      | bl b => exact h.elim
      | int j => exact h.elim
      | h k => exact h.elim
      | nd t xs => exact h.elim
  | non => exact h.elim
  | bl b => exact h.elim
  | str s => exact h.elim
  | ty s => exact h.elim
  | h k => exact h.elim
  | nd t xs => exact h.elim
/-- a part of a slice -/
abbrev SemO := DEnv → Store → Res (Option Int)
abbrev RO : List Addr → Hp → Option Int → Option Int → Prop := fun _ _ a b => a = b
def rdO (g : Gd) (W : WX) (f : SemO) : TO := fun sg H Q => ∃ Z r env st, EnvR g Z r H env sg ∧ Rl g Z r H st ∧ Post g Z r H RO (f env st) Q (fun c d H' => W c d sg H')
structure SO (X : Cx) (cl : ClsT) (W : WX) (e : Option Expr) (f : SemO) : Prop where
  run : PO X e (rdO ⟨X.K, cl⟩ W f)
theorem _root_.L2.PO.imp {e : Option Expr} {t t' : TO} (h : PO X e t) (f : ∀ sg H Q, t' sg H Q → t sg H Q) : PO X e t' := ⟨fun pins s sg H Q I q => h.run pins s sg H Q I (f sg H Q q)⟩
def dNoPart : SemO := fun _ st => .ok none st
def dPart (f : SemE) : SemO := fun env st => (f env st).bind fun x st1 => match x with
  | .int i => .ok (some i) st1
  | _ => .no
def cutD (xs : List D) (lo hi : Option Int) : List D := (xs.drop (HT.sIx xs.length 0 lo)).take (HT.sIx xs.length xs.length hi - HT.sIx xs.length 0 lo)
/-- x[lo:hi] of a list or a tuple -/
def dCut (x : D) (lo hi : Option Int) (st : Store) : Res D :=
  match lst? st x with
  | some xs => .ok (.nd .lst (cutD xs lo hi)) st
  | none => match tupX? st x with
    | some xs => .ok (.nd .tup (cutD xs lo hi)) st
    | none => .no
def dSlice (fa : SemE) (fl fh : SemO) : SemE := fun env st => (fa env st).bind fun x st1 => (fl env st1).bind fun lo st2 => (fh env st2).bind fun hi st3 => dCut x lo hi st3
/-! ### dicts -/
/-- a key's place -/
def kIx {κ : Type} [DecidableEq κ] : List κ → κ → Option Nat
  | [], _ => none
  | k :: ks, x => if k = x then some 0 else (kIx ks x).map (· + 1)
/-- guessed, or sought -/
def kAt {κ : Type} [DecidableEq κ] (hint : Nat) (ks : List κ) (x : κ) : Option Nat := if ks[hint]? = some x then some hint else kIx ks x
theorem kIx_get {κ : Type} [DecidableEq κ] : ∀ {ks : List κ} {x : κ} {i : Nat}, kIx ks x = some i → ks[i]? = some x
  | [], _, _, e => by cases e
  | k :: ks, x, i, e => by
    simp only [kIx] at e
    split at e
    · rename_i h; cases e; simp [h]
    · cases hk : kIx ks x with
      | none => rw [hk] at e; cases e
      | some j => rw [hk] at e; cases e; simpa using kIx_get hk
theorem kIx_none {κ : Type} [DecidableEq κ] : ∀ {ks : List κ} {x : κ}, kIx ks x = none → x ∉ ks
  | [], _, _ => by simp
  | k :: ks, x, e => by
    simp only [kIx] at e
    split at e
    · cases e
    · rename_i h
      cases hk : kIx ks x with
      | none => simp only [List.mem_cons, not_or]; exact ⟨fun z => h z.symm, kIx_none hk⟩
      | some j => rw [hk] at e; cases e
theorem kAt_get {κ : Type} [DecidableEq κ] {hint : Nat} {ks : List κ} {x : κ} {i : Nat} (e : kAt hint ks x = some i) : ks[i]? = some x := by
  unfold kAt at e
  split at e
  · rename_i h; cases e; exact h
  · exact kIx_get e
theorem kAt_none {κ : Type} [DecidableEq κ] {hint : Nat} {ks : List κ} {x : κ} (e : kAt hint ks x = none) : x ∉ ks := by
  unfold kAt at e
  split at e
  · cases e
  · exact kIx_none e
theorem valV_zip {κ : Type} [DecidableEq κ] : ∀ {ks : List κ} {vs : List V} {i : Nat} {x : κ}, ks.Nodup → ks[i]? = some x → valV (ks.zip vs) x = vs[i]?
  | [], _, _, _, _, e => by simp at e
  | k :: ks, [], i, x, _, _ => by simp [valV_nil]
  | k :: ks, v :: vs, 0, x, _, e => by
    simp at e; subst e
    rw [List.zip_cons_cons, valV_pos rfl]; rfl
  | k :: ks, v :: vs, i + 1, x, n, e => by
    simp at e
    have hx : x ∈ ks := List.mem_of_getElem? e
    have ne : ¬ k = x := fun z => (List.nodup_cons.mp n).1 (z ▸ hx)
    rw [List.zip_cons_cons, valV_neg (p := (k, v)) ne, valV_zip (List.nodup_cons.mp n).2 e]; simp
theorem valV_zip_none {κ : Type} [DecidableEq κ] : ∀ {ks : List κ} {vs : List V} {x : κ}, x ∉ ks → valV (ks.zip vs) x = none
  | [], _, _, _ => by simp [valV_nil]
  | k :: ks, [], x, _ => by simp [valV_nil]
  | k :: ks, v :: vs, x, n => by
    simp at n
    rw [List.zip_cons_cons, valV_neg (p := (k, v)) (fun z => n.1 z.symm), valV_zip_none n.2]
theorem putK_zip {κ : Type} [DecidableEq κ] : ∀ {ks : List κ} {vs : List V} {i : Nat} {x : κ} {y : V}, ks.Nodup → ks.length = vs.length → ks[i]? = some x → putK (ks.zip vs) x y = ks.zip (vs.set i y) := by
  intro ks vs i x y n l e
  have ha : ((ks.zip vs).any fun kv => decide (kv.1 = x)) = true := by
    rw [valV_any, valV_zip n e]
    have : i < vs.length := by rw [← l]; exact (List.getElem?_eq_some_iff.mp e).1
    rw [List.getElem?_eq_getElem this]; rfl
  unfold putK
  rw [if_pos ha]
  clear ha
  induction ks generalizing vs i with
  | nil => simp at e
  | cons k ks ih =>
    cases vs with
    | nil => simp at l
    | cons v vs =>
      cases i with
      | zero =>
        simp at e; subst e
        simp only [List.zip_cons_cons, List.map_cons, if_pos, List.set_cons_zero]
        congr 1
        have : ∀ p ∈ ks.zip vs, (if p.1 = k then (p.1, y) else p) = p := fun p hp => by
          have hm : p.1 ∈ ks := by
            obtain ⟨a, b⟩ := p
            exact (List.of_mem_zip hp).1
          rw [if_neg]
          intro z
          exact (List.nodup_cons.mp n).1 (z ▸ hm)
        rw [List.map_congr_left this]; simp
      | succ i =>
        simp at e
        have hx : x ∈ ks := List.mem_of_getElem? e
        have ne : ¬ k = x := fun z => (List.nodup_cons.mp n).1 (z ▸ hx)
        simp only [List.zip_cons_cons, List.map_cons, if_neg ne, List.set_cons_succ]
        congr 1
        exact ih (List.nodup_cons.mp n).2 (by simpa using l) e
theorem putK_zip_new {κ : Type} [DecidableEq κ] {ks : List κ} {vs : List V} {x : κ} {y : V} (l : ks.length = vs.length) (e : x ∉ ks) : putK (ks.zip vs) x y = (ks ++ [x]).zip (vs ++ [y]) := by
  rw [putK_new _ (valV_zip_none e), List.zip_append l]; rfl
def key? : D → Option Key
  | .int i => some (.inl i)
  | .str s => some (.inr s)
  | _ => none
def keys? : List D → Option (List Key)
  | [] => some []
  | d :: ds => match key? d, keys? ds with
    | some v, some vs => some (v :: vs)
    | _, _ => none
theorem key_ok {g : Gd} {Z r : List Addr} {H : Hp} {d : D} {v : V} {k : Key} (e : key? d = some k) (h : Rep g Z r H d v) : v = kV k := by
  cases d <;> cases e <;> exact h
theorem keys_ok {g : Gd} {Z r : List Addr} {H : Hp} : ∀ {ds : List D} {vs : List V} {ks : List Key}, keys? ds = some ks → RepL g Z r H ds vs → vs = ks.map kV
  | [], vs, ks, e, h => by cases e; exact h
  | d :: ds, vs, ks, e, h => by
    simp only [keys?] at e
    split at e
    · rename_i w us e1 e2
      cases e
      obtain ⟨v, q, rfl, h1, h2⟩ := h
      rw [key_ok e1 h1, keys_ok e2 h2]; rfl
    · cases e
end
end DY

/-! Statements, loops, comprehensions on data. -/
namespace DY
open PySem PySem.Spec PyProof.Rows L2

inductive SR where
  | nx (env : DEnv) (st : Store)
  | rt (d : D) (st : Store)
  | er (e : Ex) (env : DEnv) (st : Store)
  | bk (env : DEnv) (st : Store)
  | ct (env : DEnv) (st : Store)
  | no
abbrev SemS := DEnv → Store → SR
def bindE {A : Type} (x : Res A) (env : DEnv) (k : A → Store → SR) : SR := match x with
  | .ok a st => k a st
  | .er e st => .er e env st
  | .no => .no
def SR.seq (x : SR) (k : DEnv → Store → SR) : SR := match x with
  | .nx env st => k env st
  | x => x
def PostS (g : Gd) (Z r : List Addr) (H : Hp) (x : SR) (E : Ends) (W : WX) : Prop :=
  match x with
  | .nx env st => ∀ r' H' sg, Ext r H r' H' → Rl g Z r' H' st → EnvR g Z r' H' env sg → E.nx sg H'
  | .rt d st => ∀ r' H' v, Ext r H r' H' → Rl g Z r' H' st → Rep g Z r' H' d v → E.rt v H'
  | .er e env st => ∀ r' H' sg cls d, Ext r H r' H' → Rl g Z r' H' st → EnvR g Z r' H' env sg → RepX g Z r' H' e cls d → W cls d sg H'
  | .bk env st => ∀ r' H' sg, Ext r H r' H' → Rl g Z r' H' st → EnvR g Z r' H' env sg → E.bk sg H'
  | .ct env st => ∀ r' H' sg, Ext r H r' H' → Rl g Z r' H' st → EnvR g Z r' H' env sg → E.ct sg H'
  | .no => False
theorem PostS.ext {g : Gd} {Z r r1 : List Addr} {H H1 : Hp} {x : SR} {E : Ends} {W : WX} (e : Ext r H r1 H1) (h : PostS g Z r H x E W) : PostS g Z r1 H1 x E W := by
  cases x with
  | nx env st => exact fun r' H' sg e' => h r' H' sg (e.trans e')
  | rt d st => exact fun r' H' v e' => h r' H' v (e.trans e')
  | er x env st => exact fun r' H' sg c d e' => h r' H' sg c d (e.trans e')
  | bk env st => exact fun r' H' sg e' => h r' H' sg (e.trans e')
  | ct env st => exact fun r' H' sg e' => h r' H' sg (e.trans e')
  | no => exact h
theorem PostS.bindE {A B : Type} {g : Gd} {Z r : List Addr} {H : Hp} {RA : List Addr → Hp → A → B → Prop} {x : Res A} {env : DEnv} {sg : L2.St} {k : A → Store → SR} {Q : B → Hp → Prop} {E : Ends} {W : WX}
    (h : PostS g Z r H (bindE x env k) E W) (En : EnvR g Z r H env sg)
    (hk : ∀ a st r' H' b, x = .ok a st → Ext r H r' H' → Rl g Z r' H' st → RA r' H' a b → PostS g Z r' H' (k a st) E W → Q b H') : Post g Z r H RA x Q (fun c d H' => W c d sg H') := by
  cases x with
  | ok a st => exact fun r' H' b e R q => hk a st r' H' b rfl e R q (PostS.ext e h)
  | er x st => exact fun r' H' cls d e R q => h r' H' sg cls d e R (En.ext e) q
  | no => exact h.elim
def rdS (g : Gd) (W : WX) (f : SemS) : TS := fun E sg H => ∃ Z r env st, EnvR g Z r H env sg ∧ Rl g Z r H st ∧ PostS g Z r H (f env st) E W
structure SS (X : Cx) (cl : ClsT) (W : WX) (s : Stmt) (f : SemS) : Prop where
  run : PS X s (rdS ⟨X.K, cl⟩ W f)
structure SB (X : Cx) (cl : ClsT) (W : WX) (s : List Stmt) (f : SemS) : Prop where
  run : PSs X s (rdS ⟨X.K, cl⟩ W f)
theorem _root_.L2.PS.imp {X : Cx} {s : Stmt} {t t' : TS} (h : PS X s t) (f : ∀ E sg H, t' E sg H → t E sg H) : PS X s t' := ⟨fun pins st sg H E I q => h.run pins st sg H E I (f E sg H q)⟩
theorem _root_.L2.PSs.imp {X : Cx} {s : List Stmt} {t t' : TS} (h : PSs X s t) (f : ∀ E sg H, t' E sg H → t E sg H) : PSs X s t' := ⟨fun pins st sg H E I q => h.run pins st sg H E I (f E sg H q)⟩
theorem post_nx {g : Gd} {Z r : List Addr} {H : Hp} {env : DEnv} {st : Store} {E : Ends} {W : WX} {sg : L2.St} (h : PostS g Z r H (.nx env st) E W) (R : Rl g Z r H st) (En : EnvR g Z r H env sg) : E.nx sg H := h r H sg (Ext.refl r H) R En

section
variable {X : Cx} {cl : ClsT} {W : WX} {pos : Pos}
def sNil : SemS := fun env st => .nx env st
def sCons (a b : SemS) : SemS := fun env st => (a env st).seq b
theorem sb_nil : SB X cl W [] sNil := ⟨pss_nil.imp fun E sg H ⟨Z, r, env, st, En, R, h⟩ => post_nx h R En⟩
theorem seq_post {g : Gd} {Z r : List Addr} {H : Hp} {x : SR} {k : SemS} {E : Ends} {W : WX} (h : PostS g Z r H (x.seq k) E W) : PostS g Z r H x { E with nx := rdS g W k E } W := by
  cases x with
  | nx env st => exact fun r' H' sg e R En => ⟨Z, r', env, st, En, R, PostS.ext e h⟩
  | rt d st => exact h
  | er x env st => exact h
  | bk env st => exact h
  | ct env st => exact h
  | no => exact h
theorem sb_cons {s : Stmt} {ss : List Stmt} {a b : SemS} (ha : SS X cl W s a) (hb : SB X cl W ss b) : SB X cl W (s :: ss) (sCons a b) :=
  ⟨(pss_cons ha.run hb.run).imp fun E sg H ⟨Z, r, env, st, En, R, h⟩ => ⟨Z, r, env, st, En, R, seq_post h⟩⟩
theorem sb_one {s : Stmt} {a : SemS} (ha : SS X cl W s a) : SB X cl W [s] a := ⟨pss_one ha.run⟩
def sBreak : SemS := fun env st => .bk env st
def sCont : SemS := fun env st => .ct env st
def sExpr (f : SemE) : SemS := fun env st => bindE (f env st) env fun _ st1 => .nx env st1
theorem ss_expr {e : Expr} {f : SemE} (he : SE X cl W e f) (hs : swapsWith e none pos.line X.env = pure false := by rfl) : SS X cl W (.Expr e pos) (sExpr f) :=
  ⟨(ps_expr he.run hs).imp fun E sg H ⟨Z, r, env, st, En, R, h⟩ => ⟨Z, r, env, st, En, R, PostS.bindE h En fun d st1 r1 H1 v _ e1 R1 q1 h1 => post_nx h1 R1 (En.ext e1)⟩⟩
def sRet (f : SemE) : SemS := fun env st => bindE (f env st) env fun d st1 => .rt d st1
theorem ss_ret {e : Expr} {f : SemE} (he : SE X cl W e f) : SS X cl W (.Return (some e) pos) (sRet f) :=
  ⟨(ps_ret he.run).imp fun E sg H ⟨Z, r, env, st, En, R, h⟩ => ⟨Z, r, env, st, En, R, PostS.bindE h En fun d st1 r1 H1 v _ e1 R1 q1 h1 => h1 r1 H1 v (Ext.refl r1 H1) R1 q1⟩⟩
def sRetN : SemS := fun _ st => .rt .non st
def sIf (ft : SemT) (a b : SemS) : SemS := fun env st => bindE (ft env st) env fun c st1 => if c = true then a env st1 else b env st1
theorem ss_if {c : Expr} {a b : List Stmt} {ft : SemT} {fa fb : SemS} (hc : ST X cl W c ft) (ha : SB X cl W a fa) (hb : SB X cl W b fb) : SS X cl W (.If c a b pos) (sIf ft fa fb) := by
  refine ⟨(ps_if hc.run ha.run hb.run).imp fun E sg H ⟨Z, r, env, st, En, R, h⟩ => ⟨Z, r, env, st, En, R, PostS.bindE h En fun x st1 r1 H1 v _ e1 R1 q1 h1 => ?_⟩⟩
  cases q1
  cases x with
  | true => rw [if_pos rfl] at h1 ⊢; exact ⟨Z, r1, env, st1, En.ext e1, R1, h1⟩
  | false => rw [if_neg (by decide)] at h1 ⊢; exact ⟨Z, r1, env, st1, En.ext e1, R1, h1⟩
/-! ### targets -/
def sSet (i : Nat) (f : SemE) : SemS := fun env st => bindE (f env st) env fun d st1 => .nx (env.set i (some d)) st1
theorem ss_set (i : Nat) {x : Str} {e : Expr} {pos' : Pos} {f : SemE} (hN : X.N.Nodup) (he : SE X cl W e f) (hi : X.N[i]? = some x := by rfl) (hx : Loc X.env.scope x := by first | exact Or.inl rfl | exact Or.inr rfl)
    (hs : swapsWith e (some (.Name x pos')) pos.line X.env = pure false := by rfl) (hf : X.fn x = true ∨ X.env.scope.names.lookup x = some .local := by first | exact .inl rfl | exact .inr rfl | assumption) : SS X cl W (.Assign [.Name x pos'] e pos) (sSet i f) :=
  ⟨(ps_set hN hi hx he.run hs hf).imp fun E sg H ⟨Z, r, env, st, En, R, h⟩ => ⟨Z, r, env, st, En, R, PostS.bindE h En fun d st1 r1 H1 v _ e1 R1 q1 h1 => post_nx h1 R1 ((En.ext e1).set i q1)⟩⟩
/-- a target: what is stored, what it turns, the slots that it may turn -/
abbrev DTg := D → DEnv → Store → Option DEnv
def rdG (g : Gd) (ws : List Nat) (f : DTg) : TG := fun v sg H Q => ∃ Z r env st d, EnvR g Z r H env sg ∧ Rl g Z r H st ∧ Rep g Z r H d v ∧ match f d env st with
  | some env' => ∀ sg', EnvR g Z r H env' sg' → (∀ vs : List Nat, (∀ w ∈ ws, w ∈ vs) → wipe sg' vs = wipe sg vs) → Q sg' H
  | none => False
structure SG (X : Cx) (cl : ClsT) (ws : List Nat) (e : Expr) (f : DTg) : Prop where
  run : PG X e (rdG ⟨X.K, cl⟩ ws f)
theorem _root_.L2.PG.imp {e : Expr} {t t' : TG} (h : PG X e t) (f : ∀ v sg H Q, t' v sg H Q → t v sg H Q) : PG X e t' := ⟨fun pins s sg H v u Q I rv q => h.run pins s sg H v u Q I rv (f v sg H Q q)⟩
theorem _root_.L2.PGs.imp {es : List Expr} {t t' : TGs} (h : PGs X es t) (f : ∀ v sg H Q, t' v sg H Q → t v sg H Q) : PGs X es t' := ⟨fun pins s sg H vs us Q I rv q => h.run pins s sg H vs us Q I rv (f vs sg H Q q)⟩
theorem wipe_get (sg : L2.St) : ∀ (vs : List Nat) (j : Nat), (wipe sg vs)[j]? = if j ∈ vs then sg[j]?.map (fun _ => none) else sg[j]?
  | [], j => by simp [wipe]
  | v :: vs, j => by
    show ((wipe sg vs).set v none)[j]? = _
    by_cases e : v = j
    · subst e
      by_cases hl : v < sg.length
      · rw [List.getElem?_set_self (by rw [wipe_length]; exact hl)]
        simp [hl]
      · have h1 : sg[v]? = none := List.getElem?_eq_none (by omega)
        have h2 : ((wipe sg vs).set v none)[v]? = none := List.getElem?_eq_none (by simp [wipe_length]; omega)
        rw [h1, h2]; simp
    · rw [List.getElem?_set_ne e, wipe_get sg vs j]
      simp [Ne.symm e]
theorem wipe_set {sg : L2.St} {i : Nat} {x : Option V} {vs : List Nat} (h : i ∈ vs) : wipe (sg.set i x) vs = wipe sg vs := by
  apply List.ext_getElem?
  intro j
  rw [wipe_get, wipe_get]
  by_cases e : i = j
  · subst e
    rw [if_pos h, if_pos h]
    by_cases hl : i < sg.length
    · rw [List.getElem?_set_self hl, List.getElem?_eq_getElem hl]; rfl
    · rw [List.getElem?_eq_none (by simp; omega), List.getElem?_eq_none (by omega)]
  · rw [List.getElem?_set_ne e]
def gN (i : Nat) : DTg := fun d env _ => some (env.set i (some d))
theorem sg_name (i : Nat) {x : Str} (hN : X.N.Nodup) (hi : X.N[i]? = some x := by rfl) (hx : Loc X.env.scope x := by first | exact Or.inl rfl | exact Or.inr rfl) (hf : X.fn x = true ∨ X.env.scope.names.lookup x = some .local := by first | exact .inl rfl | exact .inr rfl | assumption) : SG X cl [i] (.Name x pos) (gN i) :=
  ⟨(pg_name hN hi hx hf).imp fun v sg H Q ⟨Z, r, env, st, d, En, R, q, h⟩ => h _ (En.set i q) fun vs hv => wipe_set (hv i (by simp))⟩
abbrev DTgs := List D → DEnv → Store → Option DEnv
def rdGs (g : Gd) (ws : List Nat) (f : DTgs) : TGs := fun vs sg H Q => ∃ Z r env st ds, EnvR g Z r H env sg ∧ Rl g Z r H st ∧ RepL g Z r H ds vs ∧ match f ds env st with
  | some env' => ∀ sg', EnvR g Z r H env' sg' → (∀ us : List Nat, (∀ w ∈ ws, w ∈ us) → wipe sg' us = wipe sg us) → Q sg' H
  | none => False
structure SGs (X : Cx) (cl : ClsT) (ws : List Nat) (es : List Expr) (f : DTgs) : Prop where
  run : PGs X es (rdGs ⟨X.K, cl⟩ ws f)
def gNil' : DTgs := fun ds env _ => match ds with
  | [] => some env
  | _ => none
def gCons' (a : DTg) (b : DTgs) : DTgs := fun ds env st => match ds with
  | d :: ds => match a d env st with
    | some env' => b ds env' st
    | none => none
  | [] => none
theorem sgs_nil : SGs X cl [] [] gNil' := by
  refine ⟨pgs_nil.imp fun vs sg H Q ⟨Z, r, env, st, ds, En, R, q, h⟩ => ?_⟩
  cases ds with
  | nil => exact ⟨q, h sg En fun _ _ => rfl⟩
  | cons d ds => exact h.elim
theorem sgs_cons {e : Expr} {es : List Expr} {a : DTg} {b : DTgs} {ws us : List Nat} (ha : SG X cl ws e a) (hb : SGs X cl us es b) (hs : (assignEach (e :: es) X.env).map (·.2) = assign e X.env :: (assignEach es X.env).map (·.2) := by rfl) : SGs X cl (ws ++ us) (e :: es) (gCons' a b) := by
  refine ⟨(pgs_cons ha.run hb.run hs).imp fun vs sg H Q ⟨Z, r, env, st, ds, En, R, q, h⟩ => ?_⟩
  cases ds with
  | nil => exact h.elim
  | cons d ds =>
    obtain ⟨v, q', rfl, h1, h2⟩ := q
    refine ⟨v, q', rfl, Z, r, env, st, d, En, R, h1, ?_⟩
    dsimp only [gCons'] at h
    cases e1 : a d env st with
    | none => rw [e1] at h; exact h.elim
    | some env' =>
      rw [e1] at h
      dsimp only at h ⊢
      intro sg' En' hw
      refine ⟨Z, r, env', st, ds, En', R, h2, ?_⟩
      cases e2 : b ds env' st with
      | none => rw [e2] at h; exact h.elim
      | some env2 =>
        rw [e2] at h
        intro sg2 En2 hw2
        refine h sg2 En2 fun vs hv => ?_
        rw [hw2 vs fun w hm => hv w (List.mem_append_right _ hm), hw vs fun w hm => hv w (List.mem_append_left _ hm)]
def gT (n : Nat) (b : DTgs) : DTg := fun d env st => match tup? st d with
  | some xs => if xs.length = n then b xs env st else none
  | none => none
theorem sg_tup {es : List Expr} {k : Nat} {b : DTgs} {n : Nat} {ws : List Nat} (hc : X.calm = true) (h : SGs X cl ws es b) (hn : (assignEach es X.env).length = n := by rfl) (hst : (assignEach es X.env).findIdx? (·.1) = none := by rfl) : SG X cl ws (.Tuple es k pos) (gT n b) := by
  refine ⟨(pg_tup hc h.run hn hst).imp fun v sg H Q ⟨Z, r, env, st, d, En, R, q, h⟩ => ?_⟩
  dsimp only [gT] at h
  cases e : tup? st d with
  | none => rw [e] at h; exact h.elim
  | some xs =>
    rw [e] at h
    dsimp only at h
    obtain ⟨a, vs, rfl, q2, s⟩ := tup_ok R q e
    split at h
    · rename_i env' hf
      split at hf
      · rename_i hl
        exact ⟨a, vs, rfl, s, by rw [← q2.length]; exact hl, Z, r, env, st, xs, En, R, q2, by rw [hf]; exact h⟩
      · cases hf
    · exact h.elim
/-- target = value -/
def sAsg (f : SemE) (t : DTg) : SemS := fun env st => bindE (f env st) env fun d st1 => match t d env st1 with
  | some env' => .nx env' st1
  | none => .no
theorem ss_asg {tg e : Expr} {f : SemE} {t : DTg} {ws : List Nat} (he : SE X cl W e f) (hg : SG X cl ws tg t) (hs : swapsWithSole [tg] e pos.line X.env = pure false := by rfl) (hw : swappedStores [tg] e X.env = pure none := by rfl) (h1a : (assignEach [tg] X.env).map (·.2) = [assign tg X.env] := by rfl) : SS X cl W (.Assign [tg] e pos) (sAsg f t) := by
  refine ⟨(ps_asg he.run hg.run hs hw h1a).imp fun E sg H ⟨Z, r, env, st, En, R, h⟩ => ⟨Z, r, env, st, En, R, PostS.bindE h En fun d st1 r1 H1 v _ e1 R1 q1 h1 => ?_⟩⟩
  refine ⟨Z, r1, env, st1, d, En.ext e1, R1, q1, ?_⟩
  split at h1
  · rename_i env' hf
    exact fun sg' En' _ => post_nx h1 R1 En'
  · exact h1.elim
/-- a, b = x, y of plain locals -/
def sPar (i j : Nat) (f : SemA) : SemS := fun env st => bindE (f env st) env fun ds st1 => match ds with
  | [x, y] => .nx ((env.set i (some x)).set j (some y)) st1
  | _ => .no
theorem ss_par (i j : Nat) {x y : Str} {a b : Expr} {f : SemA} {px py pt : Pos} {kt k2 pt2} (hc : X.calm = true) (hN : X.N.Nodup) (ha : SA X cl W [a, b] f) (hi : X.N[i]? = some x := by rfl) (hj : X.N[j]? = some y := by rfl) (hij : i ≠ j := by decide)
    (hx : X.env.scope.names.lookup x = some .local := by rfl) (hy : X.env.scope.names.lookup y = some .local := by rfl)
    (hw : swappedStores [.Tuple [.Name x px, .Name y py] kt pt] (.Tuple [a, b] k2 pt2) X.env = pure (some [x, y]) := by rfl)
    (hs : swapsWithSole [.Tuple [.Name x px, .Name y py] kt pt] (.Tuple [a, b] k2 pt2) pos.line X.env = pure false := by rfl) :
    SS X cl W (.Assign [.Tuple [.Name x px, .Name y py] kt pt] (.Tuple [a, b] k2 pt2) pos) (sPar i j f) := by
  refine ⟨(ps_par hc hN hi hj hij hx hy ha.run hw hs).imp fun E sg H ⟨Z, r, env, st, En, R, h⟩ => ⟨Z, r, env, st, En, R, PostS.bindE h En fun ds st1 r1 H1 vs _ e1 R1 q1 h1 => ?_⟩⟩
  match ds, q1, h1 with
  | [x, y], q1, h1 =>
    obtain ⟨v, q, rfl, a1, w, q', rfl, a2, rfl⟩ := q1
    exact ⟨v, w, rfl, post_nx h1 R1 (((En.ext e1).set i a1).set j a2)⟩
  | [], q1, h1 => exact h1.elim
  | [_], q1, h1 => exact h1.elim
  | _ :: _ :: _ :: _, q1, h1 => exact h1.elim
def sPar3 (i j l : Nat) (f : SemA) : SemS := fun env st => bindE (f env st) env fun ds st1 => match ds with
  | [x, y, z] => .nx (((env.set i (some x)).set j (some y)).set l (some z)) st1
  | _ => .no
theorem ss_par3 (i j l : Nat) {x y z : Str} {a b c : Expr} {f : SemA} {px py pz pt : Pos} {kt k2 pt2} (hc : X.calm = true) (hN : X.N.Nodup) (ha : SA X cl W [a, b, c] f) (hi : X.N[i]? = some x := by rfl) (hj : X.N[j]? = some y := by rfl) (hl : X.N[l]? = some z := by rfl)
    (hij : i ≠ j := by decide) (hil : i ≠ l := by decide) (hjl : j ≠ l := by decide)
    (hx : X.env.scope.names.lookup x = some .local := by rfl) (hy : X.env.scope.names.lookup y = some .local := by rfl) (hz : X.env.scope.names.lookup z = some .local := by rfl)
    (hw : swappedStores [.Tuple [.Name x px, .Name y py, .Name z pz] kt pt] (.Tuple [a, b, c] k2 pt2) X.env = pure (some [x, y, z]) := by rfl)
    (hs : swapsWithSole [.Tuple [.Name x px, .Name y py, .Name z pz] kt pt] (.Tuple [a, b, c] k2 pt2) pos.line X.env = pure false := by rfl) :
    SS X cl W (.Assign [.Tuple [.Name x px, .Name y py, .Name z pz] kt pt] (.Tuple [a, b, c] k2 pt2) pos) (sPar3 i j l f) := by
  refine ⟨(ps_par3 hc hN hi hj hl hij hil hjl hx hy hz ha.run hw hs).imp fun E sg H ⟨Z, r, env, st, En, R, h⟩ => ⟨Z, r, env, st, En, R, PostS.bindE h En fun ds st1 r1 H1 vs _ e1 R1 q1 h1 => ?_⟩⟩
  match ds, q1, h1 with
  | [x, y, z], q1, h1 =>
    obtain ⟨v, q, rfl, a1, w, q', rfl, a2, u, q2, rfl, a3, rfl⟩ := q1
    exact ⟨v, w, u, rfl, post_nx h1 R1 ((((En.ext e1).set i a1).set j a2).set l a3)⟩
  | [], q1, h1 => exact h1.elim
  | [_], q1, h1 => exact h1.elim
  | [_, _], q1, h1 => exact h1.elim
  | _ :: _ :: _ :: _ :: _, q1, h1 => exact h1.elim

/-! ### what is walked -/
/-- the items, and what must hold of the store at each turn -/
structure DIter where
  items : List D
  chk : Store → Prop
abbrev SemI := DEnv → Store → Res DIter
/-- further forbidden addresses, new ones alone -/
def Zs (Z : List Addr) (H : Hp) (Z1 : List Addr) : Prop := ∀ a ∈ Z1, a ∈ Z ∨ H a = none
theorem Zs.refl (Z : List Addr) (H : Hp) : Zs Z H Z := fun a h => .inl h
/-- all that is not forbidden stands -/
structure ExtW (Z r : List Addr) (H : Hp) (r' : List Addr) (H' : Hp) : Prop where
  pre : ∃ q, r' = r ++ q
  keep : ∀ a o, H a = some o → (∀ ps, o ≠ .tbl ps) → a ∉ r → a ∉ Z → H' a = some o ∧ a ∉ r'
theorem Ext.w {Z r r' : List Addr} {H H' : Hp} (e : Ext r H r' H') : ExtW Z r H r' H' := ⟨e.pre, fun a o h t n _ => e.keep a o h t n⟩
theorem ExtW.trans {Z r r1 r2 : List Addr} {H H1 H2 : Hp} (a : ExtW Z r H r1 H1) (b : ExtW Z r1 H1 r2 H2) : ExtW Z r H r2 H2 := by
  obtain ⟨q1, e1⟩ := a.pre
  obtain ⟨q2, e2⟩ := b.pre
  refine ⟨⟨q1 ++ q2, by rw [e2, e1, List.append_assoc]⟩, fun x o h t n z => ?_⟩
  obtain ⟨h1, n1⟩ := a.keep x o h t n z
  exact b.keep x o h1 t n1 z
theorem ExtW.get {Z r r1 : List Addr} {H H1 : Hp} (a : ExtW Z r H r1 H1) {k : Nat} {x : Addr} (h : r[k]? = some x) : r1[k]? = some x := by
  obtain ⟨q, e⟩ := a.pre
  have hk : k < r.length := (List.getElem?_eq_some_iff.mp h).1
  rw [e, List.getElem?_append_left hk]; exact h
theorem Nin.extW {Z r Z1 r1 : List Addr} {H H1 : Hp} (e : ExtW Z r H r1 H1) (z : Zs Z H Z1) {a : Addr} {o : HO} (n : Nin Z r a) (h : H a = some o) (t : ∀ ps, o ≠ .tbl ps := by intro ps z; cases z) : Nin Z1 r1 a ∧ H1 a = some o := by
  obtain ⟨h1, n1⟩ := e.keep a o h t n.2 n.1
  exact ⟨⟨fun m => (z a m).elim n.1 fun q => (by rw [q] at h; cases h), n1⟩, h1⟩
theorem Hat.extW {g : Gd} {Z r Z1 r1 : List Addr} {H H1 : Hp} (e : ExtW Z r H r1 H1) (z : Zs Z H Z1) {a : Addr} {t : Hd} {vs : List V} (h : Hat g Z r H a t vs) : Hat g Z1 r1 H1 a t vs := by
  have rd : ∀ {u : HO}, NX u → Nin Z r a → Rd H a u → Nin Z1 r1 a ∧ Rd H1 a u := fun t n q => by
    rcases q with q | ⟨x, q⟩
    · obtain ⟨n1, h1⟩ := Nin.extW e z n q t.1; exact ⟨n1, .inl h1⟩
    · obtain ⟨n1, h1⟩ := Nin.extW e z n q; exact ⟨n1, .inr ⟨x, h1⟩⟩
  cases t with
  | lst => exact Nin.extW e z h.1 h.2
  | tup => exact Nin.extW e z h.1 h.2
  | scr => rcases h with ⟨n, h⟩ | h
           · exact .inl (rd nx_lst n h)
           · exact .inr h
  | ktp => rcases h with ⟨n, h⟩ | h
           · exact .inl (rd nx_tup n h)
           · exact .inr h
  | dk ks => obtain ⟨n, l, h⟩ := h; obtain ⟨n1, h1⟩ := Nin.extW e z n h; exact ⟨n1, l, h1⟩
  | dt ks => obtain ⟨n, l, h⟩ := h; obtain ⟨n1, h1⟩ := Nin.extW e z n h; exact ⟨n1, l, h1⟩
  | ins c ns => obtain ⟨n, l, dx, h⟩ := h; obtain ⟨n1, h1⟩ := Nin.extW e z n h; exact ⟨n1, l, dx, h1⟩
  | exc c ns =>
    obtain ⟨n, d, h, q⟩ := h
    obtain ⟨n1, h1⟩ := Nin.extW e z n h
    refine ⟨n1, d, h1, ?_⟩
    rcases q with q | ⟨dx, e1, l, nd, hd⟩
    · exact .inl q
    · obtain ⟨n2, h2⟩ := Nin.extW e z nd hd
      exact .inr ⟨dx, e1, l, n2, h2⟩
  | glb c => exact h
  | fn f c q caps =>
    obtain ⟨e1, e2, n, h⟩ := h
    obtain ⟨n1, h1⟩ := Nin.extW e z n h
    exact ⟨e1, e2, n1, h1⟩
mutual
theorem Rep.extV {g : Gd} {Z r Z1 r1 : List Addr} {H H1 : Hp} (e : ExtW Z r H r1 H1) (z : Zs Z H Z1) : ∀ (d : D) {v : V}, Rep g Z r H d v → Rep g Z1 r1 H1 d v
  | .non, _, h => h
  | .bl _, _, h => h
  | .int _, _, h => h
  | .str _, _, h => h
  | .ty _, _, h => h
  | .h k, _, h => by obtain ⟨a, e1, e2⟩ := h; exact ⟨a, e1, e.get e2⟩
  | .nd t xs, _, h => by obtain ⟨a, vs, e1, h1, h2⟩ := h; exact ⟨a, vs, e1, h1.extW e z, RepL.extV e z xs h2⟩
theorem RepL.extV {g : Gd} {Z r Z1 r1 : List Addr} {H H1 : Hp} (e : ExtW Z r H r1 H1) (z : Zs Z H Z1) : ∀ (ds : List D) {vs : List V}, RepL g Z r H ds vs → RepL g Z1 r1 H1 ds vs
  | [], _, h => h
  | d :: ds, _, h => by obtain ⟨v, q, e1, h1, h2⟩ := h; exact ⟨v, q, e1, Rep.extV e z d h1, RepL.extV e z ds h2⟩
end
theorem Rep.extZ {g : Gd} {Z r Z1 r1 : List Addr} {H H1 : Hp} (e : ExtW Z r H r1 H1) (z : Zs Z H Z1) {d : D} {v : V} (h : Rep g Z r H d v) : Rep g Z1 r1 H1 d v := Rep.extV e z d h
theorem RepL.extZ {g : Gd} {Z r Z1 r1 : List Addr} {H H1 : Hp} (e : ExtW Z r H r1 H1) (z : Zs Z H Z1) {ds : List D} {vs : List V} (h : RepL g Z r H ds vs) : RepL g Z1 r1 H1 ds vs := RepL.extV e z ds h
def ItOk (g : Gd) (Z r : List Addr) (H : Hp) (it : DIter) (J : It) : Prop :=
  ∀ Z1 r1 H1 st1 i, ExtW Z r H r1 H1 → Zs Z H Z1 → Rl g Z1 r1 H1 st1 → it.chk st1 →
    (∀ d, it.items[i]? = some d → J.go i H1 ∧ ∀ x H2, J.yld i H1 x H2 → Ext r1 H1 r1 H2 ∧ Rl g Z1 r1 H2 st1 ∧ Rep g Z1 r1 H2 d x) ∧ (it.items.length ≤ i → J.stop i H1)
/-- a loop over items -/
noncomputable def forL (chk : Store → Prop) (tg : DTg) (body : SemS) : List D → SemS
  | [], env, st => open Classical in if chk st then .nx env st else .no
  | d :: ds, env, st => open Classical in if chk st then (match tg d env st with
      | some env1 => (match body env1 st with
        | .nx env2 st2 => forL chk tg body ds env2 st2
        | .ct env2 st2 => forL chk tg body ds env2 st2
        | .bk env2 st2 => .nx env2 st2
        | x => x)
      | none => .no) else .no
noncomputable def sFor (fi : SemI) (tg : DTg) (body : SemS) : SemS := fun env st => bindE (fi env st) env fun it st1 => forL it.chk tg body it.items env st1
def rdI (g : Gd) (W : WX) (f : SemI) : TI := fun sg H Q => ∃ Z r env st, EnvR g Z r H env sg ∧ Rl g Z r H st ∧ Post g Z r H (fun r' H' => ItOk g Z r' H') (f env st) Q (fun c d H' => W c d sg H')
structure SI (X : Cx) (cl : ClsT) (W : WX) (tg e : Expr) (f : SemI) : Prop where
  run : PI X tg e (rdI ⟨X.K, cl⟩ W f)
theorem _root_.L2.PI.imp {tg e : Expr} {t t' : TI} (h : PI X tg e t) (f : ∀ sg H Q, t' sg H Q → t sg H Q) : PI X tg e t' := ⟨fun pins s sg H Q I q => h.run pins s sg H Q I (f sg H Q q)⟩
theorem drop_cons {A : Type} {xs : List A} {i : Nat} {d : A} (h : xs[i]? = some d) : xs.drop i = d :: xs.drop (i + 1) := by
  obtain ⟨hl, e⟩ := List.getElem?_eq_some_iff.mp h
  rw [← e]; exact List.drop_eq_getElem_cons hl
theorem ss_for {tg iter : Expr} {body : List Stmt} {fi : SemI} {t : DTg} {ws : List Nat} {fb : SemS} (hp : PassesOwn (model X.prog X.w) X.A X.env X.xe) (hc : X.calm = true) (hi : SI X cl W tg iter fi) (hg : SG X cl ws tg t) (hb : SB X cl W body fb)
    (hs : ∀ x, foldedSetIterable iter X.env x = pure x := by intro _; rfl) : SS X cl W (.For tg iter body [] pos) (sFor fi t fb) := by
  refine ⟨(ps_for hp hc hi.run hg.run hb.run hs).imp fun E sg H ⟨Z, r, env, st, En, R, h⟩ => ⟨Z, r, env, st, En, R, PostS.bindE h En fun it st1 r1 H1 J _ e1 R1 q1 h1 => ?_⟩⟩
  refine ⟨fun i m sg2 H2 => m + i = it.items.length ∧ ∃ r2 env2 st2, EnvR ⟨X.K, cl⟩ Z r2 H2 env2 sg2 ∧ Rl ⟨X.K, cl⟩ Z r2 H2 st2 ∧ Ext r1 H1 r2 H2 ∧ PostS ⟨X.K, cl⟩ Z r2 H2 (forL it.chk t fb (it.items.drop i) env2 st2) E W,
    ⟨it.items.length, by omega, r1, env, st1, En.ext e1, R1, Ext.refl _ _, by simpa using h1⟩, fun i m sg2 H2 ⟨hm, r2, env2, st2, En2, R2, e2, h2⟩ => ?_⟩
  cases hd : it.items[i]? with
  | none =>
    have hl : it.items.length ≤ i := List.getElem?_eq_none_iff.mp hd
    rw [List.drop_eq_nil_of_le hl, forL] at h2
    split at h2
    · rename_i hchk
      exact .inl ⟨(q1 Z r2 H2 st2 i e2.w (Zs.refl _ _) R2 hchk).2 hl, post_nx h2 R2 En2⟩
    · exact h2.elim
  | some d =>
    rw [drop_cons hd, forL] at h2
    split at h2
    · rename_i hchk
      obtain ⟨go, yl⟩ := (q1 Z r2 H2 st2 i e2.w (Zs.refl _ _) R2 hchk).1 d hd
      refine .inr ⟨go, fun sg3 H3 => ∃ r3 env3 st3, EnvR ⟨X.K, cl⟩ Z r3 H3 env3 sg3 ∧ Rl ⟨X.K, cl⟩ Z r3 H3 st3 ∧ Ext r1 H1 r3 H3 ∧ PostS ⟨X.K, cl⟩ Z r3 H3 (forL it.chk t fb (it.items.drop (i + 1)) env3 st3) E W, fun sg3 H3 ⟨r3, env3, st3, a, b, c, d⟩ => ?_, fun x H3 hy => ?_⟩
      · have hl := (List.getElem?_eq_some_iff.mp hd).1
        exact ⟨m - 1, by omega, by omega, r3, env3, st3, a, b, c, d⟩
      · obtain ⟨e3, R3, q3⟩ := yl x H3 hy
        refine ⟨Z, r2, env2, st2, d, En2.ext e3, R3, q3, ?_⟩
        cases ht : t d env2 st2 with
        | none => rw [ht] at h2; exact h2.elim
        | some env3 =>
          rw [ht] at h2
          dsimp only at h2 ⊢
          intro sg3 En3 _
          refine ⟨Z, r2, env3, st2, En3, R3, ?_⟩
          have h3 := PostS.ext e3 h2
          cases hbd : fb env3 st2 with
          | nx env4 st4 => rw [hbd] at h3; exact fun r4 H4 sg4 e4 R4 En4 => ⟨r4, env4, st4, En4, R4, (e2.trans e3).trans e4, PostS.ext e4 h3⟩
          | ct env4 st4 => rw [hbd] at h3; exact fun r4 H4 sg4 e4 R4 En4 => ⟨r4, env4, st4, En4, R4, (e2.trans e3).trans e4, PostS.ext e4 h3⟩
          | bk env4 st4 => rw [hbd] at h3; exact h3
          | rt d st4 => rw [hbd] at h3; exact h3
          | er x env4 st4 => rw [hbd] at h3; exact h3
          | no => rw [hbd] at h3; exact h3
    · exact h2.elim
end
end DY

/-! What is walked; comprehensions; dicts; attributes. -/
namespace DY
open PySem PySem.Spec PyProof.Rows L2

theorem _root_.L2.PI.or {X : Cx} {tg e : Expr} {t t' : TI} (h : PI X tg e t) (h' : PI X tg e t') : PI X tg e (fun sg H Q => t sg H Q ∨ t' sg H Q) := ⟨fun pins s sg H Q I q => q.elim (h.run pins s sg H Q I) (h'.run pins s sg H Q I)⟩
section
variable {X : Cx} {cl : ClsT} {W : WX} {pos : Pos}
def iSeq (f : SemE) : SemI := fun env st => (f env st).bind fun x st1 => match lst? st1 x with
  | some xs => .ok ⟨xs, fun st2 => lst? st2 x = some xs⟩ st1
  | none => match tup? st1 x with
    | some xs => .ok ⟨xs, fun st2 => tup? st2 x = some xs⟩ st1
    | none => .no
theorem it_list {g : Gd} {Z r : List Addr} {H : Hp} {st : Store} {x : D} {a : Addr} {xs : List D} (h : Rep g Z r H x (.ref a)) : ItOk g Z r H ⟨xs, fun st2 => lst? st2 x = some xs⟩ (Itl g.K a) := by
  intro Z1 r1 H1 st1 i e z R1 hc
  obtain ⟨b, vs, e1, q, s⟩ := lst_ok R1 (Rep.extZ e z h) hc
  cases e1
  refine ⟨fun d hd => ?_, fun hl => ⟨vs, s, by rw [← q.length]; exact hl⟩⟩
  obtain ⟨v, hv, qv⟩ := q.get hd
  refine ⟨⟨vs, v, s, hv⟩, fun y H2 hy => ?_⟩
  obtain ⟨rfl, hx⟩ := hy
  have := hx vs s
  rw [hv] at this; cases this
  exact ⟨Ext.refl _ _, R1, qv⟩
theorem it_tup {g : Gd} {Z r : List Addr} {H : Hp} {st : Store} {x : D} {a : Addr} {xs : List D} (h : Rep g Z r H x (.ref a)) : ItOk g Z r H ⟨xs, fun st2 => tup? st2 x = some xs⟩ (Itt g.K a) := by
  intro Z1 r1 H1 st1 i e z R1 hc
  obtain ⟨b, vs, e1, q, s⟩ := tup_ok R1 (Rep.extZ e z h) hc
  cases e1
  refine ⟨fun d hd => ?_, fun hl => ⟨vs, s, by rw [← q.length]; exact hl⟩⟩
  obtain ⟨v, hv, qv⟩ := q.get hd
  refine ⟨⟨vs, v, s, hv⟩, fun y H2 hy => ?_⟩
  obtain ⟨rfl, hx⟩ := hy
  have := hx vs s
  rw [hv] at this; cases this
  exact ⟨Ext.refl _ _, R1, qv⟩
theorem si_seq {tg e : Expr} {f : SemE} (he : SE X cl W e f) : SI X cl W tg e (iSeq f) := by
  refine ⟨((pi_list he.run).or (pi_tup he.run)).imp fun sg H Q h => ?_⟩
  obtain ⟨Z, r, env, st, En, R, h⟩ := h
  dsimp only [iSeq] at h
  cases hf : f env st with
  | ok x st1 =>
    rw [hf] at h
    dsimp only [Res.bind] at h
    cases hl : lst? st1 x with
    | some xs =>
      rw [hl] at h
      refine .inl ⟨Z, r, env, st, En, R, ?_⟩
      rw [hf]
      intro r1 H1 v e1 R1 q1
      obtain ⟨a, vs, rfl, q, s⟩ := lst_ok R1 q1 hl
      exact ⟨a, rfl, ⟨vs, s⟩, h r1 H1 _ e1 R1 (it_list (st := st1) q1)⟩
    | none =>
      rw [hl] at h
      dsimp only at h
      cases ht : tup? st1 x with
      | some xs =>
        rw [ht] at h
        refine .inr ⟨Z, r, env, st, En, R, ?_⟩
        rw [hf]
        intro r1 H1 v e1 R1 q1
        obtain ⟨a, vs, rfl, q, s⟩ := tup_ok R1 q1 ht
        exact ⟨a, rfl, ⟨vs, s⟩, h r1 H1 _ e1 R1 (it_tup (st := st1) q1)⟩
      | none => rw [ht] at h; exact h.elim
  | er x st1 => rw [hf] at h; exact .inl ⟨Z, r, env, st, En, R, by rw [hf]; exact h⟩
  | no => rw [hf] at h; exact h.elim
/-- lo, lo + 1, .. -/
def rng (lo : Int) (n : Nat) : List D := (List.range n).map fun (i : Nat) => D.int (lo + (i : Int))
theorem it_rng {g : Gd} {Z r : List Addr} {H : Hp} (lo : Int) (n : Nat) : ItOk g Z r H ⟨rng lo n, fun _ => True⟩ (Itr lo n) := by
  intro Z1 r1 H1 st1 i e z R1 hc
  refine ⟨fun d hd => ?_, fun hl => by simpa [rng, Itr] using hl⟩
  have hi : i < n := by
    have := (List.getElem?_eq_some_iff.mp hd).1
    simpa [rng] using this
  refine ⟨hi, fun y H2 hy => ?_⟩
  obtain ⟨rfl, rfl⟩ := hy
  have : d = .int (lo + (i : Int)) := by
    unfold rng at hd
    rw [List.getElem?_map, List.getElem?_range hi] at hd
    exact (Option.some.inj hd).symm
  subst this
  exact ⟨Ext.refl _ _, R1, rfl⟩
def iRange1 (f : SemA) : SemI := fun env st => (f env st).bind fun ds st1 => match ds with
  | [.int j] => if -(2 ^ 62) ≤ j ∧ j < 2 ^ 62 then .ok ⟨rng 0 j.toNat, fun _ => True⟩ st1 else .no
  | _ => .no
def iRange2 (f : SemA) : SemI := fun env st => (f env st).bind fun ds st1 => match ds with
  | [.int i, .int j] => if (-(2 ^ 62) ≤ i ∧ i < 2 ^ 62) ∧ (-(2 ^ 62) ≤ j ∧ j < 2 ^ 62) then .ok ⟨rng i (j - i).toNat, fun _ => True⟩ st1 else .no
  | _ => .no
theorem si_range1 {tg a : Expr} {p : Pos} {f : SemA} (hm : X.mg "range" = none) (ha : SA X cl W [a] f) (hg : Gl X "range" := by rfl) (hs : starEach [a] X.env = [(false, eval a X.env)] := by rfl) : SI X cl W tg (.Call (.Name "range" p) [a] [] pos) (iRange1 f) := by
  refine ⟨(pi_range1 hg hm ha.run hs).imp fun sg H Q ⟨Z, r, env, st, En, R, h⟩ => ⟨Z, r, env, st, En, R, Post.bind h fun ds st1 r1 H1 vs _ e1 R1 q1 h1 => ?_⟩⟩
  split at h1
  · rename_i j _
    split at h1
    · rename_i hc
      obtain ⟨v, q, rfl, a1, rfl⟩ := q1
      exact ⟨j, by rw [show v = .int j from a1], hc.1, hc.2, post_ok h1 R1 (it_rng 0 _)⟩
    · exact h1.elim
  · exact h1.elim
/-- enumerate of a list -/
def enuFrom : Nat → List D → List D
  | _, [] => []
  | i, d :: ds => .nd .tup [.int (i : Nat), d] :: enuFrom (i + 1) ds
theorem enu_get : ∀ (j : Nat) (xs : List D) (i : Nat), (enuFrom j xs)[i]? = xs[i]?.map fun d => .nd .tup [.int ((j + i : Nat) : Int), d]
  | _, [], i => by simp [enuFrom]
  | j, d :: ds, 0 => by simp [enuFrom]
  | j, d :: ds, i + 1 => by
    simp only [enuFrom, List.getElem?_cons_succ, enu_get (j + 1) ds i]
    rw [show j + 1 + i = j + (i + 1) by omega]
theorem enu_len : ∀ (j : Nat) (xs : List D), (enuFrom j xs).length = xs.length
  | _, [] => rfl
  | j, d :: ds => by simp [enuFrom, enu_len (j + 1) ds]
theorem it_enu {g : Gd} {Z r : List Addr} {H : Hp} {x : D} {a : Addr} {xs : List D} (h : Rep g Z r H x (.ref a)) : ItOk g Z r H ⟨enuFrom 0 xs, fun st2 => lst? st2 x = some xs⟩ (Ite g.K a) := by
  intro Z1 r1 H1 st1 i e z R1 hc
  obtain ⟨b, vs, e1, q, s⟩ := lst_ok R1 (Rep.extZ e z h) hc
  cases e1
  refine ⟨fun d hd => ?_, fun hl => ⟨vs, s, by rw [← q.length]; simpa [enu_len] using hl⟩⟩
  dsimp only at hd
  rw [enu_get] at hd
  cases hx : xs[i]? with
  | none => rw [hx] at hd; cases hd
  | some c =>
    rw [hx] at hd
    cases hd
    obtain ⟨v, hv, qv⟩ := q.get hx
    refine ⟨⟨vs, v, s, hv⟩, fun y H2 hy => ?_⟩
    obtain ⟨T, w, rfl, hT, rfl, hw⟩ := hy
    have := hw vs s
    rw [hv] at this; cases this
    refine ⟨Ext.new hT, R1.new hT, ?_⟩
    have := new_tup (vs := [.int (i : Nat), v]) (xs := [.int ((0 + i : Nat) : Int), c]) R1 ⟨_, _, rfl, by simp [Rep], _, _, rfl, qv, rfl⟩ hT
    exact this
/-- zip of two lists -/
def zipD : List D → List D → List D
  | x :: xs, y :: ys => .nd .tup [x, y] :: zipD xs ys
  | _, _ => []
/-- the signs of a text -/
def iText (f : SemE) : SemI := fun env st => (f env st).bind fun x st1 => match x with
  | .str z => .ok ⟨z.cps.toList.map fun c => D.str ⟨#[c]⟩, fun _ => True⟩ st1
  | _ => .no
/-! ### list comprehensions -/
def wipeD (env : DEnv) : List Nat → DEnv
  | [] => env
  | v :: vs => (wipeD env vs).set v none
theorem wipe_env {g : Gd} {Z r : List Addr} {H : Hp} {env : DEnv} {sg : L2.St} (En : EnvR g Z r H env sg) : ∀ vs, EnvR g Z r H (wipeD env vs) (wipe sg vs)
  | [] => En
  | v :: vs => by
    have h := wipe_env En vs
    show EnvR g Z r H ((wipeD env vs).set v none) ((wipe sg vs).set v none)
    refine ⟨by simp [h.len], fun i d hd => ?_⟩
    by_cases e : v = i
    · subst e
      have hl : v < (wipeD env vs).length := by
        have := (List.getElem?_eq_some_iff.mp hd).1
        simpa using this
      rw [List.getElem?_set_self hl] at hd; cases hd
    · rw [List.getElem?_set_ne e] at hd ⊢
      exact h.at_ i d hd
theorem wipe_wipe (sg : L2.St) (vs : List Nat) : wipe (wipe sg vs) vs = wipe sg vs := by
  apply List.ext_getElem?
  intro j
  rw [wipe_get, wipe_get]
  split
  · cases sg[j]? <;> rfl
  · rfl
/-- nothing is raised there -/
def Res.calm {A : Type} : Res A → Res A
  | .er _ _ => .no
  | x => x
/-- the tests -/
def tYesD : SemT := fun _ st => .ok true st
noncomputable def compL (chk : Store → Prop) (tg : DTg) (tst : SemT) (elt : SemE) (own : List Nat) (env : DEnv) : List D → List D → Store → Res (List D)
  | [], acc, st => open Classical in if chk st then .ok acc st else .no
  | d :: ds, acc, st => open Classical in if chk st then (match tg d (wipeD env own) st with
      | some env1 => (match tst env1 st with
        | .ok true st1 => (match elt env1 st1 with
          | .ok y st2 => if acc.length < szL then compL chk tg tst elt own env ds (acc ++ [y]) st2 else .no
          | _ => .no)
        | .ok false st1 => compL chk tg tst elt own env ds acc st1
        | _ => .no)
      | none => .no) else .no
/-- a list that stays -/
noncomputable def dLc (fi : SemI) (tg : DTg) (tst : SemT) (elt : SemE) (own : List Nat) : SemE := fun env st => (fi env st).bind fun it st1 => (compL it.chk tg tst elt own env it.items [] st1).bind fun xs st2 => .ok (.nd .lst xs) st2
/-- a list that will be changed -/
noncomputable def dLcM (fi : SemI) (tg : DTg) (tst : SemT) (elt : SemE) (own : List Nat) : SemE := fun env st => (fi env st).bind fun it st1 => (compL it.chk tg tst elt own env it.items [] st1).bind fun xs st2 => .ok (.h st2.length) (st2 ++ [.nd .lst xs])
abbrev WF : WX := fun _ _ _ _ => False
structure STs (X : Cx) (cl : ClsT) (W : WX) (ifs : List Expr) (f : SemT) : Prop where
  run : PTs X ifs (rdT ⟨X.K, cl⟩ W f)
theorem _root_.L2.PTs.imp {ifs : List Expr} {t t' : TT} (h : PTs X ifs t) (f : ∀ sg H Q, t' sg H Q → t sg H Q) : PTs X ifs t' := ⟨fun pins s sg H Q I q => h.run pins s sg H Q I (f sg H Q q)⟩
theorem sts_nil : STs X cl W [] tYesD := ⟨pts_nil.imp fun sg H Q ⟨Z, r, env, st, En, R, h⟩ => post_ok h R rfl⟩
theorem sts_one {c : Expr} {f : SemT} (h : ST X cl W c f) : STs X cl W [c] f := ⟨pts_one h.run⟩
/-- the loop, over the new list at D -/
theorem lc_rd {tg : DTg} {tst : SemT} {elt : SemE} {own ws : List Nat} (hw : ∀ w ∈ ws, w ∈ own) {Z r : List Addr} {H : Hp} {st : Store} {env : DEnv} {sg : L2.St} {it : DIter} {J : It} {Q : VK} (R : Rl ⟨X.K, cl⟩ Z r H st) (En : EnvR ⟨X.K, cl⟩ Z r H env sg) (hJ : ItOk ⟨X.K, cl⟩ Z r H it J)
    {p : Addr} (hp : H p = none)
    (hq : ∀ xs st2 r2 H2 vs, compL it.chk tg tst elt own env it.items [] st = .ok xs st2 → Ext r H r2 H2 → H2 p = some (.lst vs) → Rl ⟨X.K, cl⟩ (p :: Z) r2 H2 st2 → RepL ⟨X.K, cl⟩ (p :: Z) r2 H2 xs vs → Q (.ref p) H2) (hno : compL it.chk tg tst elt own env it.items [] st ≠ .no) :
    ∃ Wn : Nat → Nat → Hp → Prop, (∃ m, Wn 0 m (upd H p (.lst []))) ∧ ∀ i m H', Wn i m H' →
      (J.stop i H' ∧ Q (.ref p) H') ∨ (J.go i H' ∧ ∃ Nx : Hp → Prop, (∀ H', Nx H' → ∃ m', m' < m ∧ Wn (i + 1) m' H') ∧ ∀ x H2, J.yld i H' x H2 → rdG ⟨X.K, cl⟩ ws tg x (wipe sg own) H2 fun sg2 H3 => wipe sg2 own = wipe sg own ∧ rdT ⟨X.K, cl⟩ WF tst sg2 H3 fun b H4 =>
        if b = true then rdE ⟨X.K, cl⟩ WF elt sg2 H4 fun y H5 => ∃ acc, H5 p = some (.lst acc) ∧ acc.length < sizeLine ∧ Nx (upd H5 p (.lst (acc ++ [y]))) else Nx H4) := by
  let g : Gd := ⟨X.K, cl⟩
  have hz : Zs Z H (p :: Z) := fun a m => by
    rcases List.mem_cons.mp m with rfl | m
    · exact .inr hp
    · exact .inl m
  have hpr := R.free hp
  let St : Nat → Hp → Prop := fun i H' => ∃ r' st' acc vs, Ext r H r' H' ∧ H' p = some (.lst vs) ∧ Rl g (p :: Z) r' H' st' ∧ RepL g (p :: Z) r' H' acc vs ∧ acc.length ≤ szL ∧
    compL it.chk tg tst elt own env it.items [] st = compL it.chk tg tst elt own env (it.items.drop i) acc st'
  have R0 : Rl g (p :: Z) r (upd H p (.lst [])) st := by
    have R1 := R.new (o := .lst []) hp
    exact ⟨R1.len, R1.nd, fun a m => by
      rcases List.mem_cons.mp m with rfl | m
      · exact ⟨hpr.2, _, upd_same, ⟨nx_lst, nt_lst⟩⟩
      · exact R1.z a m, R1.tb, fun k d e => by
      obtain ⟨a, ea, t, xs, vs, ed, hm, hx⟩ := R.cell k d e
      obtain ⟨u, eu⟩ := hm.some
      exact ⟨a, ea, t, xs, vs, ed, hm.keep (upd_ne (ne_of_none eu hp)), RepL.extZ (Ext.new hp).w hz hx⟩⟩
  refine ⟨fun i m H' => m + i = it.items.length ∧ St i H', ⟨it.items.length, by omega, r, st, [], [], Ext.new hp, upd_same, R0, rfl, by simp, by simp⟩, fun i m H' ⟨hm, r', st', acc, vs, e1, hd, R1, qa, hl, ec⟩ => ?_⟩
  cases hdi : it.items[i]? with
  | none =>
    have hle : it.items.length ≤ i := List.getElem?_eq_none_iff.mp hdi
    rw [List.drop_eq_nil_of_le hle, compL] at ec
    split at ec
    · rename_i hchk
      exact .inl ⟨(hJ (p :: Z) r' H' st' i e1.w hz R1 hchk).2 hle, hq acc st' r' H' vs ec e1 hd R1 qa⟩
    · exact (hno ec).elim
  | some d =>
    rw [drop_cons hdi, compL] at ec
    split at ec
    · rename_i hchk
      obtain ⟨go, yl⟩ := (hJ (p :: Z) r' H' st' i e1.w hz R1 hchk).1 d hdi
      refine .inr ⟨go, St (i + 1), fun H2 h2 => ⟨m - 1, by have := (List.getElem?_eq_some_iff.mp hdi).1; omega, by have := (List.getElem?_eq_some_iff.mp hdi).1; omega, h2⟩, fun x H2 hy => ?_⟩
      obtain ⟨e2, R2, q2⟩ := yl x H2 hy
      have En2 : EnvR g (p :: Z) r' H2 (wipeD env own) (wipe sg own) := wipe_env ⟨En.len, fun i d h => let ⟨v, a, b⟩ := En.at_ i d h; ⟨v, a, Rep.extZ (e1.trans e2).w hz b⟩⟩ own
      refine ⟨p :: Z, r', wipeD env own, st', d, En2, R2, q2, ?_⟩
      cases ht : tg d (wipeD env own) st' with
      | none => rw [ht] at ec; exact (hno ec).elim
      | some env1 =>
        rw [ht] at ec
        dsimp only at ec ⊢
        intro sg3 En3 hw3
        refine ⟨by rw [hw3 own hw, wipe_wipe], ?_⟩
        have hd2 : H2 p = some (.lst vs) := by
          have := e2.keep p _ hd nx_lst.1 (fun z => (R1.z p List.mem_cons_self).1 z)
          exact this.1
        refine ⟨p :: Z, r', env1, st', En3, R2, ?_⟩
        cases hts : tst env1 st' with
        | er x s => rw [hts] at ec; exact (hno ec).elim
        | no => rw [hts] at ec; exact (hno ec).elim
        | ok b st2 =>
          rw [hts] at ec
          intro r3 H3 b' e3 R3 hb
          cases hb
          have hd3 : H3 p = some (.lst vs) := (e3.keep p _ hd2 nx_lst.1 fun z => (R2.z p List.mem_cons_self).1 z).1
          cases b with
          | false =>
            rw [if_neg (by decide)]
            exact ⟨r3, st2, acc, vs, (e1.trans e2).trans e3, hd3, R3, RepL.ext (e2.trans e3) _ qa, hl, ec⟩
          | true =>
            rw [if_pos rfl]
            dsimp only at ec
            refine ⟨p :: Z, r3, env1, st2, En3.ext e3, R3, ?_⟩
            cases hel : elt env1 st2 with
            | er x s => rw [hel] at ec; exact (hno ec).elim
            | no => rw [hel] at ec; exact (hno ec).elim
            | ok y st3 =>
              rw [hel] at ec
              dsimp only at ec
              intro r4 H4 w e4 R4 qw
              have hd4 : H4 p = some (.lst vs) := (e4.keep p _ hd3 nx_lst.1 fun z => (R3.z p List.mem_cons_self).1 z).1
              split at ec
              · rename_i hzl
                have qa4 : RepL g (p :: Z) r4 H4 acc vs := RepL.ext ((e2.trans e3).trans e4) _ qa
                refine ⟨vs, hd4, by rw [← qa4.length]; exact hzl, ?_⟩
                have np : ¬ Nin (p :: Z) r4 p := fun n => n.1 List.mem_cons_self
                refine ⟨r4, st3, acc ++ [y], vs ++ [w], ?_, upd_same, ?_, RepL.off np _ (qa4.append (RepL.one qw)), by simp; omega, ec⟩
                · have e := ((e1.trans e2).trans e3).trans e4
                  exact ⟨e.pre, fun a o h t n => by
                    have ne : a ≠ p := ne_of_none h hp
                    rw [upd_ne ne]; exact e.keep a o h t n⟩
                · refine ⟨R4.len, R4.nd, fun a m => ?_, tabs_upd (fun u e => by rw [hd4] at e; cases e; exact nx_lst) R4.tb, fun k d e => ?_⟩
                  · obtain ⟨n, u, eu, x⟩ := R4.z a m
                    by_cases ha : a = p
                    · subst ha; exact ⟨n, _, upd_same, ⟨nx_lst, nt_lst⟩⟩
                    · exact ⟨n, u, by rw [upd_ne ha]; exact eu, x⟩
                  · obtain ⟨a, ea, t, xs, vs', ed, hm, hx⟩ := R4.cell k d e
                    have ha : a ≠ p := fun z => (R4.z p List.mem_cons_self).1 (z ▸ List.mem_of_getElem? ea)
                    exact ⟨a, ea, t, xs, vs', ed, hm.keep (upd_ne ha), RepL.off np _ hx⟩
              · exact (hno ec).elim
    · exact (hno ec).elim
end
end DY

/-! Comprehensions as expressions; dicts; attributes. -/
namespace DY
open PySem PySem.Spec PyProof.Rows L2
section
variable {X : Cx} {cl : ClsT} {W : WX} {pos : Pos}
theorem RepL.less {g : Gd} {Z r : List Addr} {H : Hp} {p : Addr} {ds : List D} {vs : List V} (h : RepL g (p :: Z) r H ds vs) : RepL g Z r H ds vs :=
  RepL.turn (fun a n _ => ⟨fun m => n.1 (List.mem_cons_of_mem _ m), n.2⟩) (fun _ _ q => q) ds h
theorem Rl.less {g : Gd} {Z r : List Addr} {H : Hp} {p : Addr} {st : Store} (h : Rl g (p :: Z) r H st) : Rl g Z r H st :=
  ⟨h.len, h.nd, fun a m => h.z a (List.mem_cons_of_mem _ m), h.tb, fun k d e => let ⟨a, ea, t, xs, vs, ed, hm, hx⟩ := h.cell k d e; ⟨a, ea, t, xs, vs, ed, hm, RepL.less hx⟩⟩
theorem adopt_lst {g : Gd} {Z r : List Addr} {H : Hp} {p : Addr} {xs : List D} {vs : List V} {st : Store} (hz : p ∉ Z) (R : Rl g (p :: Z) r H st) (hp : H p = some (.lst vs)) (hx : RepL g (p :: Z) r H xs vs) : Rep g Z r H (.nd .lst xs) (.ref p) :=
  ⟨p, vs, rfl, ⟨⟨hz, (R.z p List.mem_cons_self).1⟩, hp⟩, RepL.less hx⟩
theorem adoptM {g : Gd} {Z r : List Addr} {H : Hp} {p : Addr} {t : Hd} {xs : List D} {vs : List V} {st : Store} (hz : p ∉ Z) (R : Rl g (p :: Z) r H st) (hp : HatM g H p t vs) (hx : RepL g (p :: Z) r H xs vs) : Rl g Z (r ++ [p]) H (st ++ [.nd t xs]) := by
  have hpr := (R.z p List.mem_cons_self).1
  have up : ∀ {ds : List D} {us : List V}, RepL g (p :: Z) r H ds us → RepL g Z (r ++ [p]) H ds us := fun h =>
    RepL.turn (fun a n _ => ⟨fun m => n.1 (List.mem_cons_of_mem _ m), fun m => by
      rcases List.mem_append.mp m with m | m
      · exact n.2 m
      · exact n.1 (by simp at m; subst m; exact List.mem_cons_self)⟩) (fun k a q => by rw [List.getElem?_append_left (List.getElem?_eq_some_iff.mp q).1]; exact q) _ h
  refine ⟨by simp [R.len], ?_, fun a m => ?_, R.tb, fun k d e => ?_⟩
  · refine List.nodup_append.mpr ⟨R.nd, by simp, ?_⟩
    intro a ha b hb; simp at hb; subst hb; intro e; subst e; exact hpr ha
  · obtain ⟨n, u⟩ := R.z a (List.mem_cons_of_mem _ m)
    have ne : a ≠ p := fun z => hz (z ▸ m)
    exact ⟨by simp [n, ne], u⟩
  · by_cases hk : k < st.length
    · rw [List.getElem?_append_left hk] at e
      obtain ⟨a, ea, t', xs', vs', ed, hm', hx'⟩ := R.cell k d e
      have hk' : k < r.length := by rw [R.len]; exact hk
      exact ⟨a, by rw [List.getElem?_append_left hk']; exact ea, t', xs', vs', ed, hm', up hx'⟩
    · have hk2 : k = st.length := by
        have := (List.getElem?_eq_some_iff.mp e).1
        simp at this; omega
      subst hk2
      simp at e; subst e
      exact ⟨p, by rw [← R.len]; simp, t, xs, vs, rfl, hp, up hx⟩
theorem Ext.adopt {r r2 : List Addr} {H H2 : Hp} {p : Addr} (e : Ext r H r2 H2) (hp : H p = none) : Ext r H (r2 ++ [p]) H2 := by
  obtain ⟨q, eq⟩ := e.pre
  refine ⟨⟨q ++ [p], by rw [eq, List.append_assoc]⟩, fun a o h t n => ?_⟩
  obtain ⟨h1, n1⟩ := e.keep a o h t n
  exact ⟨h1, by simp [n1, ne_of_none h hp]⟩
/-- the comprehension's loop is reached -/
theorem lc_tLc {fi : SemI} {tg : DTg} {tst : SemT} {elt : SemE} {own ws : List Nat} (hw : ∀ w ∈ ws, w ∈ own) {fin : List D → Store → Res D} (sg : L2.St) (H : Hp) (Q : VK)
    (hfin : ∀ Z r H p, H p = none → p ∉ Z → ∀ xs st2 r2 H2 vs, Ext r H r2 H2 → H2 p = some (.lst vs) → Rl ⟨X.K, cl⟩ (p :: Z) r2 H2 st2 → RepL ⟨X.K, cl⟩ (p :: Z) r2 H2 xs vs → ∀ {W' : Value → Option Addr → Hp → Prop}, Post ⟨X.K, cl⟩ Z r H (RV ⟨X.K, cl⟩ Z) (fin xs st2) Q W' → Q (.ref p) H2)
    (h : rdE ⟨X.K, cl⟩ W (fun env st => (fi env st).bind fun it st1 => (compL it.chk tg tst elt own env it.items [] st1).bind fin) sg H Q) :
    tLc (rdI ⟨X.K, cl⟩ W fi) (rdG ⟨X.K, cl⟩ ws tg) (rdT ⟨X.K, cl⟩ WF tst) (rdE ⟨X.K, cl⟩ WF elt) own sg H Q := by
  obtain ⟨Z, r, env, st, En, R, h⟩ := h
  refine ⟨Z, r, env, st, En, R, Post.bind h fun it st1 r1 H1 J _ e1 R1 q1 h1 => fun p hp => ?_⟩
  refine lc_rd (env := env) hw R1 (En.ext e1) q1 hp (fun xs st2 r2 H2 vs hc e2 hd R2 qx => ?_) (fun z => by rw [z] at h1; exact h1)
  rw [hc] at h1
  exact hfin Z r1 H1 p hp (R1.free hp).1 xs st2 r2 H2 vs e2 hd R2 qx h1
theorem fin_lst {xs : List D} {st2 : Store} {Q : VK} (Z r : List Addr) (H : Hp) (p : Addr) (hp : H p = none) (hz : p ∉ Z) (r2 : List Addr) (H2 : Hp) (vs : List V) (e2 : Ext r H r2 H2) (hd : H2 p = some (.lst vs)) (R2 : Rl ⟨X.K, cl⟩ (p :: Z) r2 H2 st2) (qx : RepL ⟨X.K, cl⟩ (p :: Z) r2 H2 xs vs)
    {W' : Value → Option Addr → Hp → Prop} (h : Post ⟨X.K, cl⟩ Z r H (RV ⟨X.K, cl⟩ Z) (.ok (.nd .lst xs) st2) Q W') : Q (.ref p) H2 := h r2 H2 _ e2 R2.less (adopt_lst hz R2 hd qx)
theorem fin_lstM {xs : List D} {st2 : Store} {Q : VK} (Z r : List Addr) (H : Hp) (p : Addr) (hp : H p = none) (hz : p ∉ Z) (r2 : List Addr) (H2 : Hp) (vs : List V) (e2 : Ext r H r2 H2) (hd : H2 p = some (.lst vs)) (R2 : Rl ⟨X.K, cl⟩ (p :: Z) r2 H2 st2) (qx : RepL ⟨X.K, cl⟩ (p :: Z) r2 H2 xs vs)
    {W' : Value → Option Addr → Hp → Prop} (h : Post ⟨X.K, cl⟩ Z r H (RV ⟨X.K, cl⟩ Z) (.ok (.h st2.length) (st2 ++ [.nd .lst xs])) Q W') : Q (.ref p) H2 :=
  h (r2 ++ [p]) H2 _ (e2.adopt hp) (adoptM hz R2 hd qx) ⟨p, rfl, by rw [← R2.len]; simp⟩
section
variable {elt tg iter : Expr} {ifs : List Expr} {scope : Scope} {own : List (Str × Nat)} {fi : SemI} {g : DTg} {tt : SemT} {te : SemE} {ws : List Nat}
theorem se_lc (own : List (Str × Nat)) (hc : X.calm = true) (hN : X.N.Nodup) (hi : SI X cl W tg iter fi) (ok : BlkOk X.N X.env.scope scope own)
    (hg : ∀ (s : Shared) (H : Hp) (C : Addr) (l : List (Str × Addr)) (fp : List Addr), SG (X.blk s H scope (compEnvC scope l C X.env) fp) cl ws tg g) (ht : ∀ (s : Shared) (H : Hp) (C : Addr) (l : List (Str × Addr)) (fp : List Addr), STs (X.blk s H scope (compEnvC scope l C X.env) fp) cl WF ifs tt)
    (he : ∀ (s : Shared) (H : Hp) (C : Addr) (l : List (Str × Addr)) (fp : List Addr), SE (X.blk s H scope (compEnvC scope l C X.env) fp) cl WF elt te) (hw : ∀ w ∈ ws, w ∈ own.map (·.2) := by decide) (hs : ∀ x, foldedSetIterable iter X.env x = pure x := by intro _; rfl) :
    SE X cl W (.ListComp elt [⟨tg, iter, ifs, 0⟩] scope pos) (dLc fi g tt te (own.map (·.2))) :=
  ⟨(pe_lc hc hN hi.run ok (fun s H C l fp => (hg s H C l fp).run) (fun s H C l fp => (ht s H C l fp).run) (fun s H C l fp => (he s H C l fp).run) hs).imp fun sg H Q h => lc_tLc hw sg H Q (fun Z r H p hp hz xs st2 r2 H2 vs e2 hd R2 qx {W'} h => fin_lst Z r H p hp hz r2 H2 vs e2 hd R2 qx h) h⟩
/-- y = [..] of a local, on one line -/
theorem set_lc_rd {i : Nat} {f : SemE} {t : TE} (ht : ∀ sg H Q, rdE ⟨X.K, cl⟩ W f sg H Q → t sg H Q) (E : Ends) (sg : L2.St) (H : Hp) (h : rdS ⟨X.K, cl⟩ W (sSet i f) E sg H) : tAsg t (gName i) E sg H := by
  obtain ⟨Z, r, env, st, En, R, h⟩ := h
  exact ht sg H _ ⟨Z, r, env, st, En, R, PostS.bindE h En fun d st1 r1 H1 v _ e1 R1 q1 h1 => post_nx h1 R1 ((En.ext e1).set i q1)⟩
theorem ss_setLc (i : Nat) (own : List (Str × Nat)) {y : Str} {py : Pos} {cpos : Pos} (hc : X.calm = true) (hN : X.N.Nodup) (hi : SI X cl W tg iter fi) (ok : BlkOk X.N X.env.scope scope own)
    (hg : ∀ (s : Shared) (H : Hp) (C : Addr) (l : List (Str × Addr)) (fp : List Addr), SG (X.blk s H scope (compEnvC scope l C X.env) fp) cl ws tg g) (ht : ∀ (s : Shared) (H : Hp) (C : Addr) (l : List (Str × Addr)) (fp : List Addr), STs (X.blk s H scope (compEnvC scope l C X.env) fp) cl WF ifs tt)
    (he : ∀ (s : Shared) (H : Hp) (C : Addr) (l : List (Str × Addr)) (fp : List Addr), SE (X.blk s H scope (compEnvC scope l C X.env) fp) cl WF elt te) (hy : X.N[i]? = some y := by rfl) (hyl : X.env.scope.names.lookup y = some .local := by rfl)
    (hsw : swapsWith (.ListComp elt [⟨tg, iter, ifs, 0⟩] scope cpos) (some (.Name y py)) pos.line X.env = pure true := by exact sw_true rfl rfl rfl (by decide +kernel)) (hw : ∀ w ∈ ws, w ∈ own.map (·.2) := by decide) (hs : ∀ x, foldedSetIterable iter X.env x = pure x := by intro _; rfl) :
    SS X cl W (.Assign [.Name y py] (.ListComp elt [⟨tg, iter, ifs, 0⟩] scope cpos) pos) (sSet i (dLc fi g tt te (own.map (·.2)))) :=
  ⟨(ps_setLc hc hN hy hyl hsw hi.run ok (fun s H C l fp => (hg s H C l fp).run) (fun s H C l fp => (ht s H C l fp).run) (fun s H C l fp => (he s H C l fp).run) hs).imp fun E sg H h =>
    set_lc_rd (X := X) (cl := cl) (W := W) (i := i) (f := dLc fi g tt te (own.map (·.2))) (t := tLc (rdI ⟨X.K, cl⟩ W fi) (rdG ⟨X.K, cl⟩ ws g) (rdT ⟨X.K, cl⟩ WF tt) (rdE ⟨X.K, cl⟩ WF te) (own.map (·.2))) (fun sg H Q h => lc_tLc hw sg H Q (fun Z r H p hp hz xs st2 r2 H2 vs e2 hd R2 qx {W'} h => fin_lst Z r H p hp hz r2 H2 vs e2 hd R2 qx h) h) E sg H h⟩
theorem ss_setLcM (i : Nat) (own : List (Str × Nat)) {y : Str} {py : Pos} {cpos : Pos} (hc : X.calm = true) (hN : X.N.Nodup) (hi : SI X cl W tg iter fi) (ok : BlkOk X.N X.env.scope scope own)
    (hg : ∀ (s : Shared) (H : Hp) (C : Addr) (l : List (Str × Addr)) (fp : List Addr), SG (X.blk s H scope (compEnvC scope l C X.env) fp) cl ws tg g) (ht : ∀ (s : Shared) (H : Hp) (C : Addr) (l : List (Str × Addr)) (fp : List Addr), STs (X.blk s H scope (compEnvC scope l C X.env) fp) cl WF ifs tt)
    (he : ∀ (s : Shared) (H : Hp) (C : Addr) (l : List (Str × Addr)) (fp : List Addr), SE (X.blk s H scope (compEnvC scope l C X.env) fp) cl WF elt te) (hy : X.N[i]? = some y := by rfl) (hyl : X.env.scope.names.lookup y = some .local := by rfl)
    (hsw : swapsWith (.ListComp elt [⟨tg, iter, ifs, 0⟩] scope cpos) (some (.Name y py)) pos.line X.env = pure true := by exact sw_true rfl rfl rfl (by decide +kernel)) (hw : ∀ w ∈ ws, w ∈ own.map (·.2) := by decide) (hs : ∀ x, foldedSetIterable iter X.env x = pure x := by intro _; rfl) :
    SS X cl W (.Assign [.Name y py] (.ListComp elt [⟨tg, iter, ifs, 0⟩] scope cpos) pos) (sSet i (dLcM fi g tt te (own.map (·.2)))) :=
  ⟨(ps_setLc hc hN hy hyl hsw hi.run ok (fun s H C l fp => (hg s H C l fp).run) (fun s H C l fp => (ht s H C l fp).run) (fun s H C l fp => (he s H C l fp).run) hs).imp fun E sg H h =>
    set_lc_rd (X := X) (cl := cl) (W := W) (i := i) (f := dLcM fi g tt te (own.map (·.2))) (t := tLc (rdI ⟨X.K, cl⟩ W fi) (rdG ⟨X.K, cl⟩ ws g) (rdT ⟨X.K, cl⟩ WF tt) (rdE ⟨X.K, cl⟩ WF te) (own.map (·.2))) (fun sg H Q h => lc_tLc hw sg H Q (fun Z r H p hp hz xs st2 r2 H2 vs e2 hd R2 qx {W'} h => fin_lstM Z r H p hp hz r2 H2 vs e2 hd R2 qx h) h) E sg H h⟩
end

/-! ### dicts -/
def dGet (hint : Nat) (x y : D) (st : Store) : Res D :=
  match seen st x with
  | some (.dk ks, vs) => match key? y with
    | some k => match kAt hint ks k with
      | some i => match vs[i]? with
        | some d => .ok d st
        | none => .no
      | none => .no
    | none => .no
  | some (.dt ks, vs) => match y with
    | .nd .tup zs => match keys? zs with
      | some k => match kAt hint ks k with
        | some i => match vs[i]? with
          | some d => .ok d st
          | none => .no
        | none => .no
      | none => .no
    | _ => .no
  | _ => .no
theorem dk_at {g : Gd} {Z r : List Addr} {H : Hp} {a : Addr} {ks : List Key} {vs : List V} (h : Hat g Z r H a (.dk ks) vs ∨ HatM g H a (.dk ks) vs) : (ks.length = vs.length ∧ ks.Nodup) ∧ H a = some (.dK (ks.zip vs)) := by
  rcases h with h | h
  · exact h.2
  · exact h
theorem dt_at {g : Gd} {Z r : List Addr} {H : Hp} {a : Addr} {ks : List (List Key)} {vs : List V} (h : Hat g Z r H a (.dt ks) vs ∨ HatM g H a (.dt ks) vs) : (ks.length = vs.length ∧ ks.Nodup) ∧ H a = some (.dT (ks.zip vs)) := by
  rcases h with h | h
  · exact h.2
  · exact h
theorem ins_at {g : Gd} {Z r : List Addr} {H : Hp} {a : Addr} {c : Nat} {ns : List Str} {vs : List V} (h : Hat g Z r H a (.ins c ns) vs ∨ HatM g H a (.ins c ns) vs) : (ns.length = vs.length ∧ ns.Nodup) ∧ ∃ dx, H a = some (.ins (g.cls c) dx (ns.zip vs)) := by
  rcases h with h | h
  · exact h.2
  · exact h
variable {a b e : Expr} {fa fb fe : SemE}
theorem dget_ok {Z r : List Addr} {H : Hp} {st : Store} {x y : D} {v u : V} {hint : Nat} {Q : VK} {W' : Value → Option Addr → Hp → Prop} (R : Rl ⟨X.K, cl⟩ Z r H st) (hx : Rep ⟨X.K, cl⟩ Z r H x v) (hy : Rep ⟨X.K, cl⟩ Z r H y u)
    (h : Post ⟨X.K, cl⟩ Z r H (RV ⟨X.K, cl⟩ Z) (dGet hint x y st) Q W') : ∃ a w, v = .ref a ∧ DGet H a u (some w) ∧ Q w H := by
  unfold dGet at h
  split at h
  · rename_i ks vs hs
    obtain ⟨p, us, rfl, q, s⟩ := seen_ok R hx hs
    obtain ⟨hl, hd⟩ := dk_at s
    split at h
    · rename_i k hk
      split at h
      · rename_i i hi
        split at h
        · rename_i d hdi
          obtain ⟨w, hw, qw⟩ := q.get hdi
          refine ⟨p, w, rfl, ?_, post_ok h R qw⟩
          have := DGet.k (k := k) hd
          rw [valV_zip hl.2 (kAt_get hi), hw] at this
          rw [key_ok hk hy]; exact this
        · exact h.elim
      · exact h.elim
    · exact h.elim
  · rename_i ks vs hs
    obtain ⟨p, us, rfl, q, s⟩ := seen_ok R hx hs
    obtain ⟨hl, hd⟩ := dt_at s
    split at h
    · rename_i zs
      split at h
      · rename_i k hk
        split at h
        · rename_i i hi
          split at h
          · rename_i d hdi
            obtain ⟨w, hw, qw⟩ := q.get hdi
            obtain ⟨b, ys, rfl, hb, qy⟩ := hy
            refine ⟨p, w, rfl, ?_, post_ok h R qw⟩
            have hb' : H b = some (.tup (k.map kV)) := by rw [← keys_ok hk qy]; exact hb.2
            have := DGet.t (k := k) hd hb'
            rw [valV_zip hl.2 (kAt_get hi), hw] at this
            exact this
          · exact h.elim
        · exact h.elim
      · exact h.elim
    · exact h.elim
  · exact h.elim
theorem se_dget (hint : Nat) (hu : X.A.units + 1 < cLine) (ha : SE X cl W a fa) (hb : SE X cl W b fb) (hs : NoSl b := by exact fun _ _ => rfl) : SE X cl W (.Subscript a b pos) (dBin (dGet hint) fa fb) := by
  refine ⟨(pe_dget hu ha.run hb.run hs).imp fun sg H Q ⟨Z, r, env, st, E, R, h⟩ => ?_⟩
  refine ⟨Z, r, env, st, E, R, Post.bind h fun x st1 r1 H1 v _ e1 R1 q1 h1 => ?_⟩
  refine ⟨Z, r1, env, st1, E.ext e1, R1, Post.bind h1 fun y st2 r2 H2 u _ e2 R2 q2 h2 => ?_⟩
  exact dget_ok R2 (Rep.ext e2 x q1) q2 h2
/-- the store behind d[k] = v -/
def putD (hint : Nat) (x y v : D) (st : Store) : Option Store :=
  match x with
  | .h j => match st[j]? with
    | some (.nd (.dk ks) vs) => match key? y with
      | some k => if vs.length < szL then (match kAt hint ks k with
        | some i => some (st.set j (.nd (.dk ks) (vs.set i v)))
        | none => some (st.set j (.nd (.dk (ks ++ [k])) (vs ++ [v])))) else none
      | none => none
    | some (.nd (.dt ks) vs) => match y with
      | .nd .tup zs => match keys? zs with
        | some k => if vs.length < szL then (match kAt hint ks k with
          | some i => some (st.set j (.nd (.dt ks) (vs.set i v)))
          | none => some (st.set j (.nd (.dt (ks ++ [k])) (vs ++ [v])))) else none
        | none => none
      | _ => none
    | _ => none
  | _ => none
def sDPut (hint : Nat) (fa fb fe : SemE) : SemS := fun env st => bindE (fe env st) env fun v st1 => bindE (fa env st1) env fun x st2 => bindE (fb env st2) env fun y st3 => match putD hint x y v st3 with
  | some st4 => .nx env st4
  | none => .no
theorem put_ok {g : Gd} {Z r : List Addr} {H : Hp} {st st' : Store} {x y d : D} {v u w : V} {hint : Nat} (R : Rl g Z r H st) (hx : Rep g Z r H x v) (hy : Rep g Z r H y u) (hd : Rep g Z r H d w) (e : putD hint x y d st = some st') :
    ∃ a H', v = .ref a ∧ DPut H a u w H' ∧ Ext r H r H' ∧ Rl g Z r H' st' := by
  unfold putD at e
  split at e
  · rename_i j
    obtain ⟨a, rfl, ea⟩ := hx
    split at e
    · rename_i ks vs hs
      obtain ⟨b, eb, t, xs, us, ed, hm, hu⟩ := R.cell j _ hs
      cases ed
      rw [ea] at eb; cases eb
      obtain ⟨hl, hH⟩ := hm
      split at e
      · rename_i k hk
        split at e
        · rename_i hz
          have hlen := hu.length
          have hzz : (ks.zip us).length < sizeLine := by rw [List.length_zip, hl.1]; simp; rw [← hlen]; exact hz
          have hp := DPut.k (k := k) (v := w) hH hzz
          rw [← key_ok hk hy] at hp
          split at e
          · rename_i i hi
            cases e
            rw [putK_zip hl.2 hl.1 (kAt_get hi)] at hp
            exact ⟨a, _, rfl, hp, Ext.write ea, R.write ea (show HatM g _ a (.dk ks) _ from ⟨⟨by simp [hl.1], hl.2⟩, upd_same⟩) (RepL.set hd i hu)⟩
          · rename_i hi
            cases e
            rw [putK_zip_new hl.1 (kAt_none hi)] at hp
            refine ⟨a, _, rfl, hp, Ext.write ea, R.write ea (show HatM g _ a (.dk (ks ++ [k])) _ from ⟨⟨by simp [hl.1], ?_⟩, upd_same⟩) (RepL.append hu (RepL.one hd))⟩
            exact nd_snoc hl.2 (kAt_none hi)
        · cases e
      · cases e
    · rename_i ks vs hs
      obtain ⟨b, eb, t, xs, us, ed, hm, hu⟩ := R.cell j _ hs
      cases ed
      rw [ea] at eb; cases eb
      obtain ⟨hl, hH⟩ := hm
      split at e
      · rename_i zs
        split at e
        · rename_i k hk
          split at e
          · rename_i hz
            have hlen := hu.length
            have hzz : (ks.zip us).length < sizeLine := by rw [List.length_zip, hl.1]; simp; rw [← hlen]; exact hz
            obtain ⟨c, ys, rfl, hc, qy⟩ := hy
            have hc' : H c = some (.tup (k.map kV)) := by rw [← keys_ok hk qy]; exact hc.2
            have hp := DPut.t (k := k) (v := w) hH hc' hzz
            split at e
            · rename_i i hi
              cases e
              rw [putK_zip hl.2 hl.1 (kAt_get hi)] at hp
              exact ⟨a, _, rfl, hp, Ext.write ea, R.write ea (show HatM g _ a (.dt ks) _ from ⟨⟨by simp [hl.1], hl.2⟩, upd_same⟩) (RepL.set hd i hu)⟩
            · rename_i hi
              cases e
              rw [putK_zip_new hl.1 (kAt_none hi)] at hp
              refine ⟨a, _, rfl, hp, Ext.write ea, R.write ea (show HatM g _ a (.dt (ks ++ [k])) _ from ⟨⟨by simp [hl.1], ?_⟩, upd_same⟩) (RepL.append hu (RepL.one hd))⟩
              exact nd_snoc hl.2 (kAt_none hi)
          · cases e
        · cases e
      · cases e
    · cases e
  · cases e
theorem ss_dput (hint : Nat) {pos' : Pos} (hu : X.A.units + 1 < cLine) (ha : SE X cl W a fa) (hb : SE X cl W b fb) (he : SE X cl W e fe) (hs : swapsWith e (some (.Subscript a b pos')) pos.line X.env = pure false := by rfl) : SS X cl W (.Assign [.Subscript a b pos'] e pos) (sDPut hint fa fb fe) := by
  refine ⟨(ps_dput hu ha.run hb.run he.run hs).imp fun E sg H ⟨Z, r, env, st, En, R, h⟩ => ⟨Z, r, env, st, En, R, PostS.bindE h En fun v st1 r1 H1 vv _ e1 R1 q1 h1 => ?_⟩⟩
  refine ⟨Z, r1, env, st1, En.ext e1, R1, PostS.bindE h1 (En.ext e1) fun x st2 r2 H2 xv _ e2 R2 q2 h2 => ?_⟩
  refine ⟨Z, r2, env, st2, En.ext (e1.trans e2), R2, PostS.bindE h2 (En.ext (e1.trans e2)) fun y st3 r3 H3 yv _ e3 R3 q3 h3 => ?_⟩
  split at h3
  · rename_i st4 hp
    obtain ⟨p, H4, rfl, hd, e4, R4⟩ := put_ok R3 (Rep.ext e3 x q2) q3 (Rep.ext (e2.trans e3) v q1) hp
    exact ⟨p, H4, rfl, hd, h3 r3 H4 sg e4 R4 (En.ext (((e1.trans e2).trans e3).trans e4))⟩
  · exact h3.elim
end
end DY

/-! Attributes; calls of one's own and of built-in things. -/
namespace DY
open PySem PySem.Spec PyProof.Rows L2

/-! ### attributes -/
theorem lookup_zip {ns : List Str} {vs : List V} {i : Nat} {f : Str} (n : ns.Nodup) (e : ns[i]? = some f) : (ns.zip vs).lookup f = vs[i]? := by
  induction ns generalizing vs i with
  | nil => simp at e
  | cons k ks ih =>
    cases vs with
    | nil => simp
    | cons v vs =>
      cases i with
      | zero => simp at e; subst e; simp [List.lookup]
      | succ i =>
        simp at e
        have ne : ¬ f = k := fun z => (List.nodup_cons.mp n).1 (z ▸ List.mem_of_getElem? e)
        have : (f == k) = false := by simpa using ne
        simp only [List.zip_cons_cons, List.lookup, this, List.getElem?_cons_succ]
        exact ih (List.nodup_cons.mp n).2 e
theorem lookup_zip_none {ns : List Str} {vs : List V} {f : Str} (n : f ∉ ns) : (ns.zip vs).lookup f = none := by
  induction ns generalizing vs with
  | nil => simp
  | cons k ks ih =>
    cases vs with
    | nil => simp
    | cons v vs =>
      simp at n
      have : (f == k) = false := by simpa using n.1
      simp only [List.zip_cons_cons, List.lookup, this]
      exact ih n.2
theorem putF_zip {ns : List Str} {vs : List V} {i : Nat} {f : Str} {y : V} (n : ns.Nodup) (l : ns.length = vs.length) (e : ns[i]? = some f) : putF f y (ns.zip vs) = ns.zip (vs.set i y) := by
  induction ns generalizing vs i with
  | nil => simp at e
  | cons k ks ih =>
    cases vs with
    | nil => simp at l
    | cons v vs =>
      cases i with
      | zero => simp at e; subst e; simp [putF]
      | succ i =>
        simp at e
        have ne : ¬ k = f := fun z => (List.nodup_cons.mp n).1 (z ▸ List.mem_of_getElem? e)
        simp only [List.zip_cons_cons, putF, if_neg ne, List.set_cons_succ]
        rw [ih (List.nodup_cons.mp n).2 (by simpa using l) e]
theorem putF_zip_new {ns : List Str} {vs : List V} {f : Str} {y : V} (l : ns.length = vs.length) (e : f ∉ ns) : putF f y (ns.zip vs) = (ns ++ [f]).zip (vs ++ [y]) := by
  induction ns generalizing vs with
  | nil => cases vs with
    | nil => rfl
    | cons v vs => simp at l
  | cons k ks ih =>
    cases vs with
    | nil => simp at l
    | cons v vs =>
      simp at e
      simp only [List.zip_cons_cons, putF, if_neg (fun z : k = f => e.1 z.symm), List.cons_append]
      rw [ih (by simpa using l) e.2]
section
variable {X : Cx} {cl : ClsT} {W : WX} {pos : Pos}
def dAttr (c hint : Nat) (f : Str) (x : D) (st : Store) : Res D :=
  match seen st x with
  | some (.ins c' ns, vs) => if c' = c then (match kAt hint ns f with
    | some i => match vs[i]? with
      | some d => .ok d st
      | none => .no
    | none => .no) else .no
  | _ => .no
variable {o e : Expr} {fo fe : SemE} {f : Str} {c hint : Nat}
theorem se_attr (c hint : Nat) (hc : Cls X.K (cl c)) (hf : NoAttr X.K (cl c) f) (ho : SE X cl W o fo) (hb : attributeBase o f X.env (eval o X.env) = eval o X.env := by rfl) : SE X cl W (.Attribute o f pos) (fun env st => (fo env st).bind (dAttr c hint f)) := by
  refine ⟨(pe_fld ho.run hb).imp fun sg H Q ⟨Z, r, env, st, E, R, h⟩ => ?_⟩
  refine ⟨Z, r, env, st, E, R, Post.bind h fun x st1 r1 H1 v _ e1 R1 q1 h1 => ?_⟩
  unfold dAttr at h1
  split at h1
  · rename_i c' ns vs hs
    split at h1
    · rename_i hcc
      subst hcc
      split at h1
      · rename_i i hi
        split at h1
        · rename_i d hd
          obtain ⟨a, us, rfl, q, s⟩ := seen_ok R1 q1 hs
          obtain ⟨hl, dx, ha⟩ := ins_at s
          obtain ⟨w, hw, qw⟩ := q.get hd
          exact ⟨a, _, dx, _, w, rfl, ha, hc, hf, by rw [lookup_zip hl.2 (kAt_get hi)]; exact hw, post_ok h1 R1 qw⟩
        · exact h1.elim
      · exact h1.elim
    · exact h1.elim
  · exact h1.elim
/-- the store behind x.f = v -/
def putA (c hint : Nat) (f : Str) (x v : D) (st : Store) : Option Store :=
  match x with
  | .h j => match st[j]? with
    | some (.nd (.ins c' ns) vs) => if c' = c ∧ vs.length < 1000 then (match kAt hint ns f with
      | some i => some (st.set j (.nd (.ins c' ns) (vs.set i v)))
      | none => some (st.set j (.nd (.ins c' (ns ++ [f])) (vs ++ [v])))) else none
    | _ => none
  | _ => none
def sAttr (c hint : Nat) (f : Str) (fo fe : SemE) : SemS := fun env st => bindE (fe env st) env fun v st1 => bindE (fo env st1) env fun x st2 => match putA c hint f x v st2 with
  | some st3 => .nx env st3
  | none => .no
theorem ss_attr (c hint : Nat) {pos' : Pos} (hc : Cls X.K (cl c)) (hf : NoAttr X.K (cl c) f) (ho : SE X cl W o fo) (he : SE X cl W e fe) (hs : swapsWith e (some (.Attribute o f pos')) pos.line X.env = pure false := by rfl) : SS X cl W (.Assign [.Attribute o f pos'] e pos) (sAttr c hint f fo fe) := by
  refine ⟨(ps_fld ho.run he.run hs).imp fun E sg H ⟨Z, r, env, st, En, R, h⟩ => ⟨Z, r, env, st, En, R, PostS.bindE h En fun v st1 r1 H1 vv _ e1 R1 q1 h1 => ?_⟩⟩
  refine ⟨Z, r1, env, st1, En.ext e1, R1, PostS.bindE h1 (En.ext e1) fun x st2 r2 H2 xv _ e2 R2 q2 h2 => ?_⟩
  split at h2
  · rename_i st3 hp
    unfold putA at hp
    split at hp
    · rename_i j _
      obtain ⟨a, rfl, ea⟩ := q2
      split at hp
      · rename_i c' ns vs hs'
        split at hp
        · rename_i hcc
          obtain ⟨rfl, hlen⟩ := hcc
          obtain ⟨b, eb, t, xs, us, ed, hm, hu⟩ := R2.cell j _ hs'
          cases ed
          rw [ea] at eb; cases eb
          obtain ⟨hl, dx, ha⟩ := hm
          have hsz : (ns.zip us).length < 1000 := by rw [List.length_zip, hl.1, Nat.min_self, ← hu.length]; exact hlen
          refine ⟨a, _, dx, _, rfl, ha, hc, hf, hsz, ?_⟩
          have qv := Rep.ext e2 v q1
          split at hp
          · rename_i i hi
            cases hp
            rw [putF_zip hl.2 hl.1 (kAt_get hi)]
            exact h2 r2 _ sg (Ext.write ea) (R2.write ea (show HatM ⟨X.K, cl⟩ _ a (.ins c' ns) _ from ⟨⟨by simp [hl.1], hl.2⟩, dx, upd_same⟩) (RepL.set qv i hu)) (En.ext ((e1.trans e2).trans (Ext.write ea)))
          · rename_i hi
            cases hp
            rw [putF_zip_new hl.1 (kAt_none hi)]
            refine h2 r2 _ sg (Ext.write ea) (R2.write ea (show HatM ⟨X.K, cl⟩ _ a (.ins c' (ns ++ [f])) _ from ⟨⟨by simp [hl.1], ?_⟩, dx, upd_same⟩) (RepL.append hu (RepL.one qv))) (En.ext ((e1.trans e2).trans (Ext.write ea)))
            exact nd_snoc hl.2 (kAt_none hi)
        · cases hp
      · cases hp
    · cases hp
  · exact h2.elim

/-! ### calls -/
abbrev SemF := List D → Store → Res D
def rdC (g : Gd) (W : WX) (F : SemF) (vs : List V) (sg : L2.St) (H : Hp) (Q : VK) : Prop := ∃ Z r st ds, RepL g Z r H ds vs ∧ Rl g Z r H st ∧ Post g Z r H (RV g Z) (F ds st) Q (fun c d H' => W c d sg H')
/-- how a call ends -/
def RcP (X : Cx) (pins : List (Addr × Obj)) (sg : L2.St) (Q : VK) (q : Result) (s' : Shared) : Prop := match q with
  | .ok (.ret v) => EP X pins sg Q v s'
  | .ok _ => False
  | .error e => X.xe e s'
/-- u, called, computes F -/
structure CalF (X : Cx) (cl : ClsT) (W : WX) (u : Value) (F : SemF) : Prop where
  code : ∀ (pins : List (Addr × Obj)) (s : Shared) (sg : L2.St) (H : Hp) (Q : VK) (vs : List V) (us : List Value), Inv X pins sg H s → Vals vs us → rdC ⟨X.K, cl⟩ W F vs sg H Q → codeAny (model X.prog X.w) X.A (.call u ⟨us, []⟩) (RcP X pins sg Q) s
theorem wp_code {pins : List (Addr × Obj)} {sg : L2.St} {Q : VK} {s : Shared} {u : Value} {us : List Value} (h : codeAny (model X.prog X.w) X.A (.call u ⟨us, []⟩) (RcP X pins sg Q) s) : wpAny (model X.prog X.w) X.A (call u us) (EP X pins sg Q) X.xe s := by
  refine wpAny_call (codeAny_mono h fun q s' hq => ?_)
  cases q with
  | error e => exact hq
  | ok fl =>
    cases fl with
    | ret u => exact hq
    | next => exact False.elim hq
    | brk => exact False.elim hq
    | cont => exact False.elim hq
theorem CalF.run {u : Value} {F : SemF} (h : CalF X cl W u F) (pins : List (Addr × Obj)) (s : Shared) (sg : L2.St) (H : Hp) (Q : VK) (vs : List V) (us : List Value) (I : Inv X pins sg H s) (r : Vals vs us) (q : rdC ⟨X.K, cl⟩ W F vs sg H Q) : wpAny (model X.prog X.w) X.A (call u us) (EP X pins sg Q) X.xe s :=
  wp_code (h.code pins s sg H Q vs us I r q)
def dCall (F : SemF) (fa : SemA) : SemE := fun env st => (fa env st).bind fun ds st1 => F ds st1
variable {x : Str} {p : Pos} {es : List Expr} {fa : SemA} {u : Value} {F : SemF}
/-- f(e, ..), f a def or a class of the module -/
theorem se_call {a : Addr} (hF : CalF X cl W (.ref a) F) (hm : X.mg x = some (.ref a)) (hk : PySem.W.keepIn X.K (.ref a) = true) (ha : SA X cl W (e :: es) fa) (hg : Gl X x := by rfl) (hdb : (x == ("__debug__" : Str)) = false := by decide +kernel)
    (he : starEach (e :: es) X.env = (false, eval e X.env) :: starEach es X.env := by rfl) (hpl : (backTo pos (starEach es X.env)).any (·.1) = false := by rfl) : SE X cl W (.Call (.Name x p) (e :: es) [] pos) (dCall F fa) := by
  refine ⟨⟨fun pins s sg H Q I h => ?_⟩⟩
  refine wpAny_Call_Name_kw (ld_glob I hg hm ?_ hdb)
  have h' : rdA ⟨X.K, cl⟩ W fa sg H fun vs H1 => rdC ⟨X.K, cl⟩ W F vs sg H1 Q := by
    obtain ⟨Z, r, env, st, E, R, h⟩ := h
    exact ⟨Z, r, env, st, E, R, Post.bind h fun ds st1 r1 H1 vs _ e1 R1 q1 h1 => ⟨Z, r1, st1, ds, q1, R1, h1⟩⟩
  refine PySem.W.callWith_K (h₀ := X.base) I.ok.mod.kin hk (thn (ha.run.run pos pins s sg H _ I h') fun us s1 ⟨vs, H1, I1, rv, q⟩ => ⟨I1.kIn, ?_⟩) he hpl
  exact hF.run pins s1 sg H1 Q vs us I1 rv q
/-- o.m(e, ..), o an instance of the class c -/
def dMeth (c : Nat) (m : Str) (F : SemF) (fo : SemE) (fa : SemA) : SemE := fun env st => (fo env st).bind fun x st1 => match seen st1 x with
  | some (.ins c' ns, _) => if c' = c ∧ m ∉ ns then (fa env st1).bind fun ds st2 => F (x :: ds) st2 else .no
  | _ => .no
variable {m : Str} {apos : Pos}
theorem meth_rd {F : SemF} {fo : SemE} {fa : SemA} {t : TA} (ht : ∀ sg H Q, rdA ⟨X.K, cl⟩ W fa sg H Q → t sg H Q) (sg : L2.St) (H : Hp) (Q : VK) (h : rdE ⟨X.K, cl⟩ W (dMeth c m F fo fa) sg H Q) :
    rdE ⟨X.K, cl⟩ W fo sg H fun x H1 => ∃ a dx fs, x = .ref a ∧ H1 a = some (.ins (cl c) dx fs) ∧ fs.lookup m = none ∧ t sg H1 fun vs H2 => rdC ⟨X.K, cl⟩ W F (x :: vs) sg H2 Q := by
  obtain ⟨Z, r, env, st, E, R, h⟩ := h
  refine ⟨Z, r, env, st, E, R, Post.bind h fun x st1 r1 H1 v _ e1 R1 q1 h1 => ?_⟩
  split at h1
  · rename_i c' ns vs hs
    split at h1
    · rename_i hcc
      obtain ⟨rfl, hn⟩ := hcc
      obtain ⟨a, us, rfl, q, s⟩ := seen_ok R1 q1 hs
      obtain ⟨hl, dx, ha⟩ := ins_at s
      refine ⟨a, dx, _, rfl, ha, lookup_zip_none hn, ht sg H1 _ ⟨Z, r1, env, st1, E.ext e1, R1, Post.bind h1 fun ds st2 r2 H2 vs _ e2 R2 q2 h2 => ?_⟩⟩
      exact ⟨Z, r2, st2, x :: ds, ⟨_, _, rfl, Rep.ext e2 x q1, q2⟩, R2, h2⟩
    · exact h1.elim
  · exact h1.elim
theorem se_meth {g : Addr} {pl : Sem Bool} (c : Nat) (hc : Cls X.K (cl c)) (hm : Meth X.K (cl c) m g) (hF : CalF X cl W (.ref g) F) (ho : SE X cl W o fo) (ha : SA X cl W (e :: es) fa)
    (hst : starEach (e :: es) X.env = (false, eval e X.env) :: starEach es X.env := by rfl) (hpl : (backTo pos (starEach es X.env)).any (·.1) = false := by rfl)
    (ht : eval (.Call (.Attribute o m apos) (e :: es) [] pos) X.env = (do
      let ov ← eval o X.env
      standAt apos.atName
      let (f, first) ← holding [ov] (getMethod ov m pl)
      callWith pos f first (backTo pos (starEach (e :: es) X.env)) (backToKw pos (keywordEach [] X.env))) := by rfl) : SE X cl W (.Call (.Attribute o m apos) (e :: es) [] pos) (dMeth c m F fo fa) := by
  refine ⟨⟨fun pins s sg H Q I h => ?_⟩⟩
  have h' := meth_rd (t := rdA ⟨X.K, cl⟩ W fa) (fun _ _ _ q => q) sg H Q h
  refine PySem.W.methodCall_KW (pl := pl) (thn (ho.run.run pins s sg H _ I h') fun u s1 ⟨x, H1, I1, rx, a, dx, fs, ex, ea, l, q⟩ => ?_) ht
  subst ex
  obtain rfl : u = Value.ref a := rx
  refine getmeth_ok I1 ea hc hm l ?_
  refine PySem.W.callWith_K (first := [.ref a]) (h₀ := X.base) I.ok.mod.kin hm.kp (thn (ha.run.run pos pins s1 sg H1 _ I1 q) fun us s2 ⟨vs, H2, I2, rv, q2⟩ => ⟨I2.kIn, ?_⟩) hst hpl
  exact hF.run pins s2 sg H2 Q (.ref a :: vs) (.ref a :: us) I2 (.cons rfl rv) q2
theorem se_meth0 {g : Addr} {pl : Sem Bool} (c : Nat) (hc : Cls X.K (cl c)) (hm : Meth X.K (cl c) m g) (hF : CalF X cl W (.ref g) F) (ho : SE X cl W o fo)
    (ht : eval (.Call (.Attribute o m apos) [] [] pos) X.env = (do
      let ov ← eval o X.env
      standAt apos.atName
      let (f, first) ← holding [ov] (getMethod ov m pl)
      callWith pos f first (backTo pos (starEach [] X.env)) (backToKw pos (keywordEach [] X.env))) := by rfl) : SE X cl W (.Call (.Attribute o m apos) [] [] pos) (dMeth c m F fo dNil) := by
  refine ⟨⟨fun pins s sg H Q I h => ?_⟩⟩
  have h' := meth_rd (t := tNil) (fun sg H Q ⟨Z, r, env, st, E, R, h⟩ => post_ok h R rfl) sg H Q h
  refine PySem.W.methodCall_KW (pl := pl) (thn (ho.run.run pins s sg H _ I h') fun u s1 ⟨x, H1, I1, rx, a, dx, fs, ex, ea, l, q⟩ => ?_) ht
  subst ex
  obtain rfl : u = Value.ref a := rx
  refine getmeth_ok I1 ea hc hm l ?_
  exact PySem.W.callWith_K0 (first := [.ref a]) I1.kIn hm.kp (hF.run pins s1 sg H1 Q [.ref a] [.ref a] I1 (.cons rfl .nil) q)
end

/-! ### defs -/
section
variable {P : Program} {w : World} {K : PySem.W.Frag} {mg : Str → Option Value} {base : Heap}
/-- a def keeps its promise, where no repr runs around -/
structure FnG (P : Program) (w : World) (K : PySem.W.Frag) (mg : Str → Option Value) (base : Heap) (k : Nat) (f : Addr) (fd : FuncData) (ps : List Str) (sp : Sp) : Prop where
  len : ∀ vs H Q E, sp vs H Q E → vs.length = ps.length
  run : ∀ (A : Around) (outer : List Env) (s : Shared) (H : Hp) (args : Args) (us : List Value) (vs : List V) (Q : VK) (E : XK), Room k A → A.guards = some [] → Env0 P w K mg base A outer s H → BindsTo s fd args (ps.zip us) → Vals vs us → sp vs H Q E →
    codeAny (model P w) A (.call (.ref f) args) (CR (L2.CX P w) outer P w H s Q E) s
/-- the promise to compute F, of n arguments -/
def spF (g : Gd) (n : Nat) (F : SemF) : Sp := fun vs H Q E => vs.length = n ∧ ∃ Z r st ds, RepL g Z r H ds vs ∧ Rl g Z r H st ∧ Post g Z r H (RV g Z) (F ds st) Q E
/-- a def's body as a function -/
def runB (n : Nat) (body : SemS) : SemF := fun ds st => match body (ds.map some ++ List.replicate (n - ds.length) none) st with
  | .nx _ st' => .ok .non st'
  | .rt d st' => .ok d st'
  | .er e _ st' => .er e st'
  | _ => .no
theorem start_env {g : Gd} {Z r : List Addr} {H : Hp} {N : List Str} {ds : List D} {vs : List V} (h : RepL g Z r H ds vs) : EnvR g Z r H (ds.map some ++ List.replicate (N.length - ds.length) none) (L2.start N vs) := by
  have hl := h.length
  refine ⟨by simp [L2.start, hl], fun i d e => ?_⟩
  by_cases hi : i < ds.length
  · rw [List.getElem?_append_left (by simpa using hi), List.getElem?_map] at e
    cases hd : ds[i]? with
    | none => rw [hd] at e; cases e
    | some d' =>
      rw [hd] at e; cases e
      obtain ⟨v, hv, q⟩ := h.get hd
      exact ⟨v, by unfold L2.start; rw [List.getElem?_append_left (by rw [List.length_map, ← hl]; exact hi), List.getElem?_map, hv]; rfl, q⟩
  · rw [List.getElem?_append_right (by simpa using hi)] at e
    rw [List.getElem?_replicate] at e
    split at e <;> cases e
theorem deeper_guards {A : Around} {env : Env} (h : A.guards = some []) : (A.deeper env).guards = some [] := by
  unfold Around.deeper
  first | exact h | simpa using h
/-- THE RULE of a def -/
theorem fnG_of {x qual : Str} {st : Stmt} {f : Addr} {fd : FuncData} {N ps : List Str} {k : Nat} {cl : ClsT} {body : SemS} (F : Fun K x qual st f fd) (S : FnScope N ps (defScope st))
    (hbody : ∀ (cdv : Value) (A : Around) (outer : List Env) (s : Shared) (H : Hp) (E : XK), Room k (A.deeper (envOfC qual (defScope st) s.heap.objs.size f cdv)) → A.guards = some [] → fd.code = cdv →
      SB (cxOf (L2.CX P w) P w K mg base N qual (defScope st) f cdv A outer s H E) cl (fun c d _ H' => E c d H') (defBody st) body) :
    FnG P w K mg base (k + 1) f fd ps (spF ⟨K, cl⟩ ps.length (runB N.length body)) := by
  refine ⟨fun vs H Q E h => h.1, fun A outer s H args us vs Q E hr hg e0 hb r h => ?_⟩
  obtain ⟨oc, od, kV, doc, pm, an, cdv, ct, osl, rfl, lk, hcd⟩ := F.ex
  obtain ⟨hlen, Z, ra, sta, ds, qd, R, h⟩ := h
  let X := cxOf (L2.CX P w) P w K mg base N qual (defScope st) f cdv A outer s H E
  have KX : K.In s.heap := e0.mod.kin.keeps fun b o e => (e0.bs b o e).1
  have lim : s.heap.NoLimit := e0.mod.nolimit.keeps fun b o e => (e0.bs b o e).1
  have hk : ∀ y ∈ ps.zip us, (defScope st).names.lookup y.1 = some .local ∨ ((defScope st).names.lookup y.1 = some .cell ∧ ((cellsFrom (s.heap.objs.size + 1) (defScope st).names []).lookup y.1).isSome = true) := by
    intro y hy
    obtain ⟨n, v⟩ := y
    rcases S.par n (List.of_mem_zip hy).1 with q | q
    · exact .inl q
    · exact .inr ⟨q, PySem.W.cellsFrom_some _ _ _ (.inl q)⟩
  refine codeAny_call_function hr.depth (KX _ _ lk) rfl S.co S.gen rfl (PySem.W.codeRec_of KX hcd) (hb _ _ _ _ ?_)
  refine wpAny_newFunctionEnv_cells S.kind hk fun env he s1 x1 => ?_
  subst he
  refine ⟨lim.keeps x1.toInCall.keep, codeAny_func ?_⟩
  have B := (hbody cdv A outer s H E (hr.deeper _) hg rfl).run
  have I : L2.Inv X [] (L2.start N vs) H s1 := inv_start S hr.hd e0 hlen r x1
  have hq : rdS ⟨K, cl⟩ (fun c d _ H' => E c d H') body { nx := fun _ H' => Q .non H', rt := Q } (L2.start N vs) H := by
    refine ⟨Z, ra, _, sta, start_env qd, R, ?_⟩
    unfold runB at h
    split at h
    · rename_i env' st' hb'
      rw [hb']
      exact fun r' H' sg e R' _ => h r' H' .non e R' rfl
    · rename_i d st' hb'
      rw [hb']
      exact fun r' H' v e R' q => h r' H' v e R' q
    · rename_i e' env' st' hb'
      rw [hb']
      exact fun r' H' sg c d e R' _ q => h r' H' c d e R' q
    · exact h.elim
  refine wpAny_mono (B.run [] s1 (L2.start N vs) H _ I hq) (fun fl s' hs => ?_) fun e s' hs => hs
  cases fl with
  | ret u =>
    obtain ⟨v, sg', H', J, rv, q⟩ := hs
    exact ⟨v, H', J.os, J.bare, J.base, J.hok, rv, q⟩
  | next =>
    obtain ⟨sg', H', J, q⟩ := hs
    exact ⟨.non, H', J.os, J.bare, J.base, J.hok, rfl, q⟩
  | brk =>
    obtain ⟨_, _, _, q⟩ := hs
    exact False.elim q
  | cont =>
    obtain ⟨_, _, _, q⟩ := hs
    exact False.elim q
end
section
variable {X : Cx} {cl : ClsT} {W : WX}
/-- a def, called -/
theorem calF_fn {k : Nat} {f : Addr} {fd : FuncData} {ps : List Str} {F : SemF} (hF : FnG X.prog X.w X.K X.mg X.base k f fd ps (spF ⟨X.K, cl⟩ ps.length F)) (hr : Room k X.A) (hg : X.A.guards = some []) (hb : L2.Binds X.K fd ps []) (tk : Takes X W)
    (hn : ∀ ds st, ds.length ≠ ps.length → F ds st = .no) : CalF X cl W (.ref f) F := by
  refine ⟨fun pins s sg H Q vs us I r h => ?_⟩
  obtain ⟨Z, ra, st, ds, qd, R, h⟩ := h
  have hl : vs.length = ps.length := by
    by_cases e : ds.length = ps.length
    · rw [← qd.length]; exact e
    · rw [hn ds st e] at h; exact h.elim
  have hl2 : (us ++ []).length = ps.length := by rw [List.append_nil, ← r.length]; exact hl
  have hbd := hb s us I.kIn hl2
  rw [List.append_nil] at hbd
  refine codeAny_mono (hF.run X.A X.stack s H ⟨us, []⟩ us vs Q (fun c d H' => W c d sg H') hr hg I.env0 hbd r ⟨hl, Z, ra, st, ds, qd, R, h⟩) fun rr s' hq => ?_
  cases rr with
  | error e => exact tk e s' (XE.of_call I (fun _ _ _ q => q) hq)
  | ok fl =>
    cases fl with
    | ret u => exact I.after hq
    | next => exact False.elim hq
    | brk => exact False.elim hq
    | cont => exact False.elim hq
/-- what lies around a new instance's __init__ -/
def runInit (c : Nat) (F : SemF) : SemF := fun ds st => (F (.h st.length :: ds) (st ++ [.nd (.ins c []) []])).bind fun v st1 => match v with
  | .non => .ok (.h st.length) st1
  | _ => .no
theorem make_guards {A : Around} {C : Addr} {us : List Value} {kw : List (Str × Value)} (h : A.guards = some []) : (A.under (.builtin "type.__call__" ⟨.ref C :: us, kw⟩)).guards = some [] := by
  have e : (Code.builtin "type.__call__" ⟨.ref C :: us, kw⟩).guards = [] := by
    unfold Code.guards
    rw [if_neg]
    intro z
    revert z
    show ¬ (Code.isGuard _ = true)
    simp only [Code.isGuard]
    decide +kernel
  unfold Around.under
  simp only [e, h, pushGuards]
/-- C(..) of a class with an __init__ of its own -/
theorem calF_make {k : Nat} {f : Addr} {fd : FuncData} {ps : List Str} {F : SemF} (c : Nat) (M : Mk X.K (cl c) f) (hF : FnG X.prog X.w X.K X.mg X.base k f fd ps (spF ⟨X.K, cl⟩ ps.length F)) (hr : Room (k + 1) X.A) (hg : X.A.guards = some []) (hb : L2.Binds X.K fd ps []) (tk : Takes X W)
    (hn : ∀ ds st, ds.length ≠ ps.length → F ds st = .no) : CalF X cl W (.ref (cl c)) (runInit c F) := by
  refine ⟨fun pins s sg H Q vs us I r h => ?_⟩
  obtain ⟨Z, ra, st, ds, qd, R, h⟩ := h
  have hx : H (s.heap.objs.size + 1) = none := I.hok.fresh (Nat.le_succ _)
  have hdx : H s.heap.objs.size = none := I.hok.fresh (Nat.le_refl _)
  have ne : s.heap.objs.size ≠ s.heap.objs.size + 1 := Nat.ne_of_lt (Nat.lt_succ_self _)
  have I2 := Inv.made (C := cl c) I
  generalize hH2 : upd (upd H s.heap.objs.size (.own (s.heap.objs.size + 1))) (s.heap.objs.size + 1) (.ins (cl c) s.heap.objs.size []) = H2 at I2
  have hx1 : (upd H s.heap.objs.size (.own (s.heap.objs.size + 1))) (s.heap.objs.size + 1) = none := by rw [upd_ne (Ne.symm ne)]; exact hx
  have R1 : Rl ⟨X.K, cl⟩ Z ra (upd H s.heap.objs.size (.own (s.heap.objs.size + 1))) st := R.new hdx
  have e1 : Ext ra H ra (upd H s.heap.objs.size (.own (s.heap.objs.size + 1))) := Ext.new hdx
  have R2 : Rl ⟨X.K, cl⟩ Z (ra ++ [s.heap.objs.size + 1]) H2 (st ++ [.nd (.ins c []) []]) := by
    rw [← hH2]
    exact R1.grow hx1 (show HatM ⟨X.K, cl⟩ _ _ (.ins c []) [] from ⟨⟨rfl, List.nodup_nil⟩, _, upd_same⟩) rfl
  have e2 : Ext ra H (ra ++ [s.heap.objs.size + 1]) H2 := by
    rw [← hH2]
    exact e1.trans (Ext.grow hx1)
  have qh : Rep ⟨X.K, cl⟩ Z (ra ++ [s.heap.objs.size + 1]) H2 (.h st.length) (.ref (s.heap.objs.size + 1)) := ⟨_, rfl, by rw [← R.len]; simp⟩
  have qa : RepL ⟨X.K, cl⟩ Z (ra ++ [s.heap.objs.size + 1]) H2 (.h st.length :: ds) (.ref (s.heap.objs.size + 1) :: vs) := ⟨_, _, rfl, qh, RepL.ext e2 ds qd⟩
  have h' := Post.ext e2 h
  have hl : (V.ref (s.heap.objs.size + 1) :: vs).length = ps.length := by
    by_cases e : (D.h st.length :: ds).length = ps.length
    · rw [← qa.length]; exact e
    · dsimp only [runInit] at h
      rw [hn _ _ e] at h; exact h.elim
  have r2 : Vals (V.ref (s.heap.objs.size + 1) :: vs) (Value.ref (s.heap.objs.size + 1) :: us) := .cons rfl r
  have hl2 : ((Value.ref (s.heap.objs.size + 1) :: us) ++ []).length = ps.length := by rw [List.append_nil, ← r2.length]; exact hl
  have hbd := hb _ (Value.ref (s.heap.objs.size + 1) :: us) I2.kIn hl2
  rw [List.append_nil] at hbd
  have h2 : Post ⟨X.K, cl⟩ Z (ra ++ [s.heap.objs.size + 1]) H2 (RV ⟨X.K, cl⟩ Z) (F (.h st.length :: ds) (st ++ [.nd (.ins c []) []])) (fun v H' => v = .non ∧ Q (.ref (s.heap.objs.size + 1)) H') (fun cc d H' => W cc d sg H') := by
    refine Post.bind h' fun v st1 r1 H1 vv _ e3 R3 q3 h3 => ?_
    split at h3
    · exact ⟨q3, h3 r1 H1 _ (Ext.refl _ _) R3 (Rep.ext e3 (.h st.length) qh)⟩
    · exact h3.elim
  refine make_map (f := f) I.kIn M.makes M.init (beq_iff_eq.mp M.fn) (codeAny_mono (hF.run _ X.stack _ _ ⟨Value.ref (s.heap.objs.size + 1) :: us, []⟩ (Value.ref (s.heap.objs.size + 1) :: us) _ (fun v H' => v = .non ∧ Q (.ref (s.heap.objs.size + 1)) H') (fun cc d H' => W cc d sg H')
    (hr.make (cl c) us []) (make_guards hg) (I2.env0.make (cl c) us []) hbd r2 ⟨hl, Z, _, _, _, qa, R2, h2⟩) fun rr s' hq => ?_)
  cases rr with
  | error e => exact tk e s' (XE.of_call (σ := sg) I2 (fun _ _ _ q => q) hq)
  | ok fl =>
    cases fl with
    | ret u =>
      obtain ⟨v, H', I3, rv, ev, q3⟩ := I2.after hq
      subst ev
      exact ⟨rv, ⟨V.ref (s.heap.objs.size + 1), H', I3, rfl, q3⟩⟩
    | next => exact False.elim hq
    | brk => exact False.elim hq
    | cont => exact False.elim hq
end
end DY

/-! What a def made is frozen when it is left. -/
namespace DY
open PySem PySem.Spec PyProof.Rows L2
mutual
def frzG (n0 : Nat) (dr : Nat → Option D) : D → Option D
  | .h k => if k < n0 then some (.h k) else dr k
  | .nd t xs => match frzGL n0 dr xs with
    | some ys => some (.nd t ys)
    | none => none
  | .non => some .non
  | .bl b => some (.bl b)
  | .int i => some (.int i)
  | .str s => some (.str s)
  | .ty s => some (.ty s)
def frzGL (n0 : Nat) (dr : Nat → Option D) : List D → Option (List D)
  | [] => some []
  | d :: ds => match frzG n0 dr d, frzGL n0 dr ds with
    | some e, some es => some (e :: es)
    | _, _ => none
end
def frz : Nat → Nat → Store → D → Option D
  | 0, n0, _, d => frzG n0 (fun _ => none) d
  | n + 1, n0, st, d => frzG n0 (fun k => match st[k]? with
    | some c => frz n n0 st c
    | none => none) d
def frzL : Nat → Nat → Store → List D → Option (List D)
  | _, _, _, [] => some []
  | n, n0, st, d :: ds => match frz n n0 st d, frzL n n0 st ds with
    | some e, some es => some (e :: es)
    | _, _ => none
mutual
def hdB (n0 : Nat) : D → Bool
  | .h k => decide (k < n0)
  | .nd _ xs => hdBL n0 xs
  | _ => true
def hdBL (n0 : Nat) : List D → Bool
  | [] => true
  | d :: ds => hdB n0 d && hdBL n0 ds
end
/-- the things of before know none of the new ones -/
def CellsOk (st st' : Store) : Prop := st.length ≤ st'.length ∧ ∀ k d, k < st.length → st'[k]? = some d → st[k]? = some d ∨ hdB st.length d = true
noncomputable def frzF (F : SemF) : SemF := fun ds st => open Classical in match F ds st with
  | .ok d st' => if CellsOk st st' then (match frz 5 st.length st' d with
    | some d' => .ok d' (st'.take st.length)
    | none => .no) else .no
  | .er e st' => if CellsOk st st' then (match frzL 5 st.length st' e.xs with
    | some xs => .er ⟨e.c, e.ns, xs⟩ (st'.take st.length)
    | none => .no) else .no
  | .no => .no
section
variable {g : Gd} {Z r q : List Addr} {H : Hp} {st : Store}
mutual
theorem hdB_of : ∀ (d : D) {v : V}, Rep g Z r H d v → hdB r.length d = true
  | .h k, _, h => by
    obtain ⟨a, _, e⟩ := h
    simpa [hdB] using (List.getElem?_eq_some_iff.mp e).1
  | .nd t xs, _, h => by
    obtain ⟨a, vs, _, _, h2⟩ := h
    simpa [hdB] using hdBL_of xs h2
  | .non, _, _ => rfl
  | .bl _, _, _ => rfl
  | .int _, _, _ => rfl
  | .str _, _, _ => rfl
  | .ty _, _, _ => rfl
theorem hdBL_of : ∀ (ds : List D) {vs : List V}, RepL g Z r H ds vs → hdBL r.length ds = true
  | [], _, _ => rfl
  | d :: ds, _, h => by
    obtain ⟨v, q, _, h1, h2⟩ := h
    simp [hdBL, hdB_of d h1, hdBL_of ds h2]
end
theorem Nin.less {a : Addr} (h : Nin Z (r ++ q) a) : Nin Z r a := ⟨h.1, fun m => h.2 (List.mem_append_left _ m)⟩
theorem Hat.low {a : Addr} {t : Hd} {vs : List V} (h : Hat g Z (r ++ q) H a t vs) : Hat g Z r H a t vs := h.turn fun a n _ => n.less
mutual
theorem Rep.low : ∀ (d : D) {v : V}, hdB r.length d = true → Rep g Z (r ++ q) H d v → Rep g Z r H d v
  | .h k, _, b, h => by
    obtain ⟨a, e, e2⟩ := h
    have hk : k < r.length := by simpa [hdB] using b
    rw [List.getElem?_append_left hk] at e2
    exact ⟨a, e, e2⟩
  | .nd t xs, _, b, h => by
    obtain ⟨a, vs, e, h1, h2⟩ := h
    exact ⟨a, vs, e, h1.low, RepL.low xs (by simpa [hdB] using b) h2⟩
  | .non, _, _, h => h
  | .bl _, _, _, h => h
  | .int _, _, _, h => h
  | .str _, _, _, h => h
  | .ty _, _, _, h => h
theorem RepL.low : ∀ (ds : List D) {vs : List V}, hdBL r.length ds = true → RepL g Z (r ++ q) H ds vs → RepL g Z r H ds vs
  | [], _, _, h => h
  | d :: ds, _, b, h => by
    obtain ⟨v, w, e, h1, h2⟩ := h
    simp only [hdBL, Bool.and_eq_true] at b
    exact ⟨v, w, e, Rep.low d b.1 h1, RepL.low ds b.2 h2⟩
end
mutual
theorem frzG_ok {dr : Nat → Option D} (hd : ∀ k d v, r.length ≤ k → dr k = some d → Rep g Z (r ++ q) H (.h k) v → Rep g Z r H d v) : ∀ (d : D) {d' : D} {v : V}, frzG r.length dr d = some d' → Rep g Z (r ++ q) H d v → Rep g Z r H d' v
  | .h k, d', v, e, h => by
    simp only [frzG] at e
    split at e
    · rename_i hk
      cases e
      exact Rep.low (.h k) (by simpa [hdB] using hk) h
    · rename_i hk
      exact hd k d' v (by omega) e h
  | .nd t xs, d', v, e, h => by
    simp only [frzG] at e
    split at e
    · rename_i ys e1
      cases e
      obtain ⟨a, vs, e2, h1, h2⟩ := h
      exact ⟨a, vs, e2, h1.low, frzGL_ok hd xs e1 h2⟩
    · cases e
  | .non, _, _, e, h => by cases e; exact h
  | .bl _, _, _, e, h => by cases e; exact h
  | .int _, _, _, e, h => by cases e; exact h
  | .str _, _, _, e, h => by cases e; exact h
  | .ty _, _, _, e, h => by cases e; exact h
theorem frzGL_ok {dr : Nat → Option D} (hd : ∀ k d v, r.length ≤ k → dr k = some d → Rep g Z (r ++ q) H (.h k) v → Rep g Z r H d v) : ∀ (ds : List D) {es : List D} {vs : List V}, frzGL r.length dr ds = some es → RepL g Z (r ++ q) H ds vs → RepL g Z r H es vs
  | [], _, _, e, h => by cases e; exact h
  | d :: ds, _, _, e, h => by
    simp only [frzGL] at e
    split at e
    · rename_i e' es e1 e2
      cases e
      obtain ⟨v, w, e3, h1, h2⟩ := h
      exact ⟨v, w, e3, frzG_ok hd d e1 h1, frzGL_ok hd ds e2 h2⟩
    · cases e
end
/-- a thing of the store as a frozen one -/
theorem HatM.frozen {a : Addr} {t : Hd} {vs : List V} (n : Nin Z r a) (h : HatM g H a t vs) : Hat g Z r H a t vs := by
  cases t with
  | lst => exact ⟨n, h⟩
  | tup => exact h.elim
  | scr => exact h.elim
  | ktp => exact h.elim
  | dk ks => exact ⟨n, h⟩
  | dt ks => exact ⟨n, h⟩
  | ins c ns => exact ⟨n, h⟩
  | exc c ns => exact h.elim
  | glb c => exact h.elim
  | fn f c q caps => exact h.elim
theorem frz_cell (R : Rl g Z (r ++ q) H st) {dr : Nat → Option D} (hd : ∀ k d v, r.length ≤ k → dr k = some d → Rep g Z (r ++ q) H (.h k) v → Rep g Z r H d v) {k : Nat} {c d : D} {v : V} (hk : r.length ≤ k) (hc : st[k]? = some c) (e : frzG r.length dr c = some d) (h : Rep g Z (r ++ q) H (.h k) v) : Rep g Z r H d v := by
  obtain ⟨a, rfl, e2⟩ := h
  obtain ⟨b, eb, t, xs, vs, rfl, hm, hx⟩ := R.cell k c hc
  rw [e2] at eb; cases eb
  simp only [frzG] at e
  split at e
  · rename_i ys e1
    cases e
    have ha : a ∈ r ++ q := List.mem_of_getElem? e2
    have n : Nin Z r a := by
      refine ⟨fun m => (R.z a m).1 ha, fun m => ?_⟩
      obtain ⟨j, hj, ej⟩ := List.getElem_of_mem m
      obtain ⟨h1, e1⟩ := List.getElem?_eq_some_iff.mp e2
      have h2 : j < (r ++ q).length := by simp; omega
      have : (r ++ q)[j] = (r ++ q)[k] := by rw [e1, List.getElem_append_left hj]; exact ej
      have := (List.getElem_inj R.nd).mp this
      omega
    exact ⟨a, vs, rfl, hm.frozen n, frzGL_ok hd xs e1 hx⟩
  · cases e
theorem frz_ok (R : Rl g Z (r ++ q) H st) : ∀ (m : Nat) (d : D) {d' : D} {v : V}, frz m r.length st d = some d' → Rep g Z (r ++ q) H d v → Rep g Z r H d' v
  | 0, d, d', v, e, h => frzG_ok (fun k d v _ e _ => by cases e) d e h
  | m + 1, d, d', v, e, h => by
    refine frzG_ok (fun k d1 v1 hk e1 h1 => ?_) d e h
    cases hc : st[k]? with
    | none => rw [hc] at e1; cases e1
    | some c =>
      rw [hc] at e1
      cases m with
      | zero => exact frz_cell R (fun k d v _ e _ => by cases e) hk hc e1 h1
      | succ m =>
        refine frz_cell R (fun k d v hk e h => ?_) hk hc e1 h1
        have e' : frz (m + 1) r.length st (.h k) = some d := by
          show frzG _ _ (.h k) = _
          simp only [frzG]
          rw [if_neg (by omega)]
          exact e
        exact frz_ok R (m + 1) (.h k) e' h
theorem frzL_ok (R : Rl g Z (r ++ q) H st) (m : Nat) : ∀ (ds : List D) {es : List D} {vs : List V}, frzL m r.length st ds = some es → RepL g Z (r ++ q) H ds vs → RepL g Z r H es vs
  | [], _, _, e, h => by cases m <;> (cases e; exact h)
  | d :: ds, _, _, e, h => by
    simp only [frzL] at e
    split at e
    · rename_i e' es e1 e2
      cases e
      obtain ⟨v, w, e3, h1, h2⟩ := h
      exact ⟨v, w, e3, frz_ok R m d e1 h1, frzL_ok R m ds e2 h2⟩
    · cases e
/-- the store behind, cut back -/
theorem cut_back {H0 : Hp} {st0 : Store} (R0 : Rl g Z r H0 st0) (R : Rl g Z (r ++ q) H st) (c : CellsOk st0 st) : Rl g Z r H (st.take st0.length) := by
  have hl : st0.length ≤ st.length := c.1
  refine ⟨by rw [List.length_take, R0.len]; omega, (List.nodup_append.mp R.nd).1, fun a m => ?_, R.tb, fun k d e => ?_⟩
  · obtain ⟨n, u⟩ := R.z a m
    exact ⟨fun m => n (List.mem_append_left _ m), u⟩
  · have hk : k < st0.length := by
      have := (List.getElem?_eq_some_iff.mp e).1
      simp at this; omega
    rw [List.getElem?_take, if_pos hk] at e
    obtain ⟨a, ea, t, xs, vs, rfl, hm, hx⟩ := R.cell k d e
    have hkr : k < r.length := by rw [R0.len]; exact hk
    rw [List.getElem?_append_left hkr] at ea
    have hb : hdBL r.length xs = true := by
      rcases c.2 k _ hk e with h | h
      · obtain ⟨a', _, t', xs', vs', ed, _, hx'⟩ := R0.cell k _ h
        cases ed
        exact hdBL_of xs hx'
      · rw [R0.len]; simpa [hdB] using h
    exact ⟨a, ea, t, xs, vs, rfl, hm, RepL.low xs hb hx⟩
theorem Ext.back {H' : Hp} (e : Ext r H (r ++ q) H') : Ext r H r H' := ⟨⟨[], by simp⟩, fun a o h t n => ⟨(e.keep a o h t n).1, n⟩⟩
theorem frz_post {F : SemF} {ds : List D} {Q : VK} {E : XK} (R0 : Rl g Z r H st) (h : Post g Z r H (RV g Z) (frzF F ds st) Q E) : Post g Z r H (RV g Z) (F ds st) Q E := by
  unfold frzF at h
  cases hF : F ds st with
  | ok d st' =>
    rw [hF] at h
    dsimp only at h
    split at h
    · rename_i hc
      split at h
      · rename_i d' hd
        intro r' H' v e R q0
        obtain ⟨q, rfl⟩ := e.pre
        rw [← R0.len] at hd
        exact h r H' v e.back (cut_back R0 R hc) (frz_ok R 5 d hd q0)
      · exact h.elim
    · exact h.elim
  | er x st' =>
    rw [hF] at h
    dsimp only at h
    split at h
    · rename_i hc
      split at h
      · rename_i xs hd
        intro r' H' cls d e R q0
        obtain ⟨q, rfl⟩ := e.pre
        rw [← R0.len] at hd
        refine h r H' cls d e.back (cut_back R0 R hc) ?_
        obtain ⟨q1, q2⟩ := q0
        refine ⟨q1, ?_⟩
        rcases q2 with ⟨e1, e2, e3⟩ | ⟨e1, e2, e3⟩ | ⟨dx, vs, e1, e2, n, e3, e4⟩
        · left
          rw [e3] at hd
          cases hd
          exact ⟨e1, e2, rfl⟩
        · right; left
          rw [e3] at hd
          cases hd
          exact ⟨e1, e2, rfl⟩
        · right; right
          exact ⟨dx, vs, e1, e2, n.less, e3, frzL_ok R 5 _ hd e4⟩
      · exact h.elim
    · exact h.elim
  | no => rw [hF] at h; exact h
end
section
variable {P : Program} {w : World} {K : PySem.W.Frag} {mg : Str → Option Value} {base : Heap}
theorem FnG.imp {k : Nat} {f : Addr} {fd : FuncData} {ps : List Str} {sp sp' : Sp} (F : FnG P w K mg base k f fd ps sp) (h : ∀ vs H Q E, sp' vs H Q E → sp vs H Q E) : FnG P w K mg base k f fd ps sp' :=
  ⟨fun vs H Q E q => F.len vs H Q E (h vs H Q E q), fun A outer s H args us vs Q E hr hg e0 hb r q => F.run A outer s H args us vs Q E hr hg e0 hb r (h vs H Q E q)⟩
theorem FnG.frz {k : Nat} {f : Addr} {fd : FuncData} {ps : List Str} {g : Gd} {n : Nat} {F : SemF} (h : FnG P w K mg base k f fd ps (spF g n F)) : FnG P w K mg base k f fd ps (spF g n (frzF F)) :=
  h.imp fun vs H Q E ⟨hl, Z, r, st, ds, qd, R, q⟩ => ⟨hl, Z, r, st, ds, qd, R, frz_post R q⟩
theorem FnG.mono {j k : Nat} {f : Addr} {fd : FuncData} {ps : List Str} {sp : Sp} (F : FnG P w K mg base j f fd ps sp) (h : j ≤ k) : FnG P w K mg base k f fd ps sp :=
  ⟨F.len, fun A outer s H args us vs Q E hr => F.run A outer s H args us vs Q E (hr.mono h)⟩
/-- nothing is promised -/
theorem FnG.none {k : Nat} {f : Addr} {fd : FuncData} {ps : List Str} {g : Gd} : FnG P w K mg base k f fd ps (spF g ps.length fun _ _ => .no) :=
  ⟨fun vs H Q E h => h.1, fun A outer s H args us vs Q E _ _ _ _ _ ⟨_, _, _, _, _, _, _, q⟩ => q.elim⟩
end
section
variable {X : Cx} {cl : ClsT} {W : WX} {u : Value} {F : SemF}
/-- what a new thing is, frozen -/
theorem CalF.frz (h : CalF X cl W u F) : CalF X cl W u (frzF F) := ⟨fun pins s sg H Q vs us I r ⟨Z, ra, st, ds, qd, R, q⟩ => h.code pins s sg H Q vs us I r ⟨Z, ra, st, ds, qd, R, frz_post R q⟩⟩
end
end DY

/-! Built-in functions and methods; static methods, operators and calls of instances. -/
namespace DY
open PySem PySem.Spec PyProof.Rows L2

section
variable {X : Cx} {cl : ClsT} {W : WX} {pos : Pos} {x : Str} {p apos : Pos} {e o : Expr} {es : List Expr} {fa : SemA} {fo fe : SemE} {F : SemF}
/-! ### C.m(e, ..), m a static method -/
structure StM (K : PySem.W.Frag) (C : Addr) (m : Str) (f : Addr) : Prop where
  ga : PySem.W.specialIn K (.ref C) "__getattribute__" = some (some (.builtin "type.__getattribute__"))
  rd : ∃ mc obj q rest, PySem.W.readsIn K C mc = true ∧ PySem.W.findCls K (.ref C) mc m = some (.get (.builtin "staticmethod.__get__") (.ref q) obj (.ref C)) ∧ PySem.W.recIn K q "staticmethod" = some (.ref f :: rest)
  kp : PySem.W.keepIn K (.ref f) = true
theorem stm_get {pins : List (Addr × Obj)} {sg : L2.St} {H : Hp} {s : Shared} {C f : Addr} {m : Str} {pl : Sem Bool} {A : Around} {E : Value → Shared → Prop} {Q : Value × List Value → Shared → Prop} (I : L2.Inv X pins sg H s) (T : StM X.K C m f)
    (h : ∀ s', L2.Inv X pins sg H s' → Q (.ref f, []) s') : wpAny (model X.prog X.w) A (getMethod (.ref C) m pl) Q E s := by
  obtain ⟨mc, obj, q, rest, h1, h2, h3⟩ := T.rd
  refine PySem.W.method_cls I.kIn T.ga (PySem.W.cls_bind I.kIn h1 h2 (wpAny_call (PySem.W.sm_get (s := { s with toks := s.toks + 1 }) I.kIn h3 (PySem.W.handed_on rfl (h _ (I.tok _))))))
theorem se_static {C f : Addr} {m : Str} {p0 : Pos} {pl : Sem Bool} (T : StM X.K C m f) (hF : CalF X cl W (.ref f) F) (hm : X.mg x = some (.ref C)) (ha : SA X cl W (e :: es) fa) (hg : Gl X x := by rfl) (hdb : (x == ("__debug__" : Str)) = false := by decide +kernel)
    (hst : starEach (e :: es) X.env = (false, eval e X.env) :: starEach es X.env := by rfl) (hpl : (backTo pos (starEach es X.env)).any (·.1) = false := by rfl)
    (ht : eval (.Call (.Attribute (.Name x p0) m apos) (e :: es) [] pos) X.env = (do
      let ov ← eval (.Name x p0) X.env
      standAt apos.atName
      let (f, first) ← holding [ov] (getMethod ov m pl)
      callWith pos f first (backTo pos (starEach (e :: es) X.env)) (backToKw pos (keywordEach [] X.env))) := by rfl) : SE X cl W (.Call (.Attribute (.Name x p0) m apos) (e :: es) [] pos) (dCall F fa) := by
  refine ⟨⟨fun pins s sg H Q I h => ?_⟩⟩
  have h' : rdA ⟨X.K, cl⟩ W fa sg H fun vs H1 => rdC ⟨X.K, cl⟩ W F vs sg H1 Q := by
    obtain ⟨Z, r, env, st, E, R, h⟩ := h
    exact ⟨Z, r, env, st, E, R, Post.bind h fun ds st1 r1 H1 vs _ e1 R1 q1 h1 => ⟨Z, r1, st1, ds, q1, R1, h1⟩⟩
  refine PySem.W.methodCall_KW (pl := pl) (ld_glob I hg hm ?_ hdb) ht
  refine stm_get I T fun s1 I1 => ?_
  refine PySem.W.callWith_K (first := []) (h₀ := X.base) I1.ok.mod.kin T.kp (thn (ha.run.run pos pins s1 sg H _ I1 h') fun us s2 ⟨vs, H2, I2, rv, q⟩ => ⟨I2.kIn, ?_⟩) hst hpl
  exact hF.run pins s2 sg H2 Q vs us I2 rv q

/-! ### an operator of one's own -/
/-- one operator of instances of the class c -/
structure OwnOp (K : PySem.W.Frag) (C : Addr) (op : Operator) (f : Addr) : Prop where
  first : PySem.W.selfFirst K C = true
  at_ : PySem.W.findIn K (.ref C) (PySem.dunder op.info.2) = some (some (.ref f))
  fn : PySem.W.isFn K (.ref f) = true
def dOwn (c : Nat) (F : SemF) : D → D → Store → Res D := fun x y st => match seen st x, seen st y with
  | some (.ins c1 _, _), some (.ins c2 _, _) => if c1 = c ∧ c2 = c then (match F [x, y] st with
    | .ok (.nd t xs) st' => .ok (.nd t xs) st'
    | .ok _ _ => .no
    | q => q) else .no
  | _, _ => .no
theorem inst_of {pins : List (Addr × Obj)} {sg : L2.St} {H : Hp} {s : Shared} {a C dx : Addr} {fs : List (Str × V)} (I : L2.Inv X pins sg H s) (h : H a = some (.ins C dx fs)) : ∃ ox od, PySem.W.InstAt s.heap a ox C od ∧ ox.data = .plain := by
  obtain ⟨mA, O, _⟩ := ins_get I.hok h
  obtain ⟨od, J, _⟩ := O.look
  exact ⟨_, _, J, rfl⟩
theorem se_own {op : Operator} {f : Addr} {a b : Expr} {fb : SemE} (c : Nat) (O : OwnOp X.K (cl c) op f) (hF : CalF X cl W (.ref f) F) (ha : SE X cl W a fo) (hb : SE X cl W b fb)
    : SE X cl W (.BinOp a op b pos) (dBin (dOwn c F) fo fb) := by
  refine ⟨⟨fun pins s sg H Q I h => ?_⟩⟩
  have h' : rdE ⟨X.K, cl⟩ W fo sg H fun x H1 => rdE ⟨X.K, cl⟩ W fb sg H1 fun y H2 => ∃ p q dx fs dy gs, x = .ref p ∧ y = .ref q ∧ H2 p = some (.ins (cl c) dx fs) ∧ H2 q = some (.ins (cl c) dy gs) ∧ rdC ⟨X.K, cl⟩ W F [x, y] sg H2 (fun v H3 => (∃ a, v = .ref a) ∧ Q v H3) := by
    obtain ⟨Z, r, env, st, E, R, h⟩ := h
    refine ⟨Z, r, env, st, E, R, Post.bind h fun x st1 r1 H1 v _ e1 R1 q1 h1 => ?_⟩
    refine ⟨Z, r1, env, st1, E.ext e1, R1, Post.bind h1 fun y st2 r2 H2 u _ e2 R2 q2 h2 => ?_⟩
    have qx := Rep.ext e2 x q1
    dsimp only [dOwn] at h2
    split at h2
    · rename_i c1 n1 v1 c2 n2 v2 hs1 hs2
      split at h2
      · rename_i hc
        obtain ⟨rfl, rfl⟩ := hc
        obtain ⟨p, us, rfl, _, s1⟩ := seen_ok R2 qx hs1
        obtain ⟨q, ws, rfl, _, s2⟩ := seen_ok R2 q2 hs2
        obtain ⟨_, dx, hp⟩ := ins_at s1
        obtain ⟨_, dy, hq⟩ := ins_at s2
        refine ⟨p, q, dx, _, dy, _, rfl, rfl, hp, hq, Z, r2, st2, [x, y], ⟨_, _, rfl, qx, _, _, rfl, q2, rfl⟩, R2, ?_⟩
        cases hf : F [x, y] st2 with
        | no => rw [hf] at h2; exact h2
        | er ex st3 => rw [hf] at h2; exact h2
        | ok d st3 =>
          rw [hf] at h2
          cases d with
          | nd t xs => exact fun r3 H3 w e3 R3 q3 => ⟨let ⟨a, _, e, _⟩ := q3; ⟨a, e⟩, h2 r3 H3 w e3 R3 q3⟩
          | non => exact h2.elim
          | bl b => exact h2.elim
          | int i => exact h2.elim
          | str z => exact h2.elim
          | ty z => exact h2.elim
          | h k => exact h2.elim
      · exact h2.elim
    · exact h2.elim
  refine wpAny_BinOp (binT ha.run hb.run I h' fun v u s2 xv yv H2 I2 rx ry q => ?_)
  obtain ⟨p, q, dx, fs, dy, gs, rfl, rfl, hp, hq, hc⟩ := q
  obtain rfl : v = .ref p := rx
  obtain rfl : u = .ref q := ry
  obtain ⟨ox, od, J, _⟩ := inst_of I2 hp
  obtain ⟨oy, od', J', _⟩ := inst_of I2 hq
  obtain ⟨m, Fm⟩ := I2.fr
  refine PySem.W.binop_K Fm I2.ok.mod.kin J (by exact J'.type) O.first O.at_ O.fn (wpAny_mono (hF.run pins s2 sg H2 _ [.ref p, .ref q] [.ref p, .ref q] I2 (.cons rfl (.cons rfl .nil)) hc) (fun w s3 hw => ?_) fun _ _ z => z)
  obtain ⟨v3, H3, I3, rv, ⟨a, rfl⟩, hq3⟩ := hw
  obtain rfl : w = .ref a := rv
  exact ⟨.ref a, H3, I3, rfl, hq3⟩

/-! ### an instance, called -/
def dCallI (c : Nat) (F : SemF) (fo : SemE) (fa : SemA) : SemE := fun env st => (fo env st).bind fun x st1 => match seen st1 x with
  | some (.ins c1 _, _) => (fa env st1).bind fun ds st2 => match seen st2 x with
    | some (.ins c' _, _) => if c' = c then F (x :: ds) st2 else .no
    | _ => .no
  | _ => .no
theorem se_callI {f : Addr} (c : Nat) (O : StX.CallO X.K (cl c) f) (hF : CalF X cl W (.ref f) F) (ho : SE X cl W o fo) (ha : SA X cl W (e :: es) fa)
    (ht : eval (.Call o (e :: es) [] pos) X.env = (do callWith pos (← eval o X.env) [] (backTo pos (starEach (e :: es) X.env)) (backToKw pos (keywordEach [] X.env))) := by rfl)
    (he : starEach (e :: es) X.env = (false, eval e X.env) :: starEach es X.env := by rfl) (hpl : (backTo pos (starEach es X.env)).any (·.1) = false := by rfl) : SE X cl W (.Call o (e :: es) [] pos) (dCallI c F fo fa) := by
  refine ⟨⟨fun pins s sg H Q I h => ?_⟩⟩
  have h' : rdE ⟨X.K, cl⟩ W fo sg H fun x H1 => (∃ a, x = .ref a) ∧ rdA ⟨X.K, cl⟩ W fa sg H1 fun vs H2 => ∃ a dx fs, x = .ref a ∧ H2 a = some (.ins (cl c) dx fs) ∧ rdC ⟨X.K, cl⟩ W F (x :: vs) sg H2 Q := by
    obtain ⟨Z, r, env, st, E, R, h⟩ := h
    refine ⟨Z, r, env, st, E, R, Post.bind h fun x st1 r1 H1 v _ e1 R1 q1 h1 => ?_⟩
    split at h1
    · rename_i c1 n1 v1 hs1
      obtain ⟨a, us, ev, _, s1⟩ := seen_ok R1 q1 hs1
      refine ⟨⟨a, ev⟩, Z, r1, env, st1, E.ext e1, R1, Post.bind h1 fun ds st2 r2 H2 vs _ e2 R2 q2 h2 => ?_⟩
      have qx := Rep.ext e2 x q1
      split at h2
      · rename_i c' ns xs hs
        split at h2
        · rename_i hc
          subst hc
          obtain ⟨a, us, rfl, _, s1⟩ := seen_ok R2 qx hs
          obtain ⟨_, dx, hp⟩ := ins_at s1
          exact ⟨a, dx, _, rfl, hp, Z, r2, st2, x :: ds, ⟨_, _, rfl, qx, q2⟩, R2, h2⟩
        · exact h2.elim
      · exact h2.elim
    · exact h1.elim
  refine PyProof.Rows.Call_ (thn (ho.run.run pins s sg H _ I h') fun u s1 ⟨y, H1, I1, ry, ⟨a, ey⟩, q⟩ => ?_) ht
  subst ey
  obtain rfl : u = Value.ref a := ry
  refine StX.callO_with (thn (ha.run.run pos pins s1 sg H1 _ I1 q) fun us s2 ⟨vs, H2, I2, rv, b, dx, fs, eb, hb, q2⟩ => ?_) he hpl
  cases eb
  obtain ⟨ox, od, J, hd⟩ := inst_of I2 hb
  refine ⟨⟨_, ox, od, J, hd⟩, wp_code (PySem.W.kco_code I2.kIn J hd O.at_ O.fn O.fi ?_)⟩
  exact hF.code pins s2 sg H2 Q (.ref a :: vs) (.ref a :: us) I2 (.cons rfl rv) q2

/-! ### built-in functions -/
structure CS (X : Cx) (cl : ClsT) (f : Value) (op : SemF) : Prop where
  ex : ∃ rr : List V → Hp → VK → Prop, CallR X f rr ∧ ∀ {Z r : List Addr} {H : Hp} {st : Store} {ds : List D} {vs : List V} {Q : VK} {W' : Value → Option Addr → Hp → Prop}, Rl ⟨X.K, cl⟩ Z r H st → RepL ⟨X.K, cl⟩ Z r H ds vs →
    Post ⟨X.K, cl⟩ Z r H (RV ⟨X.K, cl⟩ Z) (op ds st) Q W' → rr vs H Q
theorem rd_callB {rr : List V → Hp → VK → Prop} {op : SemF} (hop : ∀ {Z r : List Addr} {H : Hp} {st : Store} {ds : List D} {vs : List V} {Q : VK} {W' : Value → Option Addr → Hp → Prop}, Rl ⟨X.K, cl⟩ Z r H st → RepL ⟨X.K, cl⟩ Z r H ds vs →
    Post ⟨X.K, cl⟩ Z r H (RV ⟨X.K, cl⟩ Z) (op ds st) Q W' → rr vs H Q) (sg : L2.St) (H : Hp) (Q : VK) (h : rdE ⟨X.K, cl⟩ W (dCall op fa) sg H Q) : tCB rr (rdA ⟨X.K, cl⟩ W fa) sg H Q := by
  obtain ⟨Z, r, env, st, E, R, h⟩ := h
  exact ⟨Z, r, env, st, E, R, Post.bind h fun ds st1 r1 H1 vs _ e1 R1 q1 h1 => hop R1 q1 h1⟩
theorem se_callB {id : String} {op : SemF} (hc : CS X cl (.builtin id) op) (hm : X.mg x = none) (hv : bootBuiltins x = some (.builtin id)) (ha : SA X cl W (e :: es) fa) (hg : Gl X x := by rfl) (hn : x ≠ "__name__" := by decide +kernel) (hdb : (x == ("__debug__" : Str)) = false := by decide +kernel)
    (he : starEach (e :: es) X.env = (false, eval e X.env) :: starEach es X.env := by rfl) (hpl : (backTo pos (starEach es X.env)).any (·.1) = false := by rfl) : SE X cl W (.Call (.Name x p) (e :: es) [] pos) (dCall op fa) := by
  obtain ⟨rr, h1, h2⟩ := hc.ex
  exact ⟨(pe_callB h1 hg hm hv ha.run hn hdb he hpl).imp (rd_callB h2)⟩
theorem se_callT {T : String} {op : SemF} (hc : CS X cl (.type T) op) (hm : X.mg x = none) (hv : bootBuiltins x = some (.type T)) (ha : SA X cl W (e :: es) fa) (hg : Gl X x := by rfl) (hn : x ≠ "__name__" := by decide +kernel) (hdb : (x == ("__debug__" : Str)) = false := by decide +kernel)
    (he : starEach (e :: es) X.env = (false, eval e X.env) :: starEach es X.env := by rfl) (hpl : (backTo pos (starEach es X.env)).any (·.1) = false := by rfl) : SE X cl W (.Call (.Name x p) (e :: es) [] pos) (dCall op fa) := by
  obtain ⟨rr, h1, h2⟩ := hc.ex
  exact ⟨(pe_callTy h1 hg hm hv ha.run hn hdb he hpl).imp (rd_callB h2)⟩
/-- len -/
def dLen : SemF := fun ds st => match ds with
  | [x] => match seq? st x with
    | some xs => .ok (.int xs.length) st
    | none => match x with
      | .str z => if z.length ≤ szL then .ok (.int z.length) st else .no
      | _ => .no
  | _ => .no
theorem cs_len : CS X cl (.builtin "len") dLen := by
  refine ⟨_, call_len_seq.or call_len_str, fun {Z r H st ds vs Q W'} R qd h => ?_⟩
  unfold dLen at h
  split at h
  · rename_i d
    obtain ⟨v, q, rfl, a1, rfl⟩ := qd
    split at h
    · rename_i xs hs
      obtain ⟨a, us, rfl, q, s⟩ := seq_ok R a1 hs
      exact .inl ⟨a, us, rfl, s, by rw [← q.length]; exact post_ok h R rfl⟩
    · split at h
      · rename_i z _
        split at h
        · rename_i hz
          exact .inr ⟨z, by rw [show v = .str z from a1], hz, post_ok h R rfl⟩
        · exact h.elim
      · exact h.elim
  · exact h.elim
def ints? : List D → Option (List Int)
  | [] => some []
  | .int i :: ds => match ints? ds with
    | some is => some (i :: is)
    | none => none
  | _ => none
theorem ints_ok {g : Gd} {Z r : List Addr} {H : Hp} : ∀ {ds : List D} {vs : List V} {is : List Int}, ints? ds = some is → RepL g Z r H ds vs → vs = is.map V.int
  | [], _, _, e, h => by cases e; exact h
  | .int i :: ds, _, _, e, h => by
    simp only [ints?] at e
    split at e
    · rename_i is e1
      cases e
      obtain ⟨v, q, rfl, a1, h2⟩ := h
      rw [show v = .int i from a1, ints_ok e1 h2]; rfl
    · cases e
  | .non :: _, _, _, e, _ => by cases e
  | .bl _ :: _, _, _, e, _ => by cases e
  | .str _ :: _, _, _, e, _ => by cases e
  | .h _ :: _, _, _, e, _ => by cases e
  | .nd _ _ :: _, _, _, e, _ => by cases e
/-- the greatest, the least of a list that is not empty -/
def mxL : List Int → Int
  | [] => 0
  | [a] => a
  | a :: b :: r => max a (mxL (b :: r))
def mnL : List Int → Int
  | [] => 0
  | [a] => a
  | a :: b :: r => min a (mnL (b :: r))
theorem mxL_ge : ∀ (l : List Int) (x : Int), x ∈ l → x ≤ mxL l
  | [a], x, h => by simp at h; subst h; simp [mxL]
  | a :: b :: r, x, h => by
    rcases List.mem_cons.mp h with rfl | h
    · simp only [mxL]; omega
    · have := mxL_ge (b :: r) x h
      simp only [mxL]; omega
theorem mxL_mem : ∀ (l : List Int), l ≠ [] → mxL l ∈ l
  | [a], _ => by simp [mxL]
  | a :: b :: r, _ => by
    have := mxL_mem (b :: r) (by simp)
    simp only [mxL]
    rcases Int.le_total a (mxL (b :: r)) with h | h
    · rw [Int.max_eq_right h]; exact List.mem_cons_of_mem _ this
    · rw [Int.max_eq_left h]; exact List.mem_cons_self
theorem mnL_le : ∀ (l : List Int) (x : Int), x ∈ l → mnL l ≤ x
  | [a], x, h => by simp at h; subst h; simp [mnL]
  | a :: b :: r, x, h => by
    rcases List.mem_cons.mp h with rfl | h
    · simp only [mnL]; omega
    · have := mnL_le (b :: r) x h
      simp only [mnL]; omega
theorem mnL_mem : ∀ (l : List Int), l ≠ [] → mnL l ∈ l
  | [a], _ => by simp [mnL]
  | a :: b :: r, _ => by
    have := mnL_mem (b :: r) (by simp)
    simp only [mnL]
    rcases Int.le_total a (mnL (b :: r)) with h | h
    · rw [Int.min_eq_left h]; exact List.mem_cons_self
    · rw [Int.min_eq_right h]; exact List.mem_cons_of_mem _ this
def dMax : SemF := fun ds st => match ds with
  | [.int i, .int j] => .ok (.int (if j > i then j else i)) st
  | [x] => match (lst? st x).bind ints? with
    | some (i :: is) => .ok (.int (mxL (i :: is))) st
    | _ => .no
  | _ => .no
def dMin : SemF := fun ds st => match ds with
  | [.int i, .int j] => .ok (.int (if j < i then j else i)) st
  | [x] => match (lst? st x).bind ints? with
    | some (i :: is) => .ok (.int (mnL (i :: is))) st
    | _ => .no
  | _ => .no
theorem cs_max (hc : X.calm = true) : CS X cl (.builtin "max") dMax := by
  refine ⟨_, (call_max2 hc).or (cr_max hc), fun {Z r H st ds vs Q W'} R qd h => ?_⟩
  unfold dMax at h
  split at h
  · rename_i i j
    obtain ⟨v, q, rfl, a1, w, q', rfl, a2, rfl⟩ := qd
    exact .inl ⟨i, j, by rw [show v = .int i from a1, show w = .int j from a2], post_ok h R rfl⟩
  · rename_i d
    obtain ⟨v, q, rfl, a1, rfl⟩ := qd
    cases hl : lst? st d with
    | none => rw [hl] at h; exact h.elim
    | some xs =>
      rw [hl] at h
      obtain ⟨a, us, rfl, q, s⟩ := lst_ok R a1 hl
      cases hi : ints? xs with
      | none => rw [Option.bind_some, hi] at h; exact h.elim
      | some is =>
        rw [Option.bind_some, hi] at h
        cases is with
        | nil => exact h.elim
        | cons i is =>
          have := ints_ok hi q
          subst this
          refine .inr ⟨a, i :: is, rfl, s, by simp, fun m hm hge => ?_⟩
          have e : m = mxL (i :: is) := Int.le_antisymm (mxL_ge _ m hm) (hge _ (mxL_mem _ (by simp)))
          rw [e]; exact post_ok h R rfl
  · exact h.elim
theorem cs_min (hc : X.calm = true) : CS X cl (.builtin "min") dMin := by
  refine ⟨_, (call_min2 hc).or (cr_min hc), fun {Z r H st ds vs Q W'} R qd h => ?_⟩
  unfold dMin at h
  split at h
  · rename_i i j
    obtain ⟨v, q, rfl, a1, w, q', rfl, a2, rfl⟩ := qd
    exact .inl ⟨i, j, by rw [show v = .int i from a1, show w = .int j from a2], post_ok h R rfl⟩
  · rename_i d
    obtain ⟨v, q, rfl, a1, rfl⟩ := qd
    cases hl : lst? st d with
    | none => rw [hl] at h; exact h.elim
    | some xs =>
      rw [hl] at h
      obtain ⟨a, us, rfl, q, s⟩ := lst_ok R a1 hl
      cases hi : ints? xs with
      | none => rw [Option.bind_some, hi] at h; exact h.elim
      | some is =>
        rw [Option.bind_some, hi] at h
        cases is with
        | nil => exact h.elim
        | cons i is =>
          have := ints_ok hi q
          subst this
          refine .inr ⟨a, i :: is, rfl, s, by simp, fun m hm hge => ?_⟩
          have e : m = mnL (i :: is) := Int.le_antisymm (hge _ (mnL_mem _ (by simp))) (mnL_le _ m hm)
          rw [e]; exact post_ok h R rfl
  · exact h.elim
def dAbs : SemF := fun ds st => match ds with
  | [.int i] => .ok (.int (if i < 0 then -i else i)) st
  | _ => .no
theorem cs_abs : CS X cl (.builtin "abs") dAbs := by
  refine ⟨_, call_abs, fun {Z r H st ds vs Q W'} R qd h => ?_⟩
  unfold dAbs at h
  split at h
  · rename_i i
    obtain ⟨v, q, rfl, a1, rfl⟩ := qd
    exact ⟨i, by rw [show v = .int i from a1], post_ok h R rfl⟩
  · exact h.elim
def dInt : SemF := fun ds st => match ds with
  | [.int i] => .ok (.int i) st
  | _ => .no
theorem cs_int : CS X cl (.type "int") dInt := by
  refine ⟨_, call_int1, fun {Z r H st ds vs Q W'} R qd h => ?_⟩
  unfold dInt at h
  split at h
  · rename_i i
    obtain ⟨v, q, rfl, a1, rfl⟩ := qd
    exact .inl ⟨i, by rw [show v = .int i from a1], post_ok h R rfl⟩
  · exact h.elim
def dSum : SemF := fun ds st => match ds with
  | [x] => match (lst? st x).bind ints? with
    | some is => .ok (.int is.sum) st
    | _ => .no
  | _ => .no
def bools? : List D → Option (List Bool)
  | [] => some []
  | .bl i :: ds => match bools? ds with
    | some is => some (i :: is)
    | none => none
  | _ => none
def dAll : SemF := fun ds st => match ds with
  | [x] => match (lst? st x).bind bools? with
    | some is => .ok (.bl (is.all id)) st
    | _ => .no
  | _ => .no
def dAny : SemF := fun ds st => match ds with
  | [x] => match (lst? st x).bind bools? with
    | some is => .ok (.bl (is.any id)) st
    | _ => .no
  | _ => .no
/-- list(x), tuple(x) -/
def dList : SemF := fun ds st => match ds with
  | [x] => match seq? st x with
    | some xs => .ok (.nd .lst xs) st
    | none => .no
  | _ => .no
def dListM : SemF := fun ds st => match ds with
  | [x] => match seq? st x with
    | some xs => .ok (.h st.length) (st ++ [.nd .lst xs])
    | none => .no
  | _ => .no
def dTuple : SemF := fun ds st => match ds with
  | [x] => match lst? st x with
    | some xs => .ok (.nd .tup xs) st
    | none => match tupX? st x with
      | some xs => .ok (.nd .tup xs) st
      | none => .no
  | _ => .no
theorem cs_tuple : CS X cl (.type "tuple") dTuple := by
  refine ⟨_, call_tuple_of, fun {Z r H st ds vs Q W'} R qd h => ?_⟩
  unfold dTuple at h
  split at h
  · rename_i d
    obtain ⟨v, q, rfl, a1, rfl⟩ := qd
    split at h
    · rename_i xs hs
      obtain ⟨a, us, rfl, q, s⟩ := lst_ok R a1 hs
      exact ⟨a, us, rfl, .inl ⟨s, fun l hl => h r _ _ (Ext.new hl) (R.new hl) (new_tup R q hl)⟩⟩
    · split at h
      · rename_i xs hs
        have e := tup_is R hs
        obtain ⟨a, us, rfl, q, s⟩ := tupX_ok R a1 hs
        subst e
        exact ⟨a, us, rfl, .inr ⟨SqT.of s, post_ok h R a1⟩⟩
      · exact h.elim
  · exact h.elim
/-- -x -/
def dNeg (f : SemE) : SemE := fun env st => (f env st).bind fun x st1 => match x with
  | .int i => .ok (.int (-i)) st1
  | _ => .no
theorem se_neg (ho : SE X cl W o fo) : SE X cl W (.UnaryOp .USub o pos) (dNeg fo) := by
  refine ⟨(pe_un un_neg ho.run).imp fun sg H Q ⟨Z, r, env, st, E, R, h⟩ => ?_⟩
  refine ⟨Z, r, env, st, E, R, Post.bind h fun x st1 r1 H1 v _ e1 R1 q1 h1 => ?_⟩
  cases x with
  | int i => exact ⟨i, q1, post_ok h1 R1 rfl⟩
  | non => exact h1.elim
  | bl b => exact h1.elim
  | str z => exact h1.elim
  | h k => exact h1.elim
  | ty z => exact h1.elim
  | nd t xs => exact h1.elim

/-! ### methods of built-in types -/
def dBM (op : D → List D → Store → Res D) (fo : SemE) (fa : SemA) : SemE := fun env st => (fo env st).bind fun x st1 => (fa env st1).bind fun ds st2 => op x ds st2
structure MS (X : Cx) (cl : ClsT) (id : String) (op : D → List D → Store → Res D) : Prop where
  ex : ∃ rr : V → List V → Hp → VK → Prop, MtR X id rr ∧ ∀ {Z r : List Addr} {H : Hp} {st : Store} {x : D} {ds : List D} {v : V} {vs : List V} {Q : VK} {W' : Value → Option Addr → Hp → Prop}, Rl ⟨X.K, cl⟩ Z r H st → Rep ⟨X.K, cl⟩ Z r H x v → RepL ⟨X.K, cl⟩ Z r H ds vs →
    Post ⟨X.K, cl⟩ Z r H (RV ⟨X.K, cl⟩ Z) (op x ds st) Q W' → rr v vs H Q
theorem tyV_list {Z r : List Addr} {H : Hp} {st : Store} {x : D} {v : V} (R : Rl ⟨X.K, cl⟩ Z r H st) (q : Rep ⟨X.K, cl⟩ Z r H x v) (h : (lst? st x).isSome = true) : tyV X.K "list" v H := by
  obtain ⟨xs, hs⟩ := Option.isSome_iff_exists.mp h
  obtain ⟨a, us, rfl, _, s⟩ := lst_ok R q hs
  exact .inl ⟨rfl, us, s⟩
/-- of a list -/
def dBML (op : D → List D → Store → Res D) (fo : SemE) (fa : SemA) : SemE := fun env st => (fo env st).bind fun x st1 => if (lst? st1 x).isSome = true then (fa env st1).bind fun ds st2 => op x ds st2 else .no
theorem se_bml {name : Str} {id : String} {op : D → List D → Store → Res D} (hm : MS X cl id op) (ho : SE X cl W o fo) (ha : SA X cl W (e :: es) fa) (slot : Slot "list" name id) (hty : typeOf (.builtin id) = pure (.type "method_descriptor"))
    (hbase : attributeBase o name X.env (eval o X.env) = eval o X.env := by rfl)
    (hfew : ((backTo pos (starEach (e :: es) X.env)).all (fun x => !x.1) && (backToKw pos (keywordEach [] X.env)).all (fun x => x.1.isSome)
      && decide ((e :: es).length + ([] : List Keyword).length + (if ([] : List Keyword).isEmpty then 0 else 1) < 30)) = true := by rfl)
    (hline : (apos.endLine == pos.line) = true := by rfl) (hs : starEach (e :: es) X.env = (false, eval e X.env) :: starEach es X.env := by rfl) (hplain : (backTo pos (starEach es X.env)).any (·.1) = false := by rfl) : SE X cl W (.Call (.Attribute o name apos) (e :: es) [] pos) (dBML op fo fa) := by
  obtain ⟨rr, h1, h2⟩ := hm.ex
  refine ⟨(pe_bm PySem.F.plainAttrs_list slot hty h1 ho.run ha.run hbase hfew hline hs hplain).imp fun sg H Q ⟨Z, r, env, st, E, R, h⟩ => ?_⟩
  refine ⟨Z, r, env, st, E, R, Post.bind h fun x st1 r1 H1 v _ e1 R1 q1 h1 => ?_⟩
  split at h1
  · rename_i hl
    refine ⟨tyV_list R1 q1 hl, Z, r1, env, st1, E.ext e1, R1, Post.bind h1 fun ds st2 r2 H2 vs _ e2 R2 q2 h3 => ?_⟩
    exact h2 R2 (Rep.ext e2 x q1) q2 h3
  · exact h1.elim
def opAppend (x : D) (ds : List D) (st : Store) : Res D := match x, ds with
  | .h k, [y] => match st[k]? with
    | some (.nd .lst xs) => if xs.length < szL then .ok .non (st.set k (.nd .lst (xs ++ [y]))) else .no
    | _ => .no
  | _, _ => .no
theorem ms_append : MS X cl "list.append" opAppend := by
  refine ⟨_, mt_append, fun {Z r H st x ds v vs Q W'} R qx qd h => ?_⟩
  unfold opAppend at h
  split at h
  · rename_i k y
    obtain ⟨w, q, rfl, a1, rfl⟩ := qd
    obtain ⟨a, rfl, ea⟩ := qx
    split at h
    · rename_i xs hs
      split at h
      · rename_i hl
        obtain ⟨b, eb, t, ys, us, ed, hm, hu⟩ := R.cell k _ hs
        cases ed
        rw [ea] at eb; cases eb
        exact ⟨a, us, w, rfl, rfl, hm, by rw [← hu.length]; exact hl, h r _ _ (Ext.write ea) (R.write ea (show HatM ⟨X.K, cl⟩ _ a .lst _ from upd_same) (hu.append (RepL.one a1))) rfl⟩
      · exact h.elim
    · exact h.elim
  · exact h.elim
def opPopAt (x : D) (ds : List D) (st : Store) : Res D := match x, ds with
  | .h k, [.int i] => match st[k]? with
    | some (.nd .lst xs) => if -(2 ^ 63) ≤ i ∧ i < 2 ^ 63 then (match seqIndex? i xs.length with
      | some j => match xs[j]? with
        | some y => .ok y (st.set k (.nd .lst (xs.eraseIdx j)))
        | none => .no
      | none => .no) else .no
    | _ => .no
  | _, _ => .no
theorem ms_popAt : MS X cl "list.pop" opPopAt := by
  refine ⟨_, mt_popAt, fun {Z r H st x ds v vs Q W'} R qx qd h => ?_⟩
  unfold opPopAt at h
  split at h
  · rename_i k i
    obtain ⟨w0, q0, rfl, a1, rfl⟩ := qd
    obtain ⟨a, rfl, ea⟩ := qx
    split at h
    · rename_i xs hs
      split at h
      · rename_i hb
        split at h
        · rename_i j hj
          split at h
          · rename_i y hy
            obtain ⟨b, eb, t, ys, us, ed, hm, hu⟩ := R.cell k _ hs
            cases ed
            rw [ea] at eb; cases eb
            obtain ⟨w, hw, qw⟩ := hu.get hy
            have na : ¬ Nin Z r a := fun n => n.2 (List.mem_of_getElem? ea)
            exact ⟨a, us, i, j, w, rfl, by rw [show w0 = .int i from a1], hm, hb.1, hb.2, by rw [← hu.length]; exact hj, hw, h r _ _ (Ext.write ea) (R.write ea (show HatM ⟨X.K, cl⟩ _ a .lst _ from upd_same) (hu.erase j)) (Rep.off na _ qw)⟩
          · exact h.elim
        · exact h.elim
      · exact h.elim
    · exact h.elim
  · exact h.elim
/-- what is never come to -/
theorem ss_never {s : Stmt} : SS X cl W s (fun _ _ => .no) := ⟨ps_never.imp fun E sg H ⟨_, _, _, _, _, _, h⟩ => h⟩
end
end DY

/-! isinstance, repr, dict displays, calls by keywords, sorted, sets of rows. -/
namespace DY
open PySem PySem.Spec PyProof.Rows L2
section
variable {X : Cx} {cl : ClsT} {W : WX} {pos : Pos} {x : Str} {p p2 apos : Pos} {e o : Expr} {es : List Expr} {fa : SemA} {fo fe : SemE} {F : SemF}
/-! ### isinstance -/
/-- a datum's built-in type -/
def tyD (st : Store) (x : D) : Option String :=
  match x with
  | .non => some "NoneType"
  | .bl _ => some "bool"
  | .int _ => some "int"
  | .str _ => some "str"
  | x => match seen st x with
    | some (.lst, _) => some "list"
    | some (.scr, _) => some "list"
    | some (.tup, _) => some "tuple"
    | some (.ktp, _) => some "tuple"
    | some (.dk _, _) => some "dict"
    | some (.dt _, _) => some "dict"
    | _ => none
def tysA : List String := ["NoneType", "bool", "int", "str", "list", "tuple", "dict"]
def tysB : List String := ["bool", "int", "str", "list", "tuple", "dict"]
/-- what isinstance answers -/
def isiB (a b : String) : Bool := a == b || (a == "bool" && b == "int")
theorem isi_tab : (tysA.all fun a => tysB.all fun b => decide (kitB a b = some (isiB a b))) = true := by decide +kernel
theorem isi_ok {a b : String} (ha : a ∈ tysA) (hb : b ∈ tysB) : kitB a b = some (isiB a b) :=
  of_decide_eq_true (List.all_eq_true.mp (List.all_eq_true.mp isi_tab a ha) b hb)
theorem ty_lstR {K : PySem.W.Frag} {H : Hp} {a : Addr} {vs : List V} (h : Rd H a (.lst vs)) : TyX K H (.ref a) (.type "list") := by
  rcases h with h | ⟨o, h⟩
  · exact .base (.lst h)
  · exact .base (.frz h)
theorem ty_tupR {K : PySem.W.Frag} {H : Hp} {a : Addr} {vs : List V} (h : Rd H a (.tup vs)) : TyX K H (.ref a) (.type "tuple") := by
  rcases h with h | ⟨o, h⟩
  · exact .base (.tup h)
  · exact .fTuple h
theorem tyD_ok {Z r : List Addr} {H : Hp} {st : Store} {x : D} {v : V} {T : String} (R : Rl ⟨X.K, cl⟩ Z r H st) (q : Rep ⟨X.K, cl⟩ Z r H x v) (h : tyD st x = some T) : TyX X.K H v (.type T) ∧ T ∈ tysA := by
  have gen : (match seen st x with
    | some (.lst, _) => some "list"
    | some (.scr, _) => some "list"
    | some (.tup, _) => some "tuple"
    | some (.ktp, _) => some "tuple"
    | some (.dk _, _) => some "dict"
    | some (.dt _, _) => some "dict"
    | _ => none) = some T → TyX X.K H v (.type T) ∧ T ∈ tysA := by
    intro h
    split at h
    · rename_i ys hs
      cases h
      obtain ⟨a, us, rfl, _, s⟩ := seen_ok R q hs
      refine ⟨?_, by decide⟩
      rcases s with s | s
      · exact .base (.lst s.2)
      · exact .base (.lst s)
    · rename_i ys hs
      cases h
      obtain ⟨a, us, rfl, _, s⟩ := seen_ok R q hs
      refine ⟨?_, by decide⟩
      rcases s with s | s
      · rcases s with ⟨_, s⟩ | ⟨o, _, _, s, c, _⟩
        · exact ty_lstR s
        · exact .kList s c
      · exact s.elim
    · rename_i ys hs
      cases h
      obtain ⟨a, us, rfl, _, s⟩ := seen_ok R q hs
      refine ⟨?_, by decide⟩
      rcases s with s | s
      · exact .base (.tup s.2)
      · exact s.elim
    · rename_i ys hs
      cases h
      obtain ⟨a, us, rfl, _, s⟩ := seen_ok R q hs
      refine ⟨?_, by decide⟩
      rcases s with s | s
      · rcases s with ⟨_, s⟩ | ⟨o, _, _, s, c, _⟩
        · exact ty_tupR s
        · exact .kTuple s c
      · exact s.elim
    · rename_i ks ys hs
      cases h
      obtain ⟨a, us, rfl, _, s⟩ := seen_ok R q hs
      exact ⟨.base (.dK (dk_at s).2), by decide⟩
    · rename_i ks ys hs
      cases h
      obtain ⟨a, us, rfl, _, s⟩ := seen_ok R q hs
      exact ⟨.base (.dT (dt_at s).2), by decide⟩
    · cases h
  cases x with
  | non => cases h; cases (show v = .non from q); exact ⟨.base .non, by decide⟩
  | bl b => cases h; cases (show v = .bl b from q); exact ⟨.base (.bl b), by decide⟩
  | int i => cases h; cases (show v = .int i from q); exact ⟨.base (.int i), by decide⟩
  | str s => cases h; cases (show v = .str s from q); exact ⟨.base (.str s), by decide⟩
  | h k => exact gen h
  | ty z => cases h
  | nd t xs => exact gen h
/-- isinstance(x, T), isinstance(x, (T, ..)) -/
def dIsi (Ts : List String) (f : SemE) : SemE := fun env st => (f env st).bind fun x st1 => match tyD st1 x with
  | some T => .ok (.bl (Ts.any (isiB T))) st1
  | none => .no
theorem se_isi {y : Str} (T : String) (hm : X.mg "isinstance" = none) (hmy : X.mg y = none) (hv : bootBuiltins y = some (.type T)) (ho : SE X cl W e fo) (hT : T ∈ tysB := by decide) (hg : Gl X "isinstance" := by rfl) (hgy : Gl X y := by rfl)
    (hn : y ≠ "__name__" := by decide +kernel) (hd : (y == ("__debug__" : Str)) = false := by decide +kernel)
    (h1 : starEach [e, .Name y p2] X.env = (false, eval e X.env) :: starEach [.Name y p2] X.env := by rfl) (h2 : (backTo pos (starEach [.Name y p2] X.env)).any (·.1) = false := by rfl) (h3 : starEach [.Name y p2] X.env = (false, eval (.Name y p2) X.env) :: starEach [] X.env := by rfl) :
    SE X cl W (.Call (.Name "isinstance" p) [e, .Name y p2] [] pos) (dIsi [T] fo) := by
  refine ⟨(pe_callB call_isi hg hm (by rfl) (pa_cons ho.run (pa_cons (pe_bltn (v := V.ty T) hgy hmy hv rfl hn hd) pa_nil h3) h1) (by decide +kernel) (by decide +kernel) h1 h2).imp fun sg H Q ⟨Z, r, env, st, E, R, h⟩ => ?_⟩
  refine ⟨Z, r, env, st, E, R, Post.bind h fun a st1 r1 H1 v _ e1 R1 q1 h1 => ?_⟩
  split at h1
  · rename_i T' hT'
    obtain ⟨ty, hm⟩ := tyD_ok R1 q1 hT'
    refine ⟨v, _, _, _, isiB T' T, rfl, .ty T, ty, kit_ty (isi_ok hm hT), ?_⟩
    have := post_ok h1 R1 (b := V.bl ([T].any (isiB T'))) rfl
    simpa using this
  · exact h1.elim
theorem se_isi2 {y z : Str} {k : Nat} {p3 p4 : Pos} (T U : String) (hm : X.mg "isinstance" = none) (hmy : X.mg y = none) (hv : bootBuiltins y = some (.type T)) (hmz : X.mg z = none) (hvz : bootBuiltins z = some (.type U)) (ho : SE X cl W e fo) (hT : T ∈ tysB := by decide) (hU : U ∈ tysB := by decide) (hg : Gl X "isinstance" := by rfl) (hgy : Gl X y := by rfl) (hgz : Gl X z := by rfl)
    (hn : y ≠ "__name__" := by decide +kernel) (hd : (y == ("__debug__" : Str)) = false := by decide +kernel) (hnz : z ≠ "__name__" := by decide +kernel) (hdz : (z == ("__debug__" : Str)) = false := by decide +kernel)
    (h1 : starEach [e, .Tuple [.Name y p2, .Name z p3] k p4] X.env = (false, eval e X.env) :: starEach [.Tuple [.Name y p2, .Name z p3] k p4] X.env := by rfl) (h2 : (backTo pos (starEach [.Tuple [.Name y p2, .Name z p3] k p4] X.env)).any (·.1) = false := by rfl)
    (h3 : starEach [.Tuple [.Name y p2, .Name z p3] k p4] X.env = (false, eval (.Tuple [.Name y p2, .Name z p3] k p4) X.env) :: starEach [] X.env := by rfl)
    (h4 : starEach [.Name y p2, .Name z p3] X.env = (false, eval (.Name y p2) X.env) :: starEach [.Name z p3] X.env := by rfl) (h5 : starEach [.Name z p3] X.env = (false, eval (.Name z p3) X.env) :: starEach [] X.env := by rfl) :
    SE X cl W (.Call (.Name "isinstance" p) [e, .Tuple [.Name y p2, .Name z p3] k p4] [] pos) (dIsi [T, U] fo) := by
  refine ⟨(pe_callB call_isiT hg hm (by rfl) (pa_cons ho.run (pa_cons (pe_tup (pa_cons (pe_bltn (v := V.ty T) hgy hmy hv rfl hn hd) (pa_cons (pe_bltn (v := V.ty U) hgz hmz hvz rfl hnz hdz) pa_nil h5) h4)) pa_nil h3) h1) (by decide +kernel) (by decide +kernel) h1 h2).imp fun sg H Q ⟨Z, r, env, st, E, R, h⟩ => ?_⟩
  refine ⟨Z, r, env, st, E, R, Post.bind h fun a st1 r1 H1 v _ e1 R1 q1 h1 => ?_⟩
  split at h1
  · rename_i T' hT'
    refine ⟨(by show 2 ≤ sizeLine; decide), fun t ht => ?_⟩
    have R2 := R1.new (o := .tup [.ty T, .ty U]) ht
    obtain ⟨ty, hm⟩ := tyD_ok R2 (Rep.ext (Ext.new ht) a q1) hT'
    refine ⟨v, t, _, _, _, isiB T' T || isiB T' U, rfl, upd_same, .cons (.ty T) (.cons (.ty U) .nil), ty, ?_, ?_⟩
    · refine kitAny_cons (kit_ty (isi_ok hm hT)) (fun b => ?_) (fun b => by rw [b]; rfl)
      rw [b]
      exact kitAny_cons (kit_ty (isi_ok hm hU)) (fun b => by rw [b]; rfl) (fun b => by rw [b]; rfl)
    · have := h1 r1 _ (V.bl ([T, U].any (isiB T'))) (Ext.new ht) R2 rfl
      simpa using this
  · exact h1.elim

/-! ### repr -/
def dRepr : SemF := fun ds st => match ds with
  | [.int i] => if i.natAbs.log2 < 1920 then .ok (.str (toString i)) st else .no
  | [x] => match toP deepP st x with
    | some (.list ys) => if (PyData.list ys).showable = true ∧ (PyData.list ys).shown.length ≤ szL ∧ shp (.list ys) = true then .ok (.str (PyData.list ys).shown) st else .no
    | some (.tuple ys) => if (PyData.tuple ys).showable = true ∧ (PyData.tuple ys).shown.length ≤ szL ∧ shp (.tuple ys) = true then .ok (.str (PyData.tuple ys).shown) st else .no
    | _ => .no
  | _ => .no
mutual
theorem nodict_plain : ∀ d : PyData, d.plain = true → d.hasDict = false
  | .none, _ => rfl
  | .bool _, _ => rfl
  | .int _, _ => rfl
  | .str _, _ => rfl
  | .list xs, h => by
    simp only [PyData.hasDict]
    exact nodict_plainAll xs (by simpa [PyData.plain] using h)
  | .tuple xs, h => by
    simp only [PyData.hasDict]
    exact nodict_plainAll xs (by simpa [PyData.plain] using h)
  | .dict _, h => by simp [PyData.plain] at h
theorem nodict_plainAll : ∀ ds : List PyData, PyData.plainAll ds = true → PyData.hasDictAll ds = false
  | [], _ => rfl
  | d :: ds, h => by
    have h' : d.plain = true ∧ PyData.plainAll ds = true := by simpa [PyData.plainAll] using h
    simp [PyData.hasDictAll, nodict_plain d h'.1, nodict_plainAll ds h'.2]
end
/-- repr of what reads as data -/
def rReprP (K : PySem.W.Frag) : List V → Hp → VK → Prop := fun vs H Q => ∃ a d, vs = [.ref a] ∧ Dp K H (.ref a) d ∧ d.showable = true ∧ d.shown.length ≤ sizeLine ∧ shp d = true ∧ Q (.str d.shown) H
theorem cr_reprP (hu : X.A.units + 64 < cLine) (hg : X.A.guards = some []) : CallR X (.builtin "repr") (rReprP X.K) := by
  intro pins s sg H vs us Q I r h
  obtain ⟨a, d, rfl, hd, hs, hz, hp, q⟩ := h
  obtain ⟨u, rfl, rv⟩ := vals1 r
  obtain rfl : u = Value.ref a := rv
  obtain ⟨as, rd⟩ := Dp.reads I d _ _ hd rfl
  refine PySem.repr_of_reads' rd hs (fun h => ?_) hg (by have := shp_depth hp; omega) (fun _ _ e => e) (fun h' u tk hk => ⟨.str d.shown, H, I.kept hk, ⟨_, rfl⟩, q⟩) hz
  rw [nodict_plain d (shp_plain hp)] at h
  cases h
theorem cs_repr (hu : X.A.units + 64 < cLine) (hg : X.A.guards = some []) : CS X cl (.builtin "repr") dRepr := by
  refine ⟨fun vs H Q => (∃ i, vs = [.int i] ∧ i.natAbs.log2 < 1920 ∧ Q (.str (toString i)) H) ∨ rReprP X.K vs H Q, (fun pins s sg H vs us Q I rr h => h.elim (SkE.call_repr_int pins s sg H vs us Q I rr) (cr_reprP hu hg pins s sg H vs us Q I rr)), fun {Z r H st ds vs Q W'} R qd h => ?_⟩
  unfold dRepr at h
  split at h
  · rename_i i
    obtain ⟨v, q, rfl, a1, rfl⟩ := qd
    split at h
    · rename_i hl
      exact .inl ⟨i, by rw [show v = .int i from a1], hl, post_ok h R rfl⟩
    · exact h.elim
  · rename_i d _
    obtain ⟨v, q, rfl, a1, rfl⟩ := qd
    split at h
    · rename_i ys hp
      split at h
      · rename_i hc
        have hd := toP_ok R _ _ hp a1
        cases hd with
        | lst s1 s2 => exact .inr ⟨_, _, rfl, .lst s1 s2, hc.1, hc.2.1, hc.2.2, post_ok h R rfl⟩
      · exact h.elim
    · rename_i ys hp
      split at h
      · rename_i hc
        have hd := toP_ok R _ _ hp a1
        cases hd with
        | tup s1 s2 => exact .inr ⟨_, _, rfl, .tup s1 s2, hc.1, hc.2.1, hc.2.2, post_ok h R rfl⟩
      · exact h.elim
    · exact h.elim
  · exact h.elim
end
end DY

/-! A program's defs as a table of functions on data. -/
namespace DY
open PySem PySem.Spec PyProof.Rows L2
/-- what a body's rules want of the place where it runs -/
structure DF (X : Cx) (W : WX) (k : Nat) : Prop where
  calm : X.calm = true
  own : PassesOwn (model X.prog X.w) X.A X.env X.xe
  tk : Takes X W
  room : Room (k + 1) X.A
  gd : X.A.guards = some []
theorem DF.hu {X : Cx} {W : WX} {k : Nat} (D : DF X W k) : X.A.units + 64 < cLine := D.room.units
theorem DF.hu1 {X : Cx} {W : WX} {k : Nat} (D : DF X W k) : X.A.units + 1 < cLine := by have := D.hu; omega
section
variable {P : Program} {w : World} {K : PySem.W.Frag} {mg : Str → Option Value} {base : Heap}
theorem DF.of {N : List Str} {qual : Str} {scope : Scope} {f : Addr} {cdv : Value} {A : Around} {outer : List Env} {s : Shared} {H : Hp} {E : XK} {k : Nat} (hr : Room (k + 1) (A.deeper (envOfC qual scope s.heap.objs.size f cdv))) (hg : A.guards = some []) :
    DF (cxOf (L2.CX P w) P w K mg base N qual scope f cdv A outer s H E) (fun c d _ H' => E c d H') k :=
  ⟨rfl, passes_of rfl, takes_of rfl rfl rfl rfl, hr, deeper_guards hg⟩
theorem DF.blk {X : Cx} {W : WX} {k : Nat} (D : DF X W k) (s : Shared) (H : Hp) (scope : Scope) (env : Env) (fp : List Addr) (hc : (X.blk s H scope env fp).calm = true := by rfl) : DF (X.blk s H scope env fp) WF k :=
  ⟨hc, PassesOwn.never, takes0, D.room, D.gd⟩
/-- the table: where the defs stand, what they are called, what they compute -/
structure TX (P : Program) (w : World) (K : PySem.W.Frag) (mg : Str → Option Value) (base : Heap) (cl : ClsT) (fa : Nat → Addr) (fd : Nat → FuncData) (ps : Nat → List Str) (n k : Nat) (c : Nat → SemF) : Prop where
  fn : ∀ i, i < n → FnG P w K mg base k (fa i) (fd i) (ps i) (spF ⟨K, cl⟩ (ps i).length (c i))
  ar : ∀ i ds st, ds.length ≠ (ps i).length → c i ds st = .no
  bd : ∀ i, i < n → L2.Binds K (fd i) (ps i) []
  kp : ∀ i, i < n → PySem.W.keepIn K (.ref (fa i)) = true
/-- with its number of arguments -/
def arF (n : Nat) (F : SemF) : SemF := fun ds st => if ds.length = n then F ds st else .no
theorem arF_ne {n : Nat} {F : SemF} {ds : List D} {st : Store} (h : ds.length ≠ n) : arF n F ds st = .no := if_neg h
theorem FnG.ar {k : Nat} {f : Addr} {fd : FuncData} {ps : List Str} {g : Gd} {F : SemF} (h : FnG P w K mg base k f fd ps (spF g ps.length F)) : FnG P w K mg base k f fd ps (spF g ps.length (arF ps.length F)) :=
  h.imp fun vs H Q E ⟨hl, Z, r, st, ds, qd, R, q⟩ => ⟨hl, Z, r, st, ds, qd, R, by
    have e : arF ps.length F ds st = F ds st := if_pos (by rw [qd.length]; exact hl)
    rw [e] at q; exact q⟩
end
section
variable {X : Cx} {cl : ClsT} {fa : Nat → Addr} {fd : Nat → FuncData} {ps : Nat → List Str} {n k : Nat} {c : Nat → SemF} {W : WX} {pos p apos : Pos} {x m : Str} {e o : Expr} {es : List Expr} {fs : SemA} {fo fe : SemE}
theorem TX.cal (T : TX X.prog X.w X.K X.mg X.base cl fa fd ps n k c) (D : DF X W k) (i : Nat) (hi : i < n) : CalF X cl W (.ref (fa i)) (c i) :=
  calF_fn (T.fn i hi) (D.room.mono (Nat.le_succ k)) D.gd (T.bd i hi) D.tk fun ds st h => T.ar i ds st h
theorem TX.make (T : TX X.prog X.w X.K X.mg X.base cl fa fd ps n k c) (D : DF X W k) (i j : Nat) (hi : i < n) (M : Mk X.K (cl j) (fa i)) : CalF X cl W (.ref (cl j)) (runInit j (c i)) :=
  calF_make j M (T.fn i hi) D.room D.gd (T.bd i hi) D.tk fun ds st h => T.ar i ds st h
theorem TX.call (T : TX X.prog X.w X.K X.mg X.base cl fa fd ps n k c) (D : DF X W k) (i : Nat) (hm : X.mg x = some (.ref (fa i))) (ha : SA X cl W (e :: es) fs) (hi : i < n := by decide) (hg : Gl X x := by rfl) (hdb : (x == ("__debug__" : Str)) = false := by decide +kernel)
    (he : starEach (e :: es) X.env = (false, eval e X.env) :: starEach es X.env := by rfl) (hpl : (backTo pos (starEach es X.env)).any (·.1) = false := by rfl) : SE X cl W (.Call (.Name x p) (e :: es) [] pos) (dCall (c i) fs) :=
  se_call (T.cal D i hi) hm (T.kp i hi) ha hg hdb he hpl
end

/-! ### the law's end -/
/-- what the tables of code objects are told by -/
structure TabsOk (K : PySem.W.Frag) (h : Heap) (cs : List (Addr × Addr)) : Prop where
  nil : ∀ p ∈ cs, h.get? p.2 = some (PySem.W.tabObj #[])
  out : ∀ p ∈ cs, K.lookup p.2 = none
  hd : ∀ p ∈ cs, PySem.W.CodeHd h p.1 p.2
theorem TabsOk.none {K : PySem.W.Frag} {h : Heap} : TabsOk K h [] := ⟨fun _ z => (nomatch z), fun _ z => (nomatch z), fun _ z => (nomatch z)⟩
def tabMem (cs : List (Addr × Addr)) (b : Addr) : Bool := cs.any fun p => p.2 == b
theorem tabMem_iff {cs : List (Addr × Addr)} {b : Addr} : tabMem cs b = true ↔ ∃ p ∈ cs, p.2 = b := by simp [tabMem]
/-- the script and the tables alone are tracked -/
def OneAt (a : Addr) (u : Option HO) (cs : List (Addr × Addr)) : Hp := fun b => if b = a then u else if tabMem cs b = true then some (.tbl #[]) else none
theorem law_ends {P : Program} {w : World} {K : PySem.W.Frag} {mg mb : Str → Option Value} {k : Nat} {fa a : Addr} {fd : FuncData} {x : Str} {sp : Sp} {s0 : Shared} {us : List Value} {ns : List Int} {cs : List (Addr × Addr)}
    (kin : K.In s0.heap) (ng : s0.heap.Ns mainGlobals mg) (nb : s0.heap.Ns builtinsNs mb) (bb : ∀ y : Str, y ≠ "__name__" → mb y = bootBuiltins y) (lim : s0.heap.NoLimit) (gn : s0.gens = #[])
    (tabs : TabsOk K s0.heap cs) (bmn : ∃ (bm : Addr) (ob : Obj), mg "__builtins__" = some (.ref bm) ∧ bm ≠ builtinsNs ∧ s0.heap.get? bm = some ob ∧ ob.cls = .type "module" ∧ ob.dict = some builtinsNs ∧ ob.data = .plain)
    (at_ : s0.heap.get? a = some { cls := .type "list", data := .seq us.toArray }) (ia : IntsAre us ns) (hl : ns.length ≤ sizeLine) (room : Room k callerA)
    (F : ∀ b : Heap, K.In b → b.Ns mainGlobals mg → (∀ p ∈ cs, LamX.TabB b mg p.1 p.2) → FnG P w K mg b k fa fd [x] sp) (bind : ∀ (s : Shared) (u : Value), BindsTo s fd ⟨[u], []⟩ [(x, u)])
    (good : ∀ H : Hp, (∀ p ∈ cs, H p.2 = some (.tbl #[])) → SqL K H a (ns.map V.int) → sp [.ref a] H (fun v _ => v = .bl true) fun _ _ _ => False) :
    codeAny (model P w) callerA (.call (.ref fa) ⟨[.ref a], []⟩) (fun r s' => r = .ok (.ret (.bool true)) ∧ OldK s0.heap s'.heap ∧ s'.os = s0.os ∧ AllBare s'.gens) s0 := by
  have rv := vals_ints ia
  have hlen := ia.length
  have tabAt : ∀ b, tabMem cs b = true → s0.heap.get? b = some (PySem.W.tabObj #[]) := fun b hb => by
    obtain ⟨p, hp, rfl⟩ := tabMem_iff.mp hb
    exact tabs.nil p hp
  have aNo : ∀ p ∈ cs, p.2 ≠ a := fun p hp z => by
    have e1 := tabs.nil p hp
    rw [z, at_] at e1
    exact nomatch (show Data.seq us.toArray _ = Data.fields #[] from congrArg Obj.data (Option.some.inj e1))
  have aOff : tabMem cs a ≠ true := fun z => by
    obtain ⟨p, hp, e⟩ := tabMem_iff.mp z
    exact aNo p hp e
  have inner : ∀ u : Option HO, (u = none ∨ ∃ o xs, u = some (.frz o (.lst xs))) → SqL K (OneAt a u cs) a (ns.map V.int) → HOk P w (OneAt a u cs) s0.heap → (u ≠ none → K.lookup a = none) →
      codeAny (model P w) callerA (.call (.ref fa) ⟨[.ref a], []⟩) (fun r s' => r = .ok (.ret (.bool true)) ∧ OldK s0.heap s'.heap ∧ s'.os = s0.os ∧ AllBare s'.gens) s0 := by
    intro u hu sq ok notK
    have tabH : ∀ p ∈ cs, OneAt a u cs p.2 = some (.tbl #[]) := fun p hp => (if_neg (aNo p hp)).trans (if_pos (tabMem_iff.mpr ⟨p, hp, rfl⟩))
    have look : ∀ b, OneAt a u cs b ≠ none → (b = a ∧ u ≠ none ∧ OneAt a u cs b = u) ∨ tabMem cs b = true := fun b hb => by
      unfold OneAt at hb
      by_cases e : b = a
      · exact .inl ⟨e, by rw [if_pos e] at hb; exact hb, if_pos e⟩
      · rw [if_neg e] at hb
        by_cases t : tabMem cs b = true
        · exact .inr t
        · rw [if_neg t] at hb; exact absurd rfl hb
    generalize OneAt a u cs = H at *
    have hid : ∀ {b : Addr} {o : Obj}, s0.heap.get? b = some o → H b = none → (hidT s0.heap H).get? b = some o := fun e1 e2 => hidT_get e1 e2
    have untracked : ∀ {b : Addr} {o : Obj}, s0.heap.get? b = some o → (∀ vs n, o.data ≠ .seq vs n) → o.data ≠ .fields #[] → H b = none := by
      intro b o e1 e2 e3
      cases hb : H b with
      | none => rfl
      | some z =>
        rcases look b (by rw [hb]; exact Option.some_ne_none z) with ⟨rfl, _, _⟩ | t
        · rw [at_] at e1; cases e1
          exact absurd rfl (e2 _ _)
        · rw [tabAt b t] at e1; cases e1
          exact absurd rfl e3
    have dicts : ∀ {b : Addr} {o : Obj} {es : Array DictEntry} {n : Nat}, s0.heap.get? b = some o → o.data = .dict es n → H b = none := fun e1 e2 =>
      untracked e1 (fun vs n z => by rw [e2] at z; cases z) (fun z => by rw [e2] at z; cases z)
    have nsH : ∀ {b : Addr} {m : Str → Option Value}, s0.heap.Ns b m → (hidT s0.heap H).Ns b m := fun ⟨o, es, n, e1, e2, e3⟩ => ⟨o, es, n, hid e1 (dicts e1 e2), e2, e3⟩
    have kinH : K.In (hidT s0.heap H) := fun b o e1 => hid (kin b o e1) (by
      cases hb : H b with
      | none => rfl
      | some z =>
        rcases look b (by rw [hb]; exact Option.some_ne_none z) with ⟨rfl, q, _⟩ | t
        · rw [notK q] at e1; cases e1
        · obtain ⟨p, hp, rfl⟩ := tabMem_iff.mp t
          rw [tabs.out p hp] at e1; cases e1)
    have md : Mod K mg (hidT s0.heap H) := by
      obtain ⟨mc, l1, l2⟩ := lim
      exact ⟨kinH, nsH ng, ⟨mb, nsH nb, bb⟩, mc, nsH l1, l2⟩
    have tb : ∀ p ∈ cs, LamX.TabB (hidT s0.heap H) mg p.1 p.2 := by
      intro p hp
      have e0 := tabs.nil p hp
      obtain ⟨og, esg, ng', eg, dg, _⟩ := ng
      constructor
      · obtain ⟨o, vs, file, tf, flags, tg, inF, text, tt, e1, r1, r2, r3, rr⟩ := tabs.hd p hp
        refine ⟨o, vs, file, tf, flags, tg, inF, text, tt, hid e1 (untracked e1 (fun us n z => ?_) fun z => ?_), r1, r2, r3, rr⟩
        · rw [r2] at z; cases z
        · rw [r2] at z; cases z
          simp at r3
      · obtain ⟨bm, ob, b1, b2, b3, b4, b5, b6⟩ := bmn
        refine ⟨bm, ob, b1, b2, fun z => ?_, fun z => ?_, hid b3 (untracked b3 (fun us n z => ?_) fun z => ?_), b4, b5, b6⟩
        · rw [z, eg] at b3; cases b3
          rw [dg] at b6; cases b6
        · rw [z, e0] at b3; cases b3
          cases b6
        · rw [b6] at z; cases z
        · rw [b6] at z; cases z
      · intro z
        rw [z, e0] at eg; cases eg
        cases dg
    have env0 : Env0 P w K mg (hidT s0.heap H) callerA [] s0 H := by
      refine ⟨rfl, md, fun b o e1 => of_hidT e1, Nat.le_of_eq (hidT_size _ _), trivial, fun b hb => ?_, ok, .of_eq gn⟩
      exact absurd (show b ∈ ([] : List Addr) from hb) List.not_mem_nil
    have run := (F _ kinH (nsH ng) tb).run callerA [] s0 H ⟨[.ref a], []⟩ [.ref a] [.ref a] _ _ room rfl env0 (bind s0 (.ref a)) (.cons rfl .nil) (good H tabH sq)
    refine codeAny_mono run fun res s' hres => ?_
    cases res with
    | error e1 =>
      obtain ⟨_, _, _, _, _, _, _, _, _, _, _, _, z⟩ := hres
      exact z.elim
    | ok fl =>
      cases fl with
      | next => exact False.elim hres
      | brk => exact False.elim hres
      | cont => exact False.elim hres
      | ret v0 =>
        obtain ⟨v, H', e1, e2, un, ok', rel, hv⟩ := hres
        obtain rfl : v = .bl true := hv
        obtain rfl : v0 = Value.bool true := rel
        have kept : ∀ b o, tabMem cs b ≠ true → s0.heap.get? b = some o → s'.heap.get? b = some o := fun b o nt hb => by
          cases hq : H b with
          | none => exact un.keep b o hb hq (fun z => absurd (show b ∈ ([] : List Addr) from z) List.not_mem_nil) List.not_mem_nil
          | some z =>
            rcases look b (by rw [hq]; exact Option.some_ne_none z) with ⟨rfl, q, hu2⟩ | t
            · rcases hu with y | ⟨ob, xs, y⟩
              · exact absurd y q
              · rw [y] at hu2
                have y2 := un.frzs b ob _ hu2
                obtain ⟨f1, _⟩ := ok b _ hu2
                obtain ⟨f2, _⟩ := ok' b _ y2
                rw [hb] at f1; cases f1
                exact f2
            · exact absurd t nt
        have grown : ∀ b, tabMem cs b = true → ∃ more : Array Value, s'.heap.get? b = some (PySem.W.tabObj more) := fun b t => by
          obtain ⟨p, hp, rfl⟩ := tabMem_iff.mp t
          obtain ⟨more, z⟩ := un.tbls p.2 #[] (tabH p hp)
          exact ⟨_, ok' p.2 _ z⟩
        refine ⟨rfl, ⟨fun b o hb => ?_, fun b o hb => ?_⟩, e1, e2⟩
        · by_cases t : tabMem cs b = true
          · obtain ⟨more, hm⟩ := grown b t
            obtain ⟨p, hp, rfl⟩ := tabMem_iff.mp t
            rw [tabs.nil p hp] at hb; cases hb
            exact .inr (.inl ⟨((tabs.hd p hp).tab (tabs.nil p hp)).isCodeTable, rfl, #[], more, rfl, by rw [Array.empty_append]; exact hm⟩)
          · exact .inl (kept b o t hb)
        · by_cases t : tabMem cs b = true
          · obtain ⟨more, hm⟩ := grown b t
            exact ⟨_, hm⟩
          · exact ⟨o, kept b o t hb⟩
  have okT : ∀ u : Option HO, (∀ z, u = some z → ObjOk P w (OneAt a u cs) s0.heap a z) → HOk P w (OneAt a u cs) s0.heap := fun u hu b z e => by
    unfold OneAt at e
    by_cases hb : b = a
    · rw [if_pos hb] at e
      rw [hb]
      exact hu z e
    · rw [if_neg hb] at e
      by_cases t : tabMem cs b = true
      · rw [if_pos t] at e; cases e
        exact tabAt b t
      · rw [if_neg t] at e; cases e
  cases hk : K.lookup a with
  | some o =>
    have e1 := kin a o hk
    rw [at_] at e1
    cases e1
    refine inner none (.inl rfl) (.inr ⟨_, us.toArray, _, hk, rfl, rfl, rfl, ?_, by simpa using rv⟩) (okT none fun z e => by cases e) fun z => absurd rfl z
    rw [List.size_toArray, hlen]; exact hl
  | none =>
    refine inner (some (.frz { cls := .type "list", data := .seq us.toArray } (.lst (ns.map V.int)))) (.inr ⟨_, _, rfl⟩) (.inl (.inr ⟨_, if_pos rfl⟩)) (okT _ fun z e => ?_) fun _ => hk
    cases e
    exact ⟨at_, by rw [List.length_map]; exact hl, us, _, rv, at_⟩
/-- the script as data -/
def scrD (ns : List Int) : D := .nd .scr (ns.map D.int)
end DY

/-! Dict displays, calls by keywords, sorted, sets of rows, walks over tuples in pairs. -/
namespace DY
open PySem PySem.Spec PyProof.Rows L2
section
variable {X : Cx} {cl : ClsT} {W : WX} {pos : Pos} {x : Str} {p p2 apos : Pos} {e o : Expr} {es : List Expr} {fa : SemA} {fo fe : SemE} {F : SemF}
/-! ### {k: v, ..} -/
abbrev SemP := DEnv → Store → Res (List (D × D))
def dPairs : List (SemE × SemE) → SemP
  | [] => fun _ st => .ok [] st
  | (fk, fv) :: r => fun env st => (fk env st).bind fun k st1 => (fv env st1).bind fun v st2 => (dPairs r env st2).bind fun ps st3 => .ok ((k, v) :: ps) st3
structure SPs (X : Cx) (cl : ClsT) (W : WX) (pos : Pos) (keys : List (Option Expr)) (values : List Expr) (fs : List (SemE × SemE)) : Prop where
  run : PPs X pos keys values (fs.map fun q => (rdE ⟨X.K, cl⟩ W q.1, rdE ⟨X.K, cl⟩ W q.2))
theorem sps_nil : SPs X cl W pos [] [] [] := ⟨pps_nil⟩
theorem sps_cons {k v : Expr} {ks : List (Option Expr)} {vs : List Expr} {fk fv : SemE} {fs : List (SemE × SemE)} (hk : SE X cl W k fk) (hv : SE X cl W v fv) (hr : SPs X cl W pos ks vs fs) : SPs X cl W pos (some k :: ks) (v :: vs) ((fk, fv) :: fs) :=
  ⟨pps_cons hk.run hv.run hr.run⟩
def RPs (g : Gd) (Z r : List Addr) (H : Hp) (a : List (D × D)) (b : List (V × V)) : Prop := RepL g Z r H (a.map (·.1)) (b.map (·.1)) ∧ RepL g Z r H (a.map (·.2)) (b.map (·.2))
theorem pairs_rd {Z : List Addr} {sg : L2.St} : ∀ (fs : List (SemE × SemE)) {r : List Addr} {H : Hp} {env : DEnv} {st : Store} {Q : List (V × V) → Hp → Prop}, EnvR ⟨X.K, cl⟩ Z r H env sg → Rl ⟨X.K, cl⟩ Z r H st →
    Post ⟨X.K, cl⟩ Z r H (RPs ⟨X.K, cl⟩ Z) (dPairs fs env st) Q (fun c d H' => W c d sg H') → tPairs (fs.map fun q => (rdE ⟨X.K, cl⟩ W q.1, rdE ⟨X.K, cl⟩ W q.2)) sg H Q
  | [], r, H, env, st, Q, E, R, h => post_ok h R ⟨rfl, rfl⟩
  | (fk, fv) :: fs, r, H, env, st, Q, E, R, h => by
    refine ⟨Z, r, env, st, E, R, Post.bind h fun k st1 r1 H1 kv _ e1 R1 q1 h1 => ?_⟩
    refine ⟨Z, r1, env, st1, E.ext e1, R1, Post.bind h1 fun v st2 r2 H2 vv _ e2 R2 q2 h2 => ?_⟩
    refine pairs_rd fs (E.ext (e1.trans e2)) R2 (Post.bind h2 fun ps st3 r3 H3 ws _ e3 R3 q3 h3 => ?_)
    exact post_ok h3 R3 ⟨⟨_, _, rfl, Rep.ext (e2.trans e3) k q1, q3.1⟩, ⟨_, _, rfl, Rep.ext e3 v q2, q3.2⟩⟩
theorem merge_nd : ∀ (ks acc : List Key) (vs ac : List V), (acc ++ ks).Nodup → acc.length = ac.length → ks.length = vs.length → mergeK (acc.zip ac) (ks.zip vs) = (acc ++ ks).zip (ac ++ vs)
  | [], acc, vs, ac, nd, l1, l2 => by
    cases vs with
    | nil => simp [mergeK]
    | cons v vs => simp at l2
  | k :: ks, acc, vs, ac, nd, l1, l2 => by
    cases vs with
    | nil => simp at l2
    | cons v vs =>
      have hk : k ∉ acc := by
        intro hm
        rw [List.nodup_append] at nd
        exact nd.2.2 k hm k List.mem_cons_self rfl
      show mergeK (putK (acc.zip ac) k v) (ks.zip vs) = _
      rw [putK_zip_new l1 hk]
      have := merge_nd ks (acc ++ [k]) vs (ac ++ [v]) (by simpa [List.append_assoc] using nd) (by simp [l1]) (by simpa using l2)
      simpa [List.append_assoc] using this
theorem zip_maps : ∀ (ks : List Key) (ps : List (V × V)), ps.map (·.1) = ks.map kV → ps = (ks.zip (ps.map (·.2))).map fun kv => (kV kv.1, kv.2)
  | [], ps, h => by
    have : ps = [] := by simpa using h
    subst this; rfl
  | k :: ks, [], h => by simp at h
  | k :: ks, (a, b) :: ps, h => by
    simp at h
    have := zip_maps ks ps h.2
    simp only [List.map_cons, List.zip_cons_cons]
    rw [← this, h.1]
theorem Rl.put {g : Gd} {Z r : List Addr} {H : Hp} {q : Addr} {st : Store} {u : HO} (hu : NX u) (R : Rl g (q :: Z) r H st) (hv : NT u := by first | exact nt_lst | exact nt_dK | exact nt_dT) : Rl g (q :: Z) r (upd H q u) st := by
  have np : ¬ Nin (q :: Z) r q := fun n => n.1 List.mem_cons_self
  have hq : ∀ w, H q = some w → NX w := fun w e => by
    obtain ⟨_, w', e', x⟩ := R.z q List.mem_cons_self
    rw [e'] at e; cases e; exact x.1
  refine ⟨R.len, R.nd, fun a m => ?_, tabs_upd hq R.tb, fun k d e => ?_⟩
  · obtain ⟨n, w, ew, x⟩ := R.z a m
    by_cases ha : a = q
    · subst ha; exact ⟨n, _, upd_same, hu, hv⟩
    · exact ⟨n, w, by rw [upd_ne ha]; exact ew, x⟩
  · obtain ⟨a, ea, t, xs, vs, ed, hm, hx⟩ := R.cell k d e
    have ha : a ≠ q := fun z => (R.z q List.mem_cons_self).1 (z ▸ List.mem_of_getElem? ea)
    exact ⟨a, ea, t, xs, vs, ed, hm.keep (upd_ne ha), RepL.off np _ hx⟩
theorem Rl.keep1 {g : Gd} {Z r : List Addr} {H : Hp} {q : Addr} {st : Store} {u : HO} (hu : NX u) (R : Rl g Z r H st) (hq : H q = none) (hv : NT u := by first | exact nt_lst | exact nt_dK | exact nt_dT) : Rl g (q :: Z) r (upd H q u) st := by
  have R1 := R.new (o := u) hq
  have hpr := R.free hq
  exact ⟨R1.len, R1.nd, fun a m => by
    rcases List.mem_cons.mp m with rfl | m
    · exact ⟨hpr.2, _, upd_same, hu, hv⟩
    · exact R1.z a m, R1.tb, fun k d e => by
    obtain ⟨a, ea, t, xs, vs, ed, hm, hx⟩ := R.cell k d e
    obtain ⟨w, ew⟩ := hm.some
    exact ⟨a, ea, t, xs, vs, ed, hm.keep (upd_ne (ne_of_none ew hq)), RepL.extZ (Ext.new hq).w (fun b hb => by
      rcases List.mem_cons.mp hb with rfl | hb
      · exact .inr hq
      · exact .inl hb) hx⟩⟩
theorem EnvR.keep1 {g : Gd} {Z r : List Addr} {H : Hp} {q : Addr} {env : DEnv} {sg : L2.St} {u : HO} (E : EnvR g Z r H env sg) (hq : H q = none) : EnvR g (q :: Z) r (upd H q u) env sg :=
  ⟨E.len, fun i d h => let ⟨v, a, b⟩ := E.at_ i d h; ⟨v, a, Rep.extZ (Ext.new hq).w (fun b hb => by
      rcases List.mem_cons.mp hb with rfl | hb
      · exact .inr hq
      · exact .inl hb) b⟩⟩
theorem RepX.less {g : Gd} {Z r : List Addr} {H : Hp} {q : Addr} {e : Ex} {c : Value} {d : Option Addr} (h : RepX g (q :: Z) r H e c d) : RepX g Z r H e c d := by
  obtain ⟨h1, h2⟩ := h
  refine ⟨h1, ?_⟩
  rcases h2 with h2 | h2 | ⟨dx, vs, a, b, n, f, g'⟩
  · exact .inl h2
  · exact .inr (.inl h2)
  · exact .inr <| .inr ⟨dx, vs, a, b, ⟨fun m => n.1 (List.mem_cons_of_mem _ m), n.2⟩, f, RepL.less g'⟩
theorem Ext.fresh {r r2 : List Addr} {H H2 : Hp} {q : Addr} {u w : HO} (e : Ext r (upd H q u) r2 H2) (hq : H q = none) : Ext r H r2 (upd H2 q w) :=
  ⟨e.pre, fun a o h t n => by
    have ne := ne_of_none h hq
    obtain ⟨h1, n1⟩ := e.keep a o (by rw [upd_ne ne]; exact h) t n
    exact ⟨by rw [upd_ne ne]; exact h1, n1⟩⟩
/-- a dict that stays, a dict that will be changed -/
def dDict (fs : List (SemE × SemE)) : SemE := fun env st => (dPairs fs env st).bind fun ps st1 => match keys? (ps.map (·.1)) with
  | some ks => if ks.Nodup ∧ ps.length ≤ 15 then .ok (.nd (.dk ks) (ps.map (·.2))) st1 else .no
  | none => .no
def dDictM (fs : List (SemE × SemE)) : SemE := fun env st => (dPairs fs env st).bind fun ps st1 => match keys? (ps.map (·.1)) with
  | some ks => if ks.Nodup ∧ ps.length ≤ 15 then .ok (.h st1.length) (st1 ++ [.nd (.dk ks) (ps.map (·.2))]) else .no
  | none => .no
theorem dict_rd {fs : List (SemE × SemE)} {fin : List Key → List D → Store → Res D} (sg : L2.St) (H : Hp) (Q : VK)
    (hfin : ∀ Z r H q, H q = none → q ∉ Z → ∀ ks xs st2 r2 H2 vs, Ext r H r2 H2 → (ks.length = vs.length ∧ ks.Nodup) → H2 q = some (.dK (ks.zip vs)) → Rl ⟨X.K, cl⟩ (q :: Z) r2 H2 st2 → RepL ⟨X.K, cl⟩ (q :: Z) r2 H2 xs vs → ∀ {W' : Value → Option Addr → Hp → Prop}, Post ⟨X.K, cl⟩ Z r H (RV ⟨X.K, cl⟩ Z) (fin ks xs st2) Q W' → Q (.ref q) H2)
    (h : rdE ⟨X.K, cl⟩ W (fun env st => (dPairs fs env st).bind fun ps st1 => match keys? (ps.map (·.1)) with
      | some ks => if ks.Nodup ∧ ps.length ≤ 15 then fin ks (ps.map (·.2)) st1 else .no
      | none => .no) sg H Q) : tDisp (fs.map fun q => (rdE ⟨X.K, cl⟩ W q.1, rdE ⟨X.K, cl⟩ W q.2)) sg H Q := by
  obtain ⟨Z, r, env, st, E, R, h⟩ := h
  dsimp only at h
  intro q hq
  have hz := (R.free hq).1
  refine pairs_rd (Z := q :: Z) fs (E.keep1 hq) (R.keep1 nx_dK hq) ?_
  cases hp : dPairs fs env st with
  | no => rw [hp] at h; exact h.elim
  | er ex st1 =>
    rw [hp] at h
    exact fun r1 H1 c d e1 R1 q1 => h r1 H1 c d ⟨e1.pre, fun a o ha t n => e1.keep a o (by rw [upd_ne (ne_of_none ha hq)]; exact ha) t n⟩ R1.less q1.less
  | ok ps st1 =>
    rw [hp] at h
    dsimp only [Res.bind] at h
    intro r1 H1 ws e1 R1 q1
    have hd : H1 q = some (.dK []) := (e1.keep q _ upd_same nx_dK.1 (fun z => (R.free hq).2 z)).1
    refine ⟨hd, ?_⟩
    cases hk : keys? (ps.map (·.1)) with
    | none => rw [hk] at h; exact h.elim
    | some ks =>
      rw [hk] at h
      dsimp only at h
      split at h
      · rename_i hc
        have ek := keys_ok hk q1.1
        have l1 : ks.length = (ws.map (·.2)).length := by
          have := congrArg List.length ek
          simpa using this.symm
        have l2 : ps.length = ws.length := by simpa using q1.1.length
        refine ⟨ks.zip (ws.map (·.2)), zip_maps ks ws ek, ?_, ?_⟩
        · rw [List.length_zip, ← l1, Nat.min_self, l1, List.length_map, ← l2]; exact hc.2
        · have em := merge_nd ks [] (ws.map (·.2)) [] (by simpa using hc.1) rfl l1
          simp only [List.nil_append, List.zip_nil_left] at em
          rw [em]
          have np : ¬ Nin (q :: Z) r1 q := fun n => n.1 List.mem_cons_self
          exact hfin Z r H q hq hz ks _ st1 r1 _ _ (e1.fresh hq) ⟨l1, hc.1⟩ upd_same (R1.put nx_dK) (RepL.off np _ q1.2) h
      · exact h.elim
theorem se_dict {keys : List (Option Expr)} {values : List Expr} {fs : List (SemE × SemE)} (h : SPs X cl W pos keys values fs) (hall : keys.all (·.isSome) = true := by rfl) (hl : keys.length = values.length := by rfl) (h0 : keys ≠ [] := by exact List.cons_ne_nil _ _) (h15 : keys.length ≤ 15 := by show (_ : Nat) ≤ 15; decide) :
    SE X cl W (.Dict keys values pos) (dDict fs) :=
  ⟨(pe_disp h.run hall hl h0 h15).imp fun sg H Q h => dict_rd (fin := fun ks xs st => .ok (.nd (.dk ks) xs) st) sg H Q (fun Z r H q hq hz ks xs st2 r2 H2 vs e hl hd R qx {W'} h => h r2 H2 _ e R.less ⟨q, vs, rfl, ⟨⟨hz, (R.z q List.mem_cons_self).1⟩, hl, hd⟩, RepL.less qx⟩) h⟩
theorem se_dictM {keys : List (Option Expr)} {values : List Expr} {fs : List (SemE × SemE)} (h : SPs X cl W pos keys values fs) (hall : keys.all (·.isSome) = true := by rfl) (hl : keys.length = values.length := by rfl) (h0 : keys ≠ [] := by exact List.cons_ne_nil _ _) (h15 : keys.length ≤ 15 := by show (_ : Nat) ≤ 15; decide) :
    SE X cl W (.Dict keys values pos) (dDictM fs) :=
  ⟨(pe_disp h.run hall hl h0 h15).imp fun sg H Q h => dict_rd (fin := fun ks xs st => .ok (.h st.length) (st ++ [D.nd (Hd.dk ks) xs])) sg H Q (fun Z r H q hq hz ks xs st2 r2 H2 vs e hl hd R qx {W'} h =>
    h (r2 ++ [q]) H2 _ (e.adopt hq) (adoptM hz R (show HatM ⟨X.K, cl⟩ H2 q (.dk ks) vs from ⟨hl, hd⟩) qx) ⟨q, rfl, by rw [← R.len]; simp⟩) h⟩

/-! ### calls by keywords alone -/
def pmL {A : Type} (is : List Nat) (xs : List A) : List A := is.filterMap fun i => xs[i]?
theorem pm_vals {vs : List V} {us : List Value} (h : Vals vs us) : ∀ is : List Nat, Vals (pmL is vs) (pmL is us)
  | [] => .nil
  | i :: is => by
    have ih := pm_vals h is
    unfold pmL at ih ⊢
    rw [List.filterMap_cons, List.filterMap_cons]
    cases hv : vs[i]? with
    | none =>
      have : us[i]? = none := List.getElem?_eq_none (by rw [← h.length]; exact List.getElem?_eq_none_iff.mp hv)
      rw [this]; exact ih
    | some v =>
      obtain ⟨u, hu, r⟩ := h.get hv
      rw [hu]; exact .cons r ih
theorem pm_rep {g : Gd} {Z r : List Addr} {H : Hp} {ds : List D} {vs : List V} (h : RepL g Z r H ds vs) : ∀ is : List Nat, RepL g Z r H (pmL is ds) (pmL is vs)
  | [] => rfl
  | i :: is => by
    have ih := pm_rep h is
    unfold pmL at ih ⊢
    rw [List.filterMap_cons, List.filterMap_cons]
    cases hd : ds[i]? with
    | none =>
      have : vs[i]? = none := List.getElem?_eq_none (by rw [← h.length]; exact List.getElem?_eq_none_iff.mp hd)
      rw [this]; exact ih
    | some d =>
      obtain ⟨v, hv, q⟩ := h.get hd
      rw [hv]; exact ⟨v, _, rfl, q, ih⟩
/-- the keywords ks, given in this order, are the parameters' values by is -/
def BindsK (K : PySem.W.Frag) (fd : FuncData) (ps ks : List Str) (is : List Nat) : Prop := ∀ (s : Shared) (ws : List Value), K.In s.heap → ws.length = ks.length → BindsTo s fd ⟨[], ks.zip ws⟩ (ps.zip (pmL is ws))
/-- behind a first value -/
def BindsK1 (K : PySem.W.Frag) (fd : FuncData) (ps ks : List Str) (is : List Nat) : Prop := ∀ (s : Shared) (u : Value) (ws : List Value), K.In s.heap → ws.length = ks.length → BindsTo s fd ⟨[u], ks.zip ws⟩ (ps.zip (u :: pmL is ws))
/-- u, called with the keywords ks, computes F -/
structure CalK (X : Cx) (cl : ClsT) (W : WX) (u : Value) (ks : List Str) (F : SemF) : Prop where
  code : ∀ (pins : List (Addr × Obj)) (s : Shared) (sg : L2.St) (H : Hp) (Q : VK) (vs : List V) (us : List Value), Inv X pins sg H s → Vals vs us → rdC ⟨X.K, cl⟩ W F vs sg H Q → codeAny (model X.prog X.w) X.A (.call u ⟨[], ks.zip us⟩) (RcP X pins sg Q) s
theorem wp_codeK {pins : List (Addr × Obj)} {sg : L2.St} {Q : VK} {s : Shared} {u : Value} {args : Args} (h : codeAny (model X.prog X.w) X.A (.call u args) (RcP X pins sg Q) s) : wpAny (model X.prog X.w) X.A (call u args.pos args.kw) (EP X pins sg Q) X.xe s := by
  refine wpAny_call (codeAny_mono h fun q s' hq => ?_)
  cases q with
  | error e => exact hq
  | ok fl =>
    cases fl with
    | ret u => exact hq
    | next => exact False.elim hq
    | brk => exact False.elim hq
    | cont => exact False.elim hq
structure SK (X : Cx) (cl : ClsT) (W : WX) (kws : List Keyword) (f : SemA) : Prop where
  run : PK X kws (rdA ⟨X.K, cl⟩ W f)
theorem pk_imp {kws : List Keyword} {t t' : TA} (h : PK X kws t) (f : ∀ sg H Q, t' sg H Q → t sg H Q) : PK X kws t' := ⟨fun q pins s sg H Q I z => h.run q pins s sg H Q I (f sg H Q z)⟩
theorem sk_nil : SK X cl W [] dNil := ⟨pk_imp pk_nil fun sg H Q ⟨Z, r, env, st, E, R, h⟩ => post_ok h R rfl⟩
theorem sk_cons {nm : Option Str} {kws : List Keyword} {fr : SemA} (ha : SE X cl W e fe) (hr : SK X cl W kws fr) : SK X cl W (⟨nm, e, p⟩ :: kws) (dCons fe fr) := by
  refine ⟨pk_imp (pk_cons ha.run hr.run) fun sg H Q ⟨Z, r, env, st, E, R, h⟩ => ?_⟩
  refine ⟨Z, r, env, st, E, R, Post.bind h fun x st1 r1 H1 v _ e1 R1 q1 h1 => ?_⟩
  refine ⟨Z, r1, env, st1, E.ext e1, R1, Post.bind h1 fun xs st2 r2 H2 vs _ e2 R2 q2 h2 => ?_⟩
  exact post_ok h2 R2 ⟨v, vs, rfl, Rep.ext e2 x q1, q2⟩
/-- the same function of the arguments as the keywords stand: n of them, for m parameters -/
def kwF (n m : Nat) (is : List Nat) (F : SemF) : SemF := fun ds st => if ds.length = n ∧ is.length = m ∧ (is.all fun i => decide (i < n)) = true then F (pmL is ds) st else .no
end
end DY

/-! Walks over tuples in pairs; sorted; sets of rows. -/
namespace DY
open PySem PySem.Spec PyProof.Rows L2
/-! ### enumerate of a tuple -/
def ItE (K : PySem.W.Frag) (a : Addr) (n : Nat) : It :=
  ⟨fun i H => ∃ (us : List V) (u : V), SqT K H a us ∧ us.length = n ∧ us[i]? = some u,
   fun i H v H' => ∃ T u, v = .ref T ∧ H T = none ∧ H' = upd H T (.tup [.int (i : Nat), u]) ∧ ∀ us, SqT K H a us → us[i]? = some u,
   fun i H => ∃ us : List V, SqT K H a us ∧ us.length = n ∧ n ≤ i⟩
theorem turn_etup {P : Program} {w : World} {K : PySem.W.Frag} {elts : List Expr} {kk : Nat} {tpos : Pos} (a e it : Addr) (n : Nat) :
    Turn P w K (.Tuple elts kk tpos) (ItE K a n) [e, it] e (fun i h => (∃ old, IsEnum h e it ((i : Nat) : Int) old) ∧ h.IsTupleIter it a i ∧ e ≠ it ∧ i ≤ n ∧ a ≠ it ∧ a ≠ e) where
  mem := List.mem_cons_self
  obj := by
    rintro i h ⟨⟨old, he⟩, ⟨o, ho, hc, hd⟩, _⟩ b hb
    have hb' : b = e ∨ b = it := by simpa using hb
    rcases hb' with rfl | rfl
    · exact ⟨_, he, fun v z => nomatch z⟩
    · exact ⟨o, ho, fun v z => by rw [hd] at z; cases z⟩
  keep := by
    rintro i h h' ⟨⟨old, he⟩, hi, hr⟩ k
    exact ⟨⟨old, k e List.mem_cons_self _ he⟩, hi.at fun o q => k it (by simp) o q, hr⟩
  item := by
    rintro X rfl rfl rfl hc i pins s sg H E I hf ⟨⟨old, he⟩, hit, hne, hin, hai, hae⟩ ⟨us, u, hq, hn, hx⟩
    obtain ⟨its, rv, tp, _⟩ := I.tuple hq
    obtain ⟨z, hz, rz⟩ := rv.get hx
    have lt1 : e < s.heap.objs.size := Heap.lt_size he
    have lt2 : it < s.heap.objs.size := by obtain ⟨_, q, _⟩ := id hit; exact Heap.lt_size q
    have hi : i < its.toArray.size := by simpa using (List.getElem?_eq_some_iff.mp hz).1
    have Dr := Draws.tuple (prog := X.prog) (w := X.w) (A := X.A.in1) (I.ok.hd hc) it a hai its.toArray
    refine wpAny_pyNext_enum_itemD Dr he ⟨hit, tp⟩ hi hne (by simp; exact ⟨hne, Ne.symm hae⟩) fun y h1 tk hy ho st1 hT hsz hk => ?_
    have ey : y = z := by
      have h2 : its.toArray[i]? = some z := by simpa using hz
      have h3 : its.toArray[i]? = some y := hy
      rw [h2] at h3; exact (Option.some.inj h3).symm
    subst ey
    refine ⟨_, rfl, wpAny_letOwnedTupleGo_enum (s := { s with heap := h1, toks := tk + 1 }) ho fun h2 he2 sb => ?_⟩
    have hT2 : h2.get? s.heap.objs.size = some { cls := .type "tuple", data := .seq #[.int i tk, y] } := (sb.2 _ (Nat.ne_of_gt lt1)).trans hT
    have new : ObjOk X.prog X.w (upd H s.heap.objs.size (.tup [.int (i : Nat), u])) h2 s.heap.objs.size (.tup [.int (i : Nat), u]) :=
      ⟨by show 2 ≤ sizeLine; decide, [.int i tk, y], .cons ⟨_, rfl⟩ (.cons rz .nil), _, hT2, rfl, _, rfl⟩
    have I1 := I.turnedNew (t' := tk + 1) (ch := [e, it]) (fun b ob hb q => by
      have n1 : b ≠ e := fun z => hb (by simp [z])
      have n2 : b ≠ it := fun z => hb (by simp [z])
      exact (sb.2 b n1).trans (hk b ob n1 n2 q)) hf (Nat.le_refl _) new
    refine ⟨.ref s.heap.objs.size, _, I1, rfl, ⟨_, u, rfl, I.hok.fresh (Nat.le_refl _), rfl, fun ys hy => by rw [I.tuple_inj hy hq]; exact hx⟩, ⟨⟨y, ?_⟩, st1.1.at fun o q => (sb.2 it (Ne.symm hne)).trans q, hne, ?_, hai, hae⟩, fun b hb => ?_⟩
    · have : ((i + 1 : Nat) : Int) = (i : Int) + 1 := by omega
      rw [this]; exact he2
    · have := (List.getElem?_eq_some_iff.mp hx).1
      omega
    · have hb' : b < s.heap.objs.size := by
        have : b = e ∨ b = it := by simpa using hb
        rcases this with rfl | rfl
        · exact lt1
        · exact lt2
      rw [upd_ne (Nat.ne_of_lt hb')]
      exact (hf b hb).1
  done := by
    rintro X rfl rfl rfl hc i pins s sg H E I hf ⟨⟨old, he⟩, hit, hne, hin, hai, hae⟩ ⟨us, hq, hn, hle⟩
    obtain ⟨its, rv, tp, _⟩ := I.tuple hq
    obtain ⟨f0, f1, f2, f3, f4, f5⟩ := hf it (by simp)
    have hl := rv.length
    have hi : i = its.toArray.size := by simp; omega
    have Dr := Draws.tuple (prog := X.prog) (w := X.w) (A := X.A.in1) (I.ok.hd hc) it a hai its.toArray
    refine wpAny_pyNext_enum_endD Dr he ⟨hi ▸ hit, tp⟩ fun h1 eb => ⟨rfl, I.turned (t' := s.toks) (fun b o hb q => eb b o hb q) f0 f1 f3 f4 f5⟩
  self := fun A i s Q E st h => by
    obtain ⟨⟨_, he⟩, _⟩ := st
    exact wpAny_pyIter_enum he h
theorem meets_enum1 {v : Value} {o : Obj} {Ph : Heap → Prop} (B : Begins v o Ph) :
    Meets (Builtin.«enumerate.__new__» ⟨[.type "enumerate", v], []⟩) (fun _ R s => Ph s.heap ∧
      R (.ok (.ret (.ref (s.heap.push o).objs.size))) { s with heap := (s.heap.push o).push { cls := .type "enumerate", data := .fields #[.none, .bool false, .ref s.heap.objs.size, rawInt 0, .none, .none] } }) :=
  .of_wp fun prog w A R s0 hyp => by
    obtain ⟨hp0, g0, d0, t0, o0⟩ := s0
    obtain ⟨ph, goal⟩ := hyp
    have hsub := sub_enumerate
    have it0 : ∀ {A' : Around} {E : Value → Shared → Prop} {Q : Value → Shared → Prop}, Q (.ref hp0.objs.size) ⟨hp0.push o, g0, d0, t0, o0⟩ → wpAny (model prog w) A' (pyIter v) Q E ⟨hp0, g0, d0, t0, o0⟩ :=
      fun q => B.iter prog w _ _ ⟨hp0, g0, d0, t0, o0⟩ _ ph q
    wp_walk using it0
    refine wpAny_stack_any fun sk => wpAny_pure ?_
    split
    · rename_i cc _ _ _ _ _
      cases (cc == Value.type "enumerate") <;> (wp_walk using it0; exact ⟨_, rfl, goal⟩)
    · wp_walk using it0
      exact ⟨_, rfl, goal⟩
theorem enum1_begins {prog : Program} {w : World} {A : Around} {E : Value → Shared → Prop} {s : Shared} {v : Value} {o : Obj} {Ph : Heap → Prop} {Q : Value → Shared → Prop} (B : Begins v o Ph) (ph : Ph s.heap)
    (goal : ∀ h1, IsEnum h1 (s.heap.objs.size + 1) s.heap.objs.size 0 .none → h1.get? s.heap.objs.size = some o → h1.objs.size = s.heap.objs.size + 2 →
      (∀ b u, s.heap.get? b = some u → h1.get? b = some u) → Q (.ref (s.heap.objs.size + 1)) { s with heap := h1 }) :
    wpAny (model prog w) A (call (.type "enumerate") [v]) Q E s := by
  refine callType_new F.called_enumerate (by decide) (F.typeCall_enumerate_1 _) (F.newCall_enumerate_1 _) (fun ob => F.args_object_init_2 ob _) F.entry_enumerate_new (meets_enum1 B) ⟨ph, ?_⟩
  have sz : (s.heap.push o).objs.size = s.heap.objs.size + 1 := Heap.size_push ..
  show _ ∧ _
  rw [sz]
  have en : IsEnum ((s.heap.push o).push { cls := .type "enumerate", data := .fields #[.none, .bool false, .ref s.heap.objs.size, rawInt 0, .none, .none] }) (s.heap.objs.size + 1) s.heap.objs.size 0 .none := by
    have := Heap.get?_push_size (s.heap.push o) (o := { cls := .type "enumerate", data := .fields #[.none, .bool false, .ref s.heap.objs.size, rawInt 0, .none, .none] }) rfl
    rw [sz] at this
    exact this
  exact ⟨⟨_, en, rfl⟩, goal _ en (Heap.get?_push_of_some _ (Heap.get?_push_size _ B.free)) (by rw [Heap.size_push, sz]) fun b u q => Heap.get?_push_of_some _ (Heap.get?_push_of_some _ q)⟩
section
variable {X : Cx} {cl : ClsT} {W : WX} {pos : Pos} {x : Str} {p p2 apos : Pos} {e o : Expr} {es : List Expr} {fa : SemA} {fo fe : SemE} {F : SemF}
def iEtup (K : PySem.W.Frag) (ta : TA) : TI := fun sg H R => ta sg H fun vs H1 => ∃ a us, vs = [.ref a] ∧ SqT K H1 a us ∧ R (ItE K a us.length) H1
theorem pi_etup {elts : List Expr} {kk : Nat} {tpos : Pos} {ta : TA} (hg : Gl X "enumerate") (hm : X.mg "enumerate" = none) (ha : PA X [e] ta) (hs : starEach [e] X.env = [(false, eval e X.env)] := by rfl) :
    PI X (.Tuple elts kk tpos) (.Call (.Name "enumerate" p) [e] [] pos) (iEtup X.K ta) := by
  refine ⟨fun pins s sg H R I h => ?_⟩
  refine Call_ (ld_blt I hg hm boot_enumerate (PyProof.Rows.callWith_type1 (thn (ha.run pos pins s sg H _ I h) fun us s1 ⟨vs, H1, I1, r1, a, ys, ev, hq, q⟩ => ?_) hs rfl))
  subst ev
  obtain ⟨u, rfl, ru⟩ := vals1 r1
  obtain rfl : u = Value.ref a := ru
  obtain ⟨its, rv, tp, _⟩ := I1.tuple hq
  have la : a < s1.heap.objs.size := by obtain ⟨o, q, _⟩ := tp; exact Heap.lt_size q
  refine enum1_begins (begins_tuple a its.toArray) tp fun h1 en hit sz hk => wpAny_pyIter_enum en ?_
  refine ⟨s1.heap.objs.size + 1, [s1.heap.objs.size + 1, s1.heap.objs.size], _, _, H1, rfl, I1.kept (t' := s1.toks) hk, turn_etup a (s1.heap.objs.size + 1) s1.heap.objs.size ys.length,
    ⟨⟨.none, en⟩, ⟨_, hit, rfl, rfl⟩, Nat.succ_ne_self _, Nat.zero_le _, Nat.ne_of_lt la, Nat.ne_of_lt (Nat.lt_succ_of_lt la)⟩, fun b hb => ?_, q⟩
  have hle : s1.heap.objs.size ≤ b := by
    have : b = s1.heap.objs.size + 1 ∨ b = s1.heap.objs.size := by simpa using hb
    rcases this with rfl | rfl
    · exact Nat.le_succ _
    · exact Nat.le_refl _
  exact I1.fpOk hle (I1.hok.fresh hle)
/-- enumerate of a list or a tuple -/
def iEnum2 (f : SemA) : SemI := fun env st => (f env st).bind fun ds st1 => match ds with
  | [x] => match lst? st1 x with
    | some xs => .ok ⟨enuFrom 0 xs, fun st2 => lst? st2 x = some xs⟩ st1
    | none => match tup? st1 x with
      | some xs => .ok ⟨enuFrom 0 xs, fun st2 => tup? st2 x = some xs⟩ st1
      | none => .no
  | _ => .no
theorem it_etup {g : Gd} {Z r : List Addr} {H : Hp} {x : D} {a : Addr} {xs : List D} (h : Rep g Z r H x (.ref a)) : ItOk g Z r H ⟨enuFrom 0 xs, fun st2 => tup? st2 x = some xs⟩ (ItE g.K a xs.length) := by
  intro Z1 r1 H1 st1 i e z R1 hc
  obtain ⟨b, vs, e1, q, s⟩ := tup_ok R1 (Rep.extZ e z h) hc
  cases e1
  refine ⟨fun d hd => ?_, fun hl => ⟨vs, s, q.length.symm, by simpa [enu_len] using hl⟩⟩
  dsimp only at hd
  rw [enu_get] at hd
  cases hx : xs[i]? with
  | none => rw [hx] at hd; cases hd
  | some c =>
    rw [hx] at hd
    cases hd
    obtain ⟨v, hv, qv⟩ := q.get hx
    refine ⟨⟨vs, v, s, q.length.symm, hv⟩, fun y H2 hy => ?_⟩
    obtain ⟨T, w, rfl, hT, rfl, hw⟩ := hy
    have := hw vs s
    rw [hv] at this; cases this
    refine ⟨Ext.new hT, R1.new hT, ?_⟩
    exact new_tup (vs := [.int (i : Nat), v]) (xs := [.int ((0 + i : Nat) : Int), c]) R1 ⟨_, _, rfl, by simp [Rep], _, _, rfl, qv, rfl⟩ hT
theorem si_enum2 {elts : List Expr} {kk : Nat} {tpos : Pos} {f : SemA} (hm : X.mg "enumerate" = none) (ha : SA X cl W [e] f) (hg : Gl X "enumerate" := by rfl) (hs : starEach [e] X.env = [(false, eval e X.env)] := by rfl) :
    SI X cl W (.Tuple elts kk tpos) (.Call (.Name "enumerate" p) [e] [] pos) (iEnum2 f) := by
  refine ⟨((pi_enum hg hm ha.run hs).or (pi_etup hg hm ha.run hs)).imp fun sg H Q ⟨Z, r, env, st, En, R, h⟩ => ?_⟩
  dsimp only [iEnum2] at h
  cases hf : f env st with
  | no => rw [hf] at h; exact h.elim
  | er x st1 => rw [hf] at h; exact .inl ⟨Z, r, env, st, En, R, by rw [hf]; exact h⟩
  | ok ds st1 =>
    rw [hf] at h
    dsimp only [Res.bind] at h
    split at h
    · rename_i x
      cases hl : lst? st1 x with
      | some xs =>
        rw [hl] at h
        refine .inl ⟨Z, r, env, st, En, R, ?_⟩
        rw [hf]
        rintro r1 H1 vs e1 R1 ⟨v, q, rfl, a1, rfl⟩
        obtain ⟨a, us, rfl, q, s⟩ := lst_ok R1 a1 hl
        exact ⟨a, us, rfl, s, h r1 H1 _ e1 R1 (it_enu a1)⟩
      | none =>
        rw [hl] at h
        dsimp only at h
        cases ht : tup? st1 x with
        | some xs =>
          rw [ht] at h
          refine .inr ⟨Z, r, env, st, En, R, ?_⟩
          rw [hf]
          rintro r1 H1 vs e1 R1 ⟨v, q, rfl, a1, rfl⟩
          obtain ⟨a, us, rfl, q, s⟩ := tup_ok R1 a1 ht
          refine ⟨a, us, rfl, s, ?_⟩
          rw [← q.length]
          exact h r1 H1 _ e1 R1 (it_etup a1)
        | none => rw [ht] at h; exact h.elim
    · exact h.elim

/-! ### zip of two lists or of two tuples -/
def iZip2 (f : SemA) : SemI := fun env st => (f env st).bind fun ds st1 => match ds with
  | [x, y] => match lst? st1 x, lst? st1 y with
    | some xs, some ys => .ok ⟨zipD xs ys, fun st2 => lst? st2 x = some xs ∧ lst? st2 y = some ys⟩ st1
    | _, _ => match tup? st1 x, tup? st1 y with
      | some xs, some ys => .ok ⟨zipD xs ys, fun st2 => tup? st2 x = some xs ∧ tup? st2 y = some ys⟩ st1
      | _, _ => .no
  | _ => .no
end
end DY

/-! sorted of data; sorted(set(..)) of rows of ints. -/
namespace DY
open PySem PySem.Spec PyProof.Rows L2
section
variable {X : Cx} {cl : ClsT} {W : WX} {pos : Pos} {x : Str} {p p2 p3 apos : Pos} {e o : Expr} {es : List Expr} {fa : SemA} {fo fe : SemE} {F : SemF}
/-! ### sorted(xs) -/
def encD (st : Store) (d : D) : PyData := (toP deepP st d).getD .none
def sortOk (st : Store) (xs : List D) : Prop := (∀ d ∈ xs, (∃ q, toP deepP st d = some q) ∧ (encD st d).depth ≤ 60) ∧ PySem.W.AllAlike (xs.map (encD st)) ∧ PySem.W.Sortable (xs.map (encD st))
def sortD (st : Store) (xs : List D) : List D := xs.mergeSort (PySem.W.dataLe false (encD st))
noncomputable def dSorted : SemF := fun ds st => match ds with
  | [x] => match lst? st x with
    | some xs => open Classical in if sortOk st xs then .ok (.nd .lst (sortD st xs)) st else .no
    | none => .no
  | _ => .no
theorem each_of {g : Gd} {Z r : List Addr} {H : Hp} : ∀ {xs : List D} {vs : List V} {us : List Value}, RepL g Z r H xs vs → Vals vs us → PySem.W.EachIs (fun (u : Value) (d : D) => ∃ v, RelV v u ∧ Rep g Z r H d v) us xs
  | [], _, us, h, q => by cases h; cases q; exact .nil
  | d :: ds, _, us, h, q => by
    obtain ⟨v, w, rfl, h1, h2⟩ := h
    cases q with
    | cons a b => exact .cons ⟨v, a, h1⟩ (each_of h2 b)
theorem of_each {g : Gd} {Z r : List Addr} {H : Hp} : ∀ {xs : List D} {us : List Value}, PySem.W.EachIs (fun (u : Value) (d : D) => ∃ v, RelV v u ∧ Rep g Z r H d v) us xs → ∃ vs, RepL g Z r H xs vs ∧ Vals vs us
  | [], _, .nil => ⟨[], rfl, .nil⟩
  | d :: ds, _, .cons ⟨v, a, b⟩ h => by
    obtain ⟨vs, h1, h2⟩ := of_each h
    exact ⟨v :: vs, ⟨v, vs, rfl, b, h1⟩, .cons a h2⟩
theorem each_mem {A B : Type} {R S : A → B → Prop} : ∀ {as : List A} {bs : List B}, PySem.W.EachIs R as bs → (∀ a b, b ∈ bs → R a b → S a b) → PySem.W.EachIs S as bs
  | _, _, .nil, _ => .nil
  | _, _, .cons a h, f => .cons (f _ _ List.mem_cons_self a) (each_mem h fun x y m => f x y (List.mem_cons_of_mem _ m))
def rSortD (cl : ClsT) (K : PySem.W.Frag) : List V → Hp → VK → Prop := fun vs H Q => ∃ Z r st a xs us, Rl ⟨K, cl⟩ Z r H st ∧ vs = [V.ref a] ∧ SqL K H a us ∧ RepL ⟨K, cl⟩ Z r H xs us ∧ sortOk st xs ∧
  ∀ q ws, H q = none → RepL ⟨K, cl⟩ Z r H (sortD st xs) ws → Q (.ref q) (upd H q (.lst ws))
theorem cr_sortD (hu : X.A.units + 64 < cLine) : CallR X (.builtin "sorted") (rSortD cl X.K) := by
  intro pins s sg H vs us Q I rv0 h
  obtain ⟨Z, r, st, a, xs, ys, R, rfl, sq, rx, ok, q⟩ := h
  rw [Vals.ref1 rv0]
  obtain ⟨its, rv, pl, hz⟩ := I.list sq
  have e0 := each_of rx rv
  have hlen := rx.length
  refine PySem.W.sorted_data (R := fun (u : Value) (d : D) => ∃ v, RelV v u ∧ Rep ⟨X.K, cl⟩ Z r H d v) (enc := encD st) pl.isList e0 (each_mem e0 fun u d m ⟨v, r1, r2⟩ => ?_) ok.2.1 ok.2.2 (by rw [hlen]; exact hz) (fun d m => ?_) fun out ho eo => ?_
  · obtain ⟨⟨w, hw⟩, _⟩ := ok.1 d m
    have : encD st d = w := by unfold encD; rw [hw]; rfl
    rw [this]
    exact Dp.reads I w v u (toP_ok R _ _ hw r2) r1
  · have := (ok.1 d m).2
    omega
  · obtain ⟨ws, h1, h2⟩ := of_each eo
    obtain ⟨ep, he⟩ := PyProof.Rows.sortedAll_at s.heap its out.toArray
    have hl2 : ws.length ≤ sizeLine := by rw [h2.length, ho, hlen]; exact hz
    exact ⟨.ref _, upd H (s.heap.objs.size + 1) (.lst ws), I.laid (t' := s.toks) (fun _ _ => PyProof.Rows.sortedAll_old) (Nat.le_succ _) ⟨hl2, out, ep, h2, he⟩, rfl, q _ ws (I.hok.fresh (Nat.le_succ _)) h1⟩
theorem cs_sorted (hu : X.A.units + 64 < cLine) : CS X cl (.builtin "sorted") dSorted := by
  refine ⟨_, cr_sortD (cl := cl) hu, fun {Z r H st ds vs Q W'} R qd h => ?_⟩
  unfold dSorted at h
  split at h
  · rename_i d
    obtain ⟨v, q, rfl, a1, rfl⟩ := qd
    split at h
    · rename_i xs hs
      split at h
      · rename_i ok
        obtain ⟨a, us, rfl, q, sq⟩ := lst_ok R a1 hs
        exact ⟨Z, r, st, a, xs, us, R, rfl, sq, q, ok, fun q' ws hq hw => h r _ _ (Ext.new hq) (R.new hq) (new_lst R hw hq)⟩
      · exact h.elim
    · exact h.elim
  · exact h.elim
/-! ### sorted(set(rows)) -/
def lexB : List Int → List Int → Bool
  | [], [] => false
  | [], _ :: _ => true
  | _ :: _, [] => false
  | a :: as, b :: bs => decide (a < b) || (decide (a = b) && lexB as bs)
/-- rows of ints -/
def rows? : List D → Option (List (List Int))
  | [] => some []
  | .nd .tup zs :: ds => match ints? zs, rows? ds with
    | some z, some r => some (z :: r)
    | _, _ => none
  | _ => none
def rowD (z : List Int) : D := .nd .tup (z.map D.int)
theorem ints_back {zs : List D} : ∀ {is : List Int}, ints? zs = some is → zs = is.map D.int := by
  induction zs with
  | nil => intro is e; cases e; rfl
  | cons d ds ih =>
    intro is e
    cases d with
    | int i =>
      simp only [ints?] at e
      split at e
      · rename_i js e1; cases e; rw [ih e1]; rfl
      · cases e
    | non => cases e
    | bl b => cases e
    | str s => cases e
    | h k => cases e
    | ty z => cases e
    | nd t xs => cases e
theorem rows_ok {g : Gd} {Z r : List Addr} {H : Hp} : ∀ {ds : List D} {vs : List V} {zs : List (List Int)}, rows? ds = some zs → RepL g Z r H ds vs → ∃ ks : List (Addr × List Int), vs = ks.map (fun q => V.ref q.1) ∧ ks.map (·.2) = zs ∧ ∀ q ∈ ks, SqT g.K H q.1 (q.2.map V.int) ∧ Rep g Z r H (rowD q.2) (.ref q.1)
  | [], _, _, e, h => by cases e; cases (show _ = [] from h); exact ⟨[], rfl, rfl, by simp⟩
  | .nd .tup ys :: ds, _, zs, e, h => by
    simp only [rows?] at e
    split at e
    · rename_i z rr e1 e2
      cases e
      obtain ⟨v, w, rfl, h1, h2⟩ := h
      obtain ⟨ks, rfl, rfl, h3⟩ := rows_ok e2 h2
      have := ints_back e1
      subst this
      obtain ⟨a, us, rfl, h4, h5⟩ := id h1
      have hu := ints_ok e1 h5
      subst hu
      refine ⟨(a, z) :: ks, rfl, rfl, fun q hq => ?_⟩
      rcases List.mem_cons.mp hq with rfl | hq
      · exact ⟨Hat.tup h4, h1⟩
      · exact h3 q hq
    · cases e
  | .non :: _, _, _, e, _ => by cases e
  | .bl _ :: _, _, _, e, _ => by cases e
  | .int _ :: _, _, _, e, _ => by cases e
  | .str _ :: _, _, _, e, _ => by cases e
  | .h _ :: _, _, _, e, _ => by cases e
  | .nd .lst _ :: _, _, _, e, _ => by cases e
  | .nd .scr _ :: _, _, _, e, _ => by cases e
  | .nd .ktp _ :: _, _, _, e, _ => by cases e
  | .nd (.dk _) _ :: _, _, _, e, _ => by cases e
  | .nd (.dt _) _ :: _, _, _, e, _ => by cases e
  | .nd (.ins _ _) _ :: _, _, _, e, _ => by cases e
end
end DY

/-! What the printed texts want besides. -/
namespace DY
open PySem PySem.Spec PyProof.Rows L2
/-- a body computes what it is said to compute, wherever it is called -/
def BodyOk (P : Program) (w : World) (K : PySem.W.Frag) (mg : Str → Option Value) (base : Heap) (cl : ClsT) (k : Nat) (N : List Str) (qual : Str) (st : Stmt) (body : SemS) : Prop :=
  ∀ (f : Addr) (cdv : Value) (A : Around) (outer : List Env) (s : Shared) (H : Hp) (E : XK), Room (k + 1) (A.deeper (envOfC qual (defScope st) s.heap.objs.size f cdv)) → A.guards = some [] →
    SB (cxOf (L2.CX P w) P w K mg base N qual (defScope st) f cdv A outer s H E) cl (fun c d _ H' => E c d H') (defBody st) body
section
variable {P : Program} {w : World} {K : PySem.W.Frag} {mg : Str → Option Value} {base : Heap} {cl : ClsT} {fa : Nat → Addr}
theorem BodyOk.fn {k : Nat} {N ps : List Str} {x qual : Str} {st : Stmt} {f : Addr} {fd : FuncData} {body : SemS} (h : BodyOk P w K mg base cl k N qual st body) (F : Fun K x qual st f fd) (S : FnScope N ps (defScope st)) :
    FnG P w K mg base (k + 2) f fd ps (spF ⟨K, cl⟩ ps.length (runB N.length body)) :=
  fnG_of F S fun cdv A outer s H E hr hg _ => h f cdv A outer s H E hr hg
end
/-- a comprehension's names -/
def blkB (N : List Str) (sc scope : Scope) (own : List (Str × Nat)) : Bool :=
  decide (scope.kind = .function) && (scope.names.all fun y => decide (scope.names.lookup y.1 = some y.2)) && (own.all fun q => decide (N[q.2]? = some q.1)) &&
    (scope.names.all fun y => decide (y.2 = .free → sc.names.lookup y.1 = some .cell ∨ sc.names.lookup y.1 = some .free)) &&
    (scope.names.all fun y => decide (y.2 = .local ∨ y.2 = .cell → y.1 ∈ own.map (·.1) ∨ y.1 ∉ N))
theorem blk_ok {N N0 : List Str} {sc sc0 scope : Scope} {own : List (Str × Nat)} (h1 : N = N0) (h2 : sc = sc0) (h : blkB N0 sc0 scope own = true) : BlkOk N sc scope own := by
  subst h1 h2
  simp only [blkB, Bool.and_eq_true, decide_eq_true_eq, List.all_eq_true] at h
  obtain ⟨⟨⟨⟨a, b⟩, c⟩, d⟩, e⟩ := h
  exact ⟨a, b, c, d, e⟩
section
variable {X : Cx} {cl : ClsT} {fa : Nat → Addr} {fd : Nat → FuncData} {ps : Nat → List Str} {n k : Nat} {c : Nat → SemF} {W : WX} {pos p p2 apos : Pos} {x m : Str} {a b e o : Expr} {es : List Expr} {fs : SemA} {fo fe : SemE}
/-- a module's whole number -/
theorem se_gint (i : Int) (hm : ∃ t, X.mg x = some (.int i t)) (hg : Gl X x := by rfl) (hdb : (x == ("__debug__" : Str)) = false := by decide +kernel) : SE X cl W (.Name x pos) (dConst (.int i)) := by
  obtain ⟨t, hm⟩ := hm
  exact se_glob (v := .int i) hg hm ⟨t, rfl⟩ (fun _ _ _ => rfl) hdb
/-! ### is True, is not True -/
def dIsB : D → D → Store → Res D := fun x y st => match x, y with
  | .bl i, .bl j => .ok (.bl (decide (i = j))) st
  | _, _ => .no
def dNotB : D → D → Store → Res D := fun x y st => match x, y with
  | .bl i, .bl j => .ok (.bl (!decide (i = j))) st
  | _, _ => .no
/-! ### a slice that will be changed -/
def dCutM (x : D) (lo hi : Option Int) (st : Store) : Res D :=
  match lst? st x with
  | some xs => .ok (.h st.length) (st ++ [.nd .lst (cutD xs lo hi)])
  | none => .no
def dSliceM (fa : SemE) (fl fh : SemO) : SemE := fun env st => (fa env st).bind fun x st1 => (fl env st1).bind fun lo st2 => (fh env st2).bind fun hi st3 => dCutM x lo hi st3
end
/-! ### a def that hands out a new thing of its own; all else that it made is frozen -/
def frzX : Nat → Nat → Nat → Store → D → Option D
  | 0, n0, _, _, d => frzG n0 (fun _ => none) d
  | m + 1, n0, k0, st, d => frzG n0 (fun k => if k = k0 then none else match st[k]? with
    | some c => frzX m n0 k0 st c
    | none => none) d
def frzXL : Nat → Nat → Nat → Store → List D → Option (List D)
  | _, _, _, _, [] => some []
  | m, n0, k0, st, d :: ds => match frzX m n0 k0 st d, frzXL m n0 k0 st ds with
    | some e, some es => some (e :: es)
    | _, _ => none
noncomputable def frzH (F : SemF) : SemF := fun ds st => open Classical in match F ds st with
  | .ok (.h k) st' => if CellsOk st st' ∧ st.length ≤ k then (match st'[k]? with
    | some (.nd t xs) => match frzXL 5 st.length k st' xs with
      | some ys => .ok (.h st.length) (st'.take st.length ++ [.nd t ys])
      | none => .no
    | _ => .no) else .no
  | .ok _ _ => .no
  | .er e st' => if CellsOk st st' then (match frzL 5 st.length st' e.xs with
    | some xs => .er ⟨e.c, e.ns, xs⟩ (st'.take st.length)
    | none => .no) else .no
  | .no => .no
section
variable {g : Gd} {Z r q r1 : List Addr} {H : Hp} {st : Store}
mutual
theorem Rep.lowA (hn : ∀ x, Nin Z (r ++ q) x → Nin Z r1 x) (hl : ∀ k x, k < r.length → (r ++ q)[k]? = some x → r1[k]? = some x) : ∀ (d : D) {v : V}, hdB r.length d = true → Rep g Z (r ++ q) H d v → Rep g Z r1 H d v
  | .h k, _, b, h => by
    obtain ⟨a, e, e2⟩ := h
    exact ⟨a, e, hl k a (by simpa [hdB] using b) e2⟩
  | .nd t xs, _, b, h => by
    obtain ⟨a, vs, e, h1, h2⟩ := h
    exact ⟨a, vs, e, h1.turn fun a n _ => hn a n, RepL.lowA hn hl xs (by simpa [hdB] using b) h2⟩
  | .non, _, _, h => h
  | .bl _, _, _, h => h
  | .int _, _, _, h => h
  | .str _, _, _, h => h
  | .ty _, _, _, h => h
theorem RepL.lowA (hn : ∀ x, Nin Z (r ++ q) x → Nin Z r1 x) (hl : ∀ k x, k < r.length → (r ++ q)[k]? = some x → r1[k]? = some x) : ∀ (ds : List D) {vs : List V}, hdBL r.length ds = true → RepL g Z (r ++ q) H ds vs → RepL g Z r1 H ds vs
  | [], _, _, h => h
  | d :: ds, _, b, h => by
    obtain ⟨v, w, e, h1, h2⟩ := h
    simp only [hdBL, Bool.and_eq_true] at b
    exact ⟨v, w, e, Rep.lowA hn hl d b.1 h1, RepL.lowA hn hl ds b.2 h2⟩
end
mutual
theorem frzG_okA (hn : ∀ x, Nin Z (r ++ q) x → Nin Z r1 x) (hl : ∀ k x, k < r.length → (r ++ q)[k]? = some x → r1[k]? = some x) {dr : Nat → Option D} (hd : ∀ k d v, r.length ≤ k → dr k = some d → Rep g Z (r ++ q) H (.h k) v → Rep g Z r1 H d v) : ∀ (d : D) {d' : D} {v : V}, frzG r.length dr d = some d' → Rep g Z (r ++ q) H d v → Rep g Z r1 H d' v
  | .h k, d', v, e, h => by
    simp only [frzG] at e
    split at e
    · rename_i hk
      cases e
      exact Rep.lowA hn hl (.h k) (by simpa [hdB] using hk) h
    · rename_i hk
      exact hd k d' v (by omega) e h
  | .nd t xs, d', v, e, h => by
    simp only [frzG] at e
    split at e
    · rename_i ys e1
      cases e
      obtain ⟨a, vs, e2, h1, h2⟩ := h
      exact ⟨a, vs, e2, h1.turn fun a n _ => hn a n, frzGL_okA hn hl hd xs e1 h2⟩
    · cases e
  | .non, _, _, e, h => by cases e; exact h
  | .bl _, _, _, e, h => by cases e; exact h
  | .int _, _, _, e, h => by cases e; exact h
  | .str _, _, _, e, h => by cases e; exact h
  | .ty _, _, _, e, h => by cases e; exact h
theorem frzGL_okA (hn : ∀ x, Nin Z (r ++ q) x → Nin Z r1 x) (hl : ∀ k x, k < r.length → (r ++ q)[k]? = some x → r1[k]? = some x) {dr : Nat → Option D} (hd : ∀ k d v, r.length ≤ k → dr k = some d → Rep g Z (r ++ q) H (.h k) v → Rep g Z r1 H d v) : ∀ (ds : List D) {es : List D} {vs : List V}, frzGL r.length dr ds = some es → RepL g Z (r ++ q) H ds vs → RepL g Z r1 H es vs
  | [], _, _, e, h => by cases e; exact h
  | d :: ds, _, _, e, h => by
    simp only [frzGL] at e
    split at e
    · rename_i e' es e1 e2
      cases e
      obtain ⟨v, w, e3, h1, h2⟩ := h
      exact ⟨v, w, e3, frzG_okA hn hl hd d e1 h1, frzGL_okA hn hl hd ds e2 h2⟩
    · cases e
end
section
variable {a0 : Addr} {k0 : Nat}
theorem frzX_ok (R : Rl g Z (r ++ q) H st) (h0 : (r ++ q)[k0]? = some a0) (hk0 : r.length ≤ k0) : ∀ (m : Nat) (d : D) {d' : D} {v : V}, frzX m r.length k0 st d = some d' → Rep g Z (r ++ q) H d v → Rep g Z (r ++ [a0]) H d' v := by
  have hn : ∀ x, Nin Z (r ++ q) x → Nin Z (r ++ [a0]) x := fun x n => ⟨n.1, fun m => by
    rcases List.mem_append.mp m with m | m
    · exact n.2 (List.mem_append_left _ m)
    · simp at m; subst m; exact n.2 (List.mem_of_getElem? h0)⟩
  have hl : ∀ k x, k < r.length → (r ++ q)[k]? = some x → (r ++ [a0])[k]? = some x := fun k x hk e => by
    rw [List.getElem?_append_left hk] at e ⊢; exact e
  have cell : ∀ {dr : Nat → Option D}, (∀ k d v, r.length ≤ k → dr k = some d → Rep g Z (r ++ q) H (.h k) v → Rep g Z (r ++ [a0]) H d v) → ∀ {k : Nat} {c d : D} {v : V}, r.length ≤ k → k ≠ k0 → st[k]? = some c → frzG r.length dr c = some d → Rep g Z (r ++ q) H (.h k) v → Rep g Z (r ++ [a0]) H d v := by
    intro dr hd k c d v hk hne hc e h
    obtain ⟨a, rfl, e2⟩ := h
    obtain ⟨b, eb, t, xs, vs, rfl, hm, hx⟩ := R.cell k c hc
    rw [e2] at eb; cases eb
    simp only [frzG] at e
    split at e
    · rename_i ys e1
      cases e
      have ha : a ∈ r ++ q := List.mem_of_getElem? e2
      have uniq : ∀ j, (r ++ q)[j]? = some a → j = k := fun j ej => by
        obtain ⟨h1, e1⟩ := List.getElem?_eq_some_iff.mp e2
        obtain ⟨h2, e2⟩ := List.getElem?_eq_some_iff.mp ej
        exact (List.getElem_inj R.nd).mp (e2.trans e1.symm)
      have n : Nin Z (r ++ [a0]) a := by
        refine ⟨fun m => (R.z a m).1 ha, fun m => ?_⟩
        rcases List.mem_append.mp m with m | m
        · obtain ⟨j, hj, ej⟩ := List.getElem_of_mem m
          have := uniq j (by rw [List.getElem?_append_left hj, List.getElem?_eq_getElem hj, ej])
          omega
        · simp at m; subst m
          exact hne (uniq k0 h0).symm
      exact ⟨a, vs, rfl, hm.frozen n, frzGL_okA hn hl hd xs e1 hx⟩
    · cases e
  intro m
  induction m with
  | zero => exact fun d d' v e h => frzG_okA hn hl (fun k d v _ e _ => by cases e) d e h
  | succ m ih =>
    intro d d' v e h
    refine frzG_okA hn hl (fun k d1 v1 hk e1 h1 => ?_) d e h
    split at e1
    · cases e1
    · rename_i hne
      cases hc : st[k]? with
      | none => rw [hc] at e1; cases e1
      | some c =>
        rw [hc] at e1
        cases m with
        | zero => exact cell (fun k d v _ e _ => by cases e) hk hne hc e1 h1
        | succ m =>
          refine cell (fun k d v hk e h => ?_) hk hne hc e1 h1
          refine ih (.h k) ?_ h
          show frzG _ _ (.h k) = _
          simp only [frzG]
          rw [if_neg (by omega)]
          exact e
theorem frzXL_ok (R : Rl g Z (r ++ q) H st) (h0 : (r ++ q)[k0]? = some a0) (hk0 : r.length ≤ k0) (m : Nat) : ∀ (ds : List D) {es : List D} {vs : List V}, frzXL m r.length k0 st ds = some es → RepL g Z (r ++ q) H ds vs → RepL g Z (r ++ [a0]) H es vs
  | [], _, _, e, h => by cases m <;> (cases e; exact h)
  | d :: ds, _, _, e, h => by
    simp only [frzXL] at e
    split at e
    · rename_i e' es e1 e2
      cases e
      obtain ⟨v, w, e3, h1, h2⟩ := h
      exact ⟨v, w, e3, frzX_ok R h0 hk0 m d e1 h1, frzXL_ok R h0 hk0 m ds e2 h2⟩
    · cases e
end
theorem frzH_post {F : SemF} {ds : List D} {Q : VK} {E : XK} (R0 : Rl g Z r H st) (h : Post g Z r H (RV g Z) (frzH F ds st) Q E) : Post g Z r H (RV g Z) (F ds st) Q E := by
  have old : (∀ d st', F ds st ≠ .ok d st') → Post g Z r H (RV g Z) (frzF F ds st) Q E → Post g Z r H (RV g Z) (F ds st) Q E := fun _ q => frz_post R0 q
  unfold frzH at h
  cases hF : F ds st with
  | ok d st' =>
    rw [hF] at h
    cases d with
    | h k =>
      dsimp only at h
      split at h
      · rename_i hc
        split at h
        · rename_i t xs hcell
          split at h
          · rename_i ys hys
            intro r' H' v e R qv
            obtain ⟨q, rfl⟩ := e.pre
            obtain ⟨a0, rfl, ea⟩ := qv
            obtain ⟨b, eb, t', xs', vs, ed, hm, hx⟩ := R.cell k _ hcell
            cases ed
            rw [ea] at eb; cases eb
            have hk0 : r.length ≤ k := by rw [R0.len]; exact hc.2
            rw [← R0.len] at hys
            have qx := frzXL_ok R ea hk0 5 xs hys hx
            have ha : a0 ∈ r ++ q := List.mem_of_getElem? ea
            have a0r : a0 ∉ r := fun m => by
              obtain ⟨j, hj, ej⟩ := List.getElem_of_mem m
              obtain ⟨h1, e1⟩ := List.getElem?_eq_some_iff.mp ea
              have h2 : j < (r ++ q).length := by simp; omega
              have : (r ++ q)[j] = (r ++ q)[k] := by rw [e1, List.getElem_append_left hj]; exact ej
              have := (List.getElem_inj R.nd).mp this
              omega
            have hn : ∀ x, Nin Z (r ++ q) x → Nin Z (r ++ [a0]) x := fun x n => ⟨n.1, fun m => by
              rcases List.mem_append.mp m with m | m
              · exact n.2 (List.mem_append_left _ m)
              · simp at m; subst m; exact n.2 ha⟩
            have hl : ∀ k x, k < r.length → (r ++ q)[k]? = some x → (r ++ [a0])[k]? = some x := fun k x hk e => by
              rw [List.getElem?_append_left hk] at e ⊢; exact e
            have hlen : st.length ≤ st'.length := hc.1.1
            have tk : (st'.take st.length).length = r.length := by rw [List.length_take, R0.len]; omega
            refine h (r ++ [a0]) H' (.ref a0) ⟨⟨[a0], rfl⟩, fun x o hx t n => ?_⟩ ⟨?_, ?_, fun b m => ?_, R.tb, fun j d e => ?_⟩ ⟨a0, rfl, ?_⟩
            · obtain ⟨h1, n1⟩ := e.keep x o hx t n
              refine ⟨h1, fun m => ?_⟩
              rcases List.mem_append.mp m with m | m
              · exact n m
              · simp at m; subst m; exact n1 ha
            · simp [tk]
            · refine List.nodup_append.mpr ⟨(List.nodup_append.mp R.nd).1, by simp, ?_⟩
              intro x hx y hy; simp at hy; subst hy; intro z; subst z; exact a0r hx
            · obtain ⟨n, u⟩ := R.z b m
              refine ⟨fun m => ?_, u⟩
              rcases List.mem_append.mp m with m | m
              · exact n (List.mem_append_left _ m)
              · simp at m; subst m; exact n ha
            · by_cases hj : j < r.length
              · rw [List.getElem?_append_left (by rw [tk]; exact hj), List.getElem?_take, if_pos (by rw [← R0.len]; exact hj)] at e
                obtain ⟨b, eb, t2, xs2, vs2, rfl, hm2, hx2⟩ := R.cell j d e
                refine ⟨b, hl j b hj eb, t2, xs2, vs2, rfl, hm2, RepL.lowA hn hl xs2 ?_ hx2⟩
                rcases hc.1.2 j _ (by rw [← R0.len]; exact hj) e with y | y
                · obtain ⟨_, _, t3, xs3, vs3, ed, _, hx3⟩ := R0.cell j _ y
                  cases ed
                  exact hdBL_of xs2 hx3
                · rw [R0.len]; simpa [hdB] using y
              · have hj2 : j = r.length := by
                  have := (List.getElem?_eq_some_iff.mp e).1
                  simp [tk] at this; omega
                subst hj2
                rw [List.getElem?_append_right (by rw [tk]; exact Nat.le_refl _)] at e
                simp [tk] at e
                subst e
                exact ⟨a0, by simp, t, ys, vs, rfl, hm, qx⟩
            · rw [← R0.len]; simp
          · exact h.elim
        · exact h.elim
      · exact h.elim
    | non => exact h.elim
    | bl b => exact h.elim
    | int i => exact h.elim
    | str s => exact h.elim
    | ty z => exact h.elim
    | nd t xs => exact h.elim
  | er x st' =>
    rw [← hF]
    refine old (fun d s z => by rw [hF] at z; cases z) ?_
    rw [hF] at h
    unfold frzF
    rw [hF]
    exact h
  | no => rw [hF] at h; exact h
end
section
variable {P : Program} {w : World} {K : PySem.W.Frag} {mg : Str → Option Value} {base : Heap}
theorem FnG.frzH {k : Nat} {f : Addr} {fd : FuncData} {ps : List Str} {g : Gd} {n : Nat} {F : SemF} (h : FnG P w K mg base k f fd ps (spF g n F)) : FnG P w K mg base k f fd ps (spF g n (frzH F)) :=
  h.imp fun vs H Q E ⟨hl, Z, r, st, ds, qd, R, q⟩ => ⟨hl, Z, r, st, ds, qd, R, frzH_post R q⟩
end
end DY

/-! Laws on data: loops, and the numbers that a law draws. -/
namespace DY
open PySem L2
/-! ### loops -/
theorem dSub_i (i j : Int) (st : Store) : dSub (.int i) (.int j) st = .ok (.int (i - j)) st := by
  show (if CTrue i j then Res.ok (D.int (i - j)) st else Res.no) = _
  exact if_pos trivial
theorem szL_eq : szL = 16777216 := by decide
/-- a list's items, wherever it stands -/
def Is (st : Store) (x : D) (xs : List D) : Prop := x = .nd .lst xs ∨ ∃ k, x = .h k ∧ st[k]? = some (.nd .lst xs)
theorem Is.lst {st : Store} {x : D} {xs : List D} (h : Is st x xs) : lst? st x = some xs := by
  rcases h with rfl | ⟨k, rfl, h⟩
  · rfl
  · simp [lst?, seen, h]
theorem Is.seq {st : Store} {x : D} {xs : List D} (h : Is st x xs) : seq? st x = some xs := by
  unfold seq?; rw [h.lst]
theorem Is.ty {st : Store} {x : D} {xs : List D} (h : Is st x xs) : tyD st x = some "list" := by
  rcases h with rfl | ⟨k, rfl, h⟩
  · rfl
  · simp [tyD, seen, h]
theorem ints_map (is : List Int) : ints? (is.map D.int) = some is := by
  induction is with
  | nil => rfl
  | cons i is ih => simp [ints?, ih]
mutual
theorem toPg_ints (dr : Nat → Option PyData) : ∀ is : List Int, toPgL dr (is.map D.int) = some (is.map PyData.int)
  | [] => rfl
  | i :: is => by simp [toPgL, toPg, toPg_ints dr is]
end
theorem Is.toPd {st : Store} {x : D} {xs : List D} (h : Is st x xs) {ps : List PyData} (hp : ∀ dr, toPgL dr xs = some ps) : DY.toP deepP st x = some (.list ps) := by
  rcases h with rfl | ⟨k, rfl, h⟩
  · show toPg _ _ = _
    simp [toPg, hp]
  · show toPg _ _ = _
    simp only [toPg, h]
    show DY.toP 3 st _ = _
    show toPg _ _ = _
    simp [toPg, hp]

end DY

/-! What the law draws. -/
namespace DY
open PySem L2
section
/-! ### lists of ints, compared and shown -/
theorem eqv_ints : ∀ is js : List Int, PyData.eqvAll (is.map PyData.int) (js.map PyData.int) = decide (is = js)
  | [], [] => by simp [PyData.eqvAll]
  | [], _ :: _ => by simp [PyData.eqvAll]
  | _ :: _, [] => by simp [PyData.eqvAll]
  | i :: is, j :: js => by
    simp only [List.map_cons, PyData.eqvAll, PyData.eqv, eqv_ints is js, List.cons.injEq]
    by_cases h1 : i = j <;> by_cases h2 : is = js <;> simp [h1, h2]
theorem plain_ints : ∀ is : List Int, PyData.plainAll (is.map PyData.int) = true
  | [] => rfl
  | i :: is => by simp [PyData.plainAll, PyData.plain, plain_ints is]
theorem depth_ints : ∀ is : List Int, PyData.depthAll (is.map PyData.int) = 0
  | [] => rfl
  | i :: is => by simp [PyData.depthAll, PyData.depth, depth_ints is]
theorem shp_ints (is : List Int) : shp (.list (is.map PyData.int)) = true := by
  simp [shp, PyData.plain, plain_ints, PyData.depth, depth_ints]
theorem Is.ints {st : Store} {x : D} {is : List Int} (h : Is st x (is.map D.int)) : toP deepP st x = some (.list (is.map PyData.int)) := h.toPd fun dr => toPg_ints dr is
/-- == of two things that are no ints, texts, bools -/
theorem eqD_lists {x y : D} {st : Store} {xs ys : List D} {p q : PyData} (ix : Is st x xs) (iy : Is st y ys) (hx : toP deepP st x = some p) (hy : toP deepP st y = some q) (h1 : shp p = true) (h2 : shp q = true) : eqD x y st = some (PyData.eqv p q) := by
  have e : (match toP deepP st x, toP deepP st y with | some p, some q => if shp p && shp q then some (PyData.eqv p q) else none | _, _ => none) = some (PyData.eqv p q) := by
    rw [hx, hy]; simp [h1, h2]
  rcases ix with rfl | ⟨k, rfl, _⟩ <;> exact e
theorem eq_ints {x y : D} {st : Store} {is js : List Int} (hx : Is st x (is.map D.int)) (hy : Is st y (js.map D.int)) : dEq x y st = .ok (.bl (decide (is = js))) st := by
  unfold dEq
  rw [eqD_lists hx hy hx.ints hy.ints (shp_ints _) (shp_ints _)]
  simp [PyData.eqv, eqv_ints]
theorem ne_ints {x y : D} {st : Store} {is js : List Int} (hx : Is st x (is.map D.int)) (hy : Is st y (js.map D.int)) : dNe x y st = .ok (.bl (!decide (is = js))) st := by
  unfold dNe
  rw [eqD_lists hx hy hx.ints hy.ints (shp_ints _) (shp_ints _)]
  simp [PyData.eqv, eqv_ints]
theorem ne_nil {x : D} {st : Store} {is : List Int} (hx : Is st x (is.map D.int)) : dNe x (.nd .lst []) st = .ok (.bl (!decide (is = []))) st := ne_ints (js := []) hx (.inl rfl)
end
end DY

/-! Frozen results; lists and tuples alike. -/
namespace DY
open PySem L2
/-! ### no handle inside -/
mutual
def noH : D → Bool
  | .h _ => false
  | .nd _ xs => noHL xs
  | _ => true
def noHL : List D → Bool
  | [] => true
  | d :: ds => noH d && noHL ds
end
mutual
theorem frzG_noH {n0 : Nat} {dr : Nat → Option D} : ∀ d : D, noH d = true → frzG n0 dr d = some d
  | .h _, h => by cases h
  | .nd t xs, h => by
    simp only [noH] at h
    simp [frzG, frzGL_noH xs h]
  | .non, _ => rfl
  | .bl _, _ => rfl
  | .int _, _ => rfl
  | .str _, _ => rfl
  | .ty _, _ => rfl
theorem frzGL_noH {n0 : Nat} {dr : Nat → Option D} : ∀ ds : List D, noHL ds = true → frzGL n0 dr ds = some ds
  | [], _ => rfl
  | d :: ds, h => by
    simp only [noHL, Bool.and_eq_true] at h
    simp [frzGL, frzG_noH d h.1, frzGL_noH ds h.2]
end
theorem frz_noH {m n0 : Nat} {st : Store} {d : D} (h : noH d = true) : frz m n0 st d = some d := by
  cases m <;> exact frzG_noH d h
theorem noH_ints (is : List Int) : noHL (is.map D.int) = true := by
  induction is with
  | nil => rfl
  | cons i is ih => simp [noHL, noH, ih]
theorem cells_app (st g : Store) : CellsOk st (st ++ g) := ⟨by simp, fun k d hk e => by
  rw [List.getElem?_append_left hk] at e; exact .inl e⟩
theorem frzF_ok {F : SemF} {ds : List D} {st g : Store} {d d' : D} (e : F ds st = .ok d (st ++ g)) (h : frz 5 st.length (st ++ g) d = some d') : frzF F ds st = .ok d' st := by
  unfold frzF
  rw [e]
  dsimp only
  rw [if_pos (cells_app st g), h]
  simp
theorem frzF_pure {F : SemF} {ds : List D} {st : Store} {d : D} (e : F ds st = .ok d st) (h : noH d = true) : frzF F ds st = .ok d st :=
  frzF_ok (g := []) (by simpa using e) (frz_noH h)
/-- the thing just made, frozen -/
theorem frz_new {st g : Store} {t : Hd} {xs : List D} {k : Nat} (hk : st.length ≤ k) (e : (st ++ g)[k]? = some (.nd t xs)) (h : noHL xs = true) : frz 5 st.length (st ++ g) (.h k) = some (.nd t xs) := by
  show frzG _ _ (.h k) = _
  simp only [frzG]
  rw [if_neg (by omega), e]
  exact frz_noH (by simpa [noH] using h)
/-- hands out the new thing alone -/
theorem frzH_ok {F : SemF} {ds : List D} {st g : Store} {k : Nat} {t : Hd} {xs : List D} (e : F ds st = .ok (.h k) (st ++ g)) (hk : st.length ≤ k) (hc : (st ++ g)[k]? = some (.nd t xs)) (h : noHL xs = true) : frzH F ds st = .ok (.h st.length) (st ++ [.nd t xs]) := by
  unfold frzH
  rw [e]
  dsimp only
  rw [if_pos ⟨cells_app st g, hk⟩, hc]
  dsimp only
  have : ∀ ys : List D, noHL ys = true → frzXL 5 st.length k (st ++ g) ys = some ys := by
    intro ys
    induction ys with
    | nil => intro _; rfl
    | cons y ys ih =>
      intro hy
      simp only [noHL, Bool.and_eq_true] at hy
      have e1 : frzX 5 st.length k (st ++ g) y = some y := frzG_noH y hy.1
      simp [frzXL, e1, ih hy.2]
  rw [this xs h]
  simp
/-! ### lists and tuples alike -/
inductive Sq (st : Store) (x : D) (xs : List D) : Prop where
  | l (h : Is st x xs)
  | t (h : x = .nd .tup xs)
theorem Sq.seq {st : Store} {x : D} {xs : List D} (h : Sq st x xs) : seq? st x = some xs := by
  rcases h with h | rfl
  · exact h.seq
  · rfl
theorem Sq.ty {st : Store} {x : D} {xs : List D} (h : Sq st x xs) : tyD st x = some "list" ∨ tyD st x = some "tuple" := by
  rcases h with h | rfl
  · exact .inl h.ty
  · exact .inr rfl
end DY

/-! Evaluation on data, by rewriting alone: what stands behind a value is named, never a lambda. -/
namespace DY
open PySem PySem.Spec PyProof.Rows L2

theorem ofString_inj' {a b : String} : Str.ofString a = Str.ofString b ↔ a = b := by
  constructor
  · intro h
    rw [Str.ofString_eq_toList, Str.ofString_eq_toList] at h
    have h1 : a.toList.map Char.toNat = b.toList.map Char.toNat := by
      have := congrArg (fun s : Str => s.cps.toList) h
      simpa using this
    have inj : ∀ x y : Char, x.toNat = y.toNat → x = y := fun x y e => Char.ext (UInt32.toNat_inj.mp e)
    have h2 : ∀ l m : List Char, l.map Char.toNat = m.map Char.toNat → l = m := by
      intro l
      induction l with
      | nil => intro m e; cases m with
        | nil => rfl
        | cons y m => simp at e
      | cons x l ih => intro m e; cases m with
        | nil => simp at e
        | cons y m =>
          simp only [List.map_cons, List.cons.injEq] at e
          rw [inj x y e.1, ih m e.2]
    have := h2 _ _ h1
    exact String.toList_inj.mp this
  · rintro rfl; rfl
@[simp] theorem ofString_inj {a b : String} : (Str.ofString a = Str.ofString b) ↔ a = b := ofString_inj'

/-! ### results -/
section
variable {A B : Type} {a : A} {st : Store} {e : Ex} {k : A → Store → Res B} {env : DEnv} {kS : A → Store → SR}
@[simp] theorem bind_ok : Res.bind (.ok a st) k = k a st := (rfl)
@[simp] theorem bind_er : Res.bind (.er e st : Res A) k = .er e st := (rfl)
@[simp] theorem bind_no : Res.bind (.no : Res A) k = .no := (rfl)
@[simp] theorem bindE_ok : bindE (.ok a st) env kS = kS a st := (rfl)
@[simp] theorem bindE_er : bindE (.er e st : Res A) env kS = .er e env st := (rfl)
@[simp] theorem bindE_no : bindE (.no : Res A) env kS = .no := (rfl)
@[simp] theorem seq_nx {k : DEnv → Store → SR} : SR.seq (.nx env st) k = k env st := (rfl)
@[simp] theorem seq_rt {d : D} {k : DEnv → Store → SR} : SR.seq (.rt d st) k = .rt d st := (rfl)
@[simp] theorem seq_er {k : DEnv → Store → SR} : SR.seq (.er e env st) k = .er e env st := (rfl)
@[simp] theorem seq_bk {k : DEnv → Store → SR} : SR.seq (.bk env st) k = .bk env st := (rfl)
@[simp] theorem seq_ct {k : DEnv → Store → SR} : SR.seq (.ct env st) k = .ct env st := (rfl)
@[simp] theorem seq_no {k : DEnv → Store → SR} : SR.seq .no k = .no := (rfl)
/-- a choice of results -/
@[simp] theorem ite_and {p : Prop} [Decidable p] {b : Bool} : (if p then (Res.ok b st) else Res.ok false st) = Res.ok (decide p && b) st := by
  by_cases h : p <;> simp [h]
@[simp] theorem ite_or {p : Prop} [Decidable p] {b : Bool} : (if p then (Res.ok true st) else Res.ok b st) = Res.ok (decide p || b) st := by
  by_cases h : p <;> simp [h]
@[simp] theorem ite_andV {p : Prop} [Decidable p] {b : Bool} : (if p then (Res.ok (D.bl b) st) else Res.ok (.bl false) st) = Res.ok (.bl (decide p && b)) st := by
  by_cases h : p <;> simp [h]
@[simp] theorem ite_orV {p : Prop} [Decidable p] {b : Bool} : (if p then (Res.ok (D.bl true) st) else Res.ok (.bl b) st) = Res.ok (.bl (decide p || b)) st := by
  by_cases h : p <;> simp [h]
end

section
variable {env : DEnv} {st : Store} {fa fb fc fo : SemE} {fs : SemA} {x y : D} {ft fu : SemT} {op op' : D → D → Store → Res D}
@[simp] theorem seen_nd {t : Hd} {xs : List D} : seen st (.nd t xs) = some (t, xs) := (rfl)
def seenC : Option D → Option (Hd × List D)
  | some (.nd t xs) => some (t, xs)
  | _ => none
@[simp] theorem seen_h {k : Nat} : seen st (.h k) = seenC st[k]? := by
  show (match st[k]? with | some (.nd t xs) => some (t, xs) | _ => none) = _
  unfold seenC; rfl
@[simp] theorem seenC_ev {t : Hd} {xs : List D} : seenC (some (.nd t xs)) = some (t, xs) := (rfl)
@[simp] theorem seen_int {i : Int} : seen st (.int i) = none := (rfl)
@[simp] theorem seen_str {i : Str} : seen st (.str i) = none := (rfl)
@[simp] theorem seen_bl {i : Bool} : seen st (.bl i) = none := (rfl)
@[simp] theorem seen_non : seen st .non = none := (rfl)
@[simp] theorem seen_ty {i : String} : seen st (.ty i) = none := (rfl)
/-! ### leaves, operators -/
@[simp] theorem dConst_ev {d : D} : dConst d env st = .ok d st := (rfl)
def dVarV : Option (Option D) → Store → Res D
  | some (some d), st => .ok d st
  | _, _ => .no
@[simp] theorem dVar_ev {i : Nat} : dVar i env st = dVarV env[i]? st := by
  unfold dVar dVarV
  rcases env[i]? with _ | _ | _ <;> rfl
@[simp] theorem dVarV_ev {d : D} : dVarV (some (some d)) st = .ok d st := (rfl)
def dBin1 (op : D → D → Store → Res D) (fb : SemE) (env : DEnv) : D → Store → Res D := fun x st => (fb env st).bind (op x)
@[simp] theorem dBin_ev : dBin op fa fb env st = (fa env st).bind (dBin1 op fb env) := (rfl)
@[simp] theorem dBin1_ev : dBin1 op fb env x st = (fb env st).bind (op x) := (rfl)
def dBool1 : D → Store → Res Bool
  | .bl b, st => .ok b st
  | _, _ => .no
@[simp] theorem dBool_ev : dBool fa env st = (fa env st).bind dBool1 := by
  unfold dBool
  congr 1; funext x st1; cases x <;> rfl
@[simp] theorem dBool1_ev {b : Bool} : dBool1 (.bl b) st = .ok b st := (rfl)
def dChain3 (op' : D → D → Store → Res D) (fc : SemE) (env : DEnv) (y : D) : D → Store → Res D
  | .bl b, st => if b = true then (fc env st).bind (op' y) else .ok (.bl false) st
  | _, _ => .no
def dChain2 (op op' : D → D → Store → Res D) (fc : SemE) (env : DEnv) (x : D) : D → Store → Res D := fun y st => (op x y st).bind (dChain3 op' fc env y)
def dChain1 (op op' : D → D → Store → Res D) (fb fc : SemE) (env : DEnv) : D → Store → Res D := fun x st => (fb env st).bind (dChain2 op op' fc env x)
@[simp] theorem dChain_ev : dChain op op' fa fb fc env st = (fa env st).bind (dChain1 op op' fb fc env) := by
  unfold dChain
  congr 1; funext x st1
  show _ = (fb env st1).bind (dChain2 op op' fc env x)
  congr 1; funext y st2
  show _ = (op x y st2).bind (dChain3 op' fc env y)
  congr 1; funext z st3
  cases z with
  | bl b => cases b <;> rfl
  | _ => rfl
@[simp] theorem dChain1_ev : dChain1 op op' fb fc env x st = (fb env st).bind (dChain2 op op' fc env x) := (rfl)
@[simp] theorem dChain2_ev : dChain2 op op' fc env x y st = (op x y st).bind (dChain3 op' fc env y) := (rfl)
@[simp] theorem dChain3_ev {b : Bool} : dChain3 op' fc env y (.bl b) st = if b = true then (fc env st).bind (op' y) else .ok (.bl false) st := (rfl)
/-! ### and, or, not, if else -/
def dAnd1 (fu : SemT) (env : DEnv) : Bool → Store → Res Bool := fun b st => if b = true then fu env st else .ok false st
def dOr1 (fu : SemT) (env : DEnv) : Bool → Store → Res Bool := fun b st => if b = true then .ok true st else fu env st
def dNot1 : Bool → Store → Res Bool := fun b st => .ok (!b) st
@[simp] theorem dAnd_ev : dAnd ft fu env st = (ft env st).bind (dAnd1 fu env) := (rfl)
@[simp] theorem dOr_ev : dOr ft fu env st = (ft env st).bind (dOr1 fu env) := (rfl)
@[simp] theorem dNot_ev : dNot ft env st = (ft env st).bind dNot1 := (rfl)
@[simp] theorem dAnd1_ev {b : Bool} : dAnd1 fu env b st = if b = true then fu env st else .ok false st := (rfl)
@[simp] theorem dOr1_ev {b : Bool} : dOr1 fu env b st = if b = true then .ok true st else fu env st := (rfl)
@[simp] theorem dNot1_ev {b : Bool} : dNot1 b st = .ok (!b) st := (rfl)
def dAndV1 (fb : SemE) (env : DEnv) : D → Store → Res D
  | .bl b, st => if b = true then fb env st else .ok (.bl false) st
  | _, _ => .no
def dOrV1 (fb : SemE) (env : DEnv) : D → Store → Res D
  | .bl b, st => if b = true then .ok (.bl true) st else fb env st
  | _, _ => .no
def dNotV1 : D → Store → Res D
  | .bl b, st => .ok (.bl (!b)) st
  | _, _ => .no
@[simp] theorem dAndV_ev : dAndV fa fb env st = (fa env st).bind (dAndV1 fb env) := by
  unfold dAndV
  congr 1; funext x st1
  cases x with
  | bl b => cases b <;> rfl
  | _ => rfl
@[simp] theorem dOrV_ev : dOrV fa fb env st = (fa env st).bind (dOrV1 fb env) := by
  unfold dOrV
  congr 1; funext x st1
  cases x with
  | bl b => cases b <;> rfl
  | _ => rfl
@[simp] theorem dNotV_ev : dNotV fa env st = (fa env st).bind dNotV1 := by
  unfold dNotV
  congr 1; funext x st1
  cases x <;> rfl
@[simp] theorem dAndV1_ev {b : Bool} : dAndV1 fb env (.bl b) st = if b = true then fb env st else .ok (.bl false) st := (rfl)
@[simp] theorem dOrV1_ev {b : Bool} : dOrV1 fb env (.bl b) st = if b = true then .ok (.bl true) st else fb env st := (rfl)
@[simp] theorem dNotV1_ev {b : Bool} : dNotV1 (.bl b) st = .ok (.bl (!b)) st := (rfl)
def dIfE1 (fa fb : SemE) (env : DEnv) : Bool → Store → Res D := fun b st => if b = true then fa env st else fb env st
@[simp] theorem dIfE_ev : dIfE ft fa fb env st = (ft env st).bind (dIfE1 fa fb env) := (rfl)
@[simp] theorem dIfE1_ev {b : Bool} : dIfE1 fa fb env b st = if b = true then fa env st else fb env st := (rfl)
@[simp] theorem tYesD_ev : tYesD env st = .ok true st := (rfl)
/-! ### argument lists, displays -/
@[simp] theorem dNil_ev : dNil env st = .ok [] st := (rfl)
def dCons2 (x : D) : List D → Store → Res (List D) := fun xs st => .ok (x :: xs) st
def dCons1 (fs : SemA) (env : DEnv) : D → Store → Res (List D) := fun x st => (fs env st).bind (dCons2 x)
@[simp] theorem dCons_ev : dCons fa fs env st = (fa env st).bind (dCons1 fs env) := (rfl)
@[simp] theorem dCons1_ev : dCons1 fs env x st = (fs env st).bind (dCons2 x) := (rfl)
@[simp] theorem dCons2_ev {xs : List D} : dCons2 x xs st = .ok (x :: xs) st := (rfl)
def dTup1 : List D → Store → Res D := fun xs st => if xs.length ≤ szL then .ok (.nd .tup xs) st else .no
def dLst1 : List D → Store → Res D := fun xs st => if xs.length ≤ szL then .ok (.nd .lst xs) st else .no
def dLstM1 : List D → Store → Res D := fun xs st => if xs.length ≤ szL then .ok (.h st.length) (st ++ [.nd .lst xs]) else .no
@[simp] theorem dTup_ev : dTup fs env st = (fs env st).bind dTup1 := (rfl)
@[simp] theorem dLst_ev : dLst fs env st = (fs env st).bind dLst1 := (rfl)
@[simp] theorem dLstM_ev : dLstM fs env st = (fs env st).bind dLstM1 := (rfl)
theorem szL_16 : szL = 16777216 := by decide
@[simp] theorem dTup1_ev {xs : List D} (h : xs.length ≤ 16777216) : dTup1 xs st = .ok (.nd .tup xs) st := if_pos (by rw [szL_16]; exact h)
@[simp] theorem dLst1_ev {xs : List D} (h : xs.length ≤ 16777216) : dLst1 xs st = .ok (.nd .lst xs) st := if_pos (by rw [szL_16]; exact h)
@[simp] theorem dLstM1_ev {xs : List D} (h : xs.length ≤ 16777216) : dLstM1 xs st = .ok (.h st.length) (st ++ [.nd .lst xs]) := if_pos (by rw [szL_16]; exact h)
/-! ### calls -/
@[simp] theorem dCall_ev {F : SemF} : dCall F fs env st = (fs env st).bind F := (rfl)
def dMeth2 (F : SemF) (x : D) : List D → Store → Res D := fun ds st => F (x :: ds) st
def dMethC (c : Nat) (m : Str) (F : SemF) (fs : SemA) (env : DEnv) (x : D) (st : Store) : Option (Hd × List D) → Res D
  | some (.ins c' ns, _) => if c' = c ∧ m ∉ ns then (fs env st).bind (dMeth2 F x) else .no
  | _ => .no
def dMeth1 (c : Nat) (m : Str) (F : SemF) (fs : SemA) (env : DEnv) : D → Store → Res D := fun x st => dMethC c m F fs env x st (seen st x)
@[simp] theorem dMeth_ev {c : Nat} {m : Str} {F : SemF} : dMeth c m F fo fs env st = (fo env st).bind (dMeth1 c m F fs env) := by
  unfold dMeth
  congr 1
@[simp] theorem dMeth1_ev {c : Nat} {m : Str} {F : SemF} : dMeth1 c m F fs env x st = dMethC c m F fs env x st (seen st x) := (rfl)
@[simp] theorem dMeth2_ev {F : SemF} {ds : List D} : dMeth2 F x ds st = F (x :: ds) st := (rfl)
@[simp] theorem dMethC_ev {c : Nat} {m : Str} {F : SemF} {ns : List Str} {ys : List D} (hm : m ∉ ns) : dMethC c m F fs env x st (some (.ins c ns, ys)) = (fs env st).bind (dMeth2 F x) := if_pos ⟨rfl, hm⟩
def dCallI2C (c : Nat) (F : SemF) (x : D) (ds : List D) (st : Store) : Option (Hd × List D) → Res D
  | some (.ins c' _, _) => if c' = c then F (x :: ds) st else .no
  | _ => .no
def dCallI2 (c : Nat) (F : SemF) (x : D) : List D → Store → Res D := fun ds st => dCallI2C c F x ds st (seen st x)
def dCallI1C (c : Nat) (F : SemF) (fs : SemA) (env : DEnv) (x : D) (st : Store) : Option (Hd × List D) → Res D
  | some (.ins _ _, _) => (fs env st).bind (dCallI2 c F x)
  | _ => .no
def dCallI1 (c : Nat) (F : SemF) (fs : SemA) (env : DEnv) : D → Store → Res D := fun x st => dCallI1C c F fs env x st (seen st x)
@[simp] theorem dCallI_ev {c : Nat} {F : SemF} : dCallI c F fo fs env st = (fo env st).bind (dCallI1 c F fs env) := by
  unfold dCallI
  congr 1
@[simp] theorem dCallI1_ev {c : Nat} {F : SemF} : dCallI1 c F fs env x st = dCallI1C c F fs env x st (seen st x) := (rfl)
@[simp] theorem dCallI2_ev {c : Nat} {F : SemF} {ds : List D} : dCallI2 c F x ds st = dCallI2C c F x ds st (seen st x) := (rfl)
@[simp] theorem dCallI1C_ev {c c' : Nat} {F : SemF} {ns : List Str} {ys : List D} : dCallI1C c F fs env x st (some (.ins c' ns, ys)) = (fs env st).bind (dCallI2 c F x) := (rfl)
@[simp] theorem dCallI2C_ev {c : Nat} {F : SemF} {ns : List Str} {ys ds : List D} : dCallI2C c F x ds st (some (.ins c ns, ys)) = F (x :: ds) st := if_pos rfl
/-- the item there -/
def itm (st : Store) : Option D → Res D
  | some d => .ok d st
  | none => .no
@[simp] theorem itm_some {d : D} : itm st (some d) = .ok d st := (rfl)
/-- an attribute -/
def dAt (c hint : Nat) (f : Str) (fo : SemE) : SemE := fun env st => (fo env st).bind (dAttr c hint f)
@[simp] theorem dAt_ev {c hint : Nat} {f : Str} : dAt c hint f fo env st = (fo env st).bind (dAttr c hint f) := (rfl)
def dAttrC (c hint : Nat) (f : Str) (st : Store) : Option (Hd × List D) → Res D
  | some (.ins c' ns, vs) => if c' = c then (match kAt hint ns f with
    | some i => itm st vs[i]?
    | none => .no) else .no
  | _ => .no
@[simp] theorem dAttr_ev {c hint : Nat} {f : Str} : dAttr c hint f x st = dAttrC c hint f st (seen st x) := by
  unfold dAttr dAttrC itm
  rfl
@[simp] theorem dAttrC_ev {c hint : Nat} {f : Str} {ns : List Str} {ys : List D} (e : ns[hint]? = some f) : dAttrC c hint f st (some (.ins c ns, ys)) = itm st ys[hint]? := by
  simp [dAttrC, kAt, e]
def dNeg1 : D → Store → Res D
  | .int i, st => .ok (.int (-i)) st
  | _, _ => .no
@[simp] theorem dNeg_ev : dNeg fa env st = (fa env st).bind dNeg1 := by
  unfold dNeg
  congr 1; funext x st1; cases x <;> rfl
@[simp] theorem dNeg1_ev {i : Int} : dNeg1 (.int i) st = .ok (.int (-i)) st := (rfl)
def dBM1 (o : D → List D → Store → Res D) (fs : SemA) (env : DEnv) : D → Store → Res D := fun x st => (fs env st).bind (o x)
@[simp] theorem dBM_ev {o : D → List D → Store → Res D} : dBM o fo fs env st = (fo env st).bind (dBM1 o fs env) := (rfl)
@[simp] theorem dBM1_ev {o : D → List D → Store → Res D} : dBM1 o fs env x st = (fs env st).bind (o x) := (rfl)
def lstC : Option (Hd × List D) → Option (List D)
  | some (.lst, xs) => some xs
  | some (.scr, xs) => some xs
  | _ => none
def tupC : Option (Hd × List D) → Option (List D)
  | some (.tup, xs) => some xs
  | some (.ktp, xs) => some xs
  | _ => none
@[simp] theorem lst_ev : lst? st x = lstC (seen st x) := (rfl)
@[simp] theorem tup_ev : tup? st x = tupC (seen st x) := (rfl)
@[simp] theorem lstC_lst {xs : List D} : lstC (some (.lst, xs)) = some xs := (rfl)
@[simp] theorem lstC_scr {xs : List D} : lstC (some (.scr, xs)) = some xs := (rfl)
@[simp] theorem lstC_tup {xs : List D} : lstC (some (.tup, xs)) = none := (rfl)
@[simp] theorem lstC_none : lstC none = none := (rfl)
@[simp] theorem lstC_dk {ks : List Key} {xs : List D} : lstC (some (.dk ks, xs)) = none := (rfl)
@[simp] theorem tupC_tup {xs : List D} : tupC (some (.tup, xs)) = some xs := (rfl)
@[simp] theorem tupC_lst {xs : List D} : tupC (some (.lst, xs)) = none := (rfl)
@[simp] theorem tupC_none : tupC none = none := (rfl)
@[simp] theorem lstX_ev : lstX? st x = (match seen st x with | some (.lst, xs) => some xs | _ => none) := (rfl)
@[simp] theorem tupX_ev : tupX? st x = (match seen st x with | some (.tup, xs) => some xs | _ => none) := (rfl)
def dBML2 (o : D → List D → Store → Res D) (fs : SemA) (env : DEnv) (x : D) (st : Store) : Option (List D) → Res D
  | some _ => (fs env st).bind (o x)
  | none => .no
def dBML1 (o : D → List D → Store → Res D) (fs : SemA) (env : DEnv) : D → Store → Res D := fun x st => dBML2 o fs env x st (lst? st x)
@[simp] theorem dBML_ev {o : D → List D → Store → Res D} : dBML o fo fs env st = (fo env st).bind (dBML1 o fs env) := by
  unfold dBML
  congr 1; funext x st1
  show (if (lst? st1 x).isSome = true then _ else _) = dBML2 o fs env x st1 (lst? st1 x)
  cases lst? st1 x <;> rfl
@[simp] theorem dBML1_ev {o : D → List D → Store → Res D} : dBML1 o fs env x st = dBML2 o fs env x st (lst? st x) := (rfl)
@[simp] theorem dBML2_ev {o : D → List D → Store → Res D} {xs : List D} : dBML2 o fs env x st (some xs) = (fs env st).bind (o x) := (rfl)
/-! ### slices -/
def dPart1 : D → Store → Res (Option Int)
  | .int i, st => .ok (some i) st
  | _, _ => .no
@[simp] theorem dNoPart_ev : dNoPart env st = .ok none st := (rfl)
@[simp] theorem dPart_ev : dPart fa env st = (fa env st).bind dPart1 := by
  unfold dPart
  congr 1; funext x st1; cases x <;> rfl
@[simp] theorem dPart1_ev {i : Int} : dPart1 (.int i) st = .ok (some i) st := (rfl)
def dSlice1 (cut : D → Option Int → Option Int → Store → Res D) (fl fh : SemO) (env : DEnv) : D → Store → Res D := fun x st => (fl env st).bind fun lo st2 => (fh env st2).bind (cut x lo)
def dSlice2 (cut : D → Option Int → Option Int → Store → Res D) (fh : SemO) (env : DEnv) (x : D) : Option Int → Store → Res D := fun lo st => (fh env st).bind (cut x lo)
@[simp] theorem dSlice_ev {fl fh : SemO} : dSlice fa fl fh env st = (fa env st).bind (dSlice1 dCut fl fh env) := (rfl)
@[simp] theorem dSliceM_ev {fl fh : SemO} : dSliceM fa fl fh env st = (fa env st).bind (dSlice1 dCutM fl fh env) := (rfl)
@[simp] theorem dSlice1_ev {cut : D → Option Int → Option Int → Store → Res D} {fl fh : SemO} : dSlice1 cut fl fh env x st = (fl env st).bind (dSlice2 cut fh env x) := (rfl)
@[simp] theorem dSlice2_ev {cut : D → Option Int → Option Int → Store → Res D} {fh : SemO} {lo : Option Int} : dSlice2 cut fh env x lo st = (fh env st).bind (cut x lo) := (rfl)
/-! ### isinstance -/
def dIsi1 (Ts : List String) : D → Store → Res D := fun x st => match tyD st x with
  | some T => .ok (.bl (Ts.any (isiB T))) st
  | none => .no
@[simp] theorem dIsi_ev {Ts : List String} : dIsi Ts fa env st = (fa env st).bind (dIsi1 Ts) := (rfl)
theorem dIsi1_of {Ts : List String} {T : String} (h : tyD st x = some T) : dIsi1 Ts x st = .ok (.bl (Ts.any (isiB T))) st := by
  unfold dIsi1; rw [h]
@[simp] theorem dIsi1_int {Ts : List String} {i : Int} : dIsi1 Ts (.int i) st = .ok (.bl (Ts.any (isiB "int"))) st := (rfl)
@[simp] theorem dIsi1_bl {Ts : List String} {i : Bool} : dIsi1 Ts (.bl i) st = .ok (.bl (Ts.any (isiB "bool"))) st := (rfl)
@[simp] theorem dIsi1_non {Ts : List String} : dIsi1 Ts .non st = .ok (.bl (Ts.any (isiB "NoneType"))) st := (rfl)
@[simp] theorem dIsi1_str {Ts : List String} {i : Str} : dIsi1 Ts (.str i) st = .ok (.bl (Ts.any (isiB "str"))) st := (rfl)
@[simp] theorem dIsi1_lst {Ts : List String} {xs : List D} : dIsi1 Ts (.nd .lst xs) st = .ok (.bl (Ts.any (isiB "list"))) st := (rfl)
@[simp] theorem dIsi1_tup {Ts : List String} {xs : List D} : dIsi1 Ts (.nd .tup xs) st = .ok (.bl (Ts.any (isiB "tuple"))) st := (rfl)
/-! ### dicts -/
def dPairs3 (k v : D) : List (D × D) → Store → Res (List (D × D)) := fun ps st => .ok ((k, v) :: ps) st
def dPairs2 (r : List (SemE × SemE)) (env : DEnv) (k : D) : D → Store → Res (List (D × D)) := fun v st => (dPairs r env st).bind (dPairs3 k v)
def dPairs1 (fv : SemE) (r : List (SemE × SemE)) (env : DEnv) : D → Store → Res (List (D × D)) := fun k st => (fv env st).bind (dPairs2 r env k)
@[simp] theorem dPairs_nil : dPairs [] env st = .ok [] st := (rfl)
@[simp] theorem dPairs_cons {fk fv : SemE} {r : List (SemE × SemE)} : dPairs ((fk, fv) :: r) env st = (fk env st).bind (dPairs1 fv r env) := (rfl)
@[simp] theorem dPairs1_ev {fv : SemE} {r : List (SemE × SemE)} {k : D} : dPairs1 fv r env k st = (fv env st).bind (dPairs2 r env k) := (rfl)
@[simp] theorem dPairs2_ev {r : List (SemE × SemE)} {k v : D} : dPairs2 r env k v st = (dPairs r env st).bind (dPairs3 k v) := (rfl)
@[simp] theorem dPairs3_ev {k v : D} {ps : List (D × D)} : dPairs3 k v ps st = .ok ((k, v) :: ps) st := (rfl)
def dDict1 : List (D × D) → Store → Res D := fun ps st => match keys? (ps.map (·.1)) with
  | some ks => if ks.Nodup ∧ ps.length ≤ 15 then .ok (.nd (.dk ks) (ps.map (·.2))) st else .no
  | none => .no
def dDictM1 : List (D × D) → Store → Res D := fun ps st => match keys? (ps.map (·.1)) with
  | some ks => if ks.Nodup ∧ ps.length ≤ 15 then .ok (.h st.length) (st ++ [.nd (.dk ks) (ps.map (·.2))]) else .no
  | none => .no
@[simp] theorem dDict_ev {fs : List (SemE × SemE)} : dDict fs env st = (dPairs fs env st).bind dDict1 := (rfl)
@[simp] theorem dDictM_ev {fs : List (SemE × SemE)} : dDictM fs env st = (dPairs fs env st).bind dDictM1 := (rfl)
def dGetC (hint : Nat) (k : Str) (st : Store) : Option (Hd × List D) → Res D
  | some (.dk ks, vs) => match kAt hint ks (.inr k) with
    | some i => itm st vs[i]?
    | none => .no
  | _ => .no
@[simp] theorem dGet_ev {hint : Nat} {k : Str} : dGet hint x (.str k) st = dGetC hint k st (seen st x) := by
  unfold dGet dGetC itm
  cases seen st x with
  | none => rfl
  | some p =>
    obtain ⟨t, xs⟩ := p
    cases t <;> rfl
@[simp] theorem dGetC_ev {hint : Nat} {ks : List Key} {vs : List D} {k : Str} (e : ks[hint]? = some (.inr k)) : dGetC hint k st (some (.dk ks, vs)) = itm st vs[hint]? := by
  simp [dGetC, kAt, e]
end

/-! ### statements -/
section
variable {env : DEnv} {st : Store} {fa fb fc fo fe : SemE} {fs : SemA} {x y v d : D} {ft fu : SemT} {a b : SemS} {i j l hint c : Nat}
@[simp] theorem sNil_ev : sNil env st = .nx env st := (rfl)
@[simp] theorem sCons_ev : sCons a b env st = (a env st).seq b := (rfl)
@[simp] theorem sBreak_ev : sBreak env st = .bk env st := (rfl)
@[simp] theorem sCont_ev : sCont env st = .ct env st := (rfl)
@[simp] theorem sRetN_ev : sRetN env st = .rt .non st := (rfl)
def sExpr1 (env : DEnv) : D → Store → SR := fun _ st => .nx env st
@[simp] theorem sExpr_ev : sExpr fa env st = bindE (fa env st) env (sExpr1 env) := (rfl)
@[simp] theorem sExpr1_ev : sExpr1 env d st = .nx env st := (rfl)
def sRet1 : D → Store → SR := fun d st => .rt d st
@[simp] theorem sRet_ev : sRet fa env st = bindE (fa env st) env sRet1 := (rfl)
@[simp] theorem sRet1_ev : sRet1 d st = .rt d st := (rfl)
def sIf1 (a b : SemS) (env : DEnv) : Bool → Store → SR := fun c st => if c = true then a env st else b env st
@[simp] theorem sIf_ev : sIf ft a b env st = bindE (ft env st) env (sIf1 a b env) := (rfl)
@[simp] theorem sIf1_ev {c : Bool} : sIf1 a b env c st = if c = true then a env st else b env st := (rfl)
def sSet1 (i : Nat) (env : DEnv) : D → Store → SR := fun d st => .nx (env.set i (some d)) st
@[simp] theorem sSet_ev : sSet i fa env st = bindE (fa env st) env (sSet1 i env) := (rfl)
@[simp] theorem sSet1_ev : sSet1 i env d st = .nx (env.set i (some d)) st := (rfl)
/-- behind a target -/
def asg1 (st : Store) : Option DEnv → SR
  | some env' => .nx env' st
  | none => .no
def sAsg1 (t : DTg) (env : DEnv) : D → Store → SR := fun d st => asg1 st (t d env st)
@[simp] theorem asg1_ev : asg1 st (some env) = .nx env st := (rfl)
@[simp] theorem sAsg_ev {t : DTg} : sAsg fa t env st = bindE (fa env st) env (sAsg1 t env) := by
  unfold sAsg
  congr 1
@[simp] theorem sAsg1_ev {t : DTg} : sAsg1 t env d st = asg1 st (t d env st) := (rfl)
@[simp] theorem gN_ev : gN i d env st = some (env.set i (some d)) := (rfl)
@[simp] theorem gNil_ev : gNil' [] env st = some env := (rfl)
def gNext (b : DTgs) (ds : List D) (st : Store) : Option DEnv → Option DEnv
  | some env => b ds env st
  | none => none
@[simp] theorem gNext_ev {b : DTgs} {ds : List D} : gNext b ds st (some env) = b ds env st := (rfl)
@[simp] theorem gCons_ev {a : DTg} {b : DTgs} {ds : List D} : gCons' a b (d :: ds) env st = gNext b ds st (a d env st) := by
  show (match a d env st with | some env' => b ds env' st | none => none) = _
  cases a d env st <;> rfl
def gTC (n : Nat) (b : DTgs) (env : DEnv) (st : Store) : Option (List D) → Option DEnv
  | some xs => if xs.length = n then b xs env st else none
  | none => none
@[simp] theorem gT_ev {n : Nat} {b : DTgs} : gT n b d env st = gTC n b env st (tup? st d) := by
  unfold gT gTC
  rfl
@[simp] theorem gTC_ev {n : Nat} {b : DTgs} {xs : List D} (h : xs.length = n) : gTC n b env st (some xs) = b xs env st := if_pos h
def sPar1 (i j : Nat) (env : DEnv) : List D → Store → SR
  | [x, y], st => .nx ((env.set i (some x)).set j (some y)) st
  | _, _ => .no
@[simp] theorem sPar_ev : sPar i j fs env st = bindE (fs env st) env (sPar1 i j env) := by
  unfold sPar
  congr 1; funext ds st1
  match ds with
  | [] => rfl
  | [_] => rfl
  | [_, _] => rfl
  | _ :: _ :: _ :: _ => rfl
@[simp] theorem sPar1_ev : sPar1 i j env [x, y] st = .nx ((env.set i (some x)).set j (some y)) st := (rfl)
def sPar31 (i j l : Nat) (env : DEnv) : List D → Store → SR
  | [x, y, z], st => .nx (((env.set i (some x)).set j (some y)).set l (some z)) st
  | _, _ => .no
@[simp] theorem sPar3_ev : sPar3 i j l fs env st = bindE (fs env st) env (sPar31 i j l env) := by
  unfold sPar3
  congr 1; funext ds st1
  match ds with
  | [] => rfl
  | [_] => rfl
  | [_, _] => rfl
  | [_, _, _] => rfl
  | _ :: _ :: _ :: _ :: _ => rfl
@[simp] theorem sPar31_ev {z : D} : sPar31 i j l env [x, y, z] st = .nx (((env.set i (some x)).set j (some y)).set l (some z)) st := (rfl)
def put1 (env : DEnv) : Option Store → SR
  | some st => .nx env st
  | none => .no
@[simp] theorem put1_ev : put1 env (some st) = .nx env st := (rfl)
def sDPut3 (hint : Nat) (env : DEnv) (v x : D) : D → Store → SR := fun y st => put1 env (putD hint x y v st)
def sDPut2 (hint : Nat) (fb : SemE) (env : DEnv) (v : D) : D → Store → SR := fun x st => bindE (fb env st) env (sDPut3 hint env v x)
def sDPut1 (hint : Nat) (fa fb : SemE) (env : DEnv) : D → Store → SR := fun v st => bindE (fa env st) env (sDPut2 hint fb env v)
@[simp] theorem sDPut_ev : sDPut hint fa fb fe env st = bindE (fe env st) env (sDPut1 hint fa fb env) := by
  unfold sDPut
  congr 1
@[simp] theorem sDPut1_ev : sDPut1 hint fa fb env v st = bindE (fa env st) env (sDPut2 hint fb env v) := (rfl)
@[simp] theorem sDPut2_ev : sDPut2 hint fb env v x st = bindE (fb env st) env (sDPut3 hint env v x) := (rfl)
@[simp] theorem sDPut3_ev : sDPut3 hint env v x y st = put1 env (putD hint x y v st) := (rfl)
def sAttr2 (c hint : Nat) (f : Str) (env : DEnv) (v : D) : D → Store → SR := fun x st => put1 env (putA c hint f x v st)
def sAttr1 (c hint : Nat) (f : Str) (fo : SemE) (env : DEnv) : D → Store → SR := fun v st => bindE (fo env st) env (sAttr2 c hint f env v)
@[simp] theorem sAttr_ev {f : Str} : sAttr c hint f fo fe env st = bindE (fe env st) env (sAttr1 c hint f fo env) := by
  unfold sAttr
  congr 1
@[simp] theorem sAttr1_ev {f : Str} : sAttr1 c hint f fo env v st = bindE (fo env st) env (sAttr2 c hint f env v) := (rfl)
@[simp] theorem sAttr2_ev {f : Str} : sAttr2 c hint f env v x st = put1 env (putA c hint f x v st) := (rfl)
/-- a new attribute, an old one -/
def putAC (c hint : Nat) (f : Str) (k : Nat) (v : D) (st : Store) : Option D → Option Store
  | some (.nd (.ins c' ns) vs) => if c' = c ∧ vs.length < 1000 then (match kAt hint ns f with
    | some i => some (st.set k (.nd (.ins c' ns) (vs.set i v)))
    | none => some (st.set k (.nd (.ins c' (ns ++ [f])) (vs ++ [v])))) else none
  | _ => none
@[simp] theorem putA_ev {k : Nat} {f : Str} : putA c hint f (.h k) v st = putAC c hint f k v st st[k]? := by
  unfold putA putAC
  rfl
theorem kIx_no {κ : Type} [DecidableEq κ] {f : κ} : ∀ ns : List κ, f ∉ ns → kIx ns f = none
  | [], _ => rfl
  | a :: ns, h => by
    simp at h
    simp [kIx, Ne.symm h.1, kIx_no ns h.2]
theorem kAt_no {κ : Type} [DecidableEq κ] {f : κ} {ns : List κ} {hint : Nat} (hf : f ∉ ns) : kAt hint ns f = none := by
  unfold kAt
  split
  · rename_i e; exact absurd (List.mem_of_getElem? e) hf
  · exact kIx_no ns hf
@[simp] theorem putAC_new {k : Nat} {f : Str} {ns : List Str} {vs : List D} (hf : f ∉ ns) (hl : vs.length < 1000) : putAC c hint f k v st (some (.nd (.ins c ns) vs)) = some (st.set k (.nd (.ins c (ns ++ [f])) (vs ++ [v]))) := by
  simp [putAC, hl, kAt_no hf]
@[simp] theorem putAC_old {k : Nat} {f : Str} {ns : List Str} {vs : List D} (hf : ns[hint]? = some f) (hl : vs.length < 1000) : putAC c hint f k v st (some (.nd (.ins c ns) vs)) = some (st.set k (.nd (.ins c ns) (vs.set hint v))) := by
  simp [putAC, hl, kAt, hf]
def putDC (hint : Nat) (f : Str) (k : Nat) (v : D) (st : Store) : Option D → Option Store
  | some (.nd (.dk ks) vs) => if vs.length < szL then (match kAt hint ks (.inr f) with
    | some i => some (st.set k (.nd (.dk ks) (vs.set i v)))
    | none => some (st.set k (.nd (.dk (ks ++ [.inr f])) (vs ++ [v])))) else none
  | _ => none
@[simp] theorem putD_ev {k : Nat} {f : Str} : putD hint (.h k) (.str f) v st = putDC hint f k v st st[k]? := by
  unfold putD putDC
  dsimp only
  cases st[k]? with
  | none => rfl
  | some d =>
    cases d with
    | nd t xs => cases t <;> rfl
    | _ => rfl
@[simp] theorem putDC_old {k : Nat} {f : Str} {ks : List Key} {vs : List D} (hf : ks[hint]? = some (.inr f)) (hl : vs.length < 16777216) : putDC hint f k v st (some (.nd (.dk ks) vs)) = some (st.set k (.nd (.dk ks) (vs.set hint v))) := by
  have : vs.length < szL := by rw [szL_16]; omega
  simp [putDC, this, kAt, hf]
/-! ### walks -/
noncomputable def sFor1 (tg : DTg) (body : SemS) (env : DEnv) : DIter → Store → SR := fun it st => forL it.chk tg body it.items env st
end
end DY

/-! What is shown is short enough. -/
namespace DY
open PySem L2
mutual
/-- a bound of what is shown; nothing is said of texts -/
def shW : PyData → Nat
  | .none => 4
  | .bool _ => 5
  | .int _ => 1921
  | .str x => (reprText x).length
  | .list xs => 2 + shWL xs
  | .tuple xs => 4 + shWL xs
  | .dict _ => 0
def shWL : List PyData → Nat
  | [] => 0
  | d :: ds => shW d + 2 + shWL ds
end
theorem textFrom_le : ∀ (ts : List Str) (k : Nat) (acc : Str), (textFrom k acc ts).length ≤ acc.length + piled ts
  | [], k, acc => by simp [textFrom, piled]
  | t :: r, k, acc => by
    have h := textFrom_le r (k + 1) (acc ++ (if k > 0 then ", " else "" : String) ++ t)
    have e : (acc ++ (if k > 0 then ", " else "" : String) ++ t).length ≤ acc.length + 2 + t.length := by
      rw [strLen_append, strLen_append]
      have : (Str.ofString (if k > 0 then ", " else "" : String)).length ≤ 2 := by split <;> decide
      omega
    have p : piled (t :: r) = t.length + 2 + piled r := by simp [piled]
    rw [p]
    show (textFrom (k + 1) _ r).length ≤ _
    omega
theorem listText_le (ts : List Str) : (listText ts).length ≤ 2 + piled ts := by
  unfold listText
  rw [strLen_append]
  have h := textFrom_le ts 0 "["
  have h1 : (Str.ofString "[").length = 1 := by decide
  have h2 : (Str.ofString "]").length = 1 := by decide
  omega
theorem tupleText_le (ts : List Str) : (tupleText ts).length ≤ 4 + piled ts := by
  unfold tupleText
  rw [strLen_append, strLen_append]
  have h1 : (Str.ofString "(").length = 1 := by decide
  have h2 : (Str.ofString (if ts.length == 1 then ",)" else ")" : String)).length ≤ 2 := by split <;> decide
  have h3 : (Str.join ", " ts).length ≤ piled ts := by
    by_cases h : ts = []
    · subst h; decide
    · have := join_length_add ts h; omega
  omega
mutual
theorem shown_le : ∀ d : PyData, d.showable = true → d.plain = true → d.shown.length ≤ shW d
  | .none, _, _ => by simp only [PyData.shown, shW]; decide
  | .bool b, _, _ => by
    simp only [PyData.shown, shW]
    cases b <;> decide
  | .int i, h, _ => by
    simp only [PyData.shown, shW]
    have h' : i.natAbs.log2 < 1920 := by simpa [PyData.showable] using h
    rw [ofString_length]
    exact int_text_length_le (k := 1920) (by decide) h'
  | .str x, _, _ => Nat.le_refl _
  | .list xs, h, hp => by
    simp only [PyData.shown, shW]
    have := shown_leL xs (by simpa [PyData.showable] using h) (by simpa [PyData.plain] using hp)
    have := listText_le (PyData.shownAll xs)
    omega
  | .tuple xs, h, hp => by
    simp only [PyData.shown, shW]
    have := shown_leL xs (by simpa [PyData.showable] using h) (by simpa [PyData.plain] using hp)
    have := tupleText_le (PyData.shownAll xs)
    omega
  | .dict _, _, hp => by simp [PyData.plain] at hp
theorem shown_leL : ∀ ds : List PyData, PyData.showableAll ds = true → PyData.plainAll ds = true → piled (PyData.shownAll ds) ≤ shWL ds
  | [], _, _ => by simp [PyData.shownAll, piled, shWL]
  | d :: ds, h, hp => by
    have h' : d.showable = true ∧ PyData.showableAll ds = true := by simpa [PyData.showableAll] using h
    have hp' : d.plain = true ∧ PyData.plainAll ds = true := by simpa [PyData.plainAll] using hp
    have h1 := shown_le d h'.1 hp'.1
    have h2 := shown_leL ds h'.2 hp'.2
    have p : piled (PyData.shownAll (d :: ds)) = d.shown.length + 2 + piled (PyData.shownAll ds) := by simp [PyData.shownAll, piled]
    rw [p]
    simp only [shWL]
    omega
end
theorem repr_list {x : D} {st : Store} {xs : List D} {ys : List PyData} (hx : Is st x xs) (hp : toP deepP st x = some (.list ys)) (hs : PyData.showableAll ys = true) (hq : shp (.list ys) = true) (hw : shWL ys ≤ 16000000) : dRepr [x] st = .ok (.str (PyData.list ys).shown) st := by
  have h1 : (PyData.list ys).showable = true := by simpa [PyData.showable] using hs
  have h2 := shown_le (.list ys) h1 (shp_plain hq)
  have h3 : (PyData.list ys).shown.length ≤ szL := by
    rw [szL_eq]; simp only [shW] at h2; omega
  rcases hx with rfl | ⟨k, rfl, _⟩
  · simp only [dRepr, hp]; rw [if_pos ⟨h1, h3, hq⟩]
  · simp only [dRepr, hp]; rw [if_pos ⟨h1, h3, hq⟩]
theorem show_ints {is : List Int} (h : ∀ i ∈ is, i.natAbs.log2 < 1920) : PyData.showableAll (is.map PyData.int) = true := by
  induction is with
  | nil => rfl
  | cons i is ih =>
    have := h i List.mem_cons_self
    simp [PyData.showableAll, PyData.showable, this, ih fun j hj => h j (List.mem_cons_of_mem _ hj)]
theorem shw_ints (is : List Int) : shWL (is.map PyData.int) = 1923 * is.length := by
  induction is with
  | nil => rfl
  | cons i is ih => simp [shWL, shW, ih]; omega
end DY

/-! Evaluation on data: walks, loops, comprehensions, what is promised of a call. -/
namespace DY
open PySem PySem.Spec PyProof.Rows L2

/-! ### promises -/
/-- ends well, with K -/
def Wp {A : Type} (x : Res A) (K : A → Store → Prop) : Prop := match x with
  | .ok a st => K a st
  | _ => False
@[simp] theorem Wp_ok {A : Type} {a : A} {st : Store} {K : A → Store → Prop} : Wp (.ok a st) K = K a st := (rfl)
@[simp] theorem Wp_no {A : Type} {K : A → Store → Prop} : Wp (.no) K = False := (rfl)
@[simp] theorem Wp_er {A : Type} {e : Ex} {st : Store} {K : A → Store → Prop} : Wp (.er e st) K = False := (rfl)
theorem Wp.get {A : Type} {x : Res A} {K : A → Store → Prop} (h : Wp x K) : ∃ a st, x = .ok a st ∧ K a st := by
  cases x with
  | ok a st => exact ⟨a, st, rfl, h⟩
  | er e st => exact h.elim
  | no => exact h.elim
theorem Wp.imp {A : Type} {x : Res A} {K L : A → Store → Prop} (h : Wp x K) (f : ∀ a st, K a st → L a st) : Wp x L := by
  obtain ⟨a, st, rfl, h⟩ := h.get
  exact f a st h
/-- a statement's end: goes on, hands out, breaks -/
def Ws (x : SR) (KN : DEnv → Store → Prop) (KR : D → Store → Prop) (KB : DEnv → Store → Prop) : Prop := match x with
  | .nx e st => KN e st
  | .ct e st => KN e st
  | .bk e st => KB e st
  | .rt d st => KR d st
  | _ => False
section
variable {KN KB : DEnv → Store → Prop} {KR : D → Store → Prop} {env : DEnv} {st : Store} {d : D}
@[simp] theorem Ws_nx : Ws (.nx env st) KN KR KB = KN env st := (rfl)
@[simp] theorem Ws_ct : Ws (.ct env st) KN KR KB = KN env st := (rfl)
@[simp] theorem Ws_bk : Ws (.bk env st) KN KR KB = KB env st := (rfl)
@[simp] theorem Ws_rt : Ws (.rt d st) KN KR KB = KR d st := (rfl)
@[simp] theorem Ws_no : Ws .no KN KR KB = False := (rfl)
@[simp] theorem Ws_er {e : Ex} : Ws (.er e env st) KN KR KB = False := (rfl)
end

/-! ### a def's frame -/
def finB : SR → Res D
  | .nx _ st => .ok .non st
  | .rt d st => .ok d st
  | .er e _ st => .er e st
  | _ => .no
section
variable {env : DEnv} {st : Store} {d : D} {e : Ex}
@[simp] theorem finB_nx : finB (.nx env st) = .ok .non st := (rfl)
@[simp] theorem finB_rt : finB (.rt d st) = .ok d st := (rfl)
@[simp] theorem finB_er : finB (.er e env st) = .er e st := (rfl)
end
theorem runB_fin {n : Nat} {body : SemS} {ds : List D} {st : Store} : runB n body ds st = finB (body (ds.map some ++ List.replicate (n - ds.length) none) st) := by
  unfold runB finB
  cases body (ds.map some ++ List.replicate (n - ds.length) none) st <;> rfl
theorem ar_runB {m n : Nat} {body : SemS} {ds : List D} {st : Store} {env : DEnv} (h : ds.length = m) (he : ds.map some ++ List.replicate (n - ds.length) none = env) : arF m (runB n body) ds st = finB (body env st) := by
  unfold arF; rw [if_pos h, runB_fin, he]
/-- what is handed out, frozen -/
noncomputable def frzR (st0 : Store) : Res D → Res D := fun x => frzF (fun _ _ => x) [] st0
noncomputable def frzN (st0 : Store) : Res D → Res D := fun x => frzH (fun _ _ => x) [] st0
theorem ar_frzF {m n : Nat} {body : SemS} {ds : List D} {st : Store} {env : DEnv} (h : ds.length = m) (he : ds.map some ++ List.replicate (n - ds.length) none = env) : arF m (frzF (runB n body)) ds st = frzR st (finB (body env st)) := by
  unfold arF; rw [if_pos h]
  show frzF (runB n body) ds st = frzF (fun _ _ => finB (body env st)) [] st
  unfold frzF
  rw [runB_fin, he]
theorem ar_frzH {m n : Nat} {body : SemS} {ds : List D} {st : Store} {env : DEnv} (h : ds.length = m) (he : ds.map some ++ List.replicate (n - ds.length) none = env) : arF m (frzH (runB n body)) ds st = frzN st (finB (body env st)) := by
  unfold arF; rw [if_pos h]
  show frzH (runB n body) ds st = frzH (fun _ _ => finB (body env st)) [] st
  unfold frzH
  rw [runB_fin, he]
theorem frzR_of {st g : Store} {d d' : D} (h : frz 5 st.length (st ++ g) d = some d') : frzR st (.ok d (st ++ g)) = .ok d' st := frzF_ok rfl h
@[simp] theorem frzR_same {st : Store} {d : D} (h : noH d = true) : frzR st (.ok d st) = .ok d st := frzF_pure rfl h
@[simp] theorem frzR_noH {st g : Store} {d : D} (h : noH d = true) : frzR st (.ok d (st ++ g)) = .ok d st := frzR_of (frz_noH h)
@[simp] theorem frzR_new {st g : Store} {t : Hd} {xs : List D} (h : noHL xs = true) : frzR st (.ok (.h st.length) (st ++ (.nd t xs :: g))) = .ok (.nd t xs) st :=
  frzR_of (frz_new (Nat.le_refl _) (by simp) h)
@[simp] theorem frzN_new {st g : Store} {t : Hd} {xs : List D} (h : noHL xs = true) : frzN st (.ok (.h st.length) (st ++ (.nd t xs :: g))) = .ok (.h st.length) (st ++ [.nd t xs]) :=
  frzH_ok rfl (Nat.le_refl _) (by simp) h
theorem frzN_at {st g : Store} {t : Hd} {xs : List D} {j : Nat} (e : g[j]? = some (.nd t xs)) (h : noHL xs = true) : frzN st (.ok (.h (st.length + j)) (st ++ g)) = .ok (.h st.length) (st ++ [.nd t xs]) :=
  frzH_ok rfl (Nat.le_add_right _ _) (by rw [List.getElem?_append_right (Nat.le_add_right _ _), Nat.add_sub_cancel_left]; exact e) h
@[simp] theorem noH_int {i : Int} : noH (.int i) = true := (rfl)
@[simp] theorem noH_bl {i : Bool} : noH (.bl i) = true := (rfl)
@[simp] theorem noH_str {i : Str} : noH (.str i) = true := (rfl)
@[simp] theorem noH_non : noH .non = true := (rfl)
@[simp] theorem noH_ty {i : String} : noH (.ty i) = true := (rfl)
@[simp] theorem noH_nd {t : Hd} {xs : List D} : noH (.nd t xs) = noHL xs := (rfl)
@[simp] theorem noHL_nil : noHL [] = true := (rfl)
@[simp] theorem noHL_cons {d : D} {ds : List D} : noHL (d :: ds) = (noH d && noHL ds) := (rfl)
@[simp] theorem noHL_ints {is : List Int} : noHL (is.map D.int) = true := noH_ints is
theorem noHL_all {ds : List D} : noHL ds = true ↔ ∀ d ∈ ds, noH d = true := by
  induction ds with
  | nil => simp
  | cons d ds ih => simp [ih]
@[simp] theorem noHL_append {xs ys : List D} : noHL (xs ++ ys) = (noHL xs && noHL ys) := by
  induction xs with
  | nil => simp
  | cons d ds ih => simp [ih, Bool.and_assoc]
theorem noHL_map {α : Type} {f : α → D} (h : ∀ a, noH (f a) = true) (xs : List α) : noHL (xs.map f) = true := by
  rw [noHL_all]; intro d hd
  obtain ⟨a, _, rfl⟩ := List.mem_map.mp hd
  exact h a

/-! ### the store's end -/
@[simp high] theorem get_end {st g : Store} {j : Nat} : (st ++ g)[st.length + j]? = g[j]? := by
  rw [List.getElem?_append_right (Nat.le_add_right _ _), Nat.add_sub_cancel_left]
@[simp high] theorem get_end0 {st g : Store} : (st ++ g)[st.length]? = g[0]? := by
  rw [List.getElem?_append_right (Nat.le_refl _), Nat.sub_self]
@[simp] theorem set_end {st g : Store} {j : Nat} {x : D} : (st ++ g).set (st.length + j) x = st ++ g.set j x := by
  rw [List.set_append_right _ _ (Nat.le_add_right _ _), Nat.add_sub_cancel_left]
@[simp] theorem set_end0 {st g : Store} {x : D} : (st ++ g).set st.length x = st ++ g.set 0 x := by
  rw [List.set_append_right _ _ (Nat.le_refl _), Nat.sub_self]

/-! ### what is walked -/
section
variable {env : DEnv} {st : Store} {fo : SemE} {fs : SemA} {x y : D} {xs ys : List D}
def anyS : Store → Prop := fun _ => True
def lstIs (x : D) (xs : List D) : Store → Prop := fun st => lst? st x = some xs
def tupIs (x : D) (xs : List D) : Store → Prop := fun st => tup? st x = some xs
@[simp] theorem anyS_ev : anyS st = True := (rfl)
@[simp] theorem lstIs_ev : lstIs x xs st = (lstC (seen st x) = some xs) := (rfl)
@[simp] theorem tupIs_ev : tupIs x xs st = (tupC (seen st x) = some xs) := (rfl)
def iSeqC (x : D) (st : Store) : Option (Hd × List D) → Res DIter
  | some (.lst, xs) => .ok ⟨xs, lstIs x xs⟩ st
  | some (.scr, xs) => .ok ⟨xs, lstIs x xs⟩ st
  | some (.tup, xs) => .ok ⟨xs, tupIs x xs⟩ st
  | some (.ktp, xs) => .ok ⟨xs, tupIs x xs⟩ st
  | _ => .no
def iSeq1 : D → Store → Res DIter := fun x st => iSeqC x st (seen st x)
@[simp] theorem iSeq_ev : iSeq fo env st = (fo env st).bind iSeq1 := by
  unfold iSeq
  congr 1; funext x st1
  unfold iSeq1 lst? tup?
  cases seen st1 x with
  | none => rfl
  | some p =>
    obtain ⟨t, ys⟩ := p
    cases t <;> rfl
@[simp] theorem iSeq1_ev : iSeq1 x st = iSeqC x st (seen st x) := (rfl)
@[simp] theorem iSeqC_lst : iSeqC x st (some (.lst, xs)) = .ok ⟨xs, lstIs x xs⟩ st := (rfl)
@[simp] theorem iSeqC_scr : iSeqC x st (some (.scr, xs)) = .ok ⟨xs, lstIs x xs⟩ st := (rfl)
@[simp] theorem iSeqC_tup : iSeqC x st (some (.tup, xs)) = .ok ⟨xs, tupIs x xs⟩ st := (rfl)
/-- ranges -/
def iRange11 : List D → Store → Res DIter
  | [.int j], st => if -(2 ^ 62) ≤ j ∧ j < 2 ^ 62 then .ok ⟨rng 0 j.toNat, anyS⟩ st else .no
  | _, _ => .no
def iRange21 : List D → Store → Res DIter
  | [.int i, .int j], st => if (-(2 ^ 62) ≤ i ∧ i < 2 ^ 62) ∧ (-(2 ^ 62) ≤ j ∧ j < 2 ^ 62) then .ok ⟨rng i (j - i).toNat, anyS⟩ st else .no
  | _, _ => .no
@[simp] theorem iRange1_ev : iRange1 fs env st = (fs env st).bind iRange11 := by
  unfold iRange1
  congr 1; funext ds st1
  match ds with
  | [] => rfl
  | [.int i] => rfl
  | [.non] => rfl
  | [.bl _] => rfl
  | [.str _] => rfl
  | [.ty _] => rfl
  | [.h _] => rfl
  | [.nd _ _] => rfl
  | .int _ :: _ :: _ => rfl
  | .non :: _ :: _ => rfl
  | .bl _ :: _ :: _ => rfl
  | .str _ :: _ :: _ => rfl
  | .ty _ :: _ :: _ => rfl
  | .h _ :: _ :: _ => rfl
  | .nd _ _ :: _ :: _ => rfl
theorem iRange11_ev {j : Int} (h : -4611686018427387904 ≤ j ∧ j < 4611686018427387904) : iRange11 [.int j] st = .ok ⟨rng 0 j.toNat, anyS⟩ st := if_pos h
theorem iRange11_nat {k : Nat} (h : k < 4611686018427387904) : iRange11 [.int (k : Nat)] st = .ok ⟨rng 0 k, anyS⟩ st := (iRange11_ev (by omega)).trans (by simp)
theorem iRange2_ev' {ds : List D} : (match ds with
  | [.int i, .int j] => if (-(2 ^ 62) ≤ i ∧ i < 2 ^ 62) ∧ (-(2 ^ 62) ≤ j ∧ j < 2 ^ 62) then Res.ok (⟨rng i (j - i).toNat, fun _ => True⟩ : DIter) st else .no
  | _ => .no) = iRange21 ds st := by
  unfold iRange21
  split <;> simp_all [anyS] <;> rfl
@[simp] theorem iRange2_ev : iRange2 fs env st = (fs env st).bind iRange21 := by
  unfold iRange2
  congr 1; funext ds st1
  exact iRange2_ev'
theorem rng_get {lo : Int} {n i : Nat} {d : D} (h : (rng lo n)[i]? = some d) : i < n ∧ d = .int (lo + (i : Int)) := by
  unfold rng at h
  rw [List.getElem?_map] at h
  by_cases hi : i < n
  · rw [List.getElem?_range hi] at h
    exact ⟨hi, (Option.some.inj h).symm⟩
  · rw [List.getElem?_eq_none (by simp; omega)] at h; cases h
@[simp] theorem rng_len {lo : Int} {n : Nat} : (rng lo n).length = n := by simp [rng]
/-- enumerate -/
def iEnumC (x : D) (st : Store) : Option (Hd × List D) → Res DIter
  | some (.lst, xs) => .ok ⟨enuFrom 0 xs, lstIs x xs⟩ st
  | some (.scr, xs) => .ok ⟨enuFrom 0 xs, lstIs x xs⟩ st
  | some (.tup, xs) => .ok ⟨enuFrom 0 xs, tupIs x xs⟩ st
  | some (.ktp, xs) => .ok ⟨enuFrom 0 xs, tupIs x xs⟩ st
  | _ => .no
def iEnum21 : List D → Store → Res DIter
  | [x], st => iEnumC x st (seen st x)
  | _, _ => .no
@[simp] theorem iEnum2_ev : iEnum2 fs env st = (fs env st).bind iEnum21 := by
  unfold iEnum2
  congr 1; funext ds st1
  match ds with
  | [] => rfl
  | [x] =>
    show _ = iEnumC x st1 (seen st1 x)
    unfold lst? tup?
    dsimp only
    cases seen st1 x with
    | none => rfl
    | some p =>
      obtain ⟨t, ys⟩ := p
      cases t <;> rfl
  | _ :: _ :: _ => rfl
@[simp] theorem iEnum21_ev : iEnum21 [x] st = iEnumC x st (seen st x) := (rfl)
@[simp] theorem iEnumC_lst : iEnumC x st (some (.lst, xs)) = .ok ⟨enuFrom 0 xs, lstIs x xs⟩ st := (rfl)
@[simp] theorem iEnumC_tup : iEnumC x st (some (.tup, xs)) = .ok ⟨enuFrom 0 xs, tupIs x xs⟩ st := (rfl)
/-- zip -/
def bothS (p q : Store → Prop) : Store → Prop := fun st => p st ∧ q st
@[simp] theorem bothS_ev {p q : Store → Prop} : bothS p q st = (p st ∧ q st) := (rfl)
def iZipC (x y : D) (st : Store) : Option (Hd × List D) → Option (Hd × List D) → Res DIter
  | some (.lst, xs), some (.lst, ys) => .ok ⟨zipD xs ys, bothS (lstIs x xs) (lstIs y ys)⟩ st
  | some (.tup, xs), some (.tup, ys) => .ok ⟨zipD xs ys, bothS (tupIs x xs) (tupIs y ys)⟩ st
  | some (.scr, xs), some (.lst, ys) => .ok ⟨zipD xs ys, bothS (lstIs x xs) (lstIs y ys)⟩ st
  | some (.lst, xs), some (.scr, ys) => .ok ⟨zipD xs ys, bothS (lstIs x xs) (lstIs y ys)⟩ st
  | some (.scr, xs), some (.scr, ys) => .ok ⟨zipD xs ys, bothS (lstIs x xs) (lstIs y ys)⟩ st
  | some (.tup, xs), some (.ktp, ys) => .ok ⟨zipD xs ys, bothS (tupIs x xs) (tupIs y ys)⟩ st
  | some (.ktp, xs), some (.tup, ys) => .ok ⟨zipD xs ys, bothS (tupIs x xs) (tupIs y ys)⟩ st
  | some (.ktp, xs), some (.ktp, ys) => .ok ⟨zipD xs ys, bothS (tupIs x xs) (tupIs y ys)⟩ st
  | _, _ => .no
def iZip21 : List D → Store → Res DIter
  | [x, y], st => iZipC x y st (seen st x) (seen st y)
  | _, _ => .no
@[simp] theorem iZip2_ev : iZip2 fs env st = (fs env st).bind iZip21 := by
  unfold iZip2
  congr 1; funext ds st1
  match ds with
  | [] => rfl
  | [_] => rfl
  | [x, y] =>
    show _ = iZipC x y st1 (seen st1 x) (seen st1 y)
    unfold lst? tup?
    dsimp only
    cases seen st1 x with
    | none => rfl
    | some p =>
      obtain ⟨t, xs⟩ := p
      cases seen st1 y with
      | none => cases t <;> rfl
      | some q =>
        obtain ⟨u, ys⟩ := q
        cases t <;> cases u <;> rfl
  | _ :: _ :: _ :: _ => rfl
@[simp] theorem iZip21_ev : iZip21 [x, y] st = iZipC x y st (seen st x) (seen st y) := (rfl)
@[simp] theorem iZipC_ll : iZipC x y st (some (.lst, xs)) (some (.lst, ys)) = .ok ⟨zipD xs ys, bothS (lstIs x xs) (lstIs y ys)⟩ st := (rfl)
@[simp] theorem iZipC_tt : iZipC x y st (some (.tup, xs)) (some (.tup, ys)) = .ok ⟨zipD xs ys, bothS (tupIs x xs) (tupIs y ys)⟩ st := (rfl)
def iText1 : D → Store → Res DIter
  | .str z, st => .ok ⟨z.cps.toList.map fun c => D.str ⟨#[c]⟩, anyS⟩ st
  | _, _ => .no
@[simp] theorem iText_ev : iText fo env st = (fo env st).bind iText1 := by
  unfold iText
  congr 1; funext x st1; cases x <;> rfl
@[simp] theorem iText1_ev {z : Str} : iText1 (.str z) st = .ok ⟨z.cps.toList.map fun c => D.str ⟨#[c]⟩, anyS⟩ st := (rfl)
end

/-! ### loops -/
section
variable {env : DEnv} {st : Store} {chk : Store → Prop} {tg : DTg} {body : SemS} {fi : SemI} {items : List D} {x : SR} {d : D}
@[simp] theorem sFor_ev : sFor fi tg body env st = bindE (fi env st) env (sFor1 tg body env) := (rfl)
@[simp] theorem sFor1_ev {it : DIter} : sFor1 tg body env it st = forL it.chk tg body it.items env st := (rfl)
def lStep1 (body : SemS) (st : Store) : Option DEnv → SR
  | some env1 => body env1 st
  | none => .no
/-- one turn -/
def lStep (tg : DTg) (body : SemS) (d : D) (env : DEnv) (st : Store) : SR := lStep1 body st (tg d env st)
@[simp] theorem lStep_ev : lStep tg body d env st = lStep1 body st (tg d env st) := (rfl)
@[simp] theorem lStep1_ev : lStep1 body st (some env) = body env st := (rfl)
/-- a loop by its invariant; it may break or hand out -/
theorem forL_all {B : DEnv → Store → Prop} {R : D → Store → Prop} : ∀ {items : List D} {x : SR} {env : DEnv} {st : Store} (hx : forL chk tg body items env st = x) (I : Nat → DEnv → Store → Prop), I 0 env st →
    (∀ i env st, I i env st → chk st) → (∀ i d env st, items[i]? = some d → I i env st → Ws (lStep tg body d env st) (I (i + 1)) R B) →
    (∃ env' st', x = .nx env' st' ∧ (I items.length env' st' ∨ B env' st')) ∨ ∃ d st', x = .rt d st' ∧ R d st'
  | [], x, env, st, hx, I, h0, hc, hs => by
    unfold forL at hx
    rw [if_pos (hc 0 env st h0)] at hx
    exact .inl ⟨env, st, hx.symm, .inl h0⟩
  | d :: ds, x, env, st, hx, I, h0, hc, hs => by
    have h := hs 0 d env st rfl h0
    unfold forL at hx
    rw [if_pos (hc 0 env st h0)] at hx
    unfold lStep lStep1 at h
    cases ht : tg d env st with
    | none => rw [ht] at h; exact h.elim
    | some env1 =>
      rw [ht] at h hx
      dsimp only at h hx
      cases hb : body env1 st with
      | nx env2 st2 =>
        rw [hb] at h hx
        dsimp only at h hx
        exact forL_all (items := ds) hx (fun i => I (i + 1)) h (fun i => hc (i + 1)) fun i d env st hi hI => hs (i + 1) d env st (by simpa using hi) hI
      | ct env2 st2 =>
        rw [hb] at h hx
        dsimp only at h hx
        exact forL_all (items := ds) hx (fun i => I (i + 1)) h (fun i => hc (i + 1)) fun i d env st hi hI => hs (i + 1) d env st (by simpa using hi) hI
      | bk env2 st2 =>
        rw [hb] at h hx
        dsimp only at h hx
        exact .inl ⟨_, _, hx.symm, .inr h⟩
      | rt d st2 =>
        rw [hb] at h hx
        dsimp only at h hx
        exact .inr ⟨_, _, hx.symm, h⟩
      | er e a b => rw [hb] at h; exact h.elim
      | no => rw [hb] at h; exact h.elim
/-- goes through -/
theorem forL_go (hx : forL chk tg body items env st = x) (I : Nat → DEnv → Store → Prop) (h0 : I 0 env st)
    (hc : ∀ i env st, I i env st → chk st) (hs : ∀ i d env st, items[i]? = some d → I i env st → Ws (lStep tg body d env st) (I (i + 1)) (fun _ _ => False) (fun _ _ => False)) :
    ∃ env' st', x = .nx env' st' ∧ I items.length env' st' := by
  rcases forL_all hx I h0 hc hs with ⟨env', st', e, h | h⟩ | ⟨_, _, _, h⟩
  · exact ⟨env', st', e, h⟩
  · exact h.elim
  · exact h.elim
/-- unrolled -/
def forK (k : DEnv → Store → SR) : SR → SR
  | .nx e s => k e s
  | .ct e s => k e s
  | .bk e s => .nx e s
  | x => x
@[simp] theorem forK_nx {k : DEnv → Store → SR} : forK k (.nx env st) = k env st := (rfl)
@[simp] theorem forK_ct {k : DEnv → Store → SR} : forK k (.ct env st) = k env st := (rfl)
@[simp] theorem forK_bk {k : DEnv → Store → SR} : forK k (.bk env st) = .nx env st := (rfl)
@[simp] theorem forK_rt {k : DEnv → Store → SR} : forK k (.rt d st) = .rt d st := (rfl)
@[simp] theorem forK_er {k : DEnv → Store → SR} {e : Ex} : forK k (.er e env st) = .er e env st := (rfl)
theorem forL_nil : forL chk tg body [] env st = @ite _ (chk st) (Classical.propDecidable _) (.nx env st) .no := by
  unfold forL; rfl
theorem forL_cons {ds : List D} : forL chk tg body (d :: ds) env st = @ite _ (chk st) (Classical.propDecidable _) (forK (forL chk tg body ds) (lStep tg body d env st)) .no := by
  rw [forL.eq_def]
  dsimp only
  congr 1
  unfold lStep lStep1
  cases tg d env st with
  | none => rfl
  | some env1 =>
    dsimp only
    cases body env1 st <;> rfl
theorem get_map {α : Type} {f : α → D} {xs : List α} {i : Nat} {d : D} (h : (xs.map f)[i]? = some d) : ∃ a, xs[i]? = some a ∧ d = f a := by
  rw [List.getElem?_map] at h
  cases hi : xs[i]? with
  | none => rw [hi] at h; cases h
  | some a => rw [hi] at h; exact ⟨a, rfl, (Option.some.inj h).symm⟩
end

/-! ### comprehensions -/
@[simp] theorem enuFrom_nil {n : Nat} : enuFrom n [] = [] := (rfl)
@[simp] theorem enuFrom_cons {n : Nat} {d : D} {ds : List D} : enuFrom n (d :: ds) = .nd .tup [.int (n : Nat), d] :: enuFrom (n + 1) ds := (rfl)
section
variable {env env1 : DEnv} {st : Store} {chk : Store → Prop} {tg : DTg} {tst : SemT} {elt : SemE} {own : List Nat} {fi : SemI} {acc : List D} {x : Res (List D)} {d y : D}
def dLst0 : List D → Store → Res D := fun xs st => .ok (.nd .lst xs) st
def dLstM0 : List D → Store → Res D := fun xs st => .ok (.h st.length) (st ++ [.nd .lst xs])
noncomputable def dLc1 (tg : DTg) (tst : SemT) (elt : SemE) (own : List Nat) (env : DEnv) : DIter → Store → Res (List D) := fun it st => compL it.chk tg tst elt own env it.items [] st
@[simp] theorem dLst0_ev {xs : List D} : dLst0 xs st = .ok (.nd .lst xs) st := (rfl)
@[simp] theorem dLstM0_ev {xs : List D} : dLstM0 xs st = .ok (.h st.length) (st ++ [.nd .lst xs]) := (rfl)
@[simp] theorem dLc1_ev {it : DIter} : dLc1 tg tst elt own env it st = compL it.chk tg tst elt own env it.items [] st := (rfl)
theorem bind_bind {A B C : Type} {x : Res A} {f : A → Store → Res B} {g : B → Store → Res C} : (x.bind f).bind g = x.bind fun a st => (f a st).bind g := by cases x <;> rfl
@[simp] theorem dLc_ev : dLc fi tg tst elt own env st = ((fi env st).bind (dLc1 tg tst elt own env)).bind dLst0 := bind_bind.symm
@[simp] theorem dLcM_ev : dLcM fi tg tst elt own env st = ((fi env st).bind (dLc1 tg tst elt own env)).bind dLstM0 := bind_bind.symm
def cEl3 : D → Store → Res (Option D) := fun y st => .ok (some y) st
def cEl2 (elt : SemE) (env1 : DEnv) : Bool → Store → Res (Option D) := fun b st => if b = true then (elt env1 st).bind cEl3 else .ok none st
def cEl1 (tst : SemT) (elt : SemE) (st : Store) : Option DEnv → Res (Option D)
  | some env1 => (tst env1 st).bind (cEl2 elt env1)
  | none => .no
/-- one turn of a comprehension -/
def cEl (tg : DTg) (tst : SemT) (elt : SemE) (env0 : DEnv) (d : D) (st : Store) : Res (Option D) := cEl1 tst elt st (tg d env0 st)
@[simp] theorem cEl_ev : cEl tg tst elt env d st = cEl1 tst elt st (tg d env st) := (rfl)
@[simp] theorem cEl1_ev : cEl1 tst elt st (some env1) = (tst env1 st).bind (cEl2 elt env1) := (rfl)
@[simp] theorem cEl2_ev {b : Bool} : cEl2 elt env1 b st = if b = true then (elt env1 st).bind cEl3 else .ok none st := (rfl)
@[simp] theorem cEl3_ev : cEl3 y st = .ok (some y) st := (rfl)
theorem cEl_cases {o : Option D} {st' : Store} (h : cEl tg tst elt env d st = .ok o st') :
    ∃ env1, tg d env st = some env1 ∧ ((∃ st1 y, tst env1 st = .ok true st1 ∧ elt env1 st1 = .ok y st' ∧ o = some y) ∨ (tst env1 st = .ok false st' ∧ o = none)) := by
  unfold cEl cEl1 at h
  cases ht : tg d env st with
  | none => rw [ht] at h; cases h
  | some env1 =>
    rw [ht] at h
    dsimp only at h
    refine ⟨env1, rfl, ?_⟩
    cases hb : tst env1 st with
    | ok b st1 =>
      rw [hb] at h
      cases b with
      | true =>
        have h' : (elt env1 st1).bind cEl3 = .ok o st' := h
        cases he : elt env1 st1 with
        | ok y st2 => rw [he] at h'; cases h'; exact .inl ⟨st1, y, rfl, he, rfl⟩
        | er e s => rw [he] at h'; cases h'
        | no => rw [he] at h'; cases h'
      | false => cases h; exact .inr ⟨rfl, rfl⟩
    | er e s => rw [hb] at h; cases h
    | no => rw [hb] at h; cases h
/-- with changes on the way -/
theorem compL_all {α : Type} {enc : α → D} : ∀ {xs : List α} {acc : List D} {st : Store} {x : Res (List D)} (hx : compL chk tg tst elt own env (xs.map enc) acc st = x) (I : Nat → List D → Store → Prop), I 0 acc st →
    (∀ i ys st, I i ys st → chk st) → acc.length + xs.length ≤ 16777216 → (∀ i a ys st, xs[i]? = some a → I i ys st → Wp (cEl tg tst elt (wipeD env own) (enc a) st) fun o st' => I (i + 1) (ys ++ o.toList) st') → Wp x (I xs.length)
  | [], acc, st, x, hx, I, h0, hc, hl, hs => by
    simp only [List.map_nil] at hx
    unfold compL at hx
    rw [if_pos (hc 0 acc st h0)] at hx
    subst hx; exact h0
  | a :: xs, acc, st, x, hx, I, h0, hc, hl, hs => by
    obtain ⟨o, st', e, h⟩ := (hs 0 a acc st rfl h0).get
    obtain ⟨env1, e1, h1⟩ := cEl_cases e
    simp only [List.map_cons] at hx
    unfold compL at hx
    rw [if_pos (hc 0 acc st h0), e1] at hx
    dsimp only at hx
    have hl' : acc.length + xs.length + 1 ≤ 16777216 := by simpa [Nat.add_assoc] using hl
    rcases h1 with ⟨st1, y, h1, h2, rfl⟩ | ⟨h1, rfl⟩
    · rw [h1] at hx
      dsimp only at hx
      rw [h2] at hx
      dsimp only at hx
      rw [if_pos (show acc.length < szL by rw [szL_16]; omega)] at hx
      exact compL_all (xs := xs) hx (fun i => I (i + 1)) (by simpa using h) (fun i => hc (i + 1)) (by simp; omega) fun i b ys st hi hI => hs (i + 1) b ys st (by simpa using hi) hI
    · rw [h1] at hx
      dsimp only at hx
      exact compL_all (xs := xs) hx (fun i => I (i + 1)) (by simpa using h) (fun i => hc (i + 1)) (by omega) fun i b ys st hi hI => hs (i + 1) b ys st (by simpa using hi) hI
/-- that changes nothing, with tests -/
theorem compL_fm {α : Type} {enc : α → D} {xs : List α} (hx : compL chk tg tst elt own env (xs.map enc) [] st = x) (f : α → Option D) (hc : chk st) (hl : xs.length ≤ 16777216)
    (hs : ∀ a, a ∈ xs → cEl tg tst elt (wipeD env own) (enc a) st = .ok (f a) st) : x = .ok (xs.filterMap f) st := by
  have h := compL_all hx (fun i ys st' => st' = st ∧ ys = (xs.take i).filterMap f) ⟨rfl, by simp⟩ (fun i ys st' h => by rw [h.1]; exact hc) (by simpa using hl) fun i a ys st' hi hI => by
    obtain ⟨rfl, rfl⟩ := hI
    rw [hs a (List.mem_of_getElem? hi)]
    refine ⟨rfl, ?_⟩
    rw [List.take_add_one, hi]
    simp
    cases h : f a <;> simp [h]
  obtain ⟨ys, st', rfl, rfl, rfl⟩ := h.get
  simp
/-- without tests -/
theorem compL_map {α : Type} {enc : α → D} {xs : List α} (hx : compL chk tg tst elt own env (xs.map enc) [] st = x) (f : α → D) (hc : chk st) (hl : xs.length ≤ 16777216)
    (hs : ∀ a, a ∈ xs → cEl tg tst elt (wipeD env own) (enc a) st = .ok (some (f a)) st) : x = .ok (xs.map f) st := by
  have := compL_fm hx (fun a => some (f a)) hc hl hs
  simpa using this
/-- with a test -/
theorem compL_filter {α : Type} {enc : α → D} {xs : List α} (hx : compL chk tg tst elt own env (xs.map enc) [] st = x) (p : α → Bool) (f : α → D) (hc : chk st) (hl : xs.length ≤ 16777216)
    (hs : ∀ a, a ∈ xs → cEl tg tst elt (wipeD env own) (enc a) st = .ok (if p a = true then some (f a) else none) st) : x = .ok ((xs.filter p).map f) st := by
  have := compL_fm hx (fun a => if p a = true then some (f a) else none) hc hl hs
  rw [this]
  congr 1
  clear hx hs this hl
  induction xs with
  | nil => rfl
  | cons a xs ih => by_cases h : p a = true <;> simp [h, ih]
/-- unrolled -/
noncomputable def compK (chk : Store → Prop) (tg : DTg) (tst : SemT) (elt : SemE) (own : List Nat) (env : DEnv) (ds acc : List D) : Res (Option D) → Res (List D)
  | .ok (some y) st => if acc.length < szL then compL chk tg tst elt own env ds (acc ++ [y]) st else .no
  | .ok none st => compL chk tg tst elt own env ds acc st
  | _ => .no
theorem compL_nil : compL chk tg tst elt own env [] acc st = @ite _ (chk st) (Classical.propDecidable _) (.ok acc st) .no := by
  unfold compL; rfl
theorem compL_cons {ds : List D} : compL chk tg tst elt own env (d :: ds) acc st = @ite _ (chk st) (Classical.propDecidable _) (compK chk tg tst elt own env ds acc (cEl tg tst elt (wipeD env own) d st)) .no := by
  rw [compL.eq_def]
  dsimp only
  congr 1
  unfold cEl cEl1
  cases tg d (wipeD env own) st with
  | none => rfl
  | some env1 =>
    dsimp only
    cases tst env1 st with
    | ok b st1 =>
      cases b with
      | true =>
        show _ = compK chk tg tst elt own env ds acc ((elt env1 st1).bind cEl3)
        dsimp only
        cases elt env1 st1 <;> rfl
      | false => rfl
    | er e s => rfl
    | no => rfl
@[simp] theorem compK_some {ds : List D} (h : acc.length < 16777216) : compK chk tg tst elt own env ds acc (.ok (some y) st) = compL chk tg tst elt own env ds (acc ++ [y]) st := if_pos (by rw [szL_16]; exact h)
@[simp] theorem compK_none {ds : List D} : compK chk tg tst elt own env ds acc (.ok none st) = compL chk tg tst elt own env ds acc st := (rfl)
end
@[simp] theorem wipeD_nil {env : DEnv} : wipeD env [] = env := (rfl)
@[simp] theorem wipeD_cons {env : DEnv} {v : Nat} {vs : List Nat} : wipeD env (v :: vs) = (wipeD env vs).set v none := (rfl)
end DY

/-! Evaluation on data: operators, built-in functions. -/
namespace DY
open PySem PySem.Spec PyProof.Rows L2
section
variable {env : DEnv} {st : Store} {i j : Int} {x y : D} {xs ys : List D}
/-! ### whole numbers -/
@[simp] theorem dAdd_int : dAdd (.int i) (.int j) st = .ok (.int (i + j)) st := (rfl)
@[simp] theorem dSub_int : dSub (.int i) (.int j) st = .ok (.int (i - j)) st := dSub_i i j st
theorem dMul_r (h : -(2 ^ 64) < j ∧ j < 2 ^ 64) : dMul (.int i) (.int j) st = .ok (.int (i * j)) st := if_pos (.inl (.inr h))
theorem dMul_l (h : -(2 ^ 64) < i ∧ i < 2 ^ 64) : dMul (.int i) (.int j) st = .ok (.int (i * j)) st := if_pos (.inl (.inl h))
theorem dFdiv_n (h : 0 < j ∧ j < 1073741824) : dFdiv (.int i) (.int j) st = .ok (.int (i / j)) st := if_pos (.inl h)
theorem dFdiv_w (h : 0 < j ∧ j.natAbs.log2 < 9000) : dFdiv (.int i) (.int j) st = .ok (.int (i / j)) st := if_pos (.inr h)
@[simp] theorem dMod_ev (h : 0 < j) : dMod (.int i) (.int j) st = .ok (.int (i % j)) st := if_pos h
theorem dPow_ev (h : CPow i j) : dPow (.int i) (.int j) st = .ok (.int (i ^ j.toNat)) st := if_pos h
@[simp] theorem dPow_9 : dPow (.int 10) (.int 9) st = .ok (.int 1000000000) st := dPow_ev ⟨by decide, by decide, by decide⟩
@[simp] theorem dPow_12 : dPow (.int 10) (.int 12) st = .ok (.int 1000000000000) st := dPow_ev ⟨by decide, by decide, by decide⟩
@[simp] theorem dPow_15 : dPow (.int 10) (.int 15) st = .ok (.int 1000000000000000) st := dPow_ev ⟨by decide, by decide, by decide⟩
@[simp] theorem dPow_18 : dPow (.int 10) (.int 18) st = .ok (.int 1000000000000000000) st := dPow_ev ⟨by decide, by decide, by decide⟩
@[simp] theorem dPow_30 : dPow (.int 10) (.int 30) st = .ok (.int 1000000000000000000000000000000) st := dPow_ev ⟨by decide, by decide, by decide⟩
@[simp] theorem dLt_int : dLt (.int i) (.int j) st = .ok (.bl (decide (i < j))) st := (rfl)
@[simp] theorem dLe_int : dLe (.int i) (.int j) st = .ok (.bl (decide (i ≤ j))) st := (rfl)
@[simp] theorem dGt_int : dGt (.int i) (.int j) st = .ok (.bl (decide (j < i))) st := (rfl)
@[simp] theorem dGe_int : dGe (.int i) (.int j) st = .ok (.bl (decide (j ≤ i))) st := (rfl)
@[simp] theorem dEq_int : dEq (.int i) (.int j) st = .ok (.bl (decide (i = j))) st := (rfl)
@[simp] theorem dNe_int : dNe (.int i) (.int j) st = .ok (.bl (!decide (i = j))) st := (rfl)
@[simp] theorem dEq_str {a b : Str} : dEq (.str a) (.str b) st = .ok (.bl (decide (a = b))) st := (rfl)
@[simp] theorem dNe_str {a b : Str} : dNe (.str a) (.str b) st = .ok (.bl (!decide (a = b))) st := (rfl)
@[simp] theorem dEq_bl {a b : Bool} : dEq (.bl a) (.bl b) st = .ok (.bl (decide (a = b))) st := (rfl)
@[simp] theorem dNe_bl {a b : Bool} : dNe (.bl a) (.bl b) st = .ok (.bl (!decide (a = b))) st := (rfl)
@[simp] theorem dIsN_ev : dIsN x .non st = .ok (.bl (isNon x)) st := (rfl)
@[simp] theorem dNotN_ev : dNotN x .non st = .ok (.bl (!isNon x)) st := (rfl)
@[simp] theorem isNon_int : isNon (.int i) = false := (rfl)
@[simp] theorem isNon_str {a : Str} : isNon (.str a) = false := (rfl)
@[simp] theorem isNon_bl {a : Bool} : isNon (.bl a) = false := (rfl)
@[simp] theorem isNon_nd {t : Hd} : isNon (.nd t xs) = false := (rfl)
@[simp] theorem isNon_h {k : Nat} : isNon (.h k) = false := (rfl)
@[simp] theorem isNon_non : isNon .non = true := (rfl)
@[simp] theorem isNon_ty {i : String} : isNon (.ty i) = false := (rfl)
@[simp] theorem dIsB_ev {a b : Bool} : dIsB (.bl a) (.bl b) st = .ok (.bl (decide (a = b))) st := (rfl)
@[simp] theorem dNotB_ev {a b : Bool} : dNotB (.bl a) (.bl b) st = .ok (.bl (!decide (a = b))) st := (rfl)
/-! ### built-in functions -/
@[simp] theorem dInt_ev : dInt [.int i] st = .ok (.int i) st := (rfl)
@[simp] theorem dAbs_ev : dAbs [.int i] st = .ok (.int (if i < 0 then -i else i)) st := (rfl)
@[simp] theorem dMax_2 : dMax [.int i, .int j] st = .ok (.int (max i j)) st := by
  have : (if j > i then j else i) = max i j := by omega
  show Res.ok (D.int (if j > i then j else i)) st = _
  rw [this]
@[simp] theorem dMin_2 : dMin [.int i, .int j] st = .ok (.int (min i j)) st := by
  have : (if j < i then j else i) = min i j := by omega
  show Res.ok (D.int (if j < i then j else i)) st = _
  rw [this]
/-- the greatest, the least -/
@[simp] theorem ints_map' (is : List Int) : ints? (is.map D.int) = some is := ints_map is
@[simp] theorem ints_nil : ints? [] = some [] := (rfl)
def consO {α : Type} (a : α) : Option (List α) → Option (List α)
  | some l => some (a :: l)
  | none => none
@[simp] theorem consO_ev {α : Type} {a : α} {l : List α} : consO a (some l) = some (a :: l) := (rfl)
@[simp] theorem ints_cons : ints? (.int i :: xs) = consO i (ints? xs) := by
  show (match ints? xs with | some is => some (i :: is) | none => none) = _
  cases ints? xs <;> rfl
def dMaxC (st : Store) : Option (List Int) → Res D
  | some (i :: is) => .ok (.int (mxL (i :: is))) st
  | _ => .no
def dMinC (st : Store) : Option (List Int) → Res D
  | some (i :: is) => .ok (.int (mnL (i :: is))) st
  | _ => .no
def dSumC (st : Store) : Option (List Int) → Res D
  | some is => .ok (.int is.sum) st
  | _ => .no
@[simp] theorem dMax_1 : dMax [x] st = dMaxC st ((lst? st x).bind ints?) := by
  unfold dMax dMaxC; cases x <;> rfl
@[simp] theorem dMin_1 : dMin [x] st = dMinC st ((lst? st x).bind ints?) := by
  unfold dMin dMinC; cases x <;> rfl
@[simp] theorem dSum_1 : dSum [x] st = dSumC st ((lst? st x).bind ints?) := (rfl)
@[simp] theorem dMaxC_cons {is : List Int} : dMaxC st (some (i :: is)) = .ok (.int (mxL (i :: is))) st := (rfl)
@[simp] theorem dMinC_cons {is : List Int} : dMinC st (some (i :: is)) = .ok (.int (mnL (i :: is))) st := (rfl)
@[simp] theorem dMaxC_ev {is : List Int} (h : is ≠ []) : dMaxC st (some is) = .ok (.int (mxL is)) st := by
  cases is with
  | nil => exact absurd rfl h
  | cons a l => rfl
@[simp] theorem dMinC_ev {is : List Int} (h : is ≠ []) : dMinC st (some is) = .ok (.int (mnL is)) st := by
  cases is with
  | nil => exact absurd rfl h
  | cons a l => rfl
@[simp] theorem dSumC_ev {is : List Int} : dSumC st (some is) = .ok (.int is.sum) st := (rfl)
@[simp] theorem bools_map (bs : List Bool) : bools? (bs.map D.bl) = some bs := by
  induction bs with
  | nil => rfl
  | cons b bs ih => simp [bools?, ih]
@[simp] theorem bools_nil : bools? [] = some [] := (rfl)
@[simp] theorem bools_cons {b : Bool} : bools? (.bl b :: xs) = consO b (bools? xs) := by
  show (match bools? xs with | some is => some (b :: is) | none => none) = _
  cases bools? xs <;> rfl
def dAllC (st : Store) : Option (List Bool) → Res D
  | some is => .ok (.bl (is.all id)) st
  | _ => .no
def dAnyC (st : Store) : Option (List Bool) → Res D
  | some is => .ok (.bl (is.any id)) st
  | _ => .no
@[simp] theorem dAll_1 : dAll [x] st = dAllC st ((lst? st x).bind bools?) := (rfl)
@[simp] theorem dAny_1 : dAny [x] st = dAnyC st ((lst? st x).bind bools?) := (rfl)
@[simp] theorem dAllC_ev {is : List Bool} : dAllC st (some is) = .ok (.bl (is.all id)) st := (rfl)
@[simp] theorem dAnyC_ev {is : List Bool} : dAnyC st (some is) = .ok (.bl (is.any id)) st := (rfl)
def seqC : Option (Hd × List D) → Option (List D)
  | some (.lst, xs) => some xs
  | some (.scr, xs) => some xs
  | some (.tup, xs) => some xs
  | some (.ktp, xs) => some xs
  | _ => none
@[simp] theorem seqC_lst : seqC (some (.lst, xs)) = some xs := (rfl)
@[simp] theorem seqC_scr : seqC (some (.scr, xs)) = some xs := (rfl)
@[simp] theorem seqC_tup : seqC (some (.tup, xs)) = some xs := (rfl)
@[simp] theorem seq_ev : seq? st x = seqC (seen st x) := by
  unfold seq? lst? tup?
  cases seen st x with
  | none => rfl
  | some p =>
    obtain ⟨t, xs⟩ := p
    cases t <;> rfl
def dLenC (st : Store) : Option (List D) → Res D
  | some xs => .ok (.int xs.length) st
  | none => .no
@[simp] theorem dLen_nd {t : Hd} : dLen [.nd t xs] st = dLenC st (seqC (some (t, xs))) := by
  show (match seq? st (.nd t xs) with | some xs => _ | none => _) = _
  simp only [seq_ev, seen_nd]
  cases seqC (some (t, xs)) <;> rfl
@[simp] theorem dLen_h {k : Nat} : dLen [.h k] st = dLenC st (seqC (seenC st[k]?)) := by
  show (match seq? st (.h k) with | some xs => _ | none => _) = _
  simp only [seq_ev, seen_h]
  cases seqC (seenC st[k]?) <;> rfl
@[simp] theorem dLenC_ev : dLenC st (some xs) = .ok (.int xs.length) st := (rfl)
@[simp] theorem dLen_str {z : Str} (h : z.length ≤ 16777216) : dLen [.str z] st = .ok (.int z.length) st := by
  simp [dLen, szL_16, h, seqC]
def dListC (st : Store) : Option (List D) → Res D
  | some xs => .ok (.nd .lst xs) st
  | none => .no
def dListMC (st : Store) : Option (List D) → Res D
  | some xs => .ok (.h st.length) (st ++ [.nd .lst xs])
  | none => .no
@[simp] theorem dList_1 : dList [x] st = dListC st (seq? st x) := (rfl)
@[simp] theorem dListM_1 : dListM [x] st = dListMC st (seq? st x) := (rfl)
@[simp] theorem dListC_ev : dListC st (some xs) = .ok (.nd .lst xs) st := (rfl)
@[simp] theorem dListMC_ev : dListMC st (some xs) = .ok (.h st.length) (st ++ [.nd .lst xs]) := (rfl)
def dTupleC (st : Store) : Option (Hd × List D) → Res D
  | some (.lst, xs) => .ok (.nd .tup xs) st
  | some (.scr, xs) => .ok (.nd .tup xs) st
  | some (.tup, xs) => .ok (.nd .tup xs) st
  | _ => .no
@[simp] theorem dTuple_1 : dTuple [x] st = dTupleC st (seen st x) := by
  unfold dTuple lst? tupX?
  dsimp only
  cases seen st x with
  | none => rfl
  | some p =>
    obtain ⟨t, xs⟩ := p
    cases t <;> rfl
@[simp] theorem dTupleC_lst : dTupleC st (some (.lst, xs)) = .ok (.nd .tup xs) st := (rfl)
@[simp] theorem dTupleC_tup : dTupleC st (some (.tup, xs)) = .ok (.nd .tup xs) st := (rfl)
/-! ### lists and tuples joined, cut, read -/
def dAddC (st : Store) : Option (Hd × List D) → Option (Hd × List D) → Res D
  | some (.lst, xs), some (.lst, ys) => if xs.length + ys.length ≤ szL then .ok (.nd .lst (xs ++ ys)) st else .no
  | some (.tup, xs), some (.tup, ys) => if xs.length + ys.length ≤ szL then .ok (.nd .tup (xs ++ ys)) st else .no
  | _, _ => .no
theorem dAdd_seen (e : dAdd x y st = (match lstX? st x, lstX? st y with
    | some xs, some ys => if xs.length + ys.length ≤ szL then .ok (.nd .lst (xs ++ ys)) st else .no
    | _, _ => match tupX? st x, tupX? st y with
      | some xs, some ys => if xs.length + ys.length ≤ szL then .ok (.nd .tup (xs ++ ys)) st else .no
      | _, _ => .no)) : dAdd x y st = dAddC st (seen st x) (seen st y) := by
  rw [e]
  unfold lstX? tupX?
  cases seen st x with
  | none => rfl
  | some p =>
    obtain ⟨t, xs⟩ := p
    cases seen st y with
    | none => cases t <;> rfl
    | some q =>
      obtain ⟨u, ys⟩ := q
      cases t <;> cases u <;> rfl
@[simp] theorem dAddC_ll (h : xs.length + ys.length ≤ 16777216) : dAddC st (some (.lst, xs)) (some (.lst, ys)) = .ok (.nd .lst (xs ++ ys)) st := if_pos (by rw [szL_16]; exact h)
@[simp] theorem dAddC_tt (h : xs.length + ys.length ≤ 16777216) : dAddC st (some (.tup, xs)) (some (.tup, ys)) = .ok (.nd .tup (xs ++ ys)) st := if_pos (by rw [szL_16]; exact h)
@[simp] theorem dAdd_nn {t u : Hd} : dAdd (.nd t xs) (.nd u ys) st = dAddC st (some (t, xs)) (some (u, ys)) := dAdd_seen rfl
@[simp] theorem dAdd_hn {k : Nat} {u : Hd} : dAdd (.h k) (.nd u ys) st = dAddC st (seenC st[k]?) (some (u, ys)) := by
  rw [dAdd_seen rfl, seen_h, seen_nd]
@[simp] theorem dAdd_nh {k : Nat} {u : Hd} : dAdd (.nd u xs) (.h k) st = dAddC st (some (u, xs)) (seenC st[k]?) := by
  rw [dAdd_seen rfl, seen_h, seen_nd]
@[simp] theorem dAdd_hh {j k : Nat} : dAdd (.h j) (.h k) st = dAddC st (seenC st[j]?) (seenC st[k]?) := by
  rw [dAdd_seen rfl, seen_h, seen_h]
@[simp] theorem dAdd_ss {a b : Str} (h : a.length + b.length ≤ 16777216) : dAdd (.str a) (.str b) st = .ok (.str (a ++ b)) st := by
  simp [dAdd, szL_16, h]
@[simp] theorem dMul_lst (h : (-(2 ^ 63) ≤ j ∧ j < 2 ^ 63) ∧ xs.length * j.toNat ≤ 16777216) : dMul (.nd .lst xs) (.int j) st = .ok (.nd .lst (List.replicate j.toNat xs).flatten) st := by
  have : (-(2 ^ 63) ≤ j ∧ j < 2 ^ 63) ∧ xs.length * j.toNat ≤ szL := by rw [szL_16]; exact h
  simp only [dMul, lstX?, seen_nd]
  rw [if_pos this]
theorem flat_one {d : D} (n : Nat) : (List.replicate n [d]).flatten = List.replicate n d := by
  induction n with
  | zero => rfl
  | succ n ih => simp [List.replicate_succ, ih]
@[simp] theorem dMul_one (h : 0 ≤ j ∧ j ≤ 16777216) {d : D} : dMul (.nd .lst [d]) (.int j) st = .ok (.nd .lst (List.replicate j.toNat d)) st := by
  rw [dMul_lst ⟨by omega, by simp; omega⟩, flat_one]
def dCutC (lo hi : Option Int) (st : Store) : Option (Hd × List D) → Res D
  | some (.lst, xs) => .ok (.nd .lst (cutD xs lo hi)) st
  | some (.scr, xs) => .ok (.nd .lst (cutD xs lo hi)) st
  | some (.tup, xs) => .ok (.nd .tup (cutD xs lo hi)) st
  | _ => .no
@[simp] theorem dCut_ev {lo hi : Option Int} : dCut x lo hi st = dCutC lo hi st (seen st x) := by
  unfold dCut lst? tupX?
  cases seen st x with
  | none => rfl
  | some p =>
    obtain ⟨t, xs⟩ := p
    cases t <;> rfl
@[simp] theorem dCutC_lst {lo hi : Option Int} : dCutC lo hi st (some (.lst, xs)) = .ok (.nd .lst (cutD xs lo hi)) st := (rfl)
@[simp] theorem dCutC_scr {lo hi : Option Int} : dCutC lo hi st (some (.scr, xs)) = .ok (.nd .lst (cutD xs lo hi)) st := (rfl)
@[simp] theorem dCutC_tup {lo hi : Option Int} : dCutC lo hi st (some (.tup, xs)) = .ok (.nd .tup (cutD xs lo hi)) st := (rfl)
def dCutMC (lo hi : Option Int) (st : Store) : Option (List D) → Res D
  | some xs => .ok (.h st.length) (st ++ [.nd .lst (cutD xs lo hi)])
  | _ => .no
@[simp] theorem dCutM_ev {lo hi : Option Int} : dCutM x lo hi st = dCutMC lo hi st (lst? st x) := by
  unfold dCutM dCutMC; cases lst? st x <;> rfl
@[simp] theorem dCutMC_ev {lo hi : Option Int} : dCutMC lo hi st (some xs) = .ok (.h st.length) (st ++ [.nd .lst (cutD xs lo hi)]) := (rfl)
theorem atI_nat {α : Type} {xs : List α} {k : Nat} : atI xs (k : Int) = xs[k]? := by
  unfold atI ixN
  rw [if_pos (by omega)]
  by_cases h : k < xs.length
  · rw [if_pos (by omega)]; simp
  · rw [if_neg (by omega), List.getElem?_eq_none (by omega)]; rfl
theorem atI_int {α : Type} {xs : List α} (h : 0 ≤ i) : atI xs i = xs[i.toNat]? := by
  have e : i = ((i.toNat : Nat) : Int) := by omega
  exact (congrArg (atI xs) e).trans atI_nat
theorem atI_neg {α : Type} {xs : List α} (h0 : 1 ≤ i) (h1 : i ≤ xs.length) : atI xs (-i) = xs[xs.length - i.toNat]? := by
  unfold atI ixN
  rw [if_neg (by omega), if_pos (by omega)]
  simp
  congr 1; omega
def dIxC (i : Int) (st : Store) : Option (List D) → Res D
  | some xs => itm st (atI xs i)
  | none => .no
@[simp] theorem dIx_nd {t : Hd} : dIx (.nd t xs) (.int i) st = dIxC i st (seqC (some (t, xs))) := by
  show (match seq? st (.nd t xs) with | some xs => _ | none => _) = _
  simp only [seq_ev, seen_nd]
  cases seqC (some (t, xs)) with
  | none => rfl
  | some ys => show (match atI ys i with | some d => _ | none => _) = itm st (atI ys i); cases atI ys i <;> rfl
@[simp] theorem dIx_h {k : Nat} : dIx (.h k) (.int i) st = dIxC i st (seqC (seenC st[k]?)) := by
  show (match seq? st (.h k) with | some xs => _ | none => _) = _
  simp only [seq_ev, seen_h]
  cases seqC (seenC st[k]?) with
  | none => rfl
  | some ys => show (match atI ys i with | some d => _ | none => _) = itm st (atI ys i); cases atI ys i <;> rfl
@[simp] theorem atI_zero {α : Type} {xs : List α} : atI xs 0 = xs[0]? := atI_nat (k := 0)
@[simp] theorem atI_one {α : Type} {xs : List α} : atI xs 1 = xs[1]? := atI_nat (k := 1)
@[simp] theorem atI_two {α : Type} {xs : List α} : atI xs 2 = xs[2]? := atI_nat (k := 2)
@[simp] theorem atI_three {α : Type} {xs : List α} : atI xs 3 = xs[3]? := atI_nat (k := 3)
@[simp] theorem dIxC_ev : dIxC i st (some xs) = itm st (atI xs i) := (rfl)
/-! ### lists changed -/
def appendC (k : Nat) (y : D) (st : Store) : Option D → Res D
  | some (.nd .lst xs) => if xs.length < szL then .ok .non (st.set k (.nd .lst (xs ++ [y]))) else .no
  | _ => .no
@[simp] theorem append_ev {k : Nat} : opAppend (.h k) [y] st = appendC k y st st[k]? := by
  unfold opAppend appendC
  rfl
@[simp] theorem appendC_ev {k : Nat} (h : xs.length < 16777216) : appendC k y st (some (.nd .lst xs)) = .ok .non (st.set k (.nd .lst (xs ++ [y]))) := if_pos (by rw [szL_16]; exact h)
def popAtC (k : Nat) (st : Store) : Option D → Res D
  | some (.nd .lst (d :: xs)) => .ok d (st.set k (.nd .lst xs))
  | _ => .no
@[simp] theorem popAt_h {k : Nat} : opPopAt (.h k) [.int 0] st = popAtC k st st[k]? := by
  unfold opPopAt
  dsimp only
  cases st[k]? with
  | none => rfl
  | some c =>
    cases c with
    | nd t xs =>
      cases t with
      | lst =>
        cases xs with
        | nil => simp [seqIndex?, popAtC]
        | cons d xs => simp [seqIndex?, popAtC]
      | _ => rfl
    | _ => rfl
@[simp] theorem popAtC_ev {k : Nat} {d : D} : popAtC k st (some (.nd .lst (d :: xs))) = .ok d (st.set k (.nd .lst xs)) := (rfl)
/-! ### in -/
theorem dIn_flat {v : V} {vs : List V} (hx : fv x = some v) (hy : (seq? st y).bind fvs = some vs) (hn : ∀ a, y ≠ .str a) : dIn x y st = .ok (.bl (inV v vs)) st := by
  cases y with
  | str a => exact absurd rfl (hn a)
  | _ => simp only [dIn, inD, hx, hy]
end
/-- an attribute's rule -/
theorem se_at {X : Cx} {cl : ClsT} {W : WX} {pos : Pos} {o : Expr} {fo : SemE} {f : Str} (c hint : Nat) (hc : Cls X.K (cl c)) (hf : NoAttr X.K (cl c) f) (ho : SE X cl W o fo) (hb : attributeBase o f X.env (eval o X.env) = eval o X.env := by rfl) : SE X cl W (.Attribute o f pos) (dAt c hint f fo) := se_attr c hint hc hf ho hb
/-! ### a new instance -/
def runInit1 (k : Nat) : D → Store → Res D
  | .non, st => .ok (.h k) st
  | _, _ => .no
@[simp] theorem runInit1_ev {k : Nat} {st : Store} : runInit1 k .non st = .ok (.h k) st := (rfl)
@[simp] theorem runInit_ev {c : Nat} {F : SemF} {ds : List D} {st : Store} : runInit c F ds st = (F (.h st.length :: ds) (st ++ [.nd (.ins c []) []])).bind (runInit1 st.length) := by
  unfold runInit
  congr 1; funext v st1; cases v <;> rfl
@[simp] theorem frzF_ev {F : SemF} {ds : List D} {st : Store} : frzF F ds st = frzR st (F ds st) := (rfl)
@[simp] theorem kwF_ev {n m : Nat} {is : List Nat} {F : SemF} {ds : List D} {st : Store} (h : ds.length = n ∧ is.length = m ∧ (is.all fun i => decide (i < n)) = true) : kwF n m is F ds st = F (pmL is ds) st := if_pos h
theorem dOwn_ok {c : Nat} {F : SemF} {x y : D} {st st' : Store} {ns ms : List Str} {xs ys zs : List D} {t : Hd} (hx : seen st x = some (.ins c ns, xs)) (hy : seen st y = some (.ins c ms, ys)) (e : F [x, y] st = .ok (.nd t zs) st') : dOwn c F x y st = .ok (.nd t zs) st' := by
  simp [dOwn, hx, hy, e]
def pmC {A : Type} : Option A → List A → List A
  | some a, l => a :: l
  | none, l => l
@[simp] theorem pmC_ev {A : Type} {a : A} {l : List A} : pmC (some a) l = a :: l := (rfl)
@[simp] theorem pmL_nil {A : Type} {xs : List A} : pmL [] xs = [] := (rfl)
@[simp] theorem pmL_cons {A : Type} {xs : List A} {i : Nat} {is : List Nat} : pmL (i :: is) xs = pmC xs[i]? (pmL is xs) := by
  unfold pmL pmC
  rw [List.filterMap_cons]
  cases xs[i]? <;> rfl
end DY

/-! while; items of lists stored; comprehensions with two fors. -/
namespace DY
open PySem PySem.Spec PyProof.Rows L2
/-! ### while -/
section
variable {X : Cx} {cl : ClsT} {W : WX} {pos : Pos}
/-! ### xs[i] = e -/
def putL (x y v : D) (st : Store) : Option Store := match x, y with
  | .h k, .int i => match st[k]? with
    | some (.nd .lst xs) => match ixN xs.length i with
      | some j => some (st.set k (.nd .lst (xs.set j v)))
      | none => none
    | _ => none
  | _, _ => none
def lput1 (env : DEnv) : Option Store → SR
  | some st => .nx env st
  | none => .no
def sLPut3 (env : DEnv) (v x : D) : D → Store → SR := fun y st => lput1 env (putL x y v st)
def sLPut2 (fb : SemE) (env : DEnv) (v : D) : D → Store → SR := fun x st => bindE (fb env st) env (sLPut3 env v x)
def sLPut1 (fa fb : SemE) (env : DEnv) : D → Store → SR := fun v st => bindE (fa env st) env (sLPut2 fb env v)
def sLPut (fa fb fe : SemE) : SemS := fun env st => bindE (fe env st) env (sLPut1 fa fb env)
end
end DY

/-! Comprehensions with two fors. -/
namespace DY
open PySem PySem.Spec PyProof.Rows L2
noncomputable def comp2L (chk : Store → Prop) (tg : DTg) (tst : SemT) (fi1 : SemI) (tg1 : DTg) (tst1 : SemT) (elt : SemE) (own own1 : List Nat) (env : DEnv) : List D → List D → Store → Res (List D)
  | [], acc, st => open Classical in if chk st then .ok acc st else .no
  | d :: ds, acc, st => open Classical in if chk st then (match tg d (wipeD env own) st with
      | some env1 => (match tst env1 st with
        | .ok true st1 => (match fi1 env1 st1 with
          | .ok it1 st2 => (match compL it1.chk tg1 tst1 elt own1 env1 it1.items acc st2 with
            | .ok acc' st3 => comp2L chk tg tst fi1 tg1 tst1 elt own own1 env ds acc' st3
            | _ => .no)
          | _ => .no)
        | .ok false st1 => comp2L chk tg tst fi1 tg1 tst1 elt own own1 env ds acc st1
        | _ => .no)
      | none => .no) else .no
noncomputable def dLc2 (fi : SemI) (tg : DTg) (tst : SemT) (fi1 : SemI) (tg1 : DTg) (tst1 : SemT) (elt : SemE) (own own1 : List Nat) : SemE := fun env st => (fi env st).bind fun it st1 => (comp2L it.chk tg tst fi1 tg1 tst1 elt own own1 env it.items [] st1).bind fun xs st2 => .ok (.nd .lst xs) st2
section
variable {X : Cx} {cl : ClsT} {W : WX}
theorem EnvR.extV {g : Gd} {Z r Z1 r1 : List Addr} {H H1 : Hp} {env : DEnv} {sg : L2.St} (e : ExtW Z r H r1 H1) (z : Zs Z H Z1) (E : EnvR g Z r H env sg) : EnvR g Z1 r1 H1 env sg :=
  ⟨E.len, fun i d h => let ⟨v, a, b⟩ := E.at_ i d h; ⟨v, a, Rep.extV e z d b⟩⟩
variable {pos : Pos} {elt tg iter tg1 iter1 : Expr} {ifs ifs1 : List Expr} {scope : Scope} {fi fi1 : SemI} {g g1 : DTg} {tt tt1 : SemT} {te : SemE} {ws ws1 : List Nat}
end
end DY

/-! Dict comprehensions with tuples as keys. -/
namespace DY
open PySem PySem.Spec PyProof.Rows L2
/-- one more key of a dict whose keys are tuples -/
theorem put_tupKey {X : Cx} {pins : List (Addr × Obj)} {sg : L2.St} {H : Hp} {s : Shared} {E : Value → Shared → Prop} {D b : Addr} {kvs : List (List Key × V)} {k : List Key} {v : V} {r : Value} {Q : Unit → Shared → Prop} (room : X.A.units < cLine) (J : Inv X pins sg H s) (hD : H D = some (.dT kvs)) (hb : H b = some (.tup (k.map kV))) (hz : kvs.length < sizeLine)
    (rv : RelV v r) (then_ : ∀ s', Inv X pins sg (upd H D (.dT (putK kvs k v))) s' → Q () s') : wpAny (model X.prog X.w) X.A (dictSet D (.ref b) r) Q E s := by
  obtain ⟨z0, nsys, xs, pr, dh⟩ := dt_of J.hok hD
  have lx : xs.length ≤ sizeLine := Paired.length pr ▸ z0
  have grown : (putK kvs k v).length ≤ sizeLine := by
    have := length_putK kvs k v
    omega
  apply wpAny_dictSet_heap (hsz := lx) (show (tupleKind (mixKind X.prog X.w)).room X.A from room) (key_of J.hok hb) dh
  intro h' dh' same
  refine then_ _ ?_
  obtain ⟨o, es, ep, ho, a2, a3, a4, _, a5⟩ := dh'
  have keep : ∀ (c : Addr) (ys : List V), H c = some (.tup ys) → upd H D (.dT (putK kvs k v)) c = some (.tup ys) := fun c ys ec => (upd_ne (ne_of ec hD fun z => by cases z)).trans ec
  exact d_write J (by rw [hD]; trivial) same ⟨o, ho⟩ ⟨grown, nsys, _, (pr.put k hb rv).keeps keep, o, es, ep, ho, a2, a3, a4, a5⟩
section
variable {X : Cx}
/-- {(k, ..): v for target in iter if ..}; D is the new dict -/
def tDcT (wi : TI) (g : TG) (tt : TT) (tk tv : TE) (vs : List Nat) : TE := fun sg H Q => wi sg H fun J H1 => ∀ D, H1 D = none → ∃ W : Nat → Nat → Hp → Prop, (∃ m, W 0 m (upd H1 D (.dT []))) ∧
  ∀ i m H, W i m H → (J.stop i H ∧ Q (.ref D) H) ∨ (J.go i H ∧ ∃ Nx : Hp → Prop, (∀ H', Nx H' → ∃ m', m' < m ∧ W (i + 1) m' H') ∧
    ∀ x H', J.yld i H x H' → g x (wipe sg vs) H' fun sg2 H2 => wipe sg2 vs = wipe sg vs ∧ tt sg2 H2 fun ans H3 =>
      if ans = true then tk sg2 H3 fun y H4 => tv sg2 H4 fun z H5 => ∃ kvs k b, y = .ref b ∧ H5 b = some (.tup (k.map kV)) ∧ H5 D = some (.dT kvs) ∧ kvs.length < sizeLine ∧ Nx (upd H5 D (.dT (putK kvs k z))) else Nx H3)
theorem dcT_core {pins : List (Addr × Obj)} {s : Shared} {sg : L2.St} {H : Hp} {Q : VK} {kx vx tg iter : Expr} {ifs : List Expr} {scope : Scope} {own : List (Str × Nat)} {pos pos' : Pos} {wi : TI} {g : TG} {tt : TT} {tk tv : TE} {use : Option (Value → Sem Unit)} {Qf : Value → Shared → Prop}
    (room : X.A.units < cLine) (calm : X.calm = true) (nd : X.N.Nodup) (J0 : Inv X pins sg H s) (Pi : PI X tg iter wi) (bk : BlkOk X.N X.env.scope scope own)
    (Pg : ∀ (s : Shared) (H : Hp) (C : Addr) (l : List (Str × Addr)) (fp : List Addr), PG (X.blk s H scope (compEnvC scope l C X.env) fp) tg g)
    (Pt : ∀ (s : Shared) (H : Hp) (C : Addr) (l : List (Str × Addr)) (fp : List Addr), PTs (X.blk s H scope (compEnvC scope l C X.env) fp) ifs tt)
    (Pk : ∀ (s : Shared) (H : Hp) (C : Addr) (l : List (Str × Addr)) (fp : List Addr), PE (X.blk s H scope (compEnvC scope l C X.env) fp) kx tk)
    (Pv : ∀ (s : Shared) (H : Hp) (C : Addr) (l : List (Str × Addr)) (fp : List Addr), PE (X.blk s H scope (compEnvC scope l C X.env) fp) vx tv)
    (fs : ∀ x, foldedSetIterable iter X.env x = pure x) (hyp : tDcT wi g tt tk tv (own.map (·.2)) sg H Q)
    (fin : ∀ D C s' m H', Inv X pins sg H' s' → Q (.ref D) H' → s'.heap.Ns C m → FpOk X pins H' C → compPost (model X.prog X.w) X.A X.xe use Qf (.ref D) C (.ok .next) s') :
    wpAny (model X.prog X.w) X.A (comprehension (.DictComp kx vx [⟨tg, iter, ifs, 0⟩] scope pos) scope X.env pos' newDict false (eval iter X.env) use) Qf X.xe s := by
  have free : ∀ y ∈ scope.names, y.2 = .free → ∃ c, X.env.cells.lookup y.1 = some c := fun y hy e => (bk.free y hy e).elim (fun q => J0.ok.has _ (.inl q)) fun q => J0.ok.has _ (.inr q)
  apply wpAny_comprehension_free (use := use) rfl fs (closure_ok free) bk.kind fun y hy e => by rw [bk.uniq y hy, e]
  refine thn (Pi.run pins s sg H _ J0 hyp) fun xv s1 hx => thn hx ?_
  rintro itv s2 ⟨it, fp, tn, J, H2, rfl, J2, T, at2, fpo, q⟩
  refine wpAny_newObj_type ?_
  apply newEnv_comp
  generalize eD : s2.heap.objs.size = D
  obtain ⟨W, ⟨m0, w0⟩, turn⟩ := q D (J2.hok.fresh (Nat.le_of_eq eD))
  generalize e3 : ({ s2 with heap := s2.heap.push { cls := .type "dict", data := .dict #[] } } : Shared) = s3
  have heap3 : s3.heap = s2.heap.push { cls := .type "dict", data := .dict #[] } := by subst e3; rfl
  have J3 : Inv X pins sg (upd H2 D (.dT [])) s3 := by
    subst e3 eD
    exact J2.laid (t' := s2.toks) (fun b o e => Heap.get?_push_of_some _ e) (Nat.le_refl _) (dt_empty s2.heap J2.big)
  have old : ∀ b ∈ fp, b < s2.heap.objs.size := fun b hb => (T.obj _ _ at2 b hb).elim fun o e => Heap.lt_size e.1
  have fp3 : ∀ b ∈ fp, FpOk X pins (upd H2 D (.dT [])) b ∧ b < s3.heap.objs.size := fun b hb => by
    have lt := old b hb
    have ne : b ≠ D := by subst eD; exact Nat.ne_of_lt lt
    exact ⟨⟨(upd_ne ne).trans (fpo b hb).1, (fpo b hb).2⟩, by rw [heap3, Heap.size_push]; exact Nat.lt_succ_of_lt lt⟩
  have at3 : tn 0 s3.heap := T.keep _ _ _ at2 fun b _ o e => heap3 ▸ Heap.get?_push_of_some _ e
  have J4 := block_start J3 bk nd fp3
  generalize eH3 : upd H2 D (.dT []) = H3 at J3 J4 w0 fp3
  generalize ecs : cellsFrom (s3.heap.objs.size + 1) scope.names (cloFrom X.env.cells scope.names []) = cs at J4
  have pg := Pg s3 H3 s3.heap.objs.size cs fp
  have pt := Pt s3 H3 s3.heap.objs.size cs fp
  have pk := Pk s3 H3 s3.heap.objs.size cs fp
  have pv := Pv s3 H3 s3.heap.objs.size cs fp
  have none3 : ∀ b ∈ fp, H3 b = none := fun b hb => (fp3 b hb).1.1
  show codeAny _ _ (.compStart (.DictComp kx vx [⟨tg, iter, ifs, 0⟩] scope pos) 0 (.ref it) (.ref D) (compEnvC scope cs s3.heap.objs.size X.env)) (compPost (model X.prog X.w) X.A X.xe use Qf (.ref D) s3.heap.objs.size) { s3 with heap := pushCells (s3.heap.push { cls := .type "dict", data := .dict #[] }) scope.names }
  generalize ece : compEnvC scope cs s3.heap.objs.size X.env = ce at J4 pg pt pk pv ⊢
  have loc : ce.locals = s3.heap.objs.size := by subst ece; rfl
  generalize e4 : ({ s3 with heap := pushCells (s3.heap.push { cls := .type "dict", data := .dict #[] }) scope.names } : Shared) = s4 at J4 ⊢
  have at4 : tn 0 s4.heap := T.keep _ _ _ at3 fun b _ o e => by subst e4; exact pushCells_keeps _ _ _ _ (Heap.get?_push_of_some _ e)
  have fpI : ∀ {sg' : L2.St} {H' : Hp} {s' : Shared}, Inv (X.blk s3 H3 scope ce fp) [] sg' H' s' → (∀ b ∈ fp, H' b = none) → ∀ b ∈ fp, FpOk (X.blk s3 H3 scope ce fp) [] H' b := by
    intro sg' H' s' I' hn b hb
    refine ⟨hn b hb, (I'.ok.exf b hb).1, I'.ok.exfs b hb, .inl hb, fun x c e => (I'.ok.exf b hb).2 x c e, fun p hp => ?_⟩
    exact absurd (show p ∈ ([] : List (Addr × Obj)) ++ [] from hp) (by simp)
  let Turn : Nat → Shared → Prop := fun n s' => ∃ i H', Inv (X.blk s3 H3 scope ce fp) [] (wipe sg (own.map (·.2))) H' s' ∧ tn i s'.heap ∧ (∀ b ∈ fp, H' b = none) ∧ W i n H'
  have loop : codeAny (model X.prog X.w) X.A (.compLoop (.DictComp kx vx [⟨tg, iter, ifs, 0⟩] scope pos) 0 (.ref it) (.ref D) ce) (compPost (model X.prog X.w) X.A X.xe use Qf (.ref D) s3.heap.objs.size) s4 := by
    apply compLoop_anyD Turn (n := m0) (h := ⟨0, H3, J4, at4, none3, w0⟩)
    rintro n s5 ⟨i, H5, J5, at5, n5, w5⟩
    cases turn i n H5 w5 with
    | inl stops =>
      refine thnF (T.done (X.blk s3 H3 scope ce fp) rfl rfl rfl calm i [] s5 _ H5 (fun _ _ => False) J5 (fpI J5 n5) at5 stops.1) ?_
      rintro _ s6 ⟨rfl, J6⟩
      have J7 : Inv X pins sg H5 s6 := J3.call' (ch := fp) J6.os J6.base J6.hok J6.bare fun b hb => by
        have q := (fp3 b hb).1.2
        exact ⟨q.2.2.1, q.1, q.2.2.2.1, q.2.2.2.2⟩
      have noC : H5 s3.heap.objs.size = none := by
        have z : H5 ce.locals = none := J6.free
        rwa [loc] at z
      obtain ⟨m, ns, _⟩ := J6.loc
      have ns : s6.heap.Ns ce.locals m := ns
      rw [loc] at ns
      exact fin D s3.heap.objs.size s6 m H5 J7 stops.2 ns (J3.fpOk (Nat.le_refl _) noC)
    | inr goes =>
      obtain ⟨go, Nx, down, step⟩ := goes
      refine thnF (T.item (X.blk s3 H3 scope ce fp) rfl rfl rfl calm i [] s5 _ H5 (fun _ _ => False) J5 (fpI J5 n5) at5 go) ?_
      rintro _ s6 ⟨u, rfl, h6⟩
      refine thnF h6 ?_
      rintro _ s7 ⟨x, H7, J7, rx, yx, at7, n7⟩
      have Jp := J7.pinned (fpI J7 n7) (T.obj _ _ at7)
      refine thnF (pg.run _ s7 _ H7 x u _ Jp rx (step x H7 yx)) ?_
      rintro _ s8 ⟨sg8, H8, J8, w8, q8⟩
      refine thnF (pt.run _ s8 sg8 H8 _ J8 q8) ?_
      rintro ans s9 ⟨H9, J9, q9⟩
      have next : ∀ {s' : Shared} {H' : Hp}, Inv (X.blk s3 H3 scope ce fp) ([] ++ pinsAt fp s7.heap) sg8 H' s' → Nx H' → ∃ m, m < n ∧ Turn m s' := by
        intro s' H' I' nx
        obtain ⟨m', lt, w'⟩ := down H' nx
        have still : ∀ b ∈ fp, ∀ o, s7.heap.get? b = some o → s'.heap.get? b = some o ∧ H' b = none := fun b hb o e => by
          have z := I'.pin (b, o) (List.mem_append_right _ (List.mem_append_right _ (mem_pinsAt hb e)))
          exact ⟨z.1, z.2.1⟩
        have len : (wipe sg (own.map (·.2))).length = sg8.length := by rw [← w8, wipe_length]
        have J' := (I'.unpinned (pins := [])).weak len fun j v e => by
          rw [← w8] at e
          exact (wipe_some e).1
        refine ⟨m', lt, i + 1, H', J', T.keep _ _ _ at7 (fun b hb o e => (still b hb o e).1), fun b hb => ?_, w'⟩
        obtain ⟨o, e, _⟩ := T.obj _ _ at7 b hb
        exact (still b hb o e).2
      cases ans with
      | false => exact next J9 q9
      | true =>
        have q9 : tk sg8 H9 _ := q9
        refine thnF (pk.run _ s9 sg8 H9 _ J9 q9) ?_
        rintro z s10 ⟨yk, H10, J10, rk, q10⟩
        refine thnF (pv.run _ s10 sg8 H10 _ J10 q10) ?_
        rintro z2 s11 ⟨yv, H11, J11, rv, kvs, k, b, rfl, hb, hD, hz, nx⟩
        cases (show z = Value.ref b from rk)
        exact put_tupKey (X := X.blk s3 H3 scope ce fp) room J11 hD hb hz rv fun s12 J12 => next J12 nx
  exact codeAny_compStart_dict loop (T.self X.A 0 _ _ _ at4 loop)
theorem pe_dcT {kx vx tg iter : Expr} {ifs : List Expr} {scope : Scope} {own : List (Str × Nat)} {pos : Pos} {wi : TI} {g : TG} {tt : TT} {tk tv : TE} (room : X.A.units < cLine) (calm : X.calm = true) (nd : X.N.Nodup) (Pi : PI X tg iter wi) (bk : BlkOk X.N X.env.scope scope own)
    (Pg : ∀ (s : Shared) (H : Hp) (C : Addr) (l : List (Str × Addr)) (fp : List Addr), PG (X.blk s H scope (compEnvC scope l C X.env) fp) tg g)
    (Pt : ∀ (s : Shared) (H : Hp) (C : Addr) (l : List (Str × Addr)) (fp : List Addr), PTs (X.blk s H scope (compEnvC scope l C X.env) fp) ifs tt)
    (Pk : ∀ (s : Shared) (H : Hp) (C : Addr) (l : List (Str × Addr)) (fp : List Addr), PE (X.blk s H scope (compEnvC scope l C X.env) fp) kx tk)
    (Pv : ∀ (s : Shared) (H : Hp) (C : Addr) (l : List (Str × Addr)) (fp : List Addr), PE (X.blk s H scope (compEnvC scope l C X.env) fp) vx tv)
    (fs : ∀ x, foldedSetIterable iter X.env x = pure x) : PE X (.DictComp kx vx [⟨tg, iter, ifs, 0⟩] scope pos) (tDcT wi g tt tk tv (own.map (·.2))) := by
  constructor
  intro pins s sg H Q J h
  rw [arm_eval_DictComp]
  apply dcT_core room calm nd J Pi bk Pg Pt Pk Pv fs h
  intro D C s' m H' J' q ns f
  refine ⟨m, ns, fun h'' same => ?_⟩
  have J'' := J'.turned (t' := s'.toks) (fun b o hb e => (same.2 b hb).trans e) f.1 f.2.1 f.2.2.2.1 f.2.2.2.2.1 f.2.2.2.2.2
  exact ⟨.ref D, H', J'', rfl, q⟩
end
end DY

/-! Dict comprehensions on data, tuples as keys. -/
namespace DY
open PySem PySem.Spec PyProof.Rows L2
/-- a tuple of keys -/
def tkey? : D → Option (List Key)
  | .nd .tup zs => keys? zs
  | _ => none
/-- the dict behind d[k] = v -/
def putT (ks : List (List Key)) (ds : List D) (k : List Key) (v : D) : List (List Key) × List D := match kIx ks k with
  | some i => (ks, ds.set i v)
  | none => (ks ++ [k], ds ++ [v])
noncomputable def dcL (chk : Store → Prop) (tg : DTg) (tst : SemT) (fk fv : SemE) (own : List Nat) (env : DEnv) : List D → List (List Key) × List D → Store → Res (List (List Key) × List D)
  | [], acc, st => open Classical in if chk st then .ok acc st else .no
  | d :: ds, acc, st => open Classical in if chk st then (match tg d (wipeD env own) st with
      | some env1 => (match tst env1 st with
        | .ok true st1 => (match fk env1 st1 with
          | .ok y st2 => (match fv env1 st2 with
            | .ok z st3 => (match tkey? y with
              | some k => if acc.2.length < szL then dcL chk tg tst fk fv own env ds (putT acc.1 acc.2 k z) st3 else .no
              | none => .no)
            | _ => .no)
          | _ => .no)
        | .ok false st1 => dcL chk tg tst fk fv own env ds acc st1
        | _ => .no)
      | none => .no) else .no
noncomputable def dDc (fi : SemI) (tg : DTg) (tst : SemT) (fk fv : SemE) (own : List Nat) : SemE := fun env st => (fi env st).bind fun it st1 => (dcL it.chk tg tst fk fv own env it.items ([], []) st1).bind fun a st2 => .ok (.nd (.dt a.1) a.2) st2
noncomputable def dDcM (fi : SemI) (tg : DTg) (tst : SemT) (fk fv : SemE) (own : List Nat) : SemE := fun env st => (fi env st).bind fun it st1 => (dcL it.chk tg tst fk fv own env it.items ([], []) st1).bind fun a st2 => .ok (.h st2.length) (st2 ++ [.nd (.dt a.1) a.2])
section
variable {X : Cx} {cl : ClsT} {W : WX}
theorem putT_ok {g : Gd} {Z r : List Addr} {H : Hp} {ks : List (List Key)} {ds : List D} {vs : List V} {k : List Key} {v : D} {w : V} (l : ks.length = vs.length) (nd : ks.Nodup) (q : RepL g Z r H ds vs) (qv : Rep g Z r H v w) :
    ∃ us, (putT ks ds k v).1.length = us.length ∧ (putT ks ds k v).1.Nodup ∧ putK (ks.zip vs) k w = (putT ks ds k v).1.zip us ∧ RepL g Z r H (putT ks ds k v).2 us := by
  unfold putT
  cases e : kIx ks k with
  | some i => exact ⟨vs.set i w, by simpa using l, nd, putK_zip nd l (kIx_get e), RepL.set qv i q⟩
  | none =>
    have ni := kIx_none e
    refine ⟨vs ++ [w], by simp [l], ?_, putK_zip_new l ni, q.append (RepL.one qv)⟩
    refine List.nodup_append.mpr ⟨nd, by simp, ?_⟩
    intro a ha b hb hab
    simp at hb; subst hb; subst hab; exact ni ha
/-- the loop, over the new dict at p -/
theorem dc_rd {tg : DTg} {tst : SemT} {fk fv : SemE} {own ws : List Nat} (hw : ∀ w ∈ ws, w ∈ own) {Z r : List Addr} {H : Hp} {st : Store} {env : DEnv} {sg : L2.St} {it : DIter} {J : It} {Q : VK} (R : Rl ⟨X.K, cl⟩ Z r H st) (En : EnvR ⟨X.K, cl⟩ Z r H env sg) (hJ : ItOk ⟨X.K, cl⟩ Z r H it J)
    {p : Addr} (hp : H p = none)
    (hq : ∀ a st2 r2 H2 vs, dcL it.chk tg tst fk fv own env it.items ([], []) st = .ok a st2 → Ext r H r2 H2 → (a.1.length = vs.length ∧ a.1.Nodup) → H2 p = some (.dT (a.1.zip vs)) → Rl ⟨X.K, cl⟩ (p :: Z) r2 H2 st2 → RepL ⟨X.K, cl⟩ (p :: Z) r2 H2 a.2 vs → Q (.ref p) H2) (hno : dcL it.chk tg tst fk fv own env it.items ([], []) st ≠ .no) :
    ∃ Wn : Nat → Nat → Hp → Prop, (∃ m, Wn 0 m (upd H p (.dT []))) ∧ ∀ i m H', Wn i m H' →
      (J.stop i H' ∧ Q (.ref p) H') ∨ (J.go i H' ∧ ∃ Nx : Hp → Prop, (∀ H', Nx H' → ∃ m', m' < m ∧ Wn (i + 1) m' H') ∧ ∀ x H2, J.yld i H' x H2 → rdG ⟨X.K, cl⟩ ws tg x (wipe sg own) H2 fun sg2 H3 => wipe sg2 own = wipe sg own ∧ rdT ⟨X.K, cl⟩ WF tst sg2 H3 fun b H4 =>
        if b = true then rdE ⟨X.K, cl⟩ WF fk sg2 H4 fun y H5 => rdE ⟨X.K, cl⟩ WF fv sg2 H5 fun z H6 => ∃ kvs k b, y = .ref b ∧ H6 b = some (.tup (k.map kV)) ∧ H6 p = some (.dT kvs) ∧ kvs.length < sizeLine ∧ Nx (upd H6 p (.dT (putK kvs k z))) else Nx H4) := by
  let g : Gd := ⟨X.K, cl⟩
  have hz : Zs Z H (p :: Z) := fun a m => by
    rcases List.mem_cons.mp m with rfl | m
    · exact .inr hp
    · exact .inl m
  have hpr := R.free hp
  let St : Nat → Hp → Prop := fun i H' => ∃ r' st' acc vs, Ext r H r' H' ∧ (acc.1.length = vs.length ∧ acc.1.Nodup) ∧ H' p = some (.dT (acc.1.zip vs)) ∧ Rl g (p :: Z) r' H' st' ∧ RepL g (p :: Z) r' H' acc.2 vs ∧
    dcL it.chk tg tst fk fv own env it.items ([], []) st = dcL it.chk tg tst fk fv own env (it.items.drop i) acc st'
  have R0 : Rl g (p :: Z) r (upd H p (.dT [])) st := by
    have R1 := R.new (o := .dT []) hp
    exact ⟨R1.len, R1.nd, fun a m => by
      rcases List.mem_cons.mp m with rfl | m
      · exact ⟨hpr.2, _, upd_same, ⟨nx_dT, nt_dT⟩⟩
      · exact R1.z a m, R1.tb, fun k d e => by
      obtain ⟨a, ea, t, xs, vs, ed, hm, hx⟩ := R.cell k d e
      obtain ⟨u, eu⟩ := hm.some
      exact ⟨a, ea, t, xs, vs, ed, hm.keep (upd_ne (ne_of_none eu hp)), RepL.extZ (Ext.new hp).w hz hx⟩⟩
  refine ⟨fun i m H' => m + i = it.items.length ∧ St i H', ⟨it.items.length, by omega, r, st, ([], []), [], Ext.new hp, ⟨rfl, List.nodup_nil⟩, upd_same, R0, rfl, by simp⟩, fun i m H' ⟨hm, r', st', acc, vs, e1, hl, hd, R1, qa, ec⟩ => ?_⟩
  cases hdi : it.items[i]? with
  | none =>
    have hle : it.items.length ≤ i := List.getElem?_eq_none_iff.mp hdi
    rw [List.drop_eq_nil_of_le hle, dcL] at ec
    split at ec
    · rename_i hchk
      exact .inl ⟨(hJ (p :: Z) r' H' st' i e1.w hz R1 hchk).2 hle, hq acc st' r' H' vs ec e1 hl hd R1 qa⟩
    · exact (hno ec).elim
  | some d =>
    rw [drop_cons hdi, dcL] at ec
    split at ec
    · rename_i hchk
      obtain ⟨go, yl⟩ := (hJ (p :: Z) r' H' st' i e1.w hz R1 hchk).1 d hdi
      refine .inr ⟨go, St (i + 1), fun H2 h2 => ⟨m - 1, by have := (List.getElem?_eq_some_iff.mp hdi).1; omega, by have := (List.getElem?_eq_some_iff.mp hdi).1; omega, h2⟩, fun x H2 hy => ?_⟩
      obtain ⟨e2, R2, q2⟩ := yl x H2 hy
      have En2 : EnvR g (p :: Z) r' H2 (wipeD env own) (wipe sg own) := wipe_env (EnvR.extV (e1.trans e2).w hz En) own
      refine ⟨p :: Z, r', wipeD env own, st', d, En2, R2, q2, ?_⟩
      cases ht : tg d (wipeD env own) st' with
      | none => rw [ht] at ec; exact (hno ec).elim
      | some env1 =>
        rw [ht] at ec
        dsimp only at ec ⊢
        intro sg3 En3 hw3
        refine ⟨by rw [hw3 own hw, wipe_wipe], ?_⟩
        have hd2 : H2 p = some (.dT (acc.1.zip vs)) := (e2.keep p _ hd nx_dT.1 (fun z => (R1.z p List.mem_cons_self).1 z)).1
        refine ⟨p :: Z, r', env1, st', En3, R2, ?_⟩
        cases hts : tst env1 st' with
        | er x s => rw [hts] at ec; exact (hno ec).elim
        | no => rw [hts] at ec; exact (hno ec).elim
        | ok b st2 =>
          rw [hts] at ec
          intro r3 H3 b' e3 R3 hb
          cases hb
          have hd3 : H3 p = some (.dT (acc.1.zip vs)) := (e3.keep p _ hd2 nx_dT.1 fun z => (R2.z p List.mem_cons_self).1 z).1
          cases b with
          | false =>
            rw [if_neg (by decide)]
            exact ⟨r3, st2, acc, vs, (e1.trans e2).trans e3, hl, hd3, R3, RepL.ext (e2.trans e3) _ qa, ec⟩
          | true =>
            rw [if_pos rfl]
            dsimp only at ec
            refine ⟨p :: Z, r3, env1, st2, En3.ext e3, R3, ?_⟩
            cases hk : fk env1 st2 with
            | er x s => rw [hk] at ec; exact (hno ec).elim
            | no => rw [hk] at ec; exact (hno ec).elim
            | ok y st3 =>
              rw [hk] at ec
              dsimp only at ec
              intro r4 H4 yv e4 R4 qy
              refine ⟨p :: Z, r4, env1, st3, En3.ext (e3.trans e4), R4, ?_⟩
              cases hv : fv env1 st3 with
              | er x s => rw [hv] at ec; exact (hno ec).elim
              | no => rw [hv] at ec; exact (hno ec).elim
              | ok z st4 =>
                rw [hv] at ec
                dsimp only at ec
                intro r5 H5 zv e5 R5 qz
                cases htk : tkey? y with
                | none => rw [htk] at ec; exact (hno ec).elim
                | some k =>
                  rw [htk] at ec
                  dsimp only at ec
                  split at ec
                  · rename_i hzl
                    unfold tkey? at htk
                    split at htk
                    · rename_i zs
                      obtain ⟨a, us, rfl, hh, hu⟩ := Rep.ext e5 (.nd .tup zs) qy
                      cases keys_ok htk hu
                      have hd5 : H5 p = some (.dT (acc.1.zip vs)) := by
                        have h4 := (e4.keep p _ hd3 nx_dT.1 fun z => (R3.z p List.mem_cons_self).1 z).1
                        exact (e5.keep p _ h4 nx_dT.1 fun z => (R4.z p List.mem_cons_self).1 z).1
                      have qa5 : RepL g (p :: Z) r5 H5 acc.2 vs := RepL.ext (((e2.trans e3).trans e4).trans e5) _ qa
                      have hlen : (acc.1.zip vs).length < sizeLine := by
                        rw [List.length_zip, hl.1, Nat.min_self, ← qa5.length]; exact hzl
                      have np : ¬ Nin (p :: Z) r5 p := fun n => n.1 List.mem_cons_self
                      obtain ⟨ws', p1, p2, p3, p4⟩ := putT_ok (k := k) hl.1 hl.2 qa5 qz
                      refine ⟨acc.1.zip vs, k, a, rfl, hh.2, hd5, hlen, r5, st4, putT acc.1 acc.2 k z, ws', ?_, ⟨p1, p2⟩, by rw [p3]; exact upd_same, ?_, RepL.off np _ p4, ec⟩
                      · have e := (((e1.trans e2).trans e3).trans e4).trans e5
                        exact ⟨e.pre, fun a o h t n => by
                          have ne : a ≠ p := ne_of_none h hp
                          rw [upd_ne ne]; exact e.keep a o h t n⟩
                      · refine ⟨R5.len, R5.nd, fun a m => ?_, tabs_upd (fun u e => by rw [hd5] at e; cases e; exact nx_dT) R5.tb, fun k d e => ?_⟩
                        · obtain ⟨n, u, eu, x⟩ := R5.z a m
                          by_cases ha : a = p
                          · subst ha; exact ⟨n, _, upd_same, ⟨nx_dT, nt_dT⟩⟩
                          · exact ⟨n, u, by rw [upd_ne ha]; exact eu, x⟩
                        · obtain ⟨a, ea, t, xs, vs', ed, hm, hx⟩ := R5.cell k d e
                          have ha : a ≠ p := fun z => (R5.z p List.mem_cons_self).1 (z ▸ List.mem_of_getElem? ea)
                          exact ⟨a, ea, t, xs, vs', ed, hm.keep (upd_ne ha), RepL.off np _ hx⟩
                    · cases htk
                  · exact (hno ec).elim
    · exact (hno ec).elim
theorem dc_tDc {fi : SemI} {tg : DTg} {tst : SemT} {fk fv : SemE} {own ws : List Nat} (hw : ∀ w ∈ ws, w ∈ own) {fin : List (List Key) × List D → Store → Res D} (sg : L2.St) (H : Hp) (Q : VK)
    (hfin : ∀ Z r H p, H p = none → p ∉ Z → ∀ a st2 r2 H2 vs, Ext r H r2 H2 → (a.1.length = vs.length ∧ a.1.Nodup) → H2 p = some (.dT (a.1.zip vs)) → Rl ⟨X.K, cl⟩ (p :: Z) r2 H2 st2 → RepL ⟨X.K, cl⟩ (p :: Z) r2 H2 a.2 vs → ∀ {W' : Value → Option Addr → Hp → Prop}, Post ⟨X.K, cl⟩ Z r H (RV ⟨X.K, cl⟩ Z) (fin a st2) Q W' → Q (.ref p) H2)
    (h : rdE ⟨X.K, cl⟩ W (fun env st => (fi env st).bind fun it st1 => (dcL it.chk tg tst fk fv own env it.items ([], []) st1).bind fin) sg H Q) :
    tDcT (rdI ⟨X.K, cl⟩ W fi) (rdG ⟨X.K, cl⟩ ws tg) (rdT ⟨X.K, cl⟩ WF tst) (rdE ⟨X.K, cl⟩ WF fk) (rdE ⟨X.K, cl⟩ WF fv) own sg H Q := by
  obtain ⟨Z, r, env, st, En, R, h⟩ := h
  refine ⟨Z, r, env, st, En, R, Post.bind h fun it st1 r1 H1 J _ e1 R1 q1 h1 => fun p hp => ?_⟩
  refine dc_rd (env := env) hw R1 (En.ext e1) q1 hp (fun a st2 r2 H2 vs hc e2 hl hd R2 qx => ?_) (fun z => by rw [z] at h1; exact h1)
  rw [hc] at h1
  exact hfin Z r1 H1 p hp (R1.free hp).1 a st2 r2 H2 vs e2 hl hd R2 qx h1
theorem adopt_dt {g : Gd} {Z r : List Addr} {H : Hp} {p : Addr} {ks : List (List Key)} {xs : List D} {vs : List V} {st : Store} (hz : p ∉ Z) (R : Rl g (p :: Z) r H st) (hl : ks.length = vs.length ∧ ks.Nodup) (hp : H p = some (.dT (ks.zip vs))) (hx : RepL g (p :: Z) r H xs vs) : Rep g Z r H (.nd (.dt ks) xs) (.ref p) :=
  ⟨p, vs, rfl, ⟨⟨hz, (R.z p List.mem_cons_self).1⟩, hl, hp⟩, hx.less⟩
variable {pos : Pos} {kx vx tg iter : Expr} {ifs : List Expr} {scope : Scope} {fi : SemI} {g : DTg} {tt : SemT} {tk tv : SemE} {ws : List Nat}
theorem se_dc (own : List (Str × Nat)) (hu : X.A.units + 1 < cLine) (hc : X.calm = true) (hN : X.N.Nodup) (hi : SI X cl W tg iter fi) (ok : BlkOk X.N X.env.scope scope own)
    (hg : ∀ (s : Shared) (H : Hp) (C : Addr) (l : List (Str × Addr)) (fp : List Addr), SG (X.blk s H scope (compEnvC scope l C X.env) fp) cl ws tg g) (ht : ∀ (s : Shared) (H : Hp) (C : Addr) (l : List (Str × Addr)) (fp : List Addr), STs (X.blk s H scope (compEnvC scope l C X.env) fp) cl WF ifs tt)
    (hk : ∀ (s : Shared) (H : Hp) (C : Addr) (l : List (Str × Addr)) (fp : List Addr), SE (X.blk s H scope (compEnvC scope l C X.env) fp) cl WF kx tk) (he : ∀ (s : Shared) (H : Hp) (C : Addr) (l : List (Str × Addr)) (fp : List Addr), SE (X.blk s H scope (compEnvC scope l C X.env) fp) cl WF vx tv)
    (hw : ∀ w ∈ ws, w ∈ own.map (·.2) := by decide) (hs : ∀ x, foldedSetIterable iter X.env x = pure x := by intro _; rfl) :
    SE X cl W (.DictComp kx vx [⟨tg, iter, ifs, 0⟩] scope pos) (dDc fi g tt tk tv (own.map (·.2))) :=
  ⟨(pe_dcT (by omega) hc hN hi.run ok (fun s H C l fp => (hg s H C l fp).run) (fun s H C l fp => (ht s H C l fp).run) (fun s H C l fp => (hk s H C l fp).run) (fun s H C l fp => (he s H C l fp).run) hs).imp fun sg H Q h =>
    dc_tDc (fin := fun a st2 => .ok (.nd (.dt a.1) a.2) st2) hw sg H Q (fun Z r H p hp hz a st2 r2 H2 vs e2 hl hd R2 qx {W'} h => h r2 H2 _ e2 R2.less (adopt_dt hz R2 hl hd qx)) h⟩
end
end DY

/-! What an expression made is frozen behind it. -/
namespace DY
open PySem PySem.Spec PyProof.Rows L2
noncomputable def dFrz (f : SemE) : SemE := fun env st => frzF (fun _ st => f env st) [] st
section
variable {X : Cx} {cl : ClsT} {W : WX} {e : Expr} {fo : SemE}
theorem se_frz (h : SE X cl W e fo) : SE X cl W e (dFrz fo) :=
  ⟨h.run.imp fun sg H Q ⟨Z, r, env, st, E, R, h⟩ => ⟨Z, r, env, st, E, R, frz_post R h⟩⟩
end
end DY

/-! Evaluation on data: dict comprehensions, what is frozen on the way. -/
namespace DY
open PySem PySem.Spec PyProof.Rows L2
section
variable {env env1 : DEnv} {st : Store} {chk : Store → Prop} {tg : DTg} {tst : SemT} {fk fv fo : SemE} {own : List Nat} {fi : SemI} {x : Res (List (List Key) × List D)} {d y z : D}
@[simp] theorem dFrz_ev : dFrz fo env st = frzR st (fo env st) := (rfl)
def dDc0 : List (List Key) × List D → Store → Res D := fun a st => .ok (.nd (.dt a.1) a.2) st
def dDcM0 : List (List Key) × List D → Store → Res D := fun a st => .ok (.h st.length) (st ++ [.nd (.dt a.1) a.2])
noncomputable def dDc1 (tg : DTg) (tst : SemT) (fk fv : SemE) (own : List Nat) (env : DEnv) : DIter → Store → Res (List (List Key) × List D) := fun it st => dcL it.chk tg tst fk fv own env it.items ([], []) st
@[simp] theorem dDc0_ev {a : List (List Key)} {b : List D} : dDc0 (a, b) st = .ok (.nd (.dt a) b) st := (rfl)
@[simp] theorem dDcM0_ev {a : List (List Key)} {b : List D} : dDcM0 (a, b) st = .ok (.h st.length) (st ++ [.nd (.dt a) b]) := (rfl)
@[simp] theorem dDc1_ev {it : DIter} : dDc1 tg tst fk fv own env it st = dcL it.chk tg tst fk fv own env it.items ([], []) st := (rfl)
@[simp] theorem dDc_ev : dDc fi tg tst fk fv own env st = ((fi env st).bind (dDc1 tg tst fk fv own env)).bind dDc0 := bind_bind.symm
@[simp] theorem dDcM_ev : dDcM fi tg tst fk fv own env st = ((fi env st).bind (dDc1 tg tst fk fv own env)).bind dDcM0 := bind_bind.symm
def dEl4 (y : D) : D → Store → Res (Option (D × D)) := fun z st => .ok (some (y, z)) st
def dEl3 (fv : SemE) (env1 : DEnv) : D → Store → Res (Option (D × D)) := fun y st => (fv env1 st).bind (dEl4 y)
def dEl2 (fk fv : SemE) (env1 : DEnv) : Bool → Store → Res (Option (D × D)) := fun b st => if b = true then (fk env1 st).bind (dEl3 fv env1) else .ok none st
def dEl1 (tst : SemT) (fk fv : SemE) (st : Store) : Option DEnv → Res (Option (D × D))
  | some env1 => (tst env1 st).bind (dEl2 fk fv env1)
  | none => .no
/-- one turn of a dict comprehension -/
def dEl (tg : DTg) (tst : SemT) (fk fv : SemE) (env0 : DEnv) (d : D) (st : Store) : Res (Option (D × D)) := dEl1 tst fk fv st (tg d env0 st)
@[simp] theorem dEl_ev : dEl tg tst fk fv env d st = dEl1 tst fk fv st (tg d env st) := (rfl)
@[simp] theorem dEl1_ev : dEl1 tst fk fv st (some env1) = (tst env1 st).bind (dEl2 fk fv env1) := (rfl)
@[simp] theorem dEl2_ev {b : Bool} : dEl2 fk fv env1 b st = if b = true then (fk env1 st).bind (dEl3 fv env1) else .ok none st := (rfl)
@[simp] theorem dEl3_ev : dEl3 fv env1 y st = (fv env1 st).bind (dEl4 y) := (rfl)
@[simp] theorem dEl4_ev : dEl4 y z st = .ok (some (y, z)) st := (rfl)
theorem dEl_some {st' : Store} (h : dEl tg tst fk fv env d st = .ok (some (y, z)) st') :
    ∃ env1 st1 st2, tg d env st = some env1 ∧ tst env1 st = .ok true st1 ∧ fk env1 st1 = .ok y st2 ∧ fv env1 st2 = .ok z st' := by
  unfold dEl dEl1 at h
  cases ht : tg d env st with
  | none => rw [ht] at h; cases h
  | some env1 =>
    rw [ht] at h
    dsimp only at h
    cases hb : tst env1 st with
    | ok b st1 =>
      rw [hb] at h
      cases b with
      | true =>
        have h' : (fk env1 st1).bind (dEl3 fv env1) = .ok (some (y, z)) st' := h
        cases hk : fk env1 st1 with
        | ok y' st2 =>
          rw [hk] at h'
          have h2 : (fv env1 st2).bind (dEl4 y') = .ok (some (y, z)) st' := h'
          cases hv : fv env1 st2 with
          | ok z' st3 => rw [hv] at h2; cases h2; exact ⟨env1, st1, st2, rfl, hb, hk, hv⟩
          | er e s => rw [hv] at h2; cases h2
          | no => rw [hv] at h2; cases h2
        | er e s => rw [hk] at h'; cases h'
        | no => rw [hk] at h'; cases h'
      | false => cases h
    | er e s => rw [hb] at h; cases h
    | no => rw [hb] at h; cases h
theorem kIx_not {κ : Type} [DecidableEq κ] : ∀ {ks : List κ} {x : κ}, x ∉ ks → kIx ks x = none
  | [], _, _ => rfl
  | k :: ks, x, h => by
    simp only [List.mem_cons, not_or] at h
    simp only [kIx]
    rw [if_neg fun e => h.1 e.symm, kIx_not h.2]; rfl
/-- all keys are different; nothing changes -/
theorem dcL_at {α : Type} {enc : α → D} (kf : α → List Key) (yf vf : α → D) (hc : chk st) : ∀ {xs : List α} {ks : List (List Key)} {ds : List D} {x : Res (List (List Key) × List D)} (hx : dcL chk tg tst fk fv own env (xs.map enc) (ks, ds) st = x),
    (ks ++ xs.map kf).Nodup → ds.length + xs.length ≤ 16777216 → (∀ a, a ∈ xs → dEl tg tst fk fv (wipeD env own) (enc a) st = .ok (some (yf a, vf a)) st ∧ tkey? (yf a) = some (kf a)) → x = .ok (ks ++ xs.map kf, ds ++ xs.map vf) st
  | [], ks, ds, x, hx, _, _, _ => by
    simp only [List.map_nil] at hx
    unfold dcL at hx
    rw [if_pos hc] at hx
    simp [← hx]
  | a :: xs, ks, ds, x, hx, hn, hl, hs => by
    obtain ⟨h1, h2⟩ := hs a List.mem_cons_self
    obtain ⟨env1, st1, st2, e1, e2, e3, e4⟩ := dEl_some h1
    have e5 : dEl tg tst fk fv (wipeD env own) (enc a) st = .ok (some (yf a, vf a)) st := h1
    simp only [List.map_cons] at hx
    unfold dcL at hx
    rw [if_pos hc, e1] at hx
    dsimp only at hx
    rw [e2] at hx
    dsimp only at hx
    rw [e3] at hx
    dsimp only at hx
    rw [e4] at hx
    dsimp only at hx
    rw [h2] at hx
    dsimp only at hx
    have ni : kf a ∉ ks := fun m => by
      rw [List.nodup_append] at hn
      exact hn.2.2 _ m _ (by simp) rfl
    simp only [List.length_cons] at hl
    have hp : putT ks ds (kf a) (vf a) = (ks ++ [kf a], ds ++ [vf a]) := by
      unfold putT; rw [kIx_not ni]
    rw [if_pos (show ds.length < szL by rw [szL_16]; omega), hp] at hx
    have := dcL_at kf yf vf hc hx (by simpa using hn) (by simp; omega) fun b m => hs b (List.mem_cons_of_mem _ m)
    simpa using this
theorem dcL_map {α : Type} {enc : α → D} {xs : List α} (hx : dcL chk tg tst fk fv own env (xs.map enc) ([], []) st = x) (kf : α → List Key) (yf vf : α → D) (hc : chk st) (hn : (xs.map kf).Nodup) (hl : xs.length ≤ 16777216)
    (hs : ∀ a, a ∈ xs → dEl tg tst fk fv (wipeD env own) (enc a) st = .ok (some (yf a, vf a)) st ∧ tkey? (yf a) = some (kf a)) : x = .ok (xs.map kf, xs.map vf) st := by
  have := dcL_at kf yf vf hc hx (by simpa using hn) (by simpa using hl) hs
  simpa using this
/-- d[(k, ..)] -/
theorem dGet_dt {hint : Nat} {x d : D} {zs vs : List D} {ks : List (List Key)} {k : List Key} {i : Nat} (hx : seen st x = some (.dt ks, vs)) (hk : keys? zs = some k) (hi : kAt hint ks k = some i) (hv : vs[i]? = some d) : dGet hint x (.nd .tup zs) st = .ok d st := by
  unfold dGet; rw [hx]; simp only [hk, hi, hv]
end
end DY

/-! max of a tuple. -/
namespace DY
open PySem PySem.Spec PyProof.Rows L2
def dMaxT : SemF := fun ds st => match ds with
  | [x] => match (tup? st x).bind ints? with
    | some (i :: is) => .ok (.int (mxL (i :: is))) st
    | _ => .no
  | _ => .no
section
variable {X : Cx} {cl : ClsT} {W : WX}
end
end DY

/-! zip whose pairs are kept under one name. -/
namespace DY
open PySem PySem.Spec PyProof.Rows L2
/-- a zip, whatever pair it gave out last -/
abbrev ZipAt (g : Heap) (z tin tout : Addr) (v : Value) (f : Bool) : Prop := g.get? z = some { cls := .type "zip", dict := none, data := .fields #[v, .bool f, .bool false, .ref tin, .ref tout], slots := #[] }
section
variable {prog : Program} {w : World} {A : Around} {E : Value → Shared → Prop} {s : Shared}
theorem free_dead {z tin tout T : Addr} {f : Bool} {Q : Bool → Shared → Prop} (hz : ZipAt s.heap z tin tout (rawInt T) f) (no : s.heap.get? T = none) (q : Q true s) : wpAny (model prog w) A (Builtin.SmallTypes.ownedTupleIsFree (.ref z)) Q E s := by
  unfold Builtin.SmallTypes.ownedTupleIsFree
  refine wpAny_bind (wpAny_field hz rfl (x := rawInt T) rfl ?_)
  show wpAny _ _ (loadIfAlive ((T : Int).toNat) >>= _) _ _ _
  rw [Int.toNat_natCast]
  refine wpAny_bind ?_
  have dead : (fun o (s' : Shared) => wpAny (model prog w) A (if o.isNone = true then pure true else (do
      if (← field (.ref z) 1) != .bool true then setField (.ref z) 1 (.bool true)
      return false)) Q E s') (s.heap.get? T) s := by
    rw [no]; exact wpAny_pure q
  exact fun _ _ _ => dead
theorem free_none {z tin tout : Addr} {f : Bool} {Q : Bool → Shared → Prop} (hz : ZipAt s.heap z tin tout .none f) (q : Q true s) : wpAny (model prog w) A (Builtin.SmallTypes.ownedTupleIsFree (.ref z)) Q E s := by
  unfold Builtin.SmallTypes.ownedTupleIsFree
  exact wpAny_bind (wpAny_field hz rfl (x := .none) rfl (wpAny_pure q))
/-- the pair given out last is gone, or there is none -/
def Loose (g : Heap) (v : Value) : Prop := v = .none ∨ ∃ T : Addr, v = rawInt T ∧ g.get? T = none
theorem Loose.free {z tin tout : Addr} {v : Value} {f : Bool} (hz : ZipAt s.heap z tin tout v f) (l : Loose s.heap v) (Q : Bool → Shared → Prop) (q : Q true s) : wpAny (model prog w) A (Builtin.SmallTypes.ownedTupleIsFree (.ref z)) Q E s := by
  rcases l with rfl | ⟨T, rfl, no⟩
  · exact free_none hz q
  · exact free_dead hz no q
end
section
variable {X : Cx} {cl : ClsT} {W : WX}
def iZipNC (x y : D) (st : Store) : Option (List D) → Option (List D) → Res DIter
  | some xs, some ys => .ok ⟨zipD xs ys, fun st2 => lst? st2 x = some xs ∧ lst? st2 y = some ys⟩ st
  | _, _ => .no
def iZipN1 : List D → Store → Res DIter
  | [x, y], st => iZipNC x y st (lst? st x) (lst? st y)
  | _, _ => .no
def iZipN (f : SemA) : SemI := fun env st => (f env st).bind iZipN1
end
end DY

/-! Evaluation on data: max of a tuple, items of lists that are stored. -/
namespace DY
open PySem PySem.Spec PyProof.Rows L2
section
variable {env : DEnv} {st : Store} {x y v : D} {xs : List D}
@[simp] theorem dMaxT_1 : dMaxT [x] st = dMaxC st ((tup? st x).bind ints?) := by
  generalize h : (tup? st x).bind ints? = o
  simp only [dMaxT, dMaxC, h]
  try (rcases o with _ | _ | ⟨i, is⟩ <;> rfl)
@[simp] theorem iZipN_ev {fs : SemA} : iZipN fs env st = (fs env st).bind iZipN1 := (rfl)
@[simp] theorem iZipN1_ev : iZipN1 [x, y] st = iZipNC x y st (lst? st x) (lst? st y) := (rfl)
@[simp] theorem iZipNC_ev {ys : List D} : iZipNC x y st (some xs) (some ys) = .ok ⟨zipD xs ys, bothS (lstIs x xs) (lstIs y ys)⟩ st := (rfl)
@[simp] theorem sLPut_ev {fa fb fe : SemE} : sLPut fa fb fe env st = bindE (fe env st) env (sLPut1 fa fb env) := (rfl)
@[simp] theorem sLPut1_ev {fa fb : SemE} : sLPut1 fa fb env v st = bindE (fa env st) env (sLPut2 fb env v) := (rfl)
@[simp] theorem sLPut2_ev {fb : SemE} : sLPut2 fb env v x st = bindE (fb env st) env (sLPut3 env v x) := (rfl)
@[simp] theorem sLPut3_ev : sLPut3 env v x y st = lput1 env (putL x y v st) := (rfl)
@[simp] theorem lput1_some : lput1 env (some st) = .nx env st := (rfl)
end
end DY

/-! f'..'. -/
namespace DY
open PySem PySem.Spec PyProof.Rows L2
def dFmt1 : D → Store → Res D
  | .str y, st => if y.length ≤ szL then .ok (.str y) st else .no
  | .int i, st => if i.natAbs.log2 < 1920 then .ok (.str (toString i)) st else .no
  | _, _ => .no
def dFmt (f : SemE) : SemE := fun env st => (f env st).bind dFmt1
def dJ1 (k : Str → Store → Res D) (acc : Str) : D → Store → Res D
  | .str y, st => if (acc ++ y).length ≤ szL then k (acc ++ y) st else .no
  | _, _ => .no
/-- the texts one behind the other -/
def dJ : List SemE → Str → SemE
  | [], acc => fun _ st => .ok (.str acc) st
  | f :: fs, acc => fun env st => (f env st).bind (dJ1 (fun a st1 => dJ fs a env st1) acc)
def dJn (fs : List SemE) : SemE := dJ fs Str.empty
section
variable {X : Cx} {cl : ClsT} {W : WX} {e v1 v2 : Expr} {fo : SemE} {pos : Pos}
inductive SJ (X : Cx) (cl : ClsT) (W : WX) : List Expr → List SemE → Prop where
  | nil : SJ X cl W [] []
  | cons {e : Expr} {f : SemE} {es : List Expr} {fs : List SemE} (h : SE X cl W e f) (r : SJ X cl W es fs) : SJ X cl W (e :: es) (f :: fs)
end
end DY

/-! Methods of texts: join. -/
namespace DY
open PySem PySem.Spec PyProof.Rows L2
def dBMT1 (op : D → List D → Store → Res D) (fa : SemA) (env : DEnv) : D → Store → Res D
  | .str z, st => (fa env st).bind (op (.str z))
  | _, _ => .no
/-- a method of a text -/
def dBMT (op : D → List D → Store → Res D) (fo : SemE) (fa : SemA) : SemE := fun env st => (fo env st).bind (dBMT1 op fa env)
def strs? : List D → Option (List Str)
  | [] => some []
  | .str s :: ds => match strs? ds with
    | some r => some (s :: r)
    | none => none
  | _ => none
def opJoinC (a : Str) (st : Store) : Option (List Str) → Res D
  | some ys => if (ys.map (·.length)).sum + ys.length * a.length ≤ 16777216 then .ok (.str (Txt.join a ys)) st else .no
  | none => .no
/-- sep.join(texts) -/
def opJoin (x : D) (ds : List D) (st : Store) : Res D := match x, ds with
  | .str a, [d] => opJoinC a st ((seq? st d).bind strs?)
  | _, _ => .no
section
variable {X : Cx} {cl : ClsT} {W : WX} {o e : Expr} {es : List Expr} {fo : SemE} {fa : SemA} {apos pos : Pos}
end
end DY

/-! == by a class's own __eq__. -/
namespace DY
open PySem PySem.Spec PyProof.Rows L2
/-- the class c has an __eq__ of its own -/
structure OwnEq (K : PySem.W.Frag) (C : Addr) (f : Addr) : Prop where
  first : PySem.W.notFirst K C (.ref C) = true
  at_ : PySem.W.findIn K (.ref C) (cmpInfo .Eq).2.1 = some (some (.ref f))
  fn : PySem.W.isFn K (.ref f) = true
def dEqO1 : Res D → Res D
  | .ok (.bl b) st => .ok (.bl b) st
  | _ => .no
def dEqOC (c : Nat) (F : SemF) (x y : D) (st : Store) : Option (Hd × List D) → Option (Hd × List D) → Res D
  | some (.ins c1 _, _), some (.ins c2 _, _) => if c1 = c ∧ c2 = c then dEqO1 (F [x, y] st) else .no
  | _, _ => .no
def dEqO (c : Nat) (F : SemF) (x y : D) (st : Store) : Res D := dEqOC c F x y st (seen st x) (seen st y)
section
variable {X : Cx} {cl : ClsT} {W : WX} {F : SemF}
end
end DY

/-! != by a class's own __eq__. -/
namespace DY
open PySem PySem.Spec PyProof.Rows L2
/-- a def that is called within a built-in function -/
structure CalI (X : Cx) (cl : ClsT) (W : WX) (u : Value) (F : SemF) : Prop where
  code : ∀ (pins : List (Addr × Obj)) (s : Shared) (sg : L2.St) (H : Hp) (Q : VK) (vs : List V) (us : List Value), Inv X pins sg H s → Vals vs us → rdC ⟨X.K, cl⟩ W F vs sg H Q → codeAny (model X.prog X.w) X.A.in1 (.call u ⟨us, []⟩) (RcP X pins sg Q) s
structure OwnNe (K : PySem.W.Frag) (C : Addr) (f : Addr) : Prop extends OwnEq K C f where
  ne_ : PySem.W.findIn K (.ref C) "__ne__" = some (some (.builtin "object.__ne__"))
  obj : PySem.W.mroIn K C (.type "object") = some true
section
variable {X : Cx} {cl : ClsT} {W : WX} {F : SemF}
end
section
variable {prog : Program} {w : World} {A : Around} {E : Value → Shared → Prop} {s : Shared} {K : PySem.W.Frag} {x C y f : Addr} {h₀ : Heap} {L : Addr} {m : Str → Option Value} {ox : Obj} {od : Option Obj} {tb : Value}
end
section
variable {X : Cx} {cl : ClsT} {W : WX} {F : SemF}
def dNeO1 : Res D → Res D
  | .ok (.bl b) st => .ok (.bl (!b)) st
  | _ => .no
def dNeOC (c : Nat) (F : SemF) (x y : D) (st : Store) : Option (Hd × List D) → Option (Hd × List D) → Res D
  | some (.ins c1 _, _), some (.ins c2 _, _) => if c1 = c ∧ c2 = c then dNeO1 (F [x, y] st) else .no
  | _, _ => .no
def dNeO (c : Nat) (F : SemF) (x y : D) (st : Store) : Res D := dNeOC c F x y st (seen st x) (seen st y)
end
section
variable {X : Cx} {cl : ClsT} {W : WX} {fa : Nat → Addr} {fd : Nat → FuncData} {ps : Nat → List Str} {n k : Nat} {c : Nat → SemF}
end
end DY

/-! isinstance of a class of the program. -/
namespace DY
open PySem PySem.Spec PyProof.Rows L2
/-- what isinstance asks of the class -/
structure IsC (K : PySem.W.Frag) (C : Addr) : Prop where
  cl : Cls K C
  ha : PySem.W.findIn K (.ref C) "__class__" = some (some (.builtin "object.__class__"))
  hn : PySem.W.specialIn K (.builtin "object.__class__") "__get__" = some (some (.builtin "getset_descriptor.__get__"))
  htk : PySem.W.takesIn K (.builtin "object.__class__") = some true
  hm : PySem.W.mroIn K C (.type "object") = some true
def dIsiOC (c : Nat) (st : Store) : Option (Hd × List D) → Res D
  | some (.ins c1 _, _) => if c1 = c then .ok (.bl true) st else .no
  | _ => .no
def dIsiO1 (c : Nat) : D → Store → Res D := fun x st => dIsiOC c st (seen st x)
/-- isinstance(x, C) of an instance of C -/
def dIsiO (c : Nat) (f : SemE) : SemE := fun env st => (f env st).bind (dIsiO1 c)
section
variable {X : Cx} {cl : ClsT} {W : WX} {e : Expr} {fo : SemE} {p p2 pos : Pos}
end
end DY

/-! Evaluation on data: f'..', join. -/
namespace DY
open PySem PySem.Spec PyProof.Rows L2
section
variable {env : DEnv} {st : Store} {fo : SemE} {fa : SemA} {f : SemE} {fs : List SemE} {acc y a : Str}
@[simp] theorem dFmt_ev : dFmt fo env st = (fo env st).bind dFmt1 := (rfl)
@[simp] theorem dFmt1_str (h : y.length ≤ 16777216) : dFmt1 (.str y) st = .ok (.str y) st := if_pos (by rw [szL_16]; exact h)
@[simp] theorem dFmt1_int {i : Int} (h : i.natAbs.log2 < 1920) : dFmt1 (.int i) st = .ok (.str (toString i)) st := if_pos h
/-- what comes behind a part -/
def dJ2 (fs : List SemE) (env : DEnv) : Str → Store → Res D := fun a st => dJ fs a env st
@[simp] theorem dJn_ev : dJn fs env st = dJ fs Str.empty env st := (rfl)
@[simp] theorem dJ_nil : dJ [] acc env st = .ok (.str acc) st := (rfl)
@[simp] theorem dJ_cons : dJ (f :: fs) acc env st = (f env st).bind (dJ1 (dJ2 fs env) acc) := (rfl)
@[simp] theorem dJ1_ev {k : Str → Store → Res D} (h : (acc ++ y).length ≤ 16777216) : dJ1 k acc (.str y) st = k (acc ++ y) st := if_pos (by rw [szL_16]; exact h)
@[simp] theorem dJ2_ev : dJ2 fs env acc st = dJ fs acc env st := (rfl)
@[simp] theorem dBMT_ev {op : D → List D → Store → Res D} : dBMT op fo fa env st = (fo env st).bind (dBMT1 op fa env) := (rfl)
@[simp] theorem dBMT1_ev {op : D → List D → Store → Res D} : dBMT1 op fa env (.str y) st = (fa env st).bind (op (.str y)) := (rfl)
@[simp] theorem opJoin_ev {d : D} : opJoin (.str a) [d] st = opJoinC a st ((seq? st d).bind strs?) := (rfl)
@[simp] theorem opJoinC_ev {ys : List Str} (h : (ys.map (·.length)).sum + ys.length * a.length ≤ 16777216) : opJoinC a st (some ys) = .ok (.str (Txt.join a ys)) st := if_pos h
@[simp] theorem strs_map (ys : List Str) : strs? (ys.map D.str) = some ys := by
  induction ys with
  | nil => rfl
  | cons y ys ih => simp [strs?, ih]
@[simp] theorem dIsiO_ev {c : Nat} : dIsiO c fo env st = (fo env st).bind (dIsiO1 c) := (rfl)
@[simp] theorem dIsiO1_ev {c : Nat} {x : D} : dIsiO1 c x st = dIsiOC c st (seen st x) := (rfl)
@[simp] theorem dIsiOC_ev {c : Nat} {ns : List Str} {xs : List D} : dIsiOC c st (some (.ins c ns, xs)) = .ok (.bl true) st := if_pos rfl
@[simp] theorem dEqO_ev {c : Nat} {F : SemF} {x y : D} : dEqO c F x y st = dEqOC c F x y st (seen st x) (seen st y) := (rfl)
@[simp] theorem dNeO_ev {c : Nat} {F : SemF} {x y : D} : dNeO c F x y st = dNeOC c F x y st (seen st x) (seen st y) := (rfl)
@[simp] theorem dEqOC_ev {c : Nat} {F : SemF} {x y : D} {ns ms : List Str} {xs ys : List D} : dEqOC c F x y st (some (.ins c ns, xs)) (some (.ins c ms, ys)) = dEqO1 (F [x, y] st) := if_pos ⟨rfl, rfl⟩
@[simp] theorem dNeOC_ev {c : Nat} {F : SemF} {x y : D} {ns ms : List Str} {xs ys : List D} : dNeOC c F x y st (some (.ins c ns, xs)) (some (.ins c ms, ys)) = dNeO1 (F [x, y] st) := if_pos ⟨rfl, rfl⟩
@[simp] theorem dEqO1_ev {b : Bool} : dEqO1 (.ok (.bl b) st) = .ok (.bl b) st := (rfl)
@[simp] theorem dNeO1_ev {b : Bool} : dNeO1 (.ok (.bl b) st) = .ok (.bl (!b)) st := (rfl)
end
end DY

/-! Tables of sets with up to 8192 slots. -/
namespace DY.KS
open PySem PySem.Spec PyProof.Rows L2
/-! ### the round by fives, for each power of two -/
def fv : Nat → Nat
  | 0 => 0
  | n + 1 => fv n * 5 + 1
theorem fv_step (a : Nat) : ∀ b, fv (a + b) = 5 ^ b * fv a + fv b
  | 0 => by simp [fv]
  | b + 1 => by
    show fv (a + b) * 5 + 1 = 5 ^ (b + 1) * fv a + (fv b * 5 + 1)
    rw [fv_step a b, Nat.pow_succ, Nat.add_mul, Nat.mul_right_comm]; omega
theorem fv_twice (b : Nat) : fv (b + b) = (5 ^ b + 1) * fv b := by
  rw [fv_step, Nat.add_mul, Nat.one_mul]
theorem five_pow (k : Nat) : ∃ q, 5 ^ 2 ^ k = 2 ^ (k + 2) * q + 1 := by
  induction k with
  | zero => exact ⟨1, rfl⟩
  | succ k ih =>
    obtain ⟨q, e⟩ := ih
    refine ⟨q * (2 * 2 ^ k * q + 1), ?_⟩
    have e0 : (2 : Nat) ^ (k + 1) = 2 ^ k * 2 := Nat.pow_succ ..
    have e1 : (2 : Nat) ^ (k + 1 + 2) = 8 * 2 ^ k := by rw [Nat.pow_add, e0]; omega
    have e2 : (2 : Nat) ^ (k + 2) = 4 * 2 ^ k := by rw [Nat.pow_add]; omega
    rw [e0, Nat.pow_mul, e, e1, e2]
    generalize 2 ^ k = z
    rw [Nat.pow_two, Nat.mul_add (4 * z * q + 1), Nat.add_mul, Nat.mul_one, Nat.one_mul, Nat.mul_add q, Nat.mul_one, Nat.mul_add (8 * z)]
    have a1 : 8 * z * (q * (2 * z * q)) = 4 * z * q * (4 * z * q) := by
      rw [show 8 * z = 2 * (4 * z) by omega, show 4 * z * q * (4 * z * q) = 4 * z * q * (2 * (2 * z * q)) by rw [show 2 * (2 * z * q) = 4 * z * q by rw [show 4 * z = 2 * (2 * z) by omega]; simp only [Nat.mul_assoc]]]
      simp only [Nat.mul_assoc, Nat.mul_left_comm, Nat.mul_comm]
    have a2 : 8 * z * q = 4 * z * q + 4 * z * q := by rw [← Nat.add_mul]; congr 1; omega
    omega
theorem fv_pow (k : Nat) : ∃ q, fv (2 ^ k) = 2 ^ k * (2 * q + 1) := by
  induction k with
  | zero => exact ⟨0, rfl⟩
  | succ k ih =>
    obtain ⟨q, e⟩ := ih
    obtain ⟨p, e5⟩ := five_pow k
    have e1 : 2 ^ (k + 1) = 2 ^ k + 2 ^ k := by rw [Nat.pow_succ]; omega
    have e2 : (2 : Nat) ^ (k + 2) = 2 ^ k * 4 := by rw [Nat.pow_add]
    refine ⟨q + 2 ^ k * p * (2 * q + 1), ?_⟩
    rw [e1, fv_twice, e, e5, e2]
    generalize 2 ^ k = z
    have a : (z * 4 * p + 1 + 1) * (z * (2 * q + 1)) = (z * 4 * p) * (z * (2 * q + 1)) + 2 * (z * (2 * q + 1)) := by
      rw [Nat.add_assoc, Nat.add_mul]
    rw [a]
    have b : (z + z) * (2 * (q + z * p * (2 * q + 1)) + 1) = 2 * (z * (2 * q + 1)) + (z * 4 * p) * (z * (2 * q + 1)) := by
      have c : (z + z) = 2 * z := by omega
      have d : 2 * (q + z * p * (2 * q + 1)) + 1 = (2 * q + 1) + 2 * (z * p * (2 * q + 1)) := by omega
      rw [c, d, Nat.mul_add]
      congr 1
      · rw [Nat.mul_assoc]
      · generalize 2 * q + 1 = y
        have : z * 4 = 2 * (2 * z) := by omega
        rw [this]
        simp only [Nat.mul_assoc, Nat.mul_left_comm, Nat.mul_comm]
    rw [b, Nat.add_comm]
/-- each rest comes within a round -/
theorem fv_all : ∀ (k j : Nat), j < 2 ^ k → ∃ n, n < 2 ^ k ∧ fv n % 2 ^ k = j
  | 0, j, h => ⟨0, by simp, by simp at h; subst h; rfl⟩
  | k + 1, j, h => by
    have e1 : 2 ^ (k + 1) = 2 * 2 ^ k := by rw [Nat.pow_succ]; omega
    have zp : 0 < 2 ^ k := Nat.pow_pos (by decide)
    obtain ⟨n, hn, e⟩ := fv_all k (j % 2 ^ k) (Nat.mod_lt _ zp)
    obtain ⟨q, eq⟩ := fv_pow k
    obtain ⟨p, e5⟩ := five_pow k
    by_cases c : fv n % 2 ^ (k + 1) = j
    · exact ⟨n, by omega, c⟩
    · refine ⟨n + 2 ^ k, by omega, ?_⟩
      rw [fv_step, eq, e5, e1]
      have e2 : (2 : Nat) ^ (k + 2) = 2 * 2 ^ k * 2 := by rw [Nat.pow_add]; omega
      rw [e2]
      rw [e1] at c h
      generalize 2 ^ k = z at *
      generalize fv n = f at *
      have a : (2 * z * 2 * p + 1) * f + z * (2 * q + 1) = (f + z) + 2 * z * (2 * p * f + q) := by
        rw [Nat.add_mul, Nat.one_mul, Nat.mul_add, Nat.mul_add]
        have : 2 * z * 2 * p * f = 2 * z * (2 * p * f) := by simp only [Nat.mul_assoc]
        have : z * (2 * q) = 2 * z * q := by rw [← Nat.mul_assoc, Nat.mul_comm z 2]
        omega
      rw [a, Nat.add_mul_mod_self_left]
      have d1 := Nat.div_add_mod f (2 * z)
      have d2 := Nat.div_add_mod f z
      have m1 := Nat.mod_lt f (show 0 < 2 * z by omega)
      have md : f % (2 * z) % z = f % z := Nat.mod_mod_of_dvd f ⟨2, by omega⟩
      have jd : j = z * (j / z) + j % z := (Nat.div_add_mod j z).symm
      have jl : j / z < 2 := Nat.div_lt_of_lt_mul (by omega)
      have rd : f % (2 * z) = z * (f % (2 * z) / z) + f % (2 * z) % z := (Nat.div_add_mod _ z).symm
      have rl : f % (2 * z) / z < 2 := Nat.div_lt_of_lt_mul (by omega)
      rw [md, e] at rd
      generalize f % (2 * z) / z = x1 at *
      generalize j / z = x2 at *
      have fz : (f + z) % (2 * z) = (f % (2 * z) + z) % (2 * z) := by rw [Nat.mod_add_mod]
      rw [fz]
      generalize f % (2 * z) = r at *
      rcases (by omega : x1 = 0 ∨ x1 = 1) with rfl | rfl <;> rcases (by omega : x2 = 0 ∨ x2 = 1) with rfl | rfl
      · omega
      · rw [Nat.mod_eq_of_lt (by omega)]; omega
      · rw [show r + z = (j % z) + 2 * z by omega, Nat.add_mod_right, Nat.mod_eq_of_lt (by omega)]; omega
      · omega
/-- the masks that come: a power of two less one -/
def MaskB (m : Nat) : Prop := m = 7 ∨ m = 31 ∨ m = 127 ∨ m = 511 ∨ m = 2047 ∨ m = 8191 ∨ m = 32767
theorem MaskB.odd {m : Nat} (h : MaskB m) : m % 2 = 1 := by
  unfold MaskB at h; omega
theorem MaskB.top {m : Nat} (h : MaskB m) : m ≤ 32767 := by
  unfold MaskB at h; omega
theorem MaskB.pow {m : Nat} (h : MaskB m) : ∃ k, m + 1 = 2 ^ k := by
  rcases h with rfl | rfl | rfl | rfl | rfl | rfl | rfl
  · exact ⟨3, rfl⟩
  · exact ⟨5, rfl⟩
  · exact ⟨7, rfl⟩
  · exact ⟨9, rfl⟩
  · exact ⟨11, rfl⟩
  · exact ⟨13, rfl⟩
  · exact ⟨15, rfl⟩
theorem lcg_fv (m i : Nat) : ∀ n, i ≤ m → lcgI m i n = (5 ^ n * i + fv n) % (m + 1)
  | 0, h => by
    show i = _
    rw [Nat.pow_zero, Nat.one_mul, show fv 0 = 0 from rfl, Nat.add_zero, Nat.mod_eq_of_lt (Nat.lt_succ_of_le h)]
  | n + 1, h => by
    show (lcgI m i n * 5 + 1) % (m + 1) = (5 ^ (n + 1) * i + (fv n * 5 + 1)) % (m + 1)
    rw [lcg_fv m i n h]
    have e : 5 ^ (n + 1) * i + (fv n * 5 + 1) = (5 ^ n * i + fv n) * 5 + 1 := by
      rw [Nat.pow_succ, Nat.add_mul, Nat.mul_right_comm]; omega
    rw [e, Nat.add_mod, Nat.mul_mod, Nat.mod_mod, ← Nat.mul_mod, ← Nat.add_mod]
/-- from each slot each other one is met within a round -/
theorem round_all {m i j : Nat} (hm : MaskB m) (hi : i ≤ m) (hj : j ≤ m) : ∃ n, n ≤ m ∧ lcgI m i n = j := by
  obtain ⟨k, e⟩ := hm.pow
  obtain ⟨a, a1, a2⟩ := fv_all k i (by omega)
  obtain ⟨b, b1, b2⟩ := fv_all k j (by omega)
  have key : ∀ n, lcgI m i n = fv (a + n) % (m + 1) := fun n => by
    rw [lcg_fv m i n hi, fv_step, ← a2, e, Nat.add_mod, Nat.mul_mod, Nat.mod_mod, ← Nat.mul_mod, ← Nat.add_mod]
  obtain ⟨q, eq⟩ := fv_pow k
  obtain ⟨p, e5⟩ := five_pow k
  by_cases c : a ≤ b
  · exact ⟨b - a, by omega, by rw [key, show a + (b - a) = b by omega, e]; exact b2⟩
  · refine ⟨b + 2 ^ k - a, by omega, ?_⟩
    rw [key, show a + (b + 2 ^ k - a) = b + 2 ^ k by omega, e, fv_step, eq, e5]
    have e2 : (2 : Nat) ^ (k + 2) = 2 ^ k * 4 := by rw [Nat.pow_add]
    rw [e2]
    have : (2 ^ k * 4 * p + 1) * fv b + 2 ^ k * (2 * q + 1) = fv b + 2 ^ k * (4 * p * fv b + (2 * q + 1)) := by
      have a1 : 2 ^ k * 4 * p * fv b = 2 ^ k * (4 * p * fv b) := by simp only [Nat.mul_assoc]
      have a2 : 2 ^ k * (4 * p * fv b + (2 * q + 1)) = 2 ^ k * (4 * p * fv b) + 2 ^ k * (2 * q + 1) := Nat.mul_add ..
      rw [Nat.add_mul, Nat.one_mul, a1, a2]
      omega
    rw [this, Nat.add_mul_mod_self_left]
    exact b2
theorem way_in {m : Nat} {x : Int} {c : Nat} : way m x c ≤ m := by
  have b : SetTable.bits x % (m + 1) ≤ m := Nat.le_of_lt_succ (Nat.mod_lt (SetTable.bits x) (Nat.succ_pos m))
  have r := runEnd_bd b
  have q := nth_in (m := m) c (runAt m (SetTable.bits x % (m + 1)) (SetTable.bits x)) (by
    show SetTable.bits x % (m + 1) + (SetTable.runEnd m (SetTable.bits x % (m + 1)) - SetTable.bits x % (m + 1)) ≤ m
    omega)
  exact Nat.le_trans (Nat.le_add_right _ _) q
/-- a table in which each hash leads to its slot -/
structure TabB (t : SetTable) (xs : List Int) : Prop where
  ris : Ris t.place.toList
  dm : t.dummies = #[]
  sz : t.place.size = xs.length
  mok : MaskB t.mask
  low : ∀ j ∈ t.place.toList, j ≤ t.mask
  lead : ∀ (i : Nat) (x : Int) (j : Nat), xs[i]? = some x → t.place.toList[i]? = some j → ∃ c, way t.mask x c = j ∧ ∀ d, d < c → way t.mask x d ∈ t.place.toList
section
variable {t : SetTable} {xs : List Int}
/-- the starts of the runs of a round are all different -/
theorem starts_nodup {m i : Nat} (hm : MaskB m) (hi : i ≤ m) : ((List.range (m + 1)).map fun n => lcgI m i n).Nodup := by
  have p := perm_range (m + 1) ((List.range (m + 1)).map fun n => lcgI m i n) (by simp) fun k hk => by
    obtain ⟨n, n1, n2⟩ := round_all hm hi (Nat.lt_succ_iff.mp hk)
    exact List.mem_map.mpr ⟨n, List.mem_range.mpr (Nat.lt_succ_of_le n1), n2⟩
  exact p.nodup_iff.mpr List.nodup_range
theorem TabB.first (T : TabB t xs) (few : xs.length ≤ t.mask) (x : Int) : ∃ c, (c < 10 * SetTable.turns t.mask ∧ c < 10 * (xs.length + 13)) ∧ way t.mask x c ∉ t.place.toList ∧ ∀ d, d < c → way t.mask x d ∈ t.place.toList := by
  have start := runI_le t.mask (SetTable.bits x) 12
  have nd := starts_nodup T.mok start
  have sub : ((List.range (xs.length + 1)).map fun n => lcgI t.mask (runI t.mask (SetTable.bits x) 12) n).Nodup := by
    exact nd.sublist (List.Sublist.map _ (List.range_sublist.mpr (by omega)))
  obtain ⟨n, n1, n2⟩ : ∃ n, n ≤ xs.length ∧ lcgI t.mask (runI t.mask (SetTable.bits x) 12) n ∉ t.place.toList := Classical.byContradiction fun no => by
    have all := nat_nodup_len _ t.place.toList sub fun j hj => by
      obtain ⟨n, hn, rfl⟩ := List.mem_map.mp hj
      exact Classical.byContradiction fun z => no ⟨n, Nat.lt_succ_iff.mp (List.mem_range.mp hn), z⟩
    have := T.sz
    simp only [List.length_map, List.length_range, Array.length_toList] at all
    omega
  obtain ⟨c, c1, c2⟩ := run_nth t.mask (SetTable.bits x) (12 + n)
  have c3 : way t.mask x c = lcgI t.mask (runI t.mask (SetTable.bits x) 12) n := by
    show (nth t.mask _ c).j = _
    rw [c2]
    exact runI_tail (bits_lt x) n
  obtain ⟨b, b1, b2, b3⟩ := st_least (p := fun d => way t.mask x d ∉ t.place.toList) c (c3.symm ▸ n2)
  refine ⟨b, ⟨?_, ?_⟩, b2, fun d hd => Classical.byContradiction (b3 d hd)⟩
  · unfold SetTable.turns; omega
  · omega
theorem TabB.before (T : TabB t xs) {x : Int} {c i j : Nat} (free : way t.mask x c ∉ t.place.toList) (hi : xs[i]? = some x) (hj : t.place.toList[i]? = some j) : ∃ d, d < c ∧ way t.mask x d = j := by
  obtain ⟨d, e, b⟩ := T.lead i x j hi hj
  by_cases h : d < c
  · exact ⟨d, h, e⟩
  · exfalso
    by_cases h2 : d = c
    · subst h2
      exact free (e ▸ List.mem_of_getElem? hj)
    · exact free (b c (by omega))
theorem TabB.put (T : TabB t xs) {x : Int} {c : Nat} (free : way t.mask x c ∉ t.place.toList) (busy : ∀ d, d < c → way t.mask x d ∈ t.place.toList) {p : Nat} (hp : SetTable.below t.place (way t.mask x c) = p) :
    (t.put (way t.mask x c)).2 = p ∧ p ≤ xs.length ∧ TabB (t.put (way t.mask x c)).1 (xs.take p ++ x :: xs.drop p) ∧ (t.put (way t.mask x c)).1.mask = t.mask ∧ (t.put (way t.mask x c)).1.led = t.led ∧ (t.put (way t.mask x c)).1.plain = t.plain ∧
      (t.put (way t.mask x c)).1.fill = xs.length + 1 := by
  have jl : way t.mask x c ≤ t.mask := way_in
  generalize hj : way t.mask x c = j at *
  have cut := (below_cut T.ris j).1
  rw [hp] at cut
  have sz := T.sz
  have pl : p ≤ t.place.toList.length := by rw [Array.length_toList]; exact cut
  have ph : p ≤ xs.length := sz ▸ cut
  have new := put_place t j
  rw [hp] at new
  have more : ∀ {y : Nat}, y ∈ t.place.toList → y ∈ (t.put j).1.place.toList := fun {y} hy => new ▸ mem_ins.mpr (.inr hy)
  have len : (t.put j).1.place.size = xs.length + 1 := by
    have := congrArg List.length new
    rw [len_ins _ pl, Array.length_toList, Array.length_toList] at this
    omega
  have odd : t.place[SetTable.below t.place j]? ≠ some j := fun e => free (List.mem_of_getElem? (l := t.place.toList) (Array.getElem?_toList.trans e))
  refine ⟨hp, ph, ⟨ris_insert T.ris odd, put_dm T.dm j, len.trans (len_ins _ ph x).symm, T.mok, fun y hy => ?_, fun i y k h1 h2 => ?_⟩, rfl, rfl, rfl, ?_⟩
  · rw [new] at hy
    exact (mem_ins.mp hy).elim (fun e => e ▸ jl) (T.low y)
  · rw [tins_get xs ph] at h1
    rw [new, tins_get _ pl] at h2
    show ∃ c, way t.mask y c = k ∧ ∀ d, d < c → way t.mask y d ∈ (t.put j).1.place.toList
    have from' : ∀ i, xs[i]? = some y → t.place.toList[i]? = some k → ∃ c, way t.mask y c = k ∧ ∀ d, d < c → way t.mask y d ∈ (t.put j).1.place.toList := fun i a b =>
      let ⟨c, e, z⟩ := T.lead i y k a b
      ⟨c, e, fun d hd => more (z d hd)⟩
    by_cases i1 : i < p
    · rw [if_pos i1] at h1 h2; exact from' i h1 h2
    · rw [if_neg i1] at h1 h2
      by_cases i2 : i = p
      · rw [if_pos i2] at h1 h2
        cases h1; cases h2
        exact ⟨c, hj, fun d hd => more (busy d hd)⟩
      · rw [if_neg i2] at h1 h2; exact from' _ h1 h2
  · show _ + (t.put j).1.dummies.size = _
    rw [len, put_dm T.dm j]; rfl
end
/-! ### laid anew -/
section
variable {m : Nat} {own : Array (Option Nat)}
end
end DY.KS

/-! Sets whose members are nested tuples of whole numbers: the table. -/
namespace DY.KS
open PySem PySem.Spec PyProof.Rows L2
/-- made of numbers alone -/
def nums : NestedKey → Bool
  | .num _ => true
  | .tup ks => numsAll ks
  | _ => false
where numsAll : List NestedKey → Bool
  | [] => true
  | k :: ks => nums k && numsAll ks
/-- a key stands at an address -/
structure At (h : Heap) (k : NestedKey) (a : Addr) : Prop where
  is : NestedIs h k (.ref a)
  deep : k.depth ≤ 8
  num : nums k = true
section
variable {P : Program} {w : World}
/-- v is of no class statement, n levels down -/
def NoCls (P : Program) (w : World) (n : Nat) (s : Shared) (v : Value) : Prop := ∀ (A : Around) (E : Value → Shared → Prop) (Q : Bool → Shared → Prop), Q false s → wpAny (model P w) A (ofAClassStatement n v) Q E s
/-- v's hash hangs on its value alone -/
def HashV (P : Program) (w : World) (n : Nat) (s : Shared) (v : Value) : Prop := ∀ (A : Around) (E : Value → Shared → Prop) (Q : Bool → Shared → Prop), Q true s → wpAny (model P w) A (hashByValue n v) Q E s
theorem NoCls.tup {n : Nat} {s : Shared} {a : Addr} {o : Obj} {vs : Array Value} {m : Nat} (ho : s.heap.get? a = some o) (hc : o.cls = .type "tuple") (hd : o.data = .seq vs m) (hq : ∀ v ∈ vs.toList, NoCls P w n s v) : NoCls P w (n + 1) s (.ref a) := fun A E Q h => by
  have hT : s.TypeIs (.ref a) "tuple" := ⟨o, ho, hc⟩
  have same : (("tuple" : String) == "tuple") = true := by decide
  unfold ofAClassStatement
  refine wpAny_bind (wpAny_typeOf hT ?_)
  dsimp only
  simp only [same, if_true, Bool.not_true, Bool.false_eq_true, if_false]
  try refine wpAny_bind (wpAny_pure ?_)
  try simp only [Bool.not_true, Bool.false_eq_true, if_false]
  show wpAny _ _ (seqItems? (.ref a) >>= _) _ _ s
  refine wpAny_bind (wpAny_seqItems ho hd ?_)
  dsimp only
  refine wpAny_bind ?_
  show wpAny _ _ (forIn vs _ _) _ _ s
  rw [← Array.forIn_toList]
  refine wpAny_forIn_list _ (fun left r s1 => r.1 = none ∧ s1 = s ∧ ∀ v ∈ left, NoCls P w n s v) _ ?_ ?_ _ _ ⟨rfl, rfl, hq⟩
  · rintro v left r s1 ⟨hr, rfl, all⟩
    refine wpAny_bind (all v List.mem_cons_self _ _ _ ?_)
    simp only [Bool.false_eq_true, if_false]
    exact wpAny_pure ⟨rfl, rfl, fun u m => all u (List.mem_cons_of_mem _ m)⟩
  · rintro ⟨r1, r2⟩ s1 ⟨hr, rfl, _⟩
    simp only at hr
    subst hr
    exact wpAny_pure h
theorem HashV.tup {n : Nat} {s : Shared} {a : Addr} {o : Obj} {vs : Array Value} {m : Nat} (ho : s.heap.get? a = some o) (hc : o.cls = .type "tuple") (hd : o.data = .seq vs m) (hq : ∀ v ∈ vs.toList, HashV P w n s v) : HashV P w (n + 1) s (.ref a) := fun A E Q h => by
  have hT : s.TypeIs (.ref a) "tuple" := ⟨o, ho, hc⟩
  unfold hashByValue
  refine wpAny_bind (wpAny_specialOf hT F.slot_tuple_hash.lookup ?_)
  show wpAny _ _ (seqItems? (.ref a) >>= _) _ _ s
  refine wpAny_bind (wpAny_seqItems ho hd ?_)
  refine wpAny_bind ?_
  show wpAny _ _ (forIn vs _ _) _ _ s
  rw [← Array.forIn_toList]
  refine wpAny_forIn_list _ (fun left r s1 => r.1 = none ∧ s1 = s ∧ ∀ v ∈ left, HashV P w n s v) _ ?_ ?_ _ _ ⟨rfl, rfl, hq⟩
  · rintro v left r s1 ⟨hr, rfl, all⟩
    refine wpAny_bind (all v List.mem_cons_self _ _ _ ?_)
    simp only [Bool.not_true, Bool.false_eq_true, if_false]
    exact wpAny_pure ⟨rfl, rfl, fun u m => all u (List.mem_cons_of_mem _ m)⟩
  · rintro ⟨r1, r2⟩ s1 ⟨hr, rfl, _⟩
    simp only at hr
    subst hr
    exact wpAny_pure h
end
abbrev kh (w : World) (k : NestedKey) : Int := NestedKey.hash w k
theorem At.inj {h : Heap} {x y : NestedKey} {a : Addr} (p : At h x a) (q : At h y a) : x = y := NestedIs.inj _ _ _ p.is q.is
theorem At.move {h h' : Heap} {k : NestedKey} {a : Addr} (f : ∀ b o vs n, h.get? b = some o → o.data = .seq vs n → h'.get? b = some o) (p : At h k a) : At h' k a := ⟨NestedIs.at f k _ p.is, p.deep, p.num⟩
theorem At.keep {h h' : Heap} {k : NestedKey} {a : Addr} (p : At h k a) (f : ∀ b o, h.get? b = some o → h'.get? b = some o) : At h' k a := p.move fun b o _ _ e _ => f b o e
theorem At.same {h h' : Heap} {k : NestedKey} {a b : Addr} {o : Obj} {es : Array (Int × Value)} {ep : Nat} {t : SetTable} (p : At h k a) (ho : h.get? b = some o) (hd : o.data = .set es ep t) (hs : Heap.SameBut b h h') : At h' k a :=
  p.move fun c u vs n e z => (hs.2 c fun i => by subst i; rw [ho] at e; cases e; rw [hd] at z; cases z).trans e
section
variable {P : Program} {w : World} {A : Around} {E : Value → Shared → Prop} {s : Shared}
theorem At.kind {k : NestedKey} {a : Addr} (p : At s.heap k a) : (nestedKind P w).is s.heap k a := ⟨p.is, p.deep⟩
end
/-- members: where they stand, what they are -/
abbrev Ms := List (Addr × NestedKey)
def rowsM (w : World) (L : Ms) : List (Int × Value) := L.map fun p => (kh w p.2, Value.ref p.1)
abbrev hashM (w : World) (L : Ms) : List Int := L.map fun p => kh w p.2
theorem rowsM_len (w : World) (L : Ms) : (rowsM w L).length = L.length := List.length_map ..
/-- the set at a -/
structure Set1 (w : World) (h : Heap) (a : Addr) (L : Ms) (es : Array (Int × Value)) (ep : Nat) (t : SetTable) : Prop where
  ob : ∃ o, h.get? a = some o ∧ o.ExactSet ∧ o.data = .set es ep t
  rows : es.toList = rowsM w L
  tab : TabB t (hashM w L)
  nd : (L.map (·.2)).Nodup
  key : ∀ p ∈ L, At h p.2 p.1
  plain : t.plain = true
  led : w.params.followText "set-order" = true ∨ t.led = true
  room : L.length * 5 < t.mask * 3
  few : L.length < 8000
section
variable {P : Program} {w : World} {A : Around} {E : Value → Shared → Prop} {s : Shared} {h : Heap} {a : Addr} {L : Ms} {es : Array (Int × Value)} {ep : Nat} {t : SetTable}
theorem size_of_rows (e : es.toList = rowsM w L) : es.size = L.length := by
  rw [← Array.length_toList, e, rowsM_len]
theorem Set1.size (R : Set1 w h a L es ep t) : es.size = L.length := size_of_rows R.rows
theorem fits_of (T : TabB t (hashM w L)) (e : es.size = L.length) (r : L.length ≤ t.mask) : t.fits es.size = true := by
  have h1 := T.sz
  rw [List.length_map] at h1
  simp only [SetTable.fits, SetTable.fill, T.dm, Bool.and_eq_true, beq_iff_eq, decide_eq_true_eq]
  show t.place.size = es.size ∧ t.place.size + 0 ≤ t.mask
  omega
theorem Set1.fits (R : Set1 w h a L es ep t) : t.fits es.size = true := fits_of R.tab R.size (by have := R.room; omega)
theorem row_at (e : es.toList = rowsM w L) {i : Nat} {p : Addr × NestedKey} (q : L[i]? = some p) : es[i]? = some (kh w p.2, Value.ref p.1) := by
  rw [← Array.getElem?_toList, e, rowsM, List.getElem?_map, q] <;> rfl
theorem Set1.entry (R : Set1 w h a L es ep t) {i : Nat} {p : Addr × NestedKey} (q : L[i]? = some p) : es[i]? = some (kh w p.2, Value.ref p.1) := row_at R.rows q
/-- what is asked at a place of the search -/
def hAt (es : Array (Int × Value)) : Nat → Int := fun i => (es[i]?.map (·.1)).getD 0
theorem Set1.hAt (R : Set1 w h a L es ep t) {i : Nat} {p : Addr × NestedKey} (q : L[i]? = some p) : KS.hAt es i = kh w p.2 := by
  simp only [KS.hAt, R.entry q, Option.map_some, Option.getD_some]
end
end DY.KS

/-! Sets whose members are nested tuples of whole numbers: adding, set(xs). -/
namespace DY.KS
open PySem PySem.Spec PyProof.Rows L2
section
variable {P : Program} {w : World} {A : Around} {E : Value → Shared → Prop} {s : Shared} {a : Addr} {L : Ms} {es : Array (Int × Value)} {ep : Nat} {t : SetTable}
end
/-- what has come of the first i items -/
structure Came (ks : Ms) (i : Nat) (L : Ms) : Prop where
  sub : ∀ p ∈ L, p ∈ ks.take i
  all : ∀ p ∈ ks.take i, p.2 ∈ L.map (·.2)
  len : L.length ≤ i
theorem Came.zero (ks : Ms) : Came ks 0 [] := ⟨fun _ z => by simp at z, fun _ z => by simp at z, Nat.le_refl _⟩
theorem Came.next {ks L L' : Ms} {i : Nat} {x : Addr × NestedKey} (g : Came ks i L) (e : ks[i]? = some x) (c1 : x.2 ∈ L.map (·.2) → L' = L) (c2 : x.2 ∉ L.map (·.2) → L'.Perm (x :: L)) : Came ks (i + 1) L' := by
  have tk : ks.take (i + 1) = ks.take i ++ [x] := take_next e
  by_cases c : x.2 ∈ L.map (·.2)
  · rw [c1 c]
    refine ⟨fun p m => by rw [tk]; exact List.mem_append_left _ (g.sub p m), fun p m => ?_, Nat.le_succ_of_le g.len⟩
    rw [tk] at m
    rcases List.mem_append.mp m with z | z
    · exact g.all p z
    · rw [List.mem_singleton.mp z]; exact c
  · have pm := c2 c
    refine ⟨fun p m => ?_, fun p m => ?_, by rw [pm.length_eq]; exact Nat.succ_le_succ g.len⟩
    · rw [tk]
      rcases List.mem_cons.mp (pm.mem_iff.mp m) with z | z
      · exact List.mem_append_right _ (List.mem_singleton.mpr z)
      · exact List.mem_append_left _ (g.sub p z)
    · rw [(pm.map (·.2)).mem_iff, List.map_cons]
      rw [tk] at m
      rcases List.mem_append.mp m with z | z
      · exact List.mem_cons_of_mem _ (g.all p z)
      · rw [List.mem_singleton.mp z]; exact List.mem_cons_self
section
variable {P : Program} {w : World} {A : Around} {E : Value → Shared → Prop} {s : Shared}
theorem Set1.keep {h h' : Heap} {a : Addr} {L : Ms} {es : Array (Int × Value)} {ep : Nat} {t : SetTable} (R : Set1 w h a L es ep t) (f : ∀ o, h.get? a = some o → h'.get? a = some o) (k : ∀ p ∈ L, At h' p.2 p.1) : Set1 w h' a L es ep t := by
  obtain ⟨o, ho, r⟩ := R.ob
  exact ⟨⟨o, f o ho, r⟩, R.rows, R.tab, R.nd, k, R.plain, R.led, R.room, R.few⟩
/-- a new set's object -/
abbrev newSet (w : World) : Obj := { cls := .type "set", dict := none, data := .set #[] 0 (.fresh 0 0 (!w.params.followText "set-order")) }
theorem Set1.new {h : Heap} {a : Addr} (ho : h.get? a = some (newSet w)) : Set1 w h a [] #[] 0 (.fresh 0 0 (!w.params.followText "set-order")) := by
  refine ⟨⟨_, ho, ⟨rfl, rfl, rfl⟩, rfl⟩, rfl, ⟨List.Pairwise.nil, rfl, rfl, .inl rfl, fun x z => (by cases z), fun i x j z => (by simp at z)⟩, List.nodup_nil, fun p z => (by cases z), rfl, ?_, ?_, ?_⟩
  · show _ ∨ (!w.params.followText "set-order") = true
    cases w.params.followText "set-order"
    · exact .inr rfl
    · exact .inl rfl
  · show 0 * 5 < 7 * 3
    decide
  · show 0 < 8000
    decide
end
end DY.KS

/-! A set whose table is plain, gathered into a list: any number of members that fits. -/
namespace DY.KS
open PySem PySem.Spec PyProof.Rows L2
section
variable {P : Program} {w : World} {A : Around} {E : Value → Shared → Prop} {s : Shared} {a : Addr} {xs : Array (Int × Value)} {ep : Nat} {t : SetTable}
end
end DY.KS

/-! sorted of tuples of which some may be empty. -/
namespace PySem.SeqAt
theorem call_tuple_lt {A : Around} {s : Shared} {prog : Program} {w : World} {E : Value → Shared → Prop} {Q : Value → Shared → Prop} {l b : Addr} {items items2 : Array Value} {e r : Nat → Bool} (hl : s.heap.IsTuple l items) (hb : s.heap.IsTuple b items2)
    (he : ∀ j (h1 : j < items.size) (h2 : j < items2.size), EqAt A.in1 s items[j] items2[j] (e j)) (hr : ∀ j (h1 : j < items.size) (h2 : j < items2.size), e j = false → RcLt A.in1 s items[j] items2[j] (r j))
    (h : Q (.bool (firstLt e r (decide (items.size < items2.size)) (List.range (min items.size items2.size)))) s) : wpAny (model prog w) A (call (.builtin "tuple.__lt__") [.ref l, .ref b]) Q E s := by
  obtain ⟨⟨cls, dd, data, sl⟩, ho, hc, n, hd⟩ := id hl
  obtain ⟨⟨cls2, dd2, data2, sl2⟩, ho2, hc2, n2, hd2⟩ := id hb
  simp only at hc hd hc2 hd2
  subst hc hd hc2 hd2
  exact call_meets F.slot_tuple_lt ⟨_, ho, rfl⟩ F.entry_tuple_lt (F.args_tuple_lt_2 _ _) (tuple_ltAt l b items items2 n n2 dd dd2 sl sl2 e r) ⟨ho, ho2, he, hr, h⟩
end PySem.SeqAt
namespace PySem.W
open PySem PySem.Calls PyProof.Rows PySem.SeqAt
section
variable {prog : Program} {w : World} {A : Around} {E : Value → Shared → Prop} {s : Shared}
/-- two tuples against one another, of one type -/
theorem oneLt_tups {xs ys : List PyData} {a b : Value} {as bs : List Addr} {Q : Bool → Shared → Prop} (ra : Reads s.heap a (.tuple xs) as) (rb : Reads s.heap b (.tuple ys) bs) (hal : alikeAll xs ys = true)
    (hu : A.units + min (PyData.tuple xs).depth (PyData.tuple ys).depth < cLine) (hq : Q (dataLt (.tuple xs) (.tuple ys)) s) : wpAny (model prog w) A (oneLt' true a b) Q E s := by
  cases ra with
  | @tuple l o vs n _ as₁ h1 h2 h3 h4 =>
    cases rb with
    | @tuple l' o' vs' n' _ bs₁ k1 k2 k3 k4 =>
      have n1 : vs.size = xs.length := by simpa using ReadsAll.length _ _ _ h4
      have n2 : vs'.size = ys.length := by simpa using ReadsAll.length _ _ _ k4
      rw [dataLt_tuple, ← firstLt_toks xs ys hal, ← n1, ← n2] at hq
      rw [oneLt'_eq]
      simp only [if_true]
      refine wpAny_bind (wpAny_cRoomFor (room_here hu) ?_)
      refine wpAny_bind (wpAny_callSpecialIfBound?_slot (T := "tuple") ⟨_, h1, h2⟩ F.slot_tuple_lt (call_tuple_lt (e := pairEq xs ys) (r := fun j => dataLt (xs.getD j .none) (ys.getD j .none)) ⟨_, h1, h2, _, h3⟩ ⟨_, k1, k2, _, k3⟩ (fun j j1 j2 => ?_) (fun j j1 j2 hj => ?_) ?_))
      · have := eqAt_alikeAll xs ys A.in1 s vs.toList vs'.toList _ _ h4 k4 hal (room_in hu) j (by simpa using j1) (by simpa using j2)
        simpa using this
      · have := rcLt_alikeAll xs ys A.in1 s vs.toList vs'.toList _ _ h4 k4 hal (room_in hu) j (by simpa using j1) (by simpa using j2) hj
        simpa using this
      · exact wpAny_truthy_bool hq
/-- a tuple with an item -/
def fullT : PyData → Bool
  | .tuple [] => false
  | _ => true
/-- the first items of tuples, if any -/
theorem firsts_tups {M : Model} : ∀ {vs : List Value} {ds : List PyData}, EachIs (fun v d => ∃ as, Reads s.heap v d as) vs ds → (∀ d, d ∈ ds → ∃ xs, d = .tuple xs) → ∃ os : List (Option Value), os.map Option.isSome = ds.map fullT ∧ os.length = vs.length ∧
    ∀ {Q : List (Option Value) → Shared → Prop}, Q os s → wpAny M A (vs.mapM firstOfTuple') Q E s
  | _, _, .nil, _ => ⟨[], rfl, rfl, fun h => by rw [List.mapM_nil]; exact wpAny_pure h⟩
  | _, _, .cons (b := d) ⟨as, r⟩ t, ht => by
    obtain ⟨os, h1, h2, h3⟩ := firsts_tups (M := M) t fun d hd => ht d (List.mem_cons_of_mem _ hd)
    obtain ⟨xs, rfl⟩ := ht d (List.mem_cons_self ..)
    cases r with
    | @tuple a o its n _ _ ho hc hd hr =>
      refine ⟨its[0]? :: os, ?_, by simp [h2], fun h => ?_⟩
      · rw [List.map_cons, List.map_cons, h1]
        congr 1
        have n1 : its.size = xs.length := by simpa using ReadsAll.length _ _ _ hr
        show its[0]?.isSome = fullT _
        cases xs with
        | nil => have : its[0]? = none := by rw [Array.getElem?_eq_none_iff]; have : its.size = 0 := n1; omega
                 rw [this]; rfl
        | cons x xs => have : its[0]? = some (its[0]'(by have : its.size = xs.length + 1 := n1; omega)) := Array.getElem?_eq_getElem _
                       rw [this]; rfl
      · rw [List.mapM_cons]
        refine wpAny_bind ?_
        rw [kas_first_eq]
        refine wpAny_bind (Looks.here (show Looks M s.heap (typeOf (.ref a)) o.cls from (Looks.ld ho).andThen .now) ?_)
        rw [hc, if_neg (by first | decide | simp)]
        refine wpAny_bind (listItems_at ho hd (wpAny_pure ?_))
        exact wpAny_bind (h3 (Q := fun bs s' => wpAny M A (pure (its[0]? :: bs)) _ E s') (wpAny_pure h))
/-- tuples of which some are empty can be sorted -/
theorem SortsAt.tups {vs : List Value} {ds : List PyData} (e : EachIs (fun v d => ∃ as, Reads s.heap v d as) vs ds) (hal : AllAlike ds) (ht : ∀ d, d ∈ ds → ∃ xs, d = .tuple xs) (hu : ∀ d, d ∈ ds → A.units + d.depth < cLine) : SortsAt prog w A s (dataKind s.heap ds) vs := by
  by_cases hne : ∀ d, d ∈ ds → ∃ x r, d = PyData.tuple (x :: r)
  · exact SortsAt.data e hal (.inl hne) hu
  have room : ∀ {d d' : PyData}, d ∈ ds → A.units + min d.depth d'.depth < cLine := fun {d d'} hd => Nat.lt_of_le_of_lt (Nat.add_le_add_left (Nat.min_le_left _ _) _) (hu d hd)
  refine ⟨fun v hv => ?_, ?_⟩
  · obtain ⟨d, hd, as, r⟩ := e.left v hv
    exact ⟨_, dataKind_some hal hd r⟩
  cases ds with
  | nil => exact absurd (fun d hd => absurd hd (by simp)) hne
  | cons d₀ ds₀ =>
    have nall : ¬ ((d₀ :: ds₀).map fullT).all id = true := by
      intro h
      refine hne fun d hd => ?_
      obtain ⟨xs, rfl⟩ := ht d hd
      rw [List.all_map, List.all_eq_true] at h
      have := h _ hd
      cases xs with
      | nil => cases this
      | cons x r => exact ⟨x, r, rfl⟩
    have kindOf : ∀ (E : Value → Shared → Prop) {Q : SortKind → Shared → Prop}, Q (if fullT d₀ = false then oneType' else general') s → wpAny (model prog w) A (keyKind' vs.toArray) Q E s := by
      intro E Q hq
      obtain ⟨os, h1, h2, h3⟩ := firsts_tups (M := model prog w) (A := A) (E := E) e ht
      rw [kat_kind_eq, List.mapM_toArray, map_eq_pure_bind]
      refine wpAny_bind (wpAny_bind (h3 (wpAny_pure ?_)))
      have na : ¬ (os.toArray.all fun x => x.isSome) = true := by
        intro h
        refine nall ?_
        rw [← h1, List.all_map]
        simpa using h
      rw [if_neg na]
      cases os with
      | nil => cases e; simp at h2
      | cons o os =>
        have ho : o.isSome = fullT d₀ := by simpa using congrArg List.head? h1
        by_cases hd : fullT d₀ = false
        · rw [if_pos hd] at hq
          have hon : o = none := by
            rw [hd] at ho
            cases o with
            | none => rfl
            | some x => simp at ho
          subst hon
          have : ¬ (((none :: os : List (Option Value)).toArray[0]?.bind id).isSome) = true := by simp
          rw [if_neg this]
          rw [oneTypeOnly'_eq, List.mapM_toArray, map_eq_pure_bind]
          refine wpAny_bind (wpAny_bind (wpAny_bind (kas_mapM (r := Value.type "tuple") _ (fun v hv Q' hq => ?_) (wpAny_pure ?_))))
          · obtain ⟨d, hd, as, r⟩ := e.left v hv
            obtain ⟨xs, rfl⟩ := ht d hd
            exact (looks_reads r).here hq
          · obtain ⟨v, vs', rfl⟩ : ∃ v vs', vs = v :: vs' := by
              cases e with
              | cons a b => exact ⟨_, _, rfl⟩
            have hall : ((List.map (fun _ => Value.type "tuple") (v :: vs')).toArray.all fun x => x == Value.type "tuple") = true := by
              simp only [List.all_toArray, List.all_map, List.all_eq_true]
              intro _ _
              exact beq_self_eq_true _
            have h0 : (List.map (fun _ => Value.type "tuple") (v :: vs')).toArray[0]? = some (Value.type "tuple") := by simp
            rw [h0]
            simp only [hall, if_true]
            exact wpAny_pure (wpAny_pure hq)
        · rw [if_neg hd] at hq
          have : (((o :: os : List (Option Value)).toArray[0]?.bind id).isSome) = true := by
            simp [ho, hd]
          rw [if_pos this]
          exact wpAny_pure hq
    refine ⟨if fullT d₀ = false then oneType' else general', ?_, fun _ E Q hq => kindOf E hq⟩
    intro E x y a b Q ha hb hq
    obtain ⟨d, as, hd, ra, rfl⟩ := dataKind_inv ha
    obtain ⟨d', as', hd', rb, rfl⟩ := dataKind_inv hb
    have hdd := hal d hd d' hd'
    have hroom := room (d' := d') hd
    obtain ⟨xs, rfl⟩ := ht d hd
    obtain ⟨ys, rfl⟩ := ht d' hd'
    by_cases hz : fullT d₀ = false
    · rw [if_pos hz, keyLt'_oneType]
      exact oneLt_tups ra rb (by simpa [alike] using hdd) hroom hq
    · rw [if_neg hz]
      have : keyLt' general' x y = oneLt' false x y := rfl
      rw [this]
      exact oneLt_alike (fun h => absurd h (by simp)) ra rb hdd (by simp) hroom hq
end
end PySem.W
namespace DY
open PySem PySem.Spec PyProof.Rows L2
section
variable {X : Cx} {cl : ClsT}
end
end DY

/-! sorted(set(xs)), xs nested tuples of whole numbers. -/
namespace DY.KS
open PySem PySem.Spec PyProof.Rows L2
section
variable {P : Program} {w : World} {A : Around} {E : Value → Shared → Prop} {s : Shared}
abbrev leK (a b : NestedKey) : Bool := PySem.W.dataLe false NestedKey.data a b
/-- what may be sorted: as the kit has it, or tuples of which some may be empty -/
def SortOr (ds : List PyData) : Prop := PySem.W.Sortable ds ∨ ∀ d, d ∈ ds → ∃ xs, d = PyData.tuple xs
end
end DY.KS

/-! sorted(set(xs)), xs nested tuples of whole numbers, on data. -/
namespace DY
open PySem PySem.Spec PyProof.Rows L2
open KS
/-- a key as data -/
def kD : NestedKey → D
  | .num i => .int i
  | .tup ks => .nd .tup (kDL ks)
  | .none => .non
  | .text s => .str s
where kDL : List NestedKey → List D
  | [] => []
  | k :: ks => kD k :: kDL ks
/-- a key that may be a member -/
structure Good (k : NestedKey) : Prop where
  top : ∃ l, k = .tup l
  deep : k.depth ≤ 8
  num : nums k = true
section
variable {X : Cx} {cl : ClsT} {Z r : List Addr} {st : Store} {pins : List (Addr × Obj)} {sg : L2.St} {H : Hp} {s : Shared}
end
/-- the set at a, without its members themselves -/
structure Set0 (w : World) (h : Heap) (a : Addr) (L : Ms) : Prop where
  ex : ∃ (es : Array (Int × Value)) (ep : Nat) (t : SetTable), (∃ o, h.get? a = some o ∧ o.ExactSet ∧ o.data = .set es ep t) ∧ es.toList = rowsM w L ∧ TabB t (hashM w L) ∧ (L.map (·.2)).Nodup ∧ t.plain = true ∧
    (w.params.followText "set-order" = true ∨ t.led = true) ∧ L.length * 5 < t.mask * 3 ∧ L.length < 8000
theorem Set0.of {w : World} {h : Heap} {a : Addr} {L : Ms} {es : Array (Int × Value)} {ep : Nat} {t : SetTable} (R : Set1 w h a L es ep t) : Set0 w h a L := ⟨es, ep, t, R.ob, R.rows, R.tab, R.nd, R.plain, R.led, R.room, R.few⟩
section
variable {X : Cx} {cl : ClsT} {W : WX} {pos : Pos} {p p2 p3 : Pos} {e : Expr} {fo : SemE}
/-- a datum as a key -/
def nkey? : D → Option NestedKey
  | .int i => some (.num i)
  | .nd .tup xs => (keyL? xs).map .tup
  | _ => none
where keyL? : List D → Option (List NestedKey)
  | [] => some []
  | d :: ds => match nkey? d, keyL? ds with
    | some k, some ks => some (k :: ks)
    | _, _ => none
/-- what may be sorted without repetitions -/
structure SetOk (ks : List NestedKey) : Prop where
  few : ks.length < 8000
  good : ∀ k ∈ ks, Good k
  alike : PySem.W.AllAlike (ks.map NestedKey.data)
  sorts : SortOr (ks.map NestedKey.data)
  anti : ∀ a ∈ ks, ∀ b ∈ ks, leK a b = true → leK b a = true → a = b
structure Sorted (ks ys : List NestedKey) : Prop where
  nd : ys.Nodup
  mem : ∀ z, z ∈ ys ↔ z ∈ ks
  le : ys.Pairwise (fun a b => leK a b = true)
open Classical in
noncomputable def dSortN1 (st : Store) : Option (List NestedKey) → Res D
  | some ks => if h : SetOk ks ∧ ∃ ys, Sorted ks ys then .ok (.nd .lst (h.2.choose.map kD)) st else .no
  | none => .no
noncomputable def dSortN0 : D → Store → Res D := fun x st => dSortN1 st ((seq? st x).bind nkey?.keyL?)
noncomputable def dSortN (f : SemE) : SemE := fun env st => (f env st).bind dSortN0
end
end DY

/-! Evaluation on data: sorted(set(..)). -/
namespace DY
open PySem PySem.Spec PyProof.Rows L2
@[simp] theorem dSortN_ev {f : SemE} {env : DEnv} {st : Store} : dSortN f env st = (f env st).bind dSortN0 := (rfl)
@[simp] theorem dSortN0_ev {x : D} {st : Store} : dSortN0 x st = dSortN1 st ((seq? st x).bind nkey?.keyL?) := (rfl)
section
variable {env : DEnv} {st : Store} {chk : Store → Prop} {tg tg1 : DTg} {tst tst1 : SemT} {elt : SemE} {own own1 : List Nat} {fi fi1 : SemI}
noncomputable def dLc21 (tg : DTg) (tst : SemT) (fi1 : SemI) (tg1 : DTg) (tst1 : SemT) (elt : SemE) (own own1 : List Nat) (env : DEnv) : DIter → Store → Res (List D) := fun it st => comp2L it.chk tg tst fi1 tg1 tst1 elt own own1 env it.items [] st
@[simp] theorem dLc21_ev {it : DIter} : dLc21 tg tst fi1 tg1 tst1 elt own own1 env it st = comp2L it.chk tg tst fi1 tg1 tst1 elt own own1 env it.items [] st := (rfl)
@[simp] theorem dLc2_ev : dLc2 fi tg tst fi1 tg1 tst1 elt own own1 env st = ((fi env st).bind (dLc21 tg tst fi1 tg1 tst1 elt own own1 env)).bind dLst0 := bind_bind.symm
end
end DY

/-! (a, b, ..) = a list. -/
namespace DY
open PySem PySem.Spec PyProof.Rows L2
section
variable {X : Cx} {cl : ClsT} {pos : Pos}
def gL (n : Nat) (b : DTgs) : DTg := fun d env st => match lst? st d with
  | some xs => if xs.length = n then b xs env st else none
  | none => none
end
@[simp] theorem gL_ev {n : Nat} {b : DTgs} {d : D} {env : DEnv} {st : Store} : gL n b d env st = gTC n b env st (lst? st d) := by
  unfold gL gTC
  rfl
end DY

/-! list.count over data. -/
namespace DY
open PySem PySem.Spec PyProof.Rows L2
section
variable {X : Cx} {cl : ClsT}
end
end DY

/-! x[i] by a class's own __getitem__. -/
namespace DY
open PySem PySem.Spec PyProof.Rows L2
structure GetO (K : PySem.W.Frag) (C : Addr) (f : Addr) : Prop where
  at_ : PySem.W.findIn K (.ref C) "__getitem__" = some (some (.ref f))
  fi : PySem.W.fnIn K f = true
  fn : PySem.W.isFn K (.ref f) = true
section
variable {X : Cx} {cl : ClsT} {W : WX} {F : SemF} {a b : Expr} {fo fb : SemE} {pos : Pos}
def dGetOC (c : Nat) (F : SemF) (x y : D) (st : Store) : Option (Hd × List D) → Res D
  | some (.ins c1 _, _) => if c1 = c then F [x, y] st else .no
  | _ => .no
def dGetO (c : Nat) (F : SemF) (x y : D) (st : Store) : Res D := dGetOC c F x y st (seen st x)
end
@[simp] theorem dGetO_ev {c : Nat} {F : SemF} {x y : D} {st : Store} : dGetO c F x y st = dGetOC c F x y st (seen st x) := (rfl)
@[simp] theorem dGetOC_ev {c : Nat} {F : SemF} {x y : D} {st : Store} {ns : List Str} {xs : List D} : dGetOC c F x y st (some (.ins c ns, xs)) = F [x, y] st := if_pos rfl
end DY

/-! Exceptions of one's own: raised, caught, kept as values. -/
namespace DY
open PySem PySem.Spec PyProof.Rows L2

/-! ### raise C(e), C's own __init__ keeping it under one name -/
/-- the promise of an __init__ that keeps its argument as f -/
def spI1 (K : PySem.W.Frag) (f : Str) : Sp := fun vs H Q _ => ∃ (a C : Addr) (v : V), vs = [.ref a, v] ∧ OexC K C ∧ PySem.W.findIn K (.ref C) f = some none ∧ H a = some (exo a C none) ∧
  ∀ dx, H dx = none → dx ≠ a → Q .non (upd (upd H dx (exd dx [(f, v)])) a (exo a C (some dx)))
section
variable {X : Cx} {cl : ClsT} {W : WX} {pos : Pos} {x : Str} {p apos : Pos} {e o : Expr} {es : List Expr} {fa : SemA} {fo fe : SemE}
def sRaise (c : Nat) (ns : List Str) (fa : SemA) : SemS := fun env st => bindE (fa env st) env fun ds st1 => if ds.length = ns.length then .er ⟨c, ns, ds⟩ env st1 else .no
/-- what a class of exceptions with one name says -/
structure Rai (X : Cx) (C : Addr) (f : Str) (k : Nat) : Prop where
  oex : OexC X.K C
  no : PySem.W.findIn X.K (.ref C) f = some none
  ex : ∃ (fI : Addr) (fd : FuncData) (ps : List Str), PySem.W.findIn X.K (.ref C) "__init__" = some (some (.ref fI)) ∧ PySem.W.typeIn X.K (.ref fI) = some (.type "function") ∧ FnOk X.prog X.w X.K X.mg X.base (L2.CX X.prog X.w) k fI fd ps (spI1 X.K f) ∧ L2.Binds X.K fd ps []
/-! ### a caught exception, kept -/
variable {y n mm : Str} {c : Value} {i m : Nat} {body : List Stmt} {np npos q1 q2 q3 pos' : Pos} {tb : WX → TS}
end
end DY

/-! try on data; what a caught exception answers. -/
namespace DY
open PySem PySem.Spec PyProof.Rows L2
section
variable {X : Cx} {cl : ClsT} {W : WX} {pos : Pos} {x : Str} {p p2 apos : Pos} {e o : Expr} {es : List Expr} {fa : SemA} {fo fe : SemE} {k : Nat}
theorem EnvR.clear {g : Gd} {Z r : List Addr} {H : Hp} {env : DEnv} {sg : L2.St} (E : EnvR g Z r H env sg) (i : Nat) : EnvR g Z r H (env.set i none) (sg.set i none) := by
  refine ⟨by simp [E.len], fun j d hj => ?_⟩
  by_cases hij : j = i
  · subst hij
    have hl : j < env.length := by
      have := (List.getElem?_eq_some_iff.mp hj).1
      simpa using this
    rw [List.getElem?_set_self hl] at hj; cases hj
  · rw [List.getElem?_set_ne (Ne.symm hij)] at hj ⊢
    exact E.at_ j d hj
/-- try: body / except L as n: m = n; good: the classes below L that are told -/
def sTryK (good : List Nat) (i m : Nat) (fb : SemS) : SemS := fun env st => match fb env st with
  | .er e env' st' => if e.c ∈ good then .nx (((env'.set i (some (.nd (.exc e.c e.ns) e.xs))).set m (some (.nd (.exc e.c e.ns) e.xs))).set i none) st' else .no
  | q => q
/-- try: body / except L: return b -/
def sTryR (good : List Nat) (b : D) (fb : SemS) : SemS := fun env st => match fb env st with
  | .er e _ st' => if e.c ∈ good then .rt b st' else .no
  | q => q
/-! ### isinstance(e, C) -/
/-- what isinstance asks of the exception's class -/
structure ExI (K : PySem.W.Frag) (C : Addr) : Prop where
  cl : (PySem.W.clsIn K C).isSome = true
  ga : PySem.W.findIn K (.ref C) "__getattribute__" = some (some (.builtin "BaseException.__getattribute__"))
  gg : PySem.W.findIn K (.ref C) "__getattr__" = some none
  sb : PySem.W.subIn K (.ref C) (.type "BaseException") = some true
  cc : PySem.W.findIn K (.ref C) "__class__" = some (some (.builtin "object.__class__"))
  cg : PySem.W.specialIn K (.builtin "object.__class__") "__get__" = some (some (.builtin "getset_descriptor.__get__"))
  ct : PySem.W.takesIn K (.builtin "object.__class__") = some true
  mr : PySem.W.mroIn K C (.type "object") = some true
  hd : PySem.W.hasDictIn K C = true
def isxF (tab : List (Nat × Bool)) : D → Store → Res D
  | .nd (.exc c _) _, st1 => match tab.lookup c with
    | some b => .ok (.bl b) st1
    | none => .no
  | _, _ => .no
def dIsx (tab : List (Nat × Bool)) (f : SemE) : SemE := fun env st => (f env st).bind (isxF tab)
/-! ### e.f -/
def dXat (cs : List Nat) (f : Str) (fe : SemE) : SemE := fun env st => (fe env st).bind fun x st1 => match x with
  | .nd (.exc c ns) xs => if c ∈ cs then (match (ns.zip xs).lookup f with
    | some d => .ok d st1
    | none => .no) else .no
  | _ => .no
end
end DY

/-! A lambda without parameters, handed on through defs, called in the last one. -/
namespace DY
open PySem PySem.Spec PyProof.Rows L2
/-- what a lambda computes: from the defs, from what it holds -/
abbrev LamF := (Nat → SemF) → List D → Store → Res D
/-- what is held -/
def capt (env : DEnv) : List Nat → Option (List D)
  | [] => some []
  | i :: is => match env[i]?, capt env is with
    | some (some d), some ds => some (d :: ds)
    | _, _ => none
def Caps (sg : L2.St) : List Nat → List V → Prop
  | [], vs => vs = []
  | i :: is, vs => ∃ v q, vs = v :: q ∧ sg[i]? = some (some v) ∧ Caps sg is q
theorem capt_ok {g : Gd} {Z r : List Addr} {H : Hp} {env : DEnv} {sg : L2.St} (E : EnvR g Z r H env sg) : ∀ {ix : List Nat} {xs : List D}, capt env ix = some xs → ∃ caps, RepL g Z r H xs caps ∧ Caps sg ix caps
  | [], xs, h => by cases h; exact ⟨[], rfl, rfl⟩
  | i :: is, xs, h => by
    simp only [capt] at h
    split at h
    · rename_i d ds e1 e2
      cases h
      obtain ⟨v, hv, q⟩ := E.at_ i d e1
      obtain ⟨caps, c1, c2⟩ := capt_ok E e2
      exact ⟨v :: caps, ⟨v, caps, rfl, q, c1⟩, v, caps, rfl, hv, c2⟩
    · cases h
def spread (N : Nat) : List Nat → List D → DEnv
  | i :: is, d :: ds => (spread N is ds).set i (some d)
  | _, _ => List.replicate N none
theorem spread_len (N : Nat) : ∀ (ix : List Nat) (xs : List D), (spread N ix xs).length = N
  | i :: is, d :: ds => by simp [spread, spread_len N is ds]
  | [], _ => by simp [spread]
  | _ :: _, [] => by simp [spread]
theorem spread_ok {g : Gd} {Z r : List Addr} {H : Hp} {sg : L2.St} {N : Nat} (hl : sg.length = N) : ∀ {ix : List Nat} {xs : List D} {caps : List V}, RepL g Z r H xs caps → Caps sg ix caps → EnvR g Z r H (spread N ix xs) sg
  | [], xs, caps, _, _ => ⟨by rw [spread_len, hl], fun i d h => by
      simp only [spread, List.getElem?_replicate] at h
      split at h <;> cases h⟩
  | i :: is, xs, caps, q, c => by
    obtain ⟨v, w, rfl, hv, cw⟩ := c
    cases xs with
    | nil => cases q
    | cons d ds =>
      obtain ⟨v', w', e, h1, h2⟩ := q
      cases e
      have E := spread_ok hl h2 cw
      refine ⟨by simp [spread, E.len], fun j y hj => ?_⟩
      simp only [spread] at hj
      by_cases hij : j = i
      · subst hij
        have hlt : j < (spread N is ds).length := by
          have := (List.getElem?_eq_some_iff.mp hj).1
          simpa using this
        rw [List.getElem?_set_self hlt] at hj
        cases hj
        exact ⟨v, hv, h1⟩
      · rw [List.getElem?_set_ne (Ne.symm hij)] at hj
        exact E.at_ j y hj

/-! ### the lambda's promise -/
section
variable (P : Program) (w : World) (K : PySem.W.Frag) (mg : Str → Option Value) (base : Heap) (cl : ClsT) (fa : Nat → Addr) (fd : Nat → FuncData) (ps : Nat → List Str) (nF : Nat)
/-- f, a lambda that was made, computes L of what it holds, from the frames fs, the state s, H on -/
structure ActOk (fs : List Addr) (s : Shared) (H : Hp) (f c0 : Addr) (q : Str) (caps : List V) (L : LamF) : Prop where
  obj : ∃ (n1 n2 : Str) (params : Arguments) (body : Expr) (scope : Scope) (clos : List (Str × Addr)) (pm : Value) (c' : Addr) (ctv : Value), s.heap.get? f = some (PySem.W.kla_obj n1 n2 params body scope clos pm c' ctv)
  off : H f = none ∧ f ∉ fs
  run : ∀ (k : Nat) (c : Nat → SemF), TX P w K mg base cl fa fd ps nF k c → ∀ (A : Around) (outer : List Env) (s' : Shared) (H' : Hp) (Q : VK) (E : XK), Room (k + 2) A → A.guards = some [] → Env0 P w K mg base A outer s' H' → Un fs [] H H' s.heap s'.heap →
    H' c0 = some (LamX.CodeO c0 q) → (∃ Z r st xs, RepL ⟨K, cl⟩ Z r H' xs caps ∧ Rl ⟨K, cl⟩ Z r H' st ∧ Post ⟨K, cl⟩ Z r H' (RV ⟨K, cl⟩ Z) (L c xs st) Q E) →
    codeAny (model P w) A (.call (.ref f) ⟨[], []⟩) (CR (L2.CX P w) outer P w H' s' Q E) s'
/-- a def that gets a lambda first -/
structure FnL (k : Nat) (g : Addr) (gd : FuncData) (qs : List Str) (n : Nat) (FL : LamF → SemF) : Prop where
  run : ∀ (A : Around) (outer : List Env) (s : Shared) (H : Hp) (args : Args) (us : List Value) (vs : List V) (Q : VK) (E : XK) (f c0 : Addr) (q : Str) (caps : List V) (L : LamF), Room k A → A.guards = some [] → Env0 P w K mg base A outer s H → BindsTo s gd args (qs.zip us) → Vals vs us →
    ActOk P w K mg base cl fa fd ps nF (frs outer) s H f c0 q caps L → vs.length = n → (∃ Z r st xs ds, RepL ⟨K, cl⟩ Z r H (.nd (.fn f c0 q caps) xs :: ds) vs ∧ Rl ⟨K, cl⟩ Z r H st ∧ Post ⟨K, cl⟩ Z r H (RV ⟨K, cl⟩ Z) (FL L (.nd (.fn f c0 q caps) xs :: ds) st) Q E) →
    codeAny (model P w) A (.call (.ref g) args) (CR (L2.CX P w) outer P w H s Q E) s
end
section
variable {P : Program} {w : World} {K : PySem.W.Frag} {mg : Str → Option Value} {base : Heap} {cl : ClsT} {fa : Nat → Addr} {fd : Nat → FuncData} {ps : Nat → List Str} {nF : Nat}
theorem FnL.none {k : Nat} {g : Addr} {gd : FuncData} {qs : List Str} {n : Nat} : FnL P w K mg base cl fa fd ps nF k g gd qs n fun _ _ _ => .no :=
  ⟨fun _ _ _ _ _ _ _ _ _ _ _ _ _ _ _ _ _ _ _ _ _ ⟨_, _, _, _, _, _, _, z⟩ => z.elim⟩
theorem FnL.mono {j k : Nat} {g : Addr} {gd : FuncData} {qs : List Str} {n : Nat} {FL : LamF → SemF} (F : FnL P w K mg base cl fa fd ps nF j g gd qs n FL) (h : j ≤ k) : FnL P w K mg base cl fa fd ps nF k g gd qs n FL :=
  ⟨fun A outer s H args us vs Q E f c0 q caps L hr => F.run A outer s H args us vs Q E f c0 q caps L (hr.mono h)⟩
/-- what the result of a def with a lambda takes out of the store -/
theorem FnL.frz {k : Nat} {g : Addr} {gd : FuncData} {qs : List Str} {n : Nat} {FL : LamF → SemF} (F : FnL P w K mg base cl fa fd ps nF k g gd qs n FL) : FnL P w K mg base cl fa fd ps nF k g gd qs n fun L => frzF (FL L) :=
  ⟨fun A outer s H args us vs Q E f c0 q caps L hr hg e0 hb rv act hl ⟨Z, r, st, xs, ds, qd, R, h⟩ => F.run A outer s H args us vs Q E f c0 q caps L hr hg e0 hb rv act hl ⟨Z, r, st, xs, ds, qd, R, frz_post R h⟩⟩
/-- deeper, the same lambda -/
theorem ActOk.deeper {X : Cx} {pins : List (Addr × Obj)} {sg : L2.St} {H : Hp} {s : Shared} {f c0 : Addr} {q : Str} {caps : List V} {L : LamF} (act : ActOk X.prog X.w X.K X.mg X.base cl fa fd ps nF X.fs X.s_0 X.H_0 f c0 q caps L) (I : L2.Inv X pins sg H s) (hex : X.ex = []) :
    ActOk X.prog X.w X.K X.mg X.base cl fa fd ps nF (frs X.stack) s H f c0 q caps L := by
  obtain ⟨n1, n2, pa, bo, sc, clos, pm, c', ctv, ho⟩ := act.obj
  have nex : ∀ b, b ∉ X.ex := fun b => by rw [hex]; exact List.not_mem_nil
  have h1 := I.base.keep f _ ho act.off.1 act.off.2 (nex f)
  have ff : H f = none := I.base.free f _ ho act.off.1 (nex f)
  have nst : f ∉ frs X.stack := fun m => by
    rcases List.mem_cons.mp (I.stkSub f m) with z | z
    · have l1 := Heap.lt_size ho
      have l2 := I.ok.above
      rw [z] at l1
      exact absurd (Nat.lt_of_lt_of_le l1 l2) (Nat.lt_irrefl _)
    · exact act.off.2 z
  refine ⟨⟨n1, n2, pa, bo, sc, clos, pm, c', ctv, h1⟩, ⟨ff, nst⟩, fun k c T A outer s' H' Q E hr hg e0 un hc hx => act.run k c T A outer s' H' Q E hr hg e0 ?_ hc hx⟩
  have J := I.call (ch := []) (h' := s'.heap) (g' := s'.gens) (d' := s.drawn) (t' := s.toks) un e0.hok e0.bare (fun b z => absurd z (by simp))
  have B := J.base
  rw [hex] at B
  exact B
section
variable {X : Cx} {W : WX} {pos p1 p2 : Pos} {k : Nat} {c : Nat → SemF}
/-- x(), x the lambda -/
def dAct (f c0 : Addr) (q : Str) (caps : List V) (i : Nat) (L : List D → Store → Res D) : SemE := fun env st => match env[i]? with
  | some (some (.nd (.fn f' c' q' caps') xs)) => if f' = f ∧ c' = c0 ∧ q' = q ∧ caps' = caps then L xs st else .no
  | _ => .no
end
end
end DY

/-! Defs that get a lambda; a def called with one. -/
namespace DY
open PySem PySem.Spec PyProof.Rows L2
section
variable {P : Program} {w : World} {K : PySem.W.Frag} {mg : Str → Option Value} {base : Heap} {cl : ClsT} {fa : Nat → Addr} {fd : Nat → FuncData} {ps : Nat → List Str} {nF : Nat}
/-- the body of a def that gets a lambda first -/
def BodyL (P : Program) (w : World) (K : PySem.W.Frag) (mg : Str → Option Value) (base : Heap) (cl : ClsT) (fa : Nat → Addr) (fd : Nat → FuncData) (ps : Nat → List Str) (nF k : Nat) (N : List Str) (qual : Str) (st : Stmt) (body : Addr → Addr → Str → List V → LamF → SemS) : Prop :=
  ∀ (g : Addr) (cdv : Value) (A : Around) (outer : List Env) (s : Shared) (H : Hp) (E : XK) (f c0 : Addr) (q : Str) (caps : List V) (L : LamF), Room (k + 1) (A.deeper (envOfC qual (defScope st) s.heap.objs.size g cdv)) → A.guards = some [] → ActOk P w K mg base cl fa fd ps nF (frs outer) s H f c0 q caps L →
    SB (cxOf (L2.CX P w) P w K mg base N qual (defScope st) g cdv A outer s H E) cl (fun c d _ H' => E c d H') (defBody st) (body f c0 q caps L)
/-- its body as a function -/
def runL (n : Nat) (body : Addr → Addr → Str → List V → LamF → SemS) : LamF → SemF := fun L ds st => match ds with
  | .nd (.fn f c0 q caps) xs :: es => runB n (body f c0 q caps L) (.nd (.fn f c0 q caps) xs :: es) st
  | _ => .no
theorem BodyL.fn {k : Nat} {N qs : List Str} {x qual : Str} {st : Stmt} {g : Addr} {gd : FuncData} {body : Addr → Addr → Str → List V → LamF → SemS} (h : BodyL P w K mg base cl fa fd ps nF k N qual st body) (F : Fun K x qual st g gd) (S : FnScope N qs (defScope st)) :
    FnL P w K mg base cl fa fd ps nF (k + 2) g gd qs qs.length (runL N.length body) := by
  refine ⟨fun A outer s H args us vs Q E f c0 q caps L hr hg e0 hb rv act hlen ⟨Z, ra, sta, xs, ds, qd, R, hp⟩ => ?_⟩
  obtain ⟨oc, od, kV, doc, pm, an, cdv, ct, osl, rfl, lk, hcd⟩ := F.ex
  have KX : K.In s.heap := e0.mod.kin.keeps fun b o e => (e0.bs b o e).1
  have lim : s.heap.NoLimit := e0.mod.nolimit.keeps fun b o e => (e0.bs b o e).1
  have hk : ∀ y ∈ qs.zip us, (defScope st).names.lookup y.1 = some .local ∨ ((defScope st).names.lookup y.1 = some .cell ∧ ((cellsFrom (s.heap.objs.size + 1) (defScope st).names []).lookup y.1).isSome = true) := by
    intro y hy
    obtain ⟨n, v⟩ := y
    rcases S.par n (List.of_mem_zip hy).1 with z | z
    · exact .inl z
    · exact .inr ⟨z, PySem.W.cellsFrom_some _ _ _ (.inl z)⟩
  refine codeAny_call_function hr.depth (KX _ _ lk) rfl S.co S.gen rfl (PySem.W.codeRec_of KX hcd) (hb _ _ _ _ ?_)
  refine wpAny_newFunctionEnv_cells S.kind hk fun env he s1 x1 => ?_
  subst he
  refine ⟨lim.keeps x1.toInCall.keep, codeAny_func ?_⟩
  have B := (h g cdv A outer s H E f c0 q caps L (hr.deeper _) hg act).run
  have I : L2.Inv (cxOf (L2.CX P w) P w K mg base N qual (defScope st) g cdv A outer s H E) [] (L2.start N vs) H s1 := inv_start S hr.hd e0 hlen rv x1
  have hq : rdS ⟨K, cl⟩ (fun c d _ H' => E c d H') (body f c0 q caps L) { nx := fun _ H' => Q .non H', rt := Q } (L2.start N vs) H := by
    refine ⟨Z, ra, _, sta, start_env qd, R, ?_⟩
    unfold runL at hp
    dsimp only at hp
    unfold runB at hp
    split at hp
    · rename_i env' st' hb'
      rw [hb']
      exact fun r' H' sg e R' _ => hp r' H' .non e R' rfl
    · rename_i d st' hb'
      rw [hb']
      exact fun r' H' v e R' q => hp r' H' v e R' q
    · rename_i e' env' st' hb'
      rw [hb']
      exact fun r' H' sg c d e R' _ q => hp r' H' c d e R' q
    · exact hp.elim
  refine wpAny_mono (B.run [] s1 (L2.start N vs) H _ I hq) (fun fl s' hs => ?_) fun e s' hs => hs
  cases fl with
  | ret u =>
    obtain ⟨v, sg', H', J, rv, q⟩ := hs
    exact ⟨v, H', J.os, J.bare, J.base, J.hok, rv, q⟩
  | next =>
    obtain ⟨sg', H', J, q⟩ := hs
    exact ⟨.non, H', J.os, J.bare, J.base, J.hok, rfl, q⟩
  | brk =>
    obtain ⟨_, _, _, q⟩ := hs
    exact False.elim q
  | cont =>
    obtain ⟨_, _, _, q⟩ := hs
    exact False.elim q
/-- a body that makes lambdas: its code object is told -/
def BodyT (P : Program) (w : World) (K : PySem.W.Frag) (mg : Str → Option Value) (base : Heap) (cl : ClsT) (k : Nat) (N : List Str) (qual : Str) (st : Stmt) (c0 : Addr) (body : SemS) : Prop :=
  ∀ (f : Addr) (A : Around) (outer : List Env) (s : Shared) (H : Hp) (E : XK), Room (k + 1) (A.deeper (envOfC qual (defScope st) s.heap.objs.size f (.ref c0))) → A.guards = some [] →
    SB (cxOf (L2.CX P w) P w K mg base N qual (defScope st) f (.ref c0) A outer s H E) cl (fun c d _ H' => E c d H') (defBody st) body
theorem BodyT.fn {k : Nat} {N qs : List Str} {x qual : Str} {st : Stmt} {f c0 : Addr} {gd : FuncData} {body : SemS} (h : BodyT P w K mg base cl k N qual st c0 body) (F : Fun K x qual st f gd) (hc : gd.code = .ref c0) (S : FnScope N qs (defScope st)) :
    FnG P w K mg base (k + 2) f gd qs (spF ⟨K, cl⟩ qs.length (runB N.length body)) := by
  refine fnG_of F S fun cdv A outer s H E hr hg e => ?_
  obtain rfl : cdv = .ref c0 := e.symm.trans hc
  exact h f A outer s H E hr hg
section
variable {X : Cx} {W : WX} {pos p pa p1 p2 lpos : Pos} {k : Nat} {c : Nat → SemF} {x a : Str} {es : List Expr} {ft : SemA}
/-- g(x, e, ..), x the lambda that is handed on -/
def dCallL (f c0 : Addr) (q : Str) (caps : List V) (n : Nat) (F : SemF) (ft : SemA) : SemE := fun env st => (ft env st).bind fun ds st1 => match ds with
  | .nd (.fn f' c' q' caps') xs :: es => if (f' = f ∧ c' = c0 ∧ q' = q ∧ caps' = caps) ∧ es.length + 1 = n then F (.nd (.fn f c0 q caps) xs :: es) st1 else .no
  | _ => .no
/-! ### g(lambda: body, e, ..) -/
noncomputable def dLam (ix : List Nat) (N n : Nat) (lam : (Nat → SemF) → SemE) (FL : LamF → SemF) (ft : SemA) : SemE := fun env st => open Classical in match capt env ix with
  | some xs => (ft env st).bind fun ds st1 => if ds.length + 1 = n ∧ ∀ (f c0 : Addr) (q : Str) (caps : List V), FL (fun c ys st => lam c (spread N ix ys) st) (.nd (.fn f c0 q caps) xs :: ds) st1 = FL (fun c ys st => lam c (spread N ix ys) st) (.nd (.fn 0 0 "" []) xs :: ds) st1 then
      FL (fun c ys st => lam c (spread N ix ys) st) (.nd (.fn 0 0 "" []) xs :: ds) st1 else .no
  | none => .no
/-- room where a generator is drained -/
structure RG (k : Nat) (A : Around) : Prop where
  hd : A.handled = none
  dp : A.depth + 3 * k + 9 < recursionLimit
  un : A.units + 16 * k + 222 < cLine
theorem RG.of {k : Nat} {A : Around} {env : Env} (h : Room (k + 2) A) : RG k (A.deeper env) := ⟨h.hd, by have := h.dp; show A.depth + 1 + 3 * k + 9 < _; omega, by have := h.un; show A.units + 3 + 16 * k + 222 < _; omega⟩
/-- the lambda's context may be worked in -/
theorem DF.lam {A : Around} {outer : List Env} {s : Shared} {H : Hp} {E : XK} {scope : Scope} {f c0 : Addr} {k' : Nat} (hr : Room (k' + 2) A) (hg : A.guards = some []) : DF (LamX.lamCx X A outer s H E scope f c0) (fun c d _ H' => E c d H') k' :=
  ⟨rfl, passes_of rfl, takes_of rfl rfl rfl rfl, (hr.deeper _), deeper_guards hg⟩
/-- a lambda that was made keeps its promise -/
theorem act_of {pins : List (Addr × Obj)} {sg : L2.St} {H : Hp} {s : Shared} {f c0 : Addr} {pm ctv : Value} {params : Arguments} {body : Expr} {scope : Scope} {ix : List Nat} {caps : List V} {lam : (Nat → SemF) → SemE} (I : L2.Inv X pins sg H s) (L : LamX.LamS X.env.scope scope)
    (hf : s.heap.get? f = some (PySem.W.kla_obj "<lambda>" (X.env.qual ++ "<lambda>") params body scope (cloFrom X.env.cells scope.names []) pm c0 ctv)) (hfn : H f = none) (hfr : f ∉ frs X.stack) (hc : Caps sg ix caps)
    (hbind : bindArgs (PySem.W.kla_fn "<lambda>" (X.env.qual ++ "<lambda>") params body scope (cloFrom X.env.cells scope.names []) pm (.ref c0) ctv) ⟨[], []⟩ = pure [])
    (hbody : ∀ (k' : Nat) (c' : Nat → SemF), TX X.prog X.w X.K X.mg X.base cl fa fd ps nF k' c' → ∀ (A : Around) (outer : List Env) (s : Shared) (H : Hp) (E : XK), DF (LamX.lamCx X A outer s H E scope f c0) (fun c d _ H' => E c d H') k' → RG k' (LamX.lamCx X A outer s H E scope f c0).A → SE (LamX.lamCx X A outer s H E scope f c0) cl (fun c d _ H' => E c d H') body (lam c')) :
    ActOk X.prog X.w X.K X.mg X.base cl fa fd ps nF (frs X.stack) s H f c0 (X.env.qual ++ "<lambda>") caps (fun c ys st => lam c (spread X.N.length ix ys) st) := by
  refine ⟨⟨_, _, _, _, _, _, _, _, _, hf⟩, ⟨hfn, hfr⟩, fun k' c' T A outer s1 H1 Q E hr hg e0 un hcode ⟨Z, r, st, xs, hx, R, hp⟩ => ?_⟩
  have there := un.keep f _ hf hfn hfr List.not_mem_nil
  have codeAt : ObjOk X.prog X.w H1 s1.heap c0 (.ext fun h => ∃ (oc : Obj) (vs : Array Value) (t : Tok), h.get? c0 = some oc ∧ oc.data = .fields vs ∧ vs[1]? = some (.str (X.env.qual ++ "<lambda>") t)) := e0.hok c0 _ hcode
  obtain ⟨⟨oc, vs, t, hoc, hdc, hvc⟩, _, _⟩ := codeAt
  have limit : s1.heap.NoLimit := e0.mod.nolimit.keeps fun b o e => (e0.bs b o e).1
  refine PySem.W.kla_callFunE hr.depth there rfl L.co L.gen rfl ⟨c0, oc, vs, t, rfl, hoc, hdc, hvc⟩ ?_
  rw [hbind]
  refine wpAny_pure (wpAny_newFunctionEnv (fun y hy => (L.own y hy).2) (fun y hy => absurd hy (by simp)) (fun h1 hns hsb => ⟨limit.fresh _ hsb, ?_⟩) L.kind)
  have stay : ∀ b o, s1.heap.get? b = some o → h1.get? b = some o := fun b o e => hsb.extBut b o (Nat.ne_of_lt (Heap.lt_size e)) (Heap.get?_push_of_some _ e)
  have J : L2.Inv (LamX.lamCx X A outer s1 H1 E scope f c0) [] sg H1 { s1 with heap := h1, toks := s1.toks + ([] : List (Str × Value)).length } := LamX.lam_start2 I L e0 hr.hd un hns stay
  have run := (hbody k' c' T A outer s1 H1 E (DF.lam hr hg) (RG.of hr)).run.run [] _ sg H1 Q J ⟨Z, r, spread X.N.length ix xs, st, spread_ok I.len hx hc, R, hp⟩
  refine PySem.W.kla_codeExpr (wpAny_mono run (fun v s2 got => ?_) fun e s2 got => got)
  obtain ⟨v', H2, J2, rv, q⟩ := got
  exact ⟨v', H2, J2.os, J2.bare, J2.base, J2.hok, rv, q⟩
theorem se_lam {g c1 Pt : Addr} {gd : FuncData} {qs : List Str} {FL : LamF → SemF} {params : Arguments} {body : Expr} {scope : Scope} {lam : (Nat → SemF) → SemE} (ix : List Nat) (n N : Nat) (D : DF X W k) (hq : qs.length = n) (hN : X.N.length = N)
    (F : FnL X.prog X.w X.K X.mg X.base cl fa fd ps nF k g gd qs qs.length FL) (hb : L2.Binds X.K gd qs []) (hk : PySem.W.keepIn X.K (.ref g) = true) (hm : X.mg x = some (.ref g)) (ha : SA X cl W es ft)
    (TB : LamX.TabB X.base X.mg c1 Pt) (hcode : X.env.code = .ref c1) (hT : (Pt, X.env.qual ++ "<lambda>") ∈ cl.tb) (hu : ∀ p ∈ cl.tb, p.1 = Pt → p.2 = X.env.qual ++ "<lambda>") (L : LamX.LamS X.env.scope scope)
    (hbody : ∀ (k' : Nat) (c' : Nat → SemF), TX X.prog X.w X.K X.mg X.base cl fa fd ps nF k' c' → ∀ (A : Around) (outer : List Env) (s : Shared) (H : Hp) (E : XK) (f c0 : Addr), DF (LamX.lamCx X A outer s H E scope f c0) (fun c d _ H' => E c d H') k' → RG k' (LamX.lamCx X A outer s H E scope f c0).A → SE (LamX.lamCx X A outer s H E scope f c0) cl (fun c d _ H' => E c d H') body (lam c'))
    (hdef : defaultsOf params X.env = ([], []) := by rfl) (hbind : ∀ (q : Str) (cl : List (Str × Addr)) (pm cv ctv : Value), bindArgs (PySem.W.kla_fn "<lambda>" q params body scope cl pm cv ctv) ⟨[], []⟩ = pure [] := by intros; rfl)
    (hs : X.stack = X.env :: X.outer := by rfl) (hf : X.env.frame = some X.env.locals := by rfl) (hg : Gl X x := by rfl) (hdx : (x == ("__debug__" : Str)) = false := by decide +kernel)
    (he : starEach (.Lambda params body scope lpos :: es) X.env = (false, eval (.Lambda params body scope lpos) X.env) :: starEach es X.env := by rfl) (hpl : (backTo pos (starEach es X.env)).any (·.1) = false := by rfl) :
    SE X cl W (.Call (.Name x p) (.Lambda params body scope lpos :: es) [] pos) (dLam ix N n lam FL ft) := by
  refine ⟨⟨fun pins s sg H Q I h => ?_⟩⟩
  obtain ⟨Z, r, env, st, E, R, h⟩ := h
  unfold dLam at h
  split at h
  · rename_i xs hcap
    obtain ⟨caps, cx, cs⟩ := capt_ok E hcap
    refine wpAny_Call_Name_kw (ld_glob I hg hm ?_ hdx)
    refine PySem.W.callWith_K (h₀ := X.base) I.ok.mod.kin hk ?_ he hpl
    rw [he]
    show wpAny _ _ (spliced ((false, eval (.Lambda params body scope lpos) X.env) :: backTo pos (starEach es X.env))) _ _ s
    refine Calls.spliced_cons (LamX.lam_make2 I TB hcode hT hu R.tb hdef (L.has I.ok) fun f c0 pm ctv H1 s1 I1 eN T1 hob hfn hfr hco => ?_)
    have fL : f ≠ X.env.locals := fun z => hfr (by rw [hs]; exact List.mem_filterMap.mpr ⟨X.env, List.mem_cons_self, by rw [hf, z]⟩)
    have fO : f ∉ X.fs := fun mem => hfr (by
      rw [hs]
      obtain ⟨e0, m0, q0⟩ := List.mem_filterMap.mp mem
      exact List.mem_filterMap.mpr ⟨e0, List.mem_cons_of_mem _ m0, q0⟩)
    have IP : L2.Inv X ((f, PySem.W.kla_obj "<lambda>" (X.env.qual ++ "<lambda>") params body scope (cloFrom X.env.cells scope.names []) pm c0 ctv) :: pins) sg H1 s1 := ⟨I1.ok, I1.os, I1.bare, I1.base, I1.loc, I1.cell, I1.free, I1.freeC, fun p mem => by
      rcases List.mem_append.mp mem with z | z
      · exact I1.pin p (List.mem_append_left _ z)
      · rcases List.mem_cons.mp z with z | z
        · rw [z]; exact ⟨hob, hfn, fL, fO, fun v z => by cases z⟩
        · exact I1.pin p (List.mem_append_right _ z), I1.hok, I1.len⟩
    have e1 : Ext r H r H1 := ⟨⟨[], by simp⟩, fun a o ha ht hn => ⟨eN a o ha ht, hn⟩⟩
    have R1 : Rl ⟨X.K, cl⟩ Z r H1 st := ⟨R.len, R.nd, fun a m => by
      obtain ⟨n, o, ho, x⟩ := R.z a m
      exact ⟨n, o, eN a o ho x.1.1, x⟩, T1, fun j d hj => by
      obtain ⟨a, ea, t, ys, vs, ed, hm', hx'⟩ := R.cell j d hj
      obtain ⟨o, ho⟩ := hm'.some
      exact ⟨a, ea, t, ys, vs, ed, hm'.keep (by rw [ho]; exact eN a o ho (hm'.nx o ho).1), RepL.ext e1 ys hx'⟩⟩
    have fit : rdA ⟨X.K, cl⟩ W ft sg H1 fun vs H2 => vs.length + 1 = qs.length ∧ H2 c0 = some (LamX.CodeO c0 (X.env.qual ++ "<lambda>")) ∧ ∃ Z r st ds, RepL ⟨X.K, cl⟩ Z r H2 (.nd (.fn f c0 (X.env.qual ++ "<lambda>") caps) xs :: ds) (.ref f :: vs) ∧ Rl ⟨X.K, cl⟩ Z r H2 st ∧
        Post ⟨X.K, cl⟩ Z r H2 (RV ⟨X.K, cl⟩ Z) (FL (fun c ys st => lam c (spread N ix ys) st) (.nd (.fn f c0 (X.env.qual ++ "<lambda>") caps) xs :: ds) st) Q (fun c d H' => W c d sg H') := by
      refine ⟨Z, r, env, st, E.ext e1, R1, Post.bind (Post.ext e1 h) fun ds st2 r2 H2 vs _ e2 R2 q2 h2 => ?_⟩
      split at h2
      · rename_i hgood
        obtain ⟨hln, hsame⟩ := hgood
        have nZ : c0 ∉ Z := fun mem => by
          obtain ⟨_, o, ho, x⟩ := R1.z c0 mem
          rw [hco] at ho; cases ho
          exact x.1.2 _ rfl
        have nr : c0 ∉ r := fun mem => by
          obtain ⟨j, hj, ej⟩ := List.getElem_of_mem mem
          have hj' : j < st.length := by rw [← R1.len]; exact hj
          obtain ⟨a, ea, t, ys, us, ed, hm', _⟩ := R1.cell j _ (List.getElem?_eq_getElem hj')
          rw [List.getElem?_eq_getElem hj, ej] at ea; cases ea
          exact (hm'.nx _ hco).2 _ rfl
        obtain ⟨hco2, nr2⟩ := e2.keep c0 _ hco (fun ps z => by cases z) nr
        refine ⟨by rw [← q2.length, hq]; exact hln, hco2, Z, r2, st2, ds, ⟨_, _, rfl, ⟨f, caps, rfl, ⟨rfl, rfl, ⟨nZ, nr2⟩, hco2⟩, RepL.ext (e1.trans e2) xs cx⟩, q2⟩, R2, ?_⟩
        rw [hsame]
        exact h2
      · exact h2.elim
    refine thn (ha.run.run pos _ s1 sg H1 _ IP fit) fun us s2 ⟨vs, H2, I2, rv, hl, hco2, Z2, r2, st2, ds, qd, R2, hp⟩ => ?_
    obtain ⟨fAt, fN, _, _, _⟩ := I2.pin (f, _) (List.mem_append_right _ List.mem_cons_self)
    have I3 : L2.Inv X pins sg H2 s2 := ⟨I2.ok, I2.os, I2.bare, I2.base, I2.loc, I2.cell, I2.free, I2.freeC, fun p mem => I2.pin p (by
      rcases List.mem_append.mp mem with z | z
      · exact List.mem_append_left _ z
      · exact List.mem_append_right _ (List.mem_cons_of_mem _ z)), I2.hok, I2.len⟩
    refine ⟨I3.kIn, ?_⟩
    have act := act_of (lam := lam) I3 L fAt fN hfr cs (hbind _ _ _ _ _) fun k' c' T A outer s H E D' => hbody k' c' T A outer s H E f c0 D'
    rw [hN] at act
    have r3 : Vals (V.ref f :: vs) (Value.ref f :: us) := .cons rfl rv
    have hl2 : ((Value.ref f :: us) ++ []).length = qs.length := by rw [List.append_nil, ← r3.length]; exact hl
    have hbd := hb s2 (Value.ref f :: us) I3.kIn hl2
    rw [List.append_nil] at hbd
    refine wpAny_call (codeAny_mono (F.run X.A X.stack s2 H2 ⟨Value.ref f :: us, []⟩ (Value.ref f :: us) (V.ref f :: vs) Q (fun c d H' => W c d sg H') f c0 _ caps _ (D.room.mono (Nat.le_succ k)) D.gd I3.env0 hbd r3 act hl ⟨Z2, r2, st2, xs, ds, qd, R2, hp⟩) fun rr s' hq => ?_)
    cases rr with
    | error er => exact D.tk er s' (XE.of_call I3 (fun _ _ _ z => z) hq)
    | ok fl =>
      cases fl with
      | ret u => exact I3.after hq
      | next => exact False.elim hq
      | brk => exact False.elim hq
      | cont => exact False.elim hq
  · exact h.elim
end
end
end DY

/-! repr of a text beside a dict; where a truth stands first in a list; {}. -/
namespace DY
open PySem PySem.Spec PyProof.Rows L2
/-! ### repr((text, {..})) -/
def kyP : Key → PyData
  | .inl i => .int i
  | .inr x => .str x
/-- a value that is no thing -/
def scP : D → Option PyData
  | .non => some .none
  | .bl b => some (.bool b)
  | .int i => some (.int i)
  | .str s => some (.str s)
  | _ => none
def scPs : List D → Option (List PyData)
  | [] => some []
  | d :: ds => match scP d, scPs ds with
    | some p, some ps => some (p :: ps)
    | _, _ => none
def scV : V → PyData → Prop
  | .non, p => p = .none
  | .bl b, p => p = .bool b
  | .int i, p => p = .int i
  | .str s, p => p = .str s
  | _, _ => False
theorem scP_ok {g : Gd} {Z r : List Addr} {H : Hp} : ∀ {d : D} {p : PyData} {v : V}, scP d = some p → Rep g Z r H d v → scV v p
  | .non, _, _, e, h => by cases e; rw [show _ = V.non from h]; rfl
  | .bl b, _, _, e, h => by cases e; rw [show _ = V.bl b from h]; rfl
  | .int i, _, _, e, h => by cases e; rw [show _ = V.int i from h]; rfl
  | .str s, _, _, e, h => by cases e; rw [show _ = V.str s from h]; rfl
  | .h _, _, _, e, _ => by cases e
  | .nd _ _, _, _, e, _ => by cases e
inductive ScVs : List V → List PyData → Prop
  | nil : ScVs [] []
  | cons {v : V} {p : PyData} {vs : List V} {ps : List PyData} : scV v p → ScVs vs ps → ScVs (v :: vs) (p :: ps)
theorem scPs_ok {g : Gd} {Z r : List Addr} {H : Hp} : ∀ {ds : List D} {ps : List PyData} {vs : List V}, scPs ds = some ps → RepL g Z r H ds vs → ScVs vs ps
  | [], _, _, e, h => by cases e; cases (show _ = [] from h); exact .nil
  | d :: ds, ps, vs, e, h => by
    simp only [scPs] at e
    split at e
    · rename_i p qs e1 e2
      cases e
      obtain ⟨v, w, rfl, h1, h2⟩ := h
      exact .cons (scP_ok e1 h1) (scPs_ok e2 h2)
    · cases e
theorem scV_reads {h : Heap} {v : V} {p : PyData} {u : Value} (e : scV v p) (r : RelV v u) : Reads h u p [] := by
  cases v with
  | non => cases e; cases r; exact .none
  | bl b => cases e; cases r; exact .bool b
  | int i => cases e; obtain ⟨t, rfl⟩ := r; exact .int i t
  | str s => cases e; obtain ⟨t, rfl⟩ := r; exact .str s t
  | byt b => exact e.elim
  | flt b => exact e.elim
  | ref a => exact e.elim
  | ty n => exact e.elim
theorem kyP_reads {h : Heap} {k : Key} {u : Value} (e : keyIs k u = true) : Reads h u (kyP k) [] := by
  rcases keyIs_shape e with ⟨i, t, rfl, rfl⟩ | ⟨x, t, rfl, rfl⟩
  · exact .int i t
  · exact .str x t
theorem dictP_reads {P : Program} {w : World} {h : Heap} : ∀ {ks : List Key} {vs : List V} {ps : List PyData} {kus : List (Key × Value)} {es : List DictEntry}, ks.length = vs.length → ScVs vs ps → KV (ks.zip vs) kus → Pairs (mixKind P w) es kus →
    ReadsAll h (es.map (·.key)) (((ks.map kyP).zip ps).map (·.1)) [] ∧ ReadsAll h (es.map (·.val)) (((ks.map kyP).zip ps).map (·.2)) []
  | [], [], _, _, _, _, .nil, kv, pr => by cases kv; cases pr; exact ⟨.nil, .nil⟩
  | k :: ks, v :: vs, _, _, _, hl, .cons (p := p) (ps := ps) e1 e2, kv, pr => by
    cases kv with
    | cons h1 h2 =>
      cases pr with
      | cons q1 q2 q3 =>
        obtain ⟨f1, f2⟩ := dictP_reads (by simpa using hl) e2 h2 q3
        obtain ⟨a1, a2⟩ := h1
        dsimp only at a1 a2
        rw [← a1] at q1
        rw [← q2] at a2
        have g1 : Reads h _ (kyP k) [] := kyP_reads q1
        have g2 : Reads h _ p [] := scV_reads e1 a2
        exact ⟨ReadsAll.cons (as := []) (bs := []) g1 f1, ReadsAll.cons (as := []) (bs := []) g2 f2⟩
section
variable {X : Cx} {cl : ClsT} {W : WX} {pos : Pos}
/-- repr of (text, dict) -/
def rReprTD (K : PySem.W.Frag) : List V → Hp → VK → Prop := fun vs H Q => ∃ (a b : Addr) (x : Str) (ks : List Key) (ws : List V) (ps : List PyData), vs = [.ref a] ∧ SqT K H a [.str x, .ref b] ∧ ks.length = ws.length ∧ H b = some (.dK (ks.zip ws)) ∧ ScVs ws ps ∧
  (PyData.tuple [.str x, .dict ((ks.map kyP).zip ps)]).showable = true ∧ (PyData.tuple [.str x, .dict ((ks.map kyP).zip ps)]).shown.length ≤ sizeLine ∧ (PyData.tuple [.str x, .dict ((ks.map kyP).zip ps)]).depth ≤ 60 ∧ Q (.str (PyData.tuple [.str x, .dict ((ks.map kyP).zip ps)]).shown) H
theorem cr_reprTD (hu : X.A.units + 64 < cLine) (hg : X.A.guards = some []) : CallR X (.builtin "repr") (rReprTD X.K) := by
  intro pins s sg H vs us Q I r h
  obtain ⟨a, b, x, ks, ws, ps, rfl, hs, hl, hd, hsc, h1, h2, h3, q⟩ := h
  obtain ⟨u, rfl, rv⟩ := vals1 r
  obtain rfl : u = Value.ref a := rv
  obtain ⟨its, rt, ⟨o, ho, hc, n, hdat⟩, _⟩ := I.tuple hs
  obtain ⟨_, hsm, kus, kv, ob, es, ep, ho2, hx2, hd2, _, pr, _⟩ := dk_of I.hok hd
  obtain ⟨f1, f2⟩ := dictP_reads (h := s.heap) hl hsc kv pr
  cases rt with
  | cons r1 r2 =>
    cases r2 with
    | cons r3 r4 =>
      cases r4
      obtain ⟨t, rfl⟩ := r1
      cases r3
      have rd2 : Reads s.heap (.ref b) (.dict ((ks.map kyP).zip ps)) (b :: [] ++ []) := .dict ho2 hx2.1 hd2 f1 f2
      have rd : Reads s.heap (.ref a) (.tuple [.str x, .dict ((ks.map kyP).zip ps)]) ([] ++ ((b :: [] ++ []) ++ [])) := .tuple ho hc hdat (.cons (.str x t) (.cons rd2 .nil))
      refine PySem.repr_of_reads' rd h1 (fun _ => ?_) hg (by omega) (fun _ _ e => e) (fun h' u tk hk => ⟨.str _, H, I.kept hk, ⟨_, rfl⟩, q⟩) h2
      simp only [List.nil_append, List.append_nil, List.cons_append, List.mem_singleton]
      intro z
      rw [z] at hsm
      simp at hsm
/-- repr of a dict -/
def rReprD : List V → Hp → VK → Prop := fun vs H Q => ∃ (b : Addr) (ks : List Key) (ws : List V) (ps : List PyData), vs = [.ref b] ∧ ks.length = ws.length ∧ H b = some (.dK (ks.zip ws)) ∧ ScVs ws ps ∧
  (PyData.dict ((ks.map kyP).zip ps)).showable = true ∧ (PyData.dict ((ks.map kyP).zip ps)).shown.length ≤ sizeLine ∧ (PyData.dict ((ks.map kyP).zip ps)).depth ≤ 60 ∧ Q (.str (PyData.dict ((ks.map kyP).zip ps)).shown) H
theorem cr_reprD (hu : X.A.units + 64 < cLine) (hg : X.A.guards = some []) : CallR X (.builtin "repr") rReprD := by
  intro pins s sg H vs us Q I r h
  obtain ⟨b, ks, ws, ps, rfl, hl, hd, hsc, h1, h2, h3, q⟩ := h
  obtain ⟨u, rfl, rv⟩ := vals1 r
  obtain rfl : u = Value.ref b := rv
  obtain ⟨_, hsm, kus, kv, ob, es, ep, ho2, hx2, hd2, _, pr, _⟩ := dk_of I.hok hd
  obtain ⟨f1, f2⟩ := dictP_reads (h := s.heap) hl hsc kv pr
  have rd2 : Reads s.heap (.ref b) (.dict ((ks.map kyP).zip ps)) (b :: [] ++ []) := .dict ho2 hx2.1 hd2 f1 f2
  refine PySem.repr_of_reads' rd2 h1 (fun _ => ?_) hg (by omega) (fun _ _ e => e) (fun h' u tk hk => ⟨.str _, H, I.kept hk, ⟨_, rfl⟩, q⟩) h2
  simp only [List.nil_append, List.append_nil, List.cons_append, List.mem_singleton]
  intro z
  rw [z] at hsm
  simp at hsm
/-- repr of a value that is no thing -/
def reprS : V → Option Str
  | .non => some "None"
  | .bl b => some (if b then "True" else "False")
  | .str x => if (reprText x).length ≤ sizeLine then some (reprText x) else none
  | _ => none
def rReprS : List V → Hp → VK → Prop := fun vs H Q => ∃ (v : V) (x : Str), vs = [v] ∧ reprS v = some x ∧ Q (.str x) H
theorem cr_reprS : CallR X (.builtin "repr") rReprS := by
  intro pins s sg H vs us Q I r h
  obtain ⟨v, x, rfl, hv, q⟩ := h
  obtain ⟨u, rfl, rv⟩ := vals1 r
  cases v with
  | non => cases hv; cases rv; exact PySem.P.repr_of_none ⟨.str _, H, I.tok _, ⟨_, rfl⟩, q⟩
  | bl b => cases hv; cases rv; exact PySem.P.repr_of_bool ⟨.str _, H, I.tok _, ⟨_, rfl⟩, q⟩
  | str y =>
    obtain ⟨t, rfl⟩ := rv
    simp only [reprS] at hv
    split at hv
    · rename_i hl
      cases hv
      exact PySem.P.repr_of_str ⟨.str _, H, I.tok _, ⟨_, rfl⟩, q⟩ hl
    · cases hv
  | int i => cases hv
  | byt b => cases hv
  | flt b => cases hv
  | ref a => cases hv
  | ty n => cases hv
/-- repr, also of a text beside a dict, of None, of a truth, of a text -/
def dReprX : SemF := fun ds st => match ds with
  | [.nd .tup [.str x, .nd (.dk ks) ys]] => match scPs ys with
    | some ps => if (PyData.tuple [.str x, .dict ((ks.map kyP).zip ps)]).showable = true ∧ (PyData.tuple [.str x, .dict ((ks.map kyP).zip ps)]).shown.length ≤ szL ∧ (PyData.tuple [.str x, .dict ((ks.map kyP).zip ps)]).depth ≤ 60 then .ok (.str (PyData.tuple [.str x, .dict ((ks.map kyP).zip ps)]).shown) st else .no
    | none => .no
  | [.nd (.dk ks) ys] => match scPs ys with
    | some ps => if (PyData.dict ((ks.map kyP).zip ps)).showable = true ∧ (PyData.dict ((ks.map kyP).zip ps)).shown.length ≤ szL ∧ (PyData.dict ((ks.map kyP).zip ps)).depth ≤ 60 then .ok (.str (PyData.dict ((ks.map kyP).zip ps)).shown) st else .no
    | none => .no
  | [.non] => .ok (.str "None") st
  | [.bl b] => .ok (.str (if b then "True" else "False")) st
  | [.str x] => if (reprText x).length ≤ szL then .ok (.str (reprText x)) st else .no
  | ds => dRepr ds st
theorem CallR.or' {f : Value} {r r' : List V → Hp → VK → Prop} (h : CallR X f r) (h' : CallR X f r') : CallR X f (fun vs H Q => r vs H Q ∨ r' vs H Q) := fun pins s sg H vs us Q I rr q => q.elim (h pins s sg H vs us Q I rr) (h' pins s sg H vs us Q I rr)
theorem cs_reprX (hu : X.A.units + 64 < cLine) (hg : X.A.guards = some []) : CS X cl (.builtin "repr") dReprX := by
  obtain ⟨rr, h1, h2⟩ := (cs_repr (X := X) (cl := cl) hu hg).ex
  refine ⟨_, CallR.or' (cr_reprTD hu hg) (CallR.or' (cr_reprD hu hg) (CallR.or' cr_reprS h1)), fun {Z r H st ds vs Q W'} R qd h => ?_⟩
  unfold dReprX at h
  split at h
  · rename_i x ks ys
    split at h
    · rename_i ps hps
      split at h
      · rename_i hc
        left
        obtain ⟨v, q, rfl, ⟨a, us, rfl, ⟨_, ha⟩, hu'⟩, rfl⟩ := qd
        obtain ⟨v1, q1, rfl, e1, v2, q2, rfl, ⟨b, ws, rfl, ⟨_, ⟨hl, _⟩, hb⟩, hw⟩, rfl⟩ := hu'
        rw [show v1 = .str x from e1] at ha
        exact ⟨a, b, x, ks, ws, ps, rfl, .inl (.inl ha), hl, hb, scPs_ok hps hw, hc.1, hc.2.1, hc.2.2, post_ok h R rfl⟩
      · exact h.elim
    · exact h.elim
  · rename_i ks ys
    split at h
    · rename_i ps hps
      split at h
      · rename_i hc
        right; left
        obtain ⟨v, q, rfl, ⟨b, ws, rfl, ⟨_, ⟨hl, _⟩, hb⟩, hw⟩, rfl⟩ := qd
        exact ⟨b, ks, ws, ps, rfl, hl, hb, scPs_ok hps hw, hc.1, hc.2.1, hc.2.2, post_ok h R rfl⟩
      · exact h.elim
    · exact h.elim
  · obtain ⟨v, q, rfl, a1, rfl⟩ := qd
    right; right; left
    rw [show v = V.non from a1]
    exact ⟨_, _, rfl, rfl, post_ok h R rfl⟩
  · rename_i b
    obtain ⟨v, q, rfl, a1, rfl⟩ := qd
    right; right; left
    rw [show v = V.bl b from a1]
    exact ⟨_, _, rfl, rfl, post_ok h R rfl⟩
  · rename_i x
    split at h
    · rename_i hc
      obtain ⟨v, q, rfl, a1, rfl⟩ := qd
      right; right; left
      rw [show v = V.str x from a1]
      exact ⟨_, _, rfl, if_pos hc, post_ok h R rfl⟩
    · exact h.elim
  · exact .inr (.inr (.inr (h2 R qd h)))
/-! ### xs.index(b), xs truths -/
/-! ### {} -/
end
end DY

/-! What the printed texts want of exceptions and lambdas. -/
namespace DY
open PySem PySem.Spec PyProof.Rows L2
section
variable {P : Program} {w : World} {K : PySem.W.Frag} {mg : Str → Option Value} {base : Heap}
/-- the table of the defs that get a lambda -/
structure TXL (P : Program) (w : World) (K : PySem.W.Frag) (mg : Str → Option Value) (base : Heap) (cl : ClsT) (fa : Nat → Addr) (fd : Nat → FuncData) (ps : Nat → List Str) (nF : Nat) (ga : Nat → Addr) (gd : Nat → FuncData) (qs : Nat → List Str) (n k : Nat) (cL : Nat → LamF → SemF) : Prop where
  fn : ∀ i, i < n → FnL P w K mg base cl fa fd ps nF k (ga i) (gd i) (qs i) (qs i).length (cL i)
  bd : ∀ i, i < n → L2.Binds K (gd i) (qs i) []
  kp : ∀ i, i < n → PySem.W.keepIn K (.ref (ga i)) = true
theorem TX.no {cl : ClsT} {fa : Nat → Addr} {fd : Nat → FuncData} {ps : Nat → List Str} {n k k2 : Nat} {c : Nat → SemF} (T : TX P w K mg base cl fa fd ps n k c) : TX P w K mg base cl fa fd ps n k2 fun _ _ _ => .no :=
  ⟨fun _ _ => FnG.none, fun _ _ _ _ => rfl, T.bd, T.kp⟩
end
section
variable {P : Program} {w : World} {K : PySem.W.Frag} {mg : Str → Option Value} {base : Heap} {cl : ClsT} {fa : Nat → Addr} {fd : Nat → FuncData} {ps : Nat → List Str} {nF : Nat} {ga : Nat → Addr} {gd : Nat → FuncData} {qs : Nat → List Str} {nL k k' : Nat} {cL : Nat → LamF → SemF} {X : Cx} {W : WX} {pos p p1 p2 lpos : Pos} {c c' : Nat → SemF} {x a : Str} {e : Expr} {es : List Expr} {ft : SemA}
theorem TXL.lam {c1 Pt : Addr} {params : Arguments} {body : Expr} {scope : Scope} {lam : (Nat → SemF) → SemE} (TL : TXL X.prog X.w X.K X.mg X.base cl fa fd ps nF ga gd qs nL k cL) (D : DF X W k) (ix : List Nat) (n N i : Nat) (hi : i < nL) (hn : (qs i).length = n) (hN : X.N.length = N) (hm : X.mg x = some (.ref (ga i))) (ha : SA X cl W es ft)
    (TB : LamX.TabB X.base X.mg c1 Pt) (hcode : X.env.code = .ref c1) (hT : (Pt, X.env.qual ++ "<lambda>") ∈ cl.tb) (hu : ∀ p ∈ cl.tb, p.1 = Pt → p.2 = X.env.qual ++ "<lambda>") (L : LamX.LamS X.env.scope scope)
    (hbody : ∀ (k' : Nat) (c' : Nat → SemF), TX X.prog X.w X.K X.mg X.base cl fa fd ps nF k' c' → ∀ (A : Around) (outer : List Env) (s : Shared) (H : Hp) (E : XK) (f c0 : Addr), DF (LamX.lamCx X A outer s H E scope f c0) (fun c d _ H' => E c d H') k' → RG k' (LamX.lamCx X A outer s H E scope f c0).A → SE (LamX.lamCx X A outer s H E scope f c0) cl (fun c d _ H' => E c d H') body (lam c'))
    (hdef : defaultsOf params X.env = ([], []) := by rfl) (hbind : ∀ (q : Str) (cl : List (Str × Addr)) (pm cv ctv : Value), bindArgs (PySem.W.kla_fn "<lambda>" q params body scope cl pm cv ctv) ⟨[], []⟩ = pure [] := by intros; rfl)
    (hs : X.stack = X.env :: X.outer := by rfl) (hf : X.env.frame = some X.env.locals := by rfl) (hg : Gl X x := by rfl) (hdx : (x == ("__debug__" : Str)) = false := by decide +kernel)
    (he : starEach (.Lambda params body scope lpos :: es) X.env = (false, eval (.Lambda params body scope lpos) X.env) :: starEach es X.env := by rfl) (hpl : (backTo pos (starEach es X.env)).any (·.1) = false := by rfl) :
    SE X cl W (.Call (.Name x p) (.Lambda params body scope lpos :: es) [] pos) (dLam ix N n lam (cL i) ft) :=
  se_lam ix n N D hn hN (TL.fn i hi) (TL.bd i hi) (TL.kp i hi) hm ha TB hcode hT hu L hbody hdef hbind hs hf hg hdx he hpl
end
end DY

/-! Evaluation of what raises, catches, hands on. -/
namespace DY
open PySem PySem.Spec PyProof.Rows L2
section
variable {env : DEnv} {st st' : Store} {fa : SemA} {fe : SemE} {fb : SemS} {c i m n : Nat} {ns : List Str} {ds xs es : List D} {d : D} {e : Ex} {good cs : List Nat} {tab : List (Nat × Bool)} {f c0 : Addr} {q x : Str} {caps : List V} {F : SemF} {L : List D → Store → Res D} {b : Bool}
def sRaise1 (c : Nat) (ns : List Str) (env : DEnv) : List D → Store → SR := fun ds st => if ds.length = ns.length then .er ⟨c, ns, ds⟩ env st else .no
@[simp] theorem sRaise_ev : sRaise c ns fa env st = bindE (fa env st) env (sRaise1 c ns env) := (rfl)
@[simp] theorem sRaise1_ev : sRaise1 c [x] env [d] st = .er ⟨c, [x], [d]⟩ env st := (rfl)
def tryK (good : List Nat) (i m : Nat) : SR → SR
  | .er e env' st' => if e.c ∈ good then .nx (((env'.set i (some (.nd (.exc e.c e.ns) e.xs))).set m (some (.nd (.exc e.c e.ns) e.xs))).set i none) st' else .no
  | q => q
@[simp] theorem sTryK_ev : sTryK good i m fb env st = tryK good i m (fb env st) := by
  unfold sTryK tryK; cases fb env st <;> rfl
@[simp] theorem tryK_nx : tryK good i m (.nx env st) = .nx env st := (rfl)
@[simp] theorem tryK_rt : tryK good i m (.rt d st) = .rt d st := (rfl)
@[simp] theorem tryK_er : tryK good i m (.er e env st) = if e.c ∈ good then .nx (((env.set i (some (.nd (.exc e.c e.ns) e.xs))).set m (some (.nd (.exc e.c e.ns) e.xs))).set i none) st else .no := (rfl)
def tryR (good : List Nat) (b : D) : SR → SR
  | .er e _ st' => if e.c ∈ good then .rt b st' else .no
  | q => q
@[simp] theorem sTryR_ev : sTryR good d fb env st = tryR good d (fb env st) := by
  unfold sTryR tryR; cases fb env st <;> rfl
@[simp] theorem tryR_nx : tryR good d (.nx env st) = .nx env st := (rfl)
@[simp] theorem tryR_rt {y : D} : tryR good d (.rt y st) = .rt y st := (rfl)
@[simp] theorem tryR_er : tryR good d (.er e env st) = if e.c ∈ good then .rt d st else .no := (rfl)
@[simp] theorem dIsx_ev : dIsx tab fe env st = (fe env st).bind (isxF tab) := (rfl)
def xatF (cs : List Nat) (f : Str) : D → Store → Res D
  | .nd (.exc c ns) xs, st1 => if c ∈ cs then (match (ns.zip xs).lookup f with
    | some d => .ok d st1
    | none => .no) else .no
  | _, _ => .no
@[simp] theorem dXat_ev : dXat cs x fe env st = (fe env st).bind (xatF cs x) := by
  unfold dXat
  congr 1; funext y st1
  unfold xatF
  rcases y with _ | _ | _ | _ | _ | ⟨t, _⟩ <;> try rfl
  cases t <;> rfl
def actF (f c0 : Addr) (q : Str) (caps : List V) (L : List D → Store → Res D) : Option (Option D) → Store → Res D
  | some (some (.nd (.fn f' c' q' caps') xs)), st => if f' = f ∧ c' = c0 ∧ q' = q ∧ caps' = caps then L xs st else .no
  | _, _ => .no
@[simp] theorem dAct_ev : dAct f c0 q caps i L env st = actF f c0 q caps L env[i]? st := by
  unfold dAct actF
  rcases env[i]? with _ | _ | y <;> try rfl
  rcases y with _ | _ | _ | _ | _ | ⟨t, _⟩ <;> try rfl
  cases t <;> rfl
@[simp] theorem actF_ev : actF f c0 q caps L (some (some (.nd (.fn f c0 q caps) xs))) st = L xs st := by
  simp [actF]
def callLF (f c0 : Addr) (q : Str) (caps : List V) (n : Nat) (F : SemF) : List D → Store → Res D
  | .nd (.fn f' c' q' caps') xs :: es, st1 => if (f' = f ∧ c' = c0 ∧ q' = q ∧ caps' = caps) ∧ es.length + 1 = n then F (.nd (.fn f c0 q caps) xs :: es) st1 else .no
  | _, _ => .no
@[simp] theorem dCallL_ev : dCallL f c0 q caps n F fa env st = (fa env st).bind (callLF f c0 q caps n F) := by
  unfold dCallL
  congr 1; funext y st1
  unfold callLF
  rcases y with _ | ⟨y, ys⟩ <;> try rfl
  rcases y with _ | _ | _ | _ | _ | ⟨t, _⟩ <;> try rfl
  cases t <;> rfl
theorem callLF_go (h : es.length + 1 = n) : callLF f c0 q caps n F (.nd (.fn f c0 q caps) xs :: es) st = F (.nd (.fn f c0 q caps) xs :: es) st := by
  simp [callLF, h]
@[simp] theorem callLF_1 : callLF f c0 q caps 1 F [.nd (.fn f c0 q caps) xs] st = F [.nd (.fn f c0 q caps) xs] st := callLF_go rfl
@[simp] theorem callLF_2 : callLF f c0 q caps 2 F [.nd (.fn f c0 q caps) xs, d] st = F [.nd (.fn f c0 q caps) xs, d] st := callLF_go rfl
@[simp] theorem callLF_3 {d' : D} : callLF f c0 q caps 3 F [.nd (.fn f c0 q caps) xs, d, d'] st = F [.nd (.fn f c0 q caps) xs, d, d'] st := callLF_go rfl
end
end DY

/-! len(x) by a class's own __len__. -/
namespace DY
open PySem PySem.Spec PyProof.Rows L2
structure LenO (K : PySem.W.Frag) (C : Addr) (f : Addr) : Prop where
  at_ : PySem.W.findIn K (.ref C) "__len__" = some (some (.ref f))
  fn : PySem.W.isFn K (.ref f) = true
section
variable {X : Cx} {cl : ClsT} {W : WX} {F : SemF} {fa : SemA} {pos p : Pos} {x : Str} {e : Expr} {es : List Expr}
def lenBack : D → Store → Res D
  | .int n, st => if 0 ≤ n ∧ n < 9223372036854775808 then .ok (.int n) st else .no
  | _, _ => .no
def dLenOC (c : Nat) (F : SemF) (x : D) (st : Store) : Option (Hd × List D) → Res D
  | some (.ins c1 _, _) => if c1 = c then (F [x] st).bind lenBack else .no
  | _ => .no
def dLenO1 (c : Nat) (F : SemF) : List D → Store → Res D
  | [x], st => dLenOC c F x st (seen st x)
  | _, _ => .no
def dLenO (c : Nat) (F : SemF) (fa : SemA) : SemE := fun env st => (fa env st).bind (dLenO1 c F)
end
@[simp] theorem dLenO_ev {c : Nat} {F : SemF} {fa : SemA} {env : DEnv} {st : Store} : dLenO c F fa env st = (fa env st).bind (dLenO1 c F) := (rfl)
@[simp] theorem dLenO1_ev {c : Nat} {F : SemF} {x : D} {st : Store} : dLenO1 c F [x] st = dLenOC c F x st (seen st x) := (rfl)
@[simp] theorem dLenOC_ev {c : Nat} {F : SemF} {x : D} {st : Store} {ns : List Str} {xs : List D} : dLenOC c F x st (some (.ins c ns, xs)) = (F [x] st).bind lenBack := if_pos rfl
end DY

/-! x.f by a property of an own class. -/
namespace DY
open PySem PySem.Spec PyProof.Rows L2
/-- how a call ends that lets no exception out -/
def RcN (X : Cx) (pins : List (Addr × Obj)) (sg : L2.St) (Q : VK) (q : Result) (s' : Shared) : Prop := match q with
  | .ok (.ret v) => EP X pins sg Q v s'
  | _ => False
structure CalN (X : Cx) (cl : ClsT) (u : Value) (F : SemF) : Prop where
  code : ∀ (pins : List (Addr × Obj)) (s : Shared) (sg : L2.St) (H : Hp) (Q : VK) (vs : List V) (us : List Value), Inv X pins sg H s → Vals vs us → rdC ⟨X.K, cl⟩ (fun _ _ _ _ => False) F vs sg H Q → codeAny (model X.prog X.w) X.A.in1 (.call u ⟨us, []⟩) (RcN X pins sg Q) s
section
variable {X : Cx} {cl : ClsT} {F : SemF}
end
section
variable {X : Cx} {cl : ClsT} {W : WX} {fa : Nat → Addr} {fd : Nat → FuncData} {ps : Nat → List Str} {n k : Nat} {c : Nat → SemF}
end
/-- no exception -/
def noE : Res D → Res D
  | .ok a st => .ok a st
  | _ => .no
section
variable {X : Cx} {cl : ClsT} {W : WX} {F : SemF} {fo : SemE} {pos : Pos} {o : Expr} {f : Str} {p g : Addr}
def dPropC (c : Nat) (F : SemF) (x : D) (st : Store) : Option (Hd × List D) → Res D
  | some (.ins c1 _, _) => if c1 = c then noE (F [x] st) else .no
  | _ => .no
def dProp1 (c : Nat) (F : SemF) (x : D) (st : Store) : Res D := dPropC c F x st (seen st x)
def dProp (c : Nat) (F : SemF) (fo : SemE) : SemE := fun env st => (fo env st).bind (dProp1 c F)
end
@[simp] theorem dProp_ev {c : Nat} {F : SemF} {fo : SemE} {env : DEnv} {st : Store} : dProp c F fo env st = (fo env st).bind (dProp1 c F) := (rfl)
@[simp] theorem dProp1_ev {c : Nat} {F : SemF} {x : D} {st : Store} : dProp1 c F x st = dPropC c F x st (seen st x) := (rfl)
@[simp] theorem dPropC_ev {c : Nat} {F : SemF} {x : D} {st : Store} {ns : List Str} {xs : List D} : dPropC c F x st (some (.ins c ns, xs)) = noE (F [x] st) := if_pos rfl
@[simp] theorem noE_ok {a : D} {st : Store} : noE (.ok a st) = .ok a st := (rfl)
end DY

/-! x.m(k = e): a method called by keywords alone. -/
namespace DY
open PySem PySem.Spec PyProof.Rows L2
section
variable {X : Cx} {cl : ClsT} {W : WX} {F : SemF} {fo : SemE} {fa : SemA} {pos apos : Pos} {o : Expr} {m : Str}
/-- u, called with a first value and the keywords ks, computes F -/
structure CalK1 (X : Cx) (cl : ClsT) (W : WX) (u : Value) (ks : List Str) (F : SemF) : Prop where
  code : ∀ (pins : List (Addr × Obj)) (s : Shared) (sg : L2.St) (H : Hp) (Q : VK) (v0 : V) (u0 : Value) (vs : List V) (us : List Value), Inv X pins sg H s → RelV v0 u0 → Vals vs us → rdC ⟨X.K, cl⟩ W F (v0 :: vs) sg H Q → codeAny (model X.prog X.w) X.A (.call u ⟨[u0], ks.zip us⟩) (RcP X pins sg Q) s
/-- the same function of the first value and the arguments as the keywords stand -/
def kwF1 (n m : Nat) (is : List Nat) (F : SemF) : SemF := fun ds st => match ds with
  | d :: ds => if ds.length = n ∧ is.length + 1 = m ∧ (is.all fun i => decide (i < n)) = true then F (d :: pmL is ds) st else .no
  | [] => .no
theorem calK1_fn {k : Nat} {f : Addr} {fd : FuncData} {ps ks : List Str} {is : List Nat} (hF : FnG X.prog X.w X.K X.mg X.base k f fd ps (spF ⟨X.K, cl⟩ ps.length F)) (hr : Room k X.A) (hg : X.A.guards = some []) (hb : BindsK1 X.K fd ps ks is) (tk : Takes X W) :
    CalK1 X cl W (.ref f) ks (kwF1 ks.length ps.length is F) := by
  refine ⟨fun pins s sg H Q v0 u0 vs us I r0 r h => ?_⟩
  obtain ⟨Z, ra, st, ds, qd, R, h⟩ := h
  cases ds with
  | nil => exact h.elim
  | cons d ds =>
    obtain ⟨v, q, ee, a1, qd⟩ := qd
    cases ee
    unfold kwF1 at h
    dsimp only at h
    split at h
    · rename_i hc
      have hl : us.length = ks.length := by rw [← r.length, ← qd.length]; exact hc.1
      have hlen : ∀ (js : List Nat), (js.all fun i => decide (i < ks.length)) = true → (pmL js vs).length = js.length := by
        intro js hj
        induction js with
        | nil => rfl
        | cons j js ih =>
          rw [List.all_cons, Bool.and_eq_true] at hj
          have : j < vs.length := by rw [← qd.length, hc.1]; exact of_decide_eq_true hj.1
          unfold pmL at ih ⊢
          rw [List.filterMap_cons, List.getElem?_eq_getElem this]
          simp [ih hj.2]
      refine codeAny_mono (hF.run X.A X.stack s H ⟨[u0], ks.zip us⟩ (u0 :: pmL is us) (v0 :: pmL is vs) Q (fun c d H' => W c d sg H') hr hg I.env0 (hb s u0 us I.kIn hl) (.cons r0 (pm_vals r is)) ⟨by rw [List.length_cons, hlen is hc.2.2]; exact hc.2.1, Z, ra, st, d :: pmL is ds, ⟨_, _, rfl, a1, pm_rep qd is⟩, R, h⟩) fun rr s' hq => ?_
      cases rr with
      | error e => exact tk e s' (XE.of_call I (fun _ _ _ q => q) hq)
      | ok fl =>
        cases fl with
        | ret u => exact I.after hq
        | next => exact False.elim hq
        | brk => exact False.elim hq
        | cont => exact False.elim hq
    · exact h.elim
end
section
variable {X : Cx} {cl : ClsT} {W : WX} {fa : Nat → Addr} {fd : Nat → FuncData} {ps : Nat → List Str} {n k : Nat} {c : Nat → SemF}
theorem TX.calK1 (T : TX X.prog X.w X.K X.mg X.base cl fa fd ps n k c) (D : DF X W k) (i : Nat) (hi : i < n) (ks : List Str) (is : List Nat) (hb : BindsK1 X.K (fd i) (ps i) ks is) : CalK1 X cl W (.ref (fa i)) ks (kwF1 ks.length (ps i).length is (c i)) :=
  calK1_fn (T.fn i hi) (D.room.mono (Nat.le_succ k)) D.gd hb D.tk
end
end DY

/-! x.f, y.g = a pair. -/
namespace DY
open PySem PySem.Spec PyProof.Rows L2
section
variable {X : Cx} {cl : ClsT} {W : WX} {pos pos' pos1 pos2 : Pos} {o o1 o2 e : Expr} {f f1 f2 : Str} {fo fo1 fo2 fe : SemE}
def putAt (c hint : Nat) (f : Str) (fo : SemE) (env : DEnv) (v : D) (k : Store → SR) (st : Store) : SR := bindE (fo env st) env fun x st2 => match putA c hint f x v st2 with
  | some st3 => k st3
  | none => .no
def sAt2 (c h1 : Nat) (f1 : Str) (c' h2 : Nat) (f2 : Str) (fo1 fo2 fe : SemE) : SemS := fun env st => bindE (fe env st) env fun d st1 => match tup? st1 d with
  | some [x, y] => putAt c h1 f1 fo1 env x (putAt c' h2 f2 fo2 env y fun st => .nx env st) st1
  | _ => .no
/-! ### xs.index(i), xs whole numbers -/
end
end DY

/-! Evaluation: x.f, y.g = a pair; xs.index(i). -/
namespace DY
open PySem PySem.Spec L2
variable {c c' h1 h2 h : Nat} {f f1 f2 : Str} {fo fo1 fo2 fe : SemE} {env : DEnv} {st : Store} {x y v : D} {k : Store → SR}
def putA2 (k : Store → SR) : Option Store → SR
  | some st => k st
  | none => .no
@[simp] theorem putA2_ev : putA2 k (some st) = k st := (rfl)
def putAt1 (c h : Nat) (f : Str) (v : D) (k : Store → SR) : D → Store → SR := fun x st => putA2 k (putA c h f x v st)
@[simp] theorem putAt1_ev : putAt1 c h f v k x st = putA2 k (putA c h f x v st) := (rfl)
@[simp] theorem putAt_ev : putAt c h f fo env v k st = bindE (fo env st) env (putAt1 c h f v k) := by
  unfold putAt
  congr 1
def sAt2k (c h1 : Nat) (f1 : Str) (c' h2 : Nat) (f2 : Str) (fo1 fo2 : SemE) (env : DEnv) : D → Store → SR := fun d st1 => match tup? st1 d with
  | some [x, y] => putAt c h1 f1 fo1 env x (putAt c' h2 f2 fo2 env y (SR.nx env)) st1
  | _ => .no
@[simp] theorem sAt2k_ev : sAt2k c h1 f1 c' h2 f2 fo1 fo2 env (.nd .tup [x, y]) st = putAt c h1 f1 fo1 env x (putAt c' h2 f2 fo2 env y (SR.nx env)) st := (rfl)
@[simp] theorem sAt2_ev : sAt2 c h1 f1 c' h2 f2 fo1 fo2 fe env st = bindE (fe env st) env (sAt2k c h1 f1 c' h2 f2 fo1 fo2 env) := by
  unfold sAt2
  congr 1
end DY

/-! The end over a head that is run in the kernel. -/
namespace DY
open PySem PySem.Spec PyProof.Rows L2
/-! ### the law -/
theorem law_walksKT {l : PySem.W.OpenLaw} {m k : Nat} {q : Program} {loose : List Str} {XP : (Str → Option Value) → Heap → Prop} {YP : World → Heap → Prop} {d : DefRec} {x : Str} {G : SemF}
    (most : l.most = some m) (small : m ≤ sizeLine) (nodef : d.params.defaults = []) (room : Room k callerA)
    (F : ∀ (w : World) (mg : Str → Option Value) (fa : Addr) (h : Heap), YP w h → h.Ns mainGlobals mg → mg d.name = some (.ref fa) →
      ∃ K : PySem.W.Frag, K.In h ∧ ∃ (fd : FuncData) (cl : ClsT) (cs : List (Addr × Addr)), TabsOk K h cs ∧ (∀ t ∈ cl.tb, ∃ p ∈ cs, p.2 = t.1) ∧ (∀ (s : Shared) (u : Value), BindsTo s fd ⟨[u], []⟩ [(x, u)]) ∧ ∀ base : Heap, K.In base → base.Ns mainGlobals mg → (∀ p ∈ cs, LamX.TabB base mg p.1 p.2) → FnG l.prog w K mg base k fa fd [x] (spF ⟨K, cl⟩ 1 G))
    (law : ∀ ns : List Int, ns.length ≤ m → ∃ st, G [scrD ns] [] = .ok (.bl true) st) :
    PySem.W.WalkO q loose XP YP l.row.toRowW d [] (fun f vs => PySem.call f vs) := by
  refine Att.attach_call most nodef fun w s₀ s₁ mg mb fa o pm cd doc a vs ns G' Y ho hd hcd hmg hobj hints hlen hg => ?_
  obtain ⟨K, KX, fd, cl, cs, tabs, ht, hb, hF⟩ := F w mg fa _ Y G'.T.g hmg
  refine law_ends KX G'.T.g G'.T.b G'.T.builtins G'.T.nolimit hg tabs G'.T.bmain hobj hints (Nat.le_trans hlen small) room hF hb fun H hH sq => ?_
  obtain ⟨st, e⟩ := law ns hlen
  refine ⟨rfl, [], [], [], [scrD ns], ⟨_, _, rfl, ⟨a, ns.map V.int, rfl, ?_, RepL.ints ns⟩, rfl⟩, ⟨rfl, List.nodup_nil, fun b hb => absurd hb List.not_mem_nil, fun t hm => ?_, fun j c hj => by cases hj⟩, ?_⟩
  · rcases sq with sq | sq
    · exact .inl ⟨⟨List.not_mem_nil, List.not_mem_nil⟩, sq⟩
    · exact .inr sq
  · obtain ⟨p, hp, e⟩ := ht t hm
    exact .nil (by rw [← e]; exact hH p hp)
  · rw [e]
    exact fun r' H' b _ _ hb => hb
theorem law_walksK {l : PySem.W.OpenLaw} {m k : Nat} {q : Program} {loose : List Str} {XP : (Str → Option Value) → Heap → Prop} {YP : World → Heap → Prop} {d : DefRec} {x : Str} {G : SemF}
    (most : l.most = some m) (small : m ≤ sizeLine) (nodef : d.params.defaults = []) (room : Room k callerA)
    (F : ∀ (w : World) (mg : Str → Option Value) (fa : Addr) (h : Heap), YP w h → h.Ns mainGlobals mg → mg d.name = some (.ref fa) →
      ∃ K : PySem.W.Frag, K.In h ∧ ∃ (fd : FuncData) (cl : ClsT), cl.tb = [] ∧ (∀ (s : Shared) (u : Value), BindsTo s fd ⟨[u], []⟩ [(x, u)]) ∧ ∀ base : Heap, K.In base → base.Ns mainGlobals mg → FnG l.prog w K mg base k fa fd [x] (spF ⟨K, cl⟩ 1 G))
    (law : ∀ ns : List Int, ns.length ≤ m → ∃ st, G [scrD ns] [] = .ok (.bl true) st) :
    PySem.W.WalkO q loose XP YP l.row.toRowW d [] (fun f vs => PySem.call f vs) :=
  law_walksKT most small nodef room (fun w mg fa h Y hn hm => by
    obtain ⟨K, kh, fd, cl, ht, hb, hF⟩ := F w mg fa h Y hn hm
    exact ⟨K, kh, fd, cl, [], .none, fun t z => (by rw [ht] at z; cases z), hb, fun base kb hn _ => hF base kb hn⟩) law
end DY

/-! Tuples of texts among a module's names; list.remove over data. -/
namespace DY
open PySem PySem.Spec PyProof.Rows L2
section
variable {X : Cx} {cl : ClsT}
/-! ### list.remove -/
def opRemove (x : D) (ds : List D) (st : Store) : Res D := match x, ds with
  | .h k, [y] => match st[k]? with
    | some (.nd .lst xs) => match toPgL (fun _ => none) xs, toP deepP st y with
      | some ps, some d => if shp d && shp (.list ps) then (match PySem.SeqAt.dataPlace ps d with
        | some j => .ok .non (st.set k (.nd .lst (xs.eraseIdx j)))
        | none => .no) else .no
      | _, _ => .no
    | _ => .no
  | _, _ => .no
def opRemoveC (k : Nat) (st : Store) (y : Option PyData) : Option D → Res D
  | some (.nd .lst xs) => match toPgL (fun _ => none) xs, y with
      | some ps, some d => if shp d && shp (.list ps) then (match PySem.SeqAt.dataPlace ps d with
        | some j => .ok .non (st.set k (.nd .lst (xs.eraseIdx j)))
        | none => .no) else .no
      | _, _ => .no
  | _ => .no
theorem opRemove_ev {k : Nat} {y : D} {st : Store} : opRemove (.h k) [y] st = opRemoveC k st (toP deepP st y) st[k]? := by
  unfold opRemove opRemoveC
  dsimp only
end
end DY

/-! Dicts: a key in a dict, list(d). -/
namespace DY
open PySem PySem.Spec PyProof.Rows L2
section
variable {X : Cx} {cl : ClsT}
end
end DY

/-! Evaluation: list.remove, tuples under a module's name. -/
namespace DY
open PySem PySem.Spec L2
@[simp] theorem opRemove_ev1 {k : Nat} {y : D} {st : Store} : opRemove (.h k) [y] st = opRemoveC k st (toP deepP st y) st[k]? := opRemove_ev
end DY

/-! tuple * int, once and not at all, too. -/
namespace DY
open PySem PySem.Spec PyProof.Rows L2
section
variable {X : Cx} {cl : ClsT}
end
end DY

/-! Evaluation: tuple * int. -/
namespace DY
open PySem PySem.Spec L2
end DY

/-! C(k = e): a new instance, made by keywords alone. -/
namespace DY
open PySem PySem.Spec PyProof.Rows L2
section
variable {X : Cx} {cl : ClsT} {W : WX}
end
section
variable {X : Cx} {cl : ClsT} {W : WX} {fa : Nat → Addr} {fd : Nat → FuncData} {ps : Nat → List Str} {n k : Nat} {c : Nat → SemF}
end
end DY

/-! raise C("a message"), C without an __init__ of its own. -/
namespace DY
open PySem PySem.Spec PyProof.Rows L2
/-- what a class of exceptions that keeps a message says -/
structure RaiM (K : PySem.W.Frag) (C : Addr) : Prop where
  ex : PySem.W.excIn K C [.type "ValueError", .type "Exception", .type "BaseException", .type "object"] "ValueError.__new__" = true
  kp : PySem.W.keepIn K (.ref C) = true
  sb : PySem.W.subIn K (.ref C) (.type "BaseException") = some true
  ty : PySem.W.typeIn K (.ref C) = some (.type "type")
def sRaiseM (c : Nat) : SemS := fun env st => .er ⟨c, [], []⟩ env st
@[simp] theorem sRaiseM_ev (c : Nat) (env : DEnv) (st : Store) : sRaiseM c env st = .er ⟨c, [], []⟩ env st := (rfl)
section
variable {X : Cx} {cl : ClsT} {W : WX}
end
end DY

/-! xs[::-1] of a list. -/
namespace DY
open PySem PySem.Spec PyProof.Rows L2
def dRevC (st : Store) : Option (List D) → Res D
  | some xs => .ok (.nd .lst xs.reverse) st
  | none => .no
def dRev (fa : SemE) : SemE := fun env st => (fa env st).bind fun x st1 => dRevC st1 (lst? st1 x)
def dRev1 (x : D) (st : Store) : Res D := dRevC st (lst? st x)
@[simp] theorem dRev_ev {fa : SemE} {env : DEnv} {st : Store} : dRev fa env st = (fa env st).bind dRev1 := (rfl)
@[simp] theorem dRev1_lst {xs : List D} {st : Store} : dRev1 (.nd .lst xs) st = .ok (.nd .lst xs.reverse) st := (rfl)
section
variable {X : Cx} {cl : ClsT} {W : WX} {pos : Pos} {fa : SemE} {a : Expr}
end
end DY

/-! Texts: slices, signs, whole numbers in them; a dict and a text under a module's name. -/
namespace DY
open PySem PySem.Spec PyProof.Rows L2
section
variable {X : Cx} {cl : ClsT} {W : WX} {pos : Pos} {fa fe : SemE} {a e : Expr}
/-! ### z[lo:hi] -/
def dCutS (x : D) (lo hi : Option Int) (st : Store) : Res D := match x with
  | .str z => if z.length ≤ 16777216 then .ok (.str (cutS z lo hi)) st else .no
  | _ => .no
def dSliceS (fa : SemE) (fl fh : SemO) : SemE := fun env st => (fa env st).bind fun x st1 => (fl env st1).bind fun lo st2 => (fh env st2).bind fun hi st3 => dCutS x lo hi st3
@[simp] theorem dSliceS_ev {fl fh : SemO} {env : DEnv} {st : Store} : dSliceS fa fl fh env st = (fa env st).bind (dSlice1 dCutS fl fh env) := (rfl)
/-! ### int(text) -/
/-! ### a text under a module's name -/
/-! ### signs -/
/-! ### k not in d -/
/-! ### a dict of texts under a module's name -/
def dGdNotIn (ps : List (Str × Str)) (fe : SemE) : SemE := fun env st => (fe env st).bind fun y st1 => match y with
  | .str z => .ok (.bl (!(ps.lookup z).isSome)) st1
  | _ => .no
def dGdGet (ps : List (Str × Str)) (fe : SemE) : SemE := fun env st => (fe env st).bind fun y st1 => match y with
  | .str z => (match ps.lookup z with
    | some v => .ok (.str v) st1
    | none => .no)
  | _ => .no
def gdN (ps : List (Str × Str)) : D → Store → Res D
  | .str z, st => .ok (.bl (!(ps.lookup z).isSome)) st
  | _, _ => .no
def gdG (ps : List (Str × Str)) : D → Store → Res D
  | .str z, st => (match ps.lookup z with
    | some v => .ok (.str v) st
    | none => .no)
  | _, _ => .no
@[simp] theorem dGdNotIn_ev {ps : List (Str × Str)} {env : DEnv} {st : Store} : dGdNotIn ps fe env st = (fe env st).bind (gdN ps) := by
  unfold dGdNotIn
  congr 1; funext y st1
  cases y <;> rfl
@[simp] theorem dGdGet_ev {ps : List (Str × Str)} {env : DEnv} {st : Store} : dGdGet ps fe env st = (fe env st).bind (gdG ps) := by
  unfold dGdGet
  congr 1; funext y st1
  cases y <;> rfl
@[simp] theorem gdN_ev {ps : List (Str × Str)} {z : Str} {st : Store} : gdN ps (.str z) st = .ok (.bl (!(ps.lookup z).isSome)) st := (rfl)
end
end DY

/-! z.split(y); several except clauses that each set one name to a text. -/
namespace DY
open PySem PySem.Spec PyProof.Rows L2
section
variable {X : Cx} {cl : ClsT} {W : WX} {pos : Pos} {fa fe : SemE} {a e : Expr}
/-! ### z.split(y) -/
def dSplit2 (a : Str) (y : D) (st : Store) : Res D := match y with
  | .str b => if (b.length == 0) = false ∧ a.length + 2 ≤ 16777216 then .ok (.nd .lst ((Txt.split a b).map D.str)) st else .no
  | _ => .no
def dSplit1 (fe : SemE) (env : DEnv) (x : D) (st : Store) : Res D := match x with
  | .str a => (fe env st).bind (dSplit2 a)
  | _ => .no
def dSplit (fa fe : SemE) : SemE := fun env st => (fa env st).bind (dSplit1 fe env)
@[simp] theorem dSplit_ev {env : DEnv} {st : Store} : dSplit fa fe env st = (fa env st).bind (dSplit1 fe env) := (rfl)
@[simp] theorem dSplit1_str {env : DEnv} {st : Store} {z : Str} : dSplit1 fe env (.str z) st = (fe env st).bind (dSplit2 z) := (rfl)
/-! ### try: .. except C1: m = 't1' except C2: .. -/
def sTryM (tab : List (Nat × Str)) (i : Nat) (fb : SemS) : SemS := fun env st => match fb env st with
  | .er ex env' st' => match tab.lookup ex.c with
    | some s => .nx (env'.set i (some (.str s))) st'
    | none => .no
  | q => q
inductive HdS (X : Cx) (mm : Str) : List ExceptHandler → List (Value × Str) → Prop
  | nil : HdS X mm [] []
  | cons {x s : Str} {c : Value} {np q1 q2 q3 pos' : Pos} {j : Nat} {hds : List ExceptHandler} {l : List (Value × Str)} (hc : Names X x c) (hsw : swapsWith (.Constant (.str s) j q1) (some (.Name mm q2)) q3.line X.env = pure false) (r : HdS X mm hds l) :
      HdS X mm (.ExceptHandler (some (.Name x np)) none [.Assign [.Name mm q2] (.Constant (.str s) j q1) q3] pos' :: hds) ((c, s) :: l)
def tsS (i : Nat) (s : Str) : Addr → Value → Option Addr → TS := fun _ _ _ => tAsg (tC (.str s)) (gName i)
theorem HdS.ok {mm : Str} {i : Nat} {hds : List ExceptHandler} {l : List (Value × Str)} (hN : X.N.Nodup) (hi : X.N[i]? = some mm) (hx : Loc X.env.scope mm) (hf : X.env.scope.names.lookup mm = some .local) (h : HdS X mm hds l) : HdsOk X hds (l.map fun q => (q.1, tsS i q.2)) := by
  induction h with
  | nil => exact .nil
  | cons hc hsw r ih => exact .cons hc (fun ad oe cls d pn _ _ => pss_one (ps_set hN hi hx pe_str hsw (.inr hf))) ih
@[simp] theorem sTryM_ev {tab : List (Nat × Str)} {i : Nat} {fb : SemS} {env : DEnv} {st : Store} : sTryM tab i fb env st = (match fb env st with
  | .er ex env' st' => match tab.lookup ex.c with
    | some s => .nx (env'.set i (some (.str s))) st'
    | none => .no
  | q => q) := (rfl)
end
end DY

/-! A generator's `for`: its turns. -/
namespace DY
open PySem PySem.Spec PyProof.Rows L2 GenW
section
variable {prog : Program} {w : World} {A : Around} {R : GenEnd} {Y : Protocol} {n : Nat} {s₀ : Shared} {fs : List Frame} {s : Shared} {env : Env}
/-- what a turn does with an exception -/
abbrev turnErr (env : Env) (x : Value) : Sem PySem.Fin := (do noteFrame x env; theTreesLotGoes x : Sem Unit).wrap (fun _ => .raise x) .raise id id
theorem seg_forLoop {target : Expr} {it : Value} {body : List Stmt}
    (h : wpAny (model prog w) (A.over (.forLoop target it body [] env) fs) (pyNext it) (fun r s1 => match r with
        | none => Seg (model prog w) A R Y n s₀ (.forLoop target it body [] env) (.pure (.again (.block [] env))) fs s1
        | some v => wpAny (model prog w) (A.over (.forLoop target it body [] env) fs) (letOwnedTupleGo target it v) (fun _ s2 => wpAny (model prog w) (A.over (.forLoop target it body [] env) fs) (assign target env v) (fun _ s3 =>
            Seg (model prog w) A R Y n s₀ (.forLoop target it body [] env) ((execs body env).wrap (fun f => match f with
              | .next | .cont => .pure (.again (.forLoop target it body [] env))
              | .brk => .pure (.done .next)
              | .ret v => .pure (.done (.ret v))) (turnErr env) id id) fs s3)
            (fun x s' => Seg (model prog w) A R Y n s₀ (.forLoop target it body [] env) (turnErr env x) fs s') s2)
            (fun x s' => Seg (model prog w) A R Y n s₀ (.forLoop target it body [] env) (turnErr env x) fs s') s1)
      (fun x s' => Seg (model prog w) A R Y n s₀ (.forLoop target it body [] env) (turnErr env x) fs s') s) :
    Seg (model prog w) A R Y n s₀ (.forLoop target it body [] env) ((model prog w).den (.forLoop target it body [] env)) fs s := by
  show Seg _ A R Y n s₀ _ ((forTurn target it body [] env).onRaise (fun x => do noteFrame x env; theTreesLotGoes x)) fs s
  unfold forTurn
  rw [Sem.onRaise_eq_wrap, Sem.bind_eq_wrap', Sem.wrap_wrap]
  refine seg_wrap (wpAny_standAt ?_)
  rw [Sem.bind_eq_wrap', Sem.wrap_wrap]
  have err : ∀ {x : Value} {s' : Shared}, Seg (model prog w) A R Y n s₀ (.forLoop target it body [] env) (turnErr env x) fs s' →
      Seg (model prog w) A R Y n s₀ (.forLoop target it body [] env) ((do noteFrame x env; theTreesLotGoes x : Sem Unit).bind fun _ => .raise x) fs s' := fun {x s'} q => by
    rw [Sem.bind_eq_wrap]; exact q
  refine seg_wrap (wpAny_onRaise (wpAny_mono h (fun r s1 h1 => ?_) fun x s' h' => wpAny_standAt (err h')))
  cases r with
  | none => exact h1
  | some v =>
    dsimp only at h1 ⊢
    rw [Sem.bind_eq_wrap', Sem.wrap_wrap]
    refine seg_wrap (wpAny_mono h1 (fun _ s2 h2 => ?_) fun x s' h' => err h')
    rw [Sem.bind_eq_wrap', Sem.wrap_wrap]
    refine seg_wrap (wpAny_mono h2 (fun _ s3 h3 => ?_) fun x s' h' => err h')
    rw [Sem.bind_eq_wrap', Sem.wrap_wrap]
    rw [Sem.wrap_congr (execs body env) _ _ (K' := fun f => match f with
            | .next | .cont => .pure (.again (.forLoop target it body [] env))
            | .brk => .pure (.done .next)
            | .ret v => .pure (.done (.ret v))) (H' := turnErr env)
        (fun f => by cases f <;> rfl)
        (fun e => by first | exact Sem.bind_eq_wrap _ _ | (show (do noteFrame e env; theTreesLotGoes e : Sem Unit).bind (fun _ => .raise e) = _; rw [Sem.bind_eq_wrap]))]
    exact h3
end
end DY

/-! A `for` with yields in it: the rule. -/
namespace DY
open PySem PySem.Spec PyProof.Rows L2 GenW
section
variable {A : Around} {R : GenEnd} {Y : Protocol} {n : Nat} {s₀ : Shared} {fs : List Frame} {s : Shared} {env : Env} {M : Model} {c : Code} {K : Flow → Sem PySem.Fin} {H : Value → Sem PySem.Fin} {gd : Bool → Bool} {lv : List Value → List Value}
theorem seg_For {target iter : Expr} {body : List Stmt} {pos : Pos} (hs : ∀ x : Value, foldedSetIterable iter env x = pure x)
    (h : wpAny M (A.over c fs) (eval iter env) (fun x s1 => wpAny M (A.over c fs) (pyIter x) (fun it s2 => ∀ p : Pos,
        Seg M A R Y n s₀ (.forLoop target it body [] env) (M.den (.forLoop target it body [] env))
          (Frame.ret (fun r => Sem.wrap K H gd lv ((match r with
            | Except.ok f => Sem.pure f
            | Except.error e => Sem.raise e).onRaise (cameBack env))) none (gd false) (lv []) c p [] :: fs) s2)
        (fun x s' => Seg M A R Y n s₀ c (H x) fs s') s1) (fun x s' => Seg M A R Y n s₀ c (H x) fs s') s) :
    Seg M A R Y n s₀ c (Sem.wrap K H gd lv (exec (.For target iter body [] pos) env)) fs s := by
  rw [exec_For]
  refine seg_at ?_
  show Seg M A R Y n s₀ c (Sem.wrap K H gd lv (eval iter env >>= fun v => foldedSetIterable iter env v >>= fun x => (standAt iter.pos >>= fun _ => (holding [x] (pyIter x) >>= fun it => runOwn (.forLoop target it body [] env) env)))) fs s
  rw [Sem.bind_eq_wrap', Sem.wrap_wrap]
  refine seg_wrap (wpAny_mono h (fun x s1 h1 => ?_) fun x s' h' => h')
  rw [hs x]
  refine seg_at ?_
  show Seg M A R Y n s₀ c (Sem.wrap K H gd lv (holding [x] (pyIter x) >>= fun it => runOwn (.forLoop target it body [] env) env)) fs s1
  rw [Sem.bind_eq_wrap', Sem.wrap_wrap]
  refine seg_wrap (wpAny_holding (wpAny_mono h1 (fun it s2 h2 => ?_) fun x s' h' => h'))
  exact seg_call h2
end
theorem mem_pinsAt {fp : List Addr} {h : Heap} {p : Addr × Obj} (hp : p ∈ pinsAt fp h) : p.1 ∈ fp ∧ h.get? p.1 = some p.2 := by
  obtain ⟨b, hb, e⟩ := List.mem_filterMap.mp hp
  cases q : h.get? b with
  | none => rw [q] at e; cases e
  | some o => rw [q] at e; cases e; exact ⟨hb, q⟩
theorem pinsAt_mem {fp : List Addr} {h : Heap} {b : Addr} {o : Obj} (hb : b ∈ fp) (e : h.get? b = some o) : (b, o) ∈ pinsAt fp h :=
  List.mem_filterMap.mpr ⟨b, hb, by rw [e]; rfl⟩
end DY

/-! What runs where a generator sleeps that can't be woken runs alike where it could be: so it does not wake it. -/
namespace DY
open PySem
open Sem (wp)
/-- it looks alike, and can't be woken -/
def numb : GenState → GenState
  | .suspended _ l c p fs cl => .suspended (fun _ => .unsupported "") l c p (fs.map fun F => .ret (fun _ => .unsupported "") none false [] F.where_.1 F.where_.2 []) cl
  | y => y
def sleeps : GenState → Bool
  | .suspended .. => true
  | _ => false
theorem numb_seen (y : GenState) : (numb y).seen = y.seen := by
  cases y with
  | suspended k l c p fs cl =>
    simp only [numb, GenState.seen, List.map_map]
    congr 3
  | _ => rfl
theorem numb_bare (y : GenState) : (numb y).bare = y.bare := by cases y <;> rfl
def isG : Frame → Bool
  | .gen .. => true
  | _ => false
def CleanF (fs : List Frame) : Prop := ∀ F ∈ fs, isG F = false
def CleanS : GenState → Prop
  | .suspended _ _ _ _ fs _ => CleanF fs
  | _ => True
def CleanG (gens : Array GenState) : Prop := ∀ y ∈ gens, CleanS y
def CleanE : End → Prop
  | .susp _ _ _ _ _ _ fs => CleanF fs
  | .ret _ => True
theorem numb_clean (y : GenState) : CleanS (numb y) := by
  cases y with
  | suspended k l c p fs cl =>
    intro F hF
    obtain ⟨G, _, rfl⟩ := List.mem_map.mp hF
    rfl
  | _ => trivial
theorem clean_split {fs : List Frame} (h : CleanF fs) : splitAtGen fs = none := by
  induction fs with
  | nil => rfl
  | cons F fs ih =>
    cases F with
    | gen g k l c p => exact absurd (h _ List.mem_cons_self) (by simp [isG])
    | ret k h' g l c p kp =>
      have q := ih fun F hF => h F (List.mem_cons_of_mem _ hF)
      unfold splitAtGen
      rw [q]; rfl
theorem CleanE.state {e : End} (h : CleanE e) : CleanS e.genState := by
  cases e <;> first | trivial | exact h
theorem CleanG.set {gens : Array GenState} {g : Nat} {x : GenState} (h : CleanG gens) (hx : CleanS x) : CleanG (gens.setIfInBounds g x) := fun y hy => by
  rcases Array.mem_or_eq_of_mem_setIfInBounds hy with z | z
  · exact h y z
  · rw [z]; exact hx
theorem CleanG.push {gens : Array GenState} {x : GenState} (h : CleanG gens) (hx : CleanS x) : CleanG (gens.push x) := fun y hy => by
  rcases Array.mem_push.mp hy with z | z
  · exact h y z
  · rw [z]; exact hx
/-- the sleepers put back -/
def patchA (m : Nat → Option GenState) (gens : Array GenState) : Array GenState := gens.mapIdx fun i x => (m i).getD x
def patch (m : Nat → Option GenState) (s : Shared) : Shared := { s with gens := patchA m s.gens }
theorem patchA_get {m : Nat → Option GenState} {gens : Array GenState} (i : Nat) : (patchA m gens)[i]? = gens[i]?.map fun x => (m i).getD x := by
  unfold patchA; rw [Array.getElem?_mapIdx]
theorem patchA_size {m : Nat → Option GenState} {gens : Array GenState} : (patchA m gens).size = gens.size := by unfold patchA; simp
theorem patchA_push {m : Nat → Option GenState} {gens : Array GenState} {x : GenState} (h : m gens.size = none) : patchA m (gens.push x) = (patchA m gens).push x := by
  apply Array.ext_getElem?
  intro i
  rw [patchA_get, Array.getElem?_push, Array.getElem?_push, patchA_size, patchA_get]
  by_cases c : i = gens.size
  · rw [if_pos c, if_pos c]; subst c; simp [h]
  · rw [if_neg c, if_neg c]
theorem patchA_set {m : Nat → Option GenState} {gens : Array GenState} {g : Nat} {x : GenState} (h : m g = none) : patchA m (gens.setIfInBounds g x) = (patchA m gens).setIfInBounds g x := by
  apply Array.ext_getElem?
  intro i
  rw [patchA_get, Array.getElem?_setIfInBounds, Array.getElem?_setIfInBounds, patchA_size, patchA_get]
  by_cases c : g = i
  · subst c
    simp only [if_true]
    split <;> simp [h]
  · rw [if_neg c, if_neg c]
/-- what holds on the way -/
structure Kept (m : Nat → Option GenState) (gens : Array GenState) : Prop where
  cl : CleanG gens
  at' : ∀ i y, m i = some y → sleeps y = true ∧ gens[i]? = some (numb y)
theorem Kept.out {m : Nat → Option GenState} {gens : Array GenState} (h : Kept m gens) : m gens.size = none := by
  cases e : m gens.size with
  | none => rfl
  | some y =>
    have := (h.at' _ _ e).2
    rw [Array.getElem?_eq_none (Nat.le_refl _)] at this
    cases this
theorem Kept.free {m : Nat → Option GenState} {gens : Array GenState} (h : Kept m gens) {g : Nat} {x : GenState} (hg : gens[g]? = some x) (hx : ∀ y, sleeps y = true → x ≠ numb y) : m g = none := by
  cases e : m g with
  | none => rfl
  | some y =>
    obtain ⟨a, b⟩ := h.at' _ _ e
    rw [hg] at b
    injection b with b
    exact absurd b (hx y a)
theorem Kept.push {m : Nat → Option GenState} {gens : Array GenState} (h : Kept m gens) {x : GenState} (hx : CleanS x) : Kept m (gens.push x) := by
  refine ⟨h.cl.push hx, fun i y e => ?_⟩
  obtain ⟨a, b⟩ := h.at' i y e
  refine ⟨a, ?_⟩
  have lt : i < gens.size := (Array.getElem?_eq_some_iff.mp b).1
  rw [Array.getElem?_push, if_neg (Nat.ne_of_lt lt)]
  exact b
theorem Kept.set {m : Nat → Option GenState} {gens : Array GenState} (h : Kept m gens) {g : Nat} {x : GenState} (hg : m g = none) (hx : CleanS x) : Kept m (gens.setIfInBounds g x) := by
  refine ⟨h.cl.set hx, fun i y e => ?_⟩
  obtain ⟨a, b⟩ := h.at' i y e
  refine ⟨a, ?_⟩
  rw [Array.getElem?_setIfInBounds, if_neg (fun z => by subst z; rw [hg] at e; cases e)]
  exact b
theorem patch_get {m : Nat → Option GenState} {s : Shared} (h : Kept m s.gens) {g : Nat} {x : GenState} (hg : s.gens[g]? = some x) : ∃ y, (patch m s).gens[g]? = some y ∧ y.seen = x.seen := by
  show ∃ y, (patchA m s.gens)[g]? = some y ∧ _
  rw [patchA_get, hg]
  cases e : m g with
  | none => exact ⟨x, rfl, rfl⟩
  | some y =>
    obtain ⟨_, b⟩ := h.at' _ _ e
    rw [hg] at b
    injection b with b
    exact ⟨y, rfl, by rw [b, numb_seen]⟩
theorem patch_same {m : Nat → Option GenState} {s : Shared} {g : Nat} {x : GenState} (hg : s.gens[g]? = some x) (hm : m g = none) : (patch m s).gens[g]? = some x := by
  show (patchA m s.gens)[g]? = _
  rw [patchA_get, hg, hm]; rfl
theorem patch_setGen {m : Nat → Option GenState} {s : Shared} {g : Nat} {x : GenState} (hm : m g = none) : patch m (s.setGen g x) = (patch m s).setGen g x := by
  unfold patch Shared.setGen
  rw [patchA_set hm]
theorem runs_unsupported {M : Model} {Γ : Ctx} {p : Pos} {t : Sem PySem.Fin} {fs : List Frame} {s : Shared} {e : End} {s' : Shared} (h : Runs M Γ p t fs s e s') : ∀ w, t ≠ .unsupported w := by
  induction h <;> intro w z <;> first | (cases z; done) | (rename_i ih _; exact ih w z) | (rename_i ih; exact ih w z)
theorem numb_stuck {y : GenState} (hs : sleeps y = true) {k₀ : Resume → Sem PySem.Fin} {l₀ : List Value} {c₀ : Code} {p₀ : Pos} {fs : List Frame} {cl : Bool} (e : numb y = .suspended k₀ l₀ c₀ p₀ fs cl) (r : Resume) : k₀ r = .unsupported "" := by
  cases y with
  | suspended k l c p fs' cl' =>
    simp only [numb] at e
    injection e with e1
    rw [← e1]
  | _ => cases hs
theorem numb_sleeps {y : GenState} (hs : sleeps y = true) : sleeps (numb y) = true := by cases y <;> first | rfl | cases hs
theorem runs_patch {M : Model} {m : Nat → Option GenState} {Γ : Ctx} {p : Pos} {t : Sem PySem.Fin} {fs : List Frame} {s : Shared} {e : End} {s' : Shared} (h : Runs M Γ p t fs s e s') :
    CleanF fs → Kept m s.gens → CleanE e ∧ Kept m s'.gens ∧ Runs M Γ p t fs (patch m s) e (patch m s') := by
  have nil : CleanF [] := fun F hF => by cases hF
  induction h with
  | done => exact fun hf hk => ⟨trivial, hk, .done⟩
  | raise => exact fun hf hk => ⟨trivial, hk, .raise⟩
  | again q h ih => exact fun hf hk => let ⟨a, b, c⟩ := ih hf hk; ⟨a, b, .again q c⟩
  | rule h ih => exact fun hf hk => let ⟨a, b, c⟩ := ih hf hk; ⟨a, b, .rule c⟩
  | «at» h ih => exact fun hf hk => let ⟨a, b, c⟩ := ih hf hk; ⟨a, b, .at c⟩
  | load ho h ih => exact fun hf hk => let ⟨a, b, c⟩ := ih hf hk; ⟨a, b, .load ho c⟩
  | update ho h ih => exact fun hf hk => let ⟨a, b, c⟩ := ih hf hk; ⟨a, b, .update ho c⟩
  | loadIfAlive h ih => exact fun hf hk => let ⟨a, b, c⟩ := ih hf hk; ⟨a, b, .loadIfAlive c⟩
  | point h ih => exact fun hf hk => let ⟨a, b, c⟩ := ih hf hk; ⟨a, b, .point c⟩
  | alloc h ih => exact fun hf hk => let ⟨a, b, c⟩ := ih hf hk; ⟨a, b, .alloc c⟩
  | fresh h ih => exact fun hf hk => let ⟨a, b, c⟩ := ih hf hk; ⟨a, b, .fresh c⟩
  | ask h ih => exact fun hf hk => let ⟨a, b, c⟩ := ih hf hk; ⟨a, b, .ask c⟩
  | choose hn h ih => exact fun hf hk => let ⟨a, b, c⟩ := ih hf hk; ⟨a, b, .choose hn c⟩
  | os h ih => exact fun hf hk => let ⟨a, b, c⟩ := ih hf hk; ⟨a, b, .os c⟩
  | handled h ih => exact fun hf hk => let ⟨a, b, c⟩ := ih hf hk; ⟨a, b, .handled c⟩
  | genState hg h ih =>
    intro hf hk
    obtain ⟨a, b, c⟩ := ih hf hk
    obtain ⟨y, hy, es⟩ := patch_get hk hg
    exact ⟨a, b, .genState hy (by rw [es]; exact c)⟩
  | stack h ih => exact fun hf hk => let ⟨a, b, c⟩ := ih hf hk; ⟨a, b, .stack c⟩
  | thread h ih => exact fun hf hk => let ⟨a, b, c⟩ := ih hf hk; ⟨a, b, .thread c⟩
  | @newGen Γ p k s e s' c h ih =>
    intro hf hk
    obtain ⟨a, b, r⟩ := ih hf (hk.push (x := .fresh c) trivial)
    refine ⟨a, b, .newGen ?_⟩
    have e1 : (patch m s).gens.size = s.gens.size := patchA_size
    have e2 : patch m { s with gens := s.gens.push (.fresh c) } = { patch m s with gens := (patch m s).gens.push (.fresh c) } := by
      unfold patch
      rw [patchA_push hk.out]
    rw [e1, ← e2]
    exact r
  | call h1 h2 ih1 ih2 =>
    intro hf hk
    obtain ⟨_, b1, r1⟩ := ih1 nil hk
    obtain ⟨a, b, r2⟩ := ih2 hf b1
    exact ⟨a, b, .call r1 r2⟩
  | callSusp h ih =>
    intro hf hk
    obtain ⟨a, b, r⟩ := ih nil hk
    refine ⟨fun F hF => ?_, b, .callSusp r⟩
    rcases List.mem_append.mp hF with z | z
    · exact a F z
    · rw [List.mem_singleton.mp z]; rfl
  | yield => exact fun hf hk => ⟨nil, hk, .yield⟩
  | @resumeFresh Γ p g l k s c e₁ s₁ e s' hg h1 q h2 ih1 ih2 =>
    intro hf hk
    have hm : m g = none := hk.free hg fun y hs z => by have := numb_sleeps hs; rw [← z] at this; cases this
    have k1 : Kept m (s.setGen g .running).gens := hk.set hm trivial
    obtain ⟨a1, b1, r1⟩ := ih1 nil k1
    have k2 : Kept m (s₁.setGen g e₁.genState).gens := b1.set hm a1.state
    obtain ⟨a, b, r2⟩ := ih2 hf k2
    rw [patch_setGen hm] at r1 r2
    exact ⟨a, b, .resumeFresh (patch_same hg hm) r1 q r2⟩
  | @resumeSuspended Γ p g r l k s k₀ l₀ c₀ p₀ fs cl e₁ s₁ e s' hg h1 q h2 ih1 ih2 =>
    intro hf hk
    have hm : m g = none := by
      cases em : m g with
      | none => rfl
      | some y =>
        obtain ⟨hs, b⟩ := hk.at' _ _ em
        rw [hg] at b
        injection b with b
        exact absurd (numb_stuck hs b.symm r) (runs_unsupported h1 "")
    have cf : CleanF fs := hk.cl _ (Array.mem_of_getElem? hg)
    have k1 : Kept m (s.setGen g .running).gens := hk.set hm trivial
    obtain ⟨a1, b1, r1⟩ := ih1 cf k1
    have k2 : Kept m (s₁.setGen g e₁.genState).gens := b1.set hm a1.state
    obtain ⟨a, b, r2⟩ := ih2 hf k2
    rw [patch_setGen hm] at r1 r2
    exact ⟨a, b, .resumeSuspended (patch_same hg hm) r1 q r2⟩
  | resumeJustStarted hg hv h ih =>
    intro hf hk
    have hm := hk.free hg fun y hs z => by have := numb_sleeps hs; rw [← z] at this; cases this
    obtain ⟨a, b, r⟩ := ih hf hk
    exact ⟨a, b, .resumeJustStarted (patch_same hg hm) hv r⟩
  | @resumeThrowFresh g c s Γ p k x e s' l hg h ih =>
    intro hf hk
    have hm := hk.free hg fun y hs z => by have := numb_sleeps hs; rw [← z] at this; cases this
    obtain ⟨a, b, r⟩ := ih hf (hk.set hm trivial)
    rw [patch_setGen hm] at r
    exact ⟨a, b, .resumeThrowFresh (patch_same hg hm) r⟩
  | resumeRunning hg h ih =>
    intro hf hk
    have hm := hk.free hg fun y hs z => by have := numb_sleeps hs; rw [← z] at this; cases this
    obtain ⟨a, b, r⟩ := ih hf hk
    exact ⟨a, b, .resumeRunning (patch_same hg hm) r⟩
  | resumeFinished hg h ih =>
    intro hf hk
    have hm := hk.free hg fun y hs z => by have := numb_sleeps hs; rw [← z] at this; cases this
    obtain ⟨a, b, r⟩ := ih hf hk
    exact ⟨a, b, .resumeFinished (patch_same hg hm) r⟩
  | segRet h1 h2 ih1 ih2 =>
    intro hf hk
    obtain ⟨_, b1, r1⟩ := ih1 nil hk
    obtain ⟨a, b, r2⟩ := ih2 (fun F hF => hf F (List.mem_cons_of_mem _ hF)) b1
    exact ⟨a, b, .segRet r1 r2⟩
  | segGen h1 h2 ih1 ih2 => exact fun hf hk => absurd (hf _ List.mem_cons_self) (by simp [isG])
  | segSuspOut hs h ih =>
    intro hf hk
    obtain ⟨a, b, r⟩ := ih nil hk
    refine ⟨fun F hF => ?_, b, .segSuspOut hs r⟩
    rcases List.mem_append.mp hF with z | z
    · exact a F z
    · exact hf F z
  | segSuspGen hs h1 q h2 ih1 ih2 =>
    intro hf hk
    rw [clean_split hf] at hs
    cases hs
theorem wakes_patch {M : Model} {m : Nat → Option GenState} {Γ : Ctx} {p : Pos} {g : Nat} {r : Resume} {s : Shared} {res : GenResult} {s' : Shared} (h : Wakes M Γ p g r s res s') (hk : Kept m s.gens) :
    Kept m s'.gens ∧ Wakes M Γ p g r (patch m s) res (patch m s') := by
  have nil : CleanF [] := fun F hF => by cases hF
  unfold Wakes at h
  cases hg : s.gens[g]? with
  | none => rw [hg] at h; exact h.elim
  | some x =>
    rw [hg] at h
    have fr : sleeps x = false → m g = none := fun hx => hk.free hg fun y hs z => by have := numb_sleeps hs; rw [← z, hx] at this; cases this
    cases x with
    | fresh c =>
      have hm := fr rfl
      have hg' := patch_same hg hm
      cases r with
      | send v =>
        cases v with
        | none =>
          obtain ⟨e₁, s₁, hr, q, e1, e2⟩ := h
          obtain ⟨a, b, r1⟩ := runs_patch hr nil (hk.set hm trivial)
          rw [patch_setGen hm] at r1
          refine ⟨by rw [e2]; exact b.set hm a.state, ?_⟩
          unfold Wakes
          rw [hg']
          exact ⟨e₁, patch m s₁, r1, q, e1, by rw [e2, patch_setGen hm]⟩
        | _ =>
          obtain ⟨e1, e2⟩ := h
          subst e2
          refine ⟨hk, ?_⟩
          unfold Wakes
          rw [hg']
          exact ⟨e1, rfl⟩
      | throw x =>
        obtain ⟨e1, e2⟩ := h
        subst e2
        refine ⟨hk.set hm trivial, ?_⟩
        unfold Wakes
        rw [hg']
        exact ⟨e1, patch_setGen hm⟩
    | suspended kk ll cc pp fs cl =>
      obtain ⟨e₁, s₁, hr, q, e1, e2⟩ := h
      have hm : m g = none := by
        cases em : m g with
        | none => rfl
        | some y =>
          obtain ⟨hs, b⟩ := hk.at' _ _ em
          rw [hg] at b
          injection b with b
          exact absurd (numb_stuck hs b.symm r) (runs_unsupported hr "")
      have cf : CleanF fs := hk.cl _ (Array.mem_of_getElem? hg)
      obtain ⟨a, b, r1⟩ := runs_patch hr cf (hk.set hm trivial)
      rw [patch_setGen hm] at r1
      refine ⟨by rw [e2]; exact b.set hm a.state, ?_⟩
      unfold Wakes
      rw [patch_same hg hm]
      exact ⟨e₁, patch m s₁, r1, q, e1, by rw [e2, patch_setGen hm]⟩
    | running =>
      obtain ⟨e1, e2⟩ := h
      subst e2
      refine ⟨hk, ?_⟩
      unfold Wakes
      rw [patch_same hg (fr rfl)]
      exact ⟨e1, rfl⟩
    | finished =>
      obtain ⟨e1, e2⟩ := h
      subst e2
      refine ⟨hk, ?_⟩
      unfold Wakes
      rw [patch_same hg (fr rfl)]
      exact ⟨e1, rfl⟩
theorem wp_patch {α : Type} (M : Model) (m : Nat → Option GenState) (Γ : Ctx) (t : Sem α) : ∀ (Q : α → Pos → Shared → Prop) (E : Value → Pos → Shared → Prop) (p : Pos) (s : Shared), Kept m s.gens → wp M Γ t Q E p s →
    wp M Γ t (fun a p' s' => ∃ z, Kept m z.gens ∧ s' = patch m z ∧ Q a p' z) (fun e p' s' => ∃ z, Kept m z.gens ∧ s' = patch m z ∧ E e p' z) p (patch m s) := by
  have nil : CleanF [] := fun F hF => by cases hF
  induction t <;> intro Q E p s hn h
  case pure => exact ⟨s, hn, rfl, h⟩
  case raise => exact ⟨s, hn, rfl, h⟩
  case «at» q k ih => exact ih () Q E q s hn h
  case load a _ k ih => exact h.elim fun o z => ⟨o, z.1, ih o Q E p s hn z.2⟩
  case update a _ f k ih => exact ⟨h.1, ih () Q E p { s with heap := s.heap.update a f } hn h.2⟩
  case alloc o k ih => exact ih _ Q E p { s with heap := s.heap.push o } hn h
  case fresh k ih => exact ih _ Q E p { s with toks := s.toks + 1 } hn h
  case choose src n k ih => exact ⟨h.1, ih _ Q E p { s with drawn := s.drawn.bump src } hn h.2⟩
  case os q _ k ih => exact ih _ Q E p { s with os := (Os.step s.os q).1 } hn h
  case call c hd _ _ k ih =>
    obtain ⟨r, s', hr, h⟩ := h
    obtain ⟨_, b, r1⟩ := runs_patch hr nil hn
    exact ⟨r, patch m s', r1, ih r Q E p s' b h⟩
  case genState g k ih =>
    obtain ⟨st, hs, h⟩ := h
    obtain ⟨y, hy, es⟩ := patch_get hn hs
    exact ⟨y, hy, by rw [es]; exact ih _ Q E p s hn h⟩
  case newGen c k ih =>
    have e1 : (patch m s).gens.size = s.gens.size := patchA_size
    have e2 : patch m { s with gens := s.gens.push (.fresh c) } = { patch m s with gens := (patch m s).gens.push (.fresh c) } := by
      unfold patch
      rw [patchA_push hn.out]
    show wp M Γ (k (patch m s).gens.size) _ _ p { patch m s with gens := (patch m s).gens.push (.fresh c) }
    rw [e1, ← e2]
    exact ih _ Q E p _ (hn.push (x := .fresh c) trivial) h
  case resume g r _ k ih =>
    obtain ⟨res, s', hw, h⟩ := h
    obtain ⟨b, w1⟩ := wakes_patch hw hn
    exact ⟨res, patch m s', w1, ih res Q E p s' b h⟩
  all_goals first
    | exact h
    | (rename_i ih; exact ih () Q E p s hn h)
    | (rename_i ih; exact ih _ Q E p s hn h)
/-- the sleepers of a state -/
def slp (gens : Array GenState) : Nat → Option GenState := fun i => match gens[i]? with
  | some y => if sleeps y = true then some y else none
  | none => none
theorem kept_slp (gens : Array GenState) : Kept (slp gens) (gens.map numb) := by
  refine ⟨fun y hy => ?_, fun i y e => ?_⟩
  · obtain ⟨x, _, rfl⟩ := Array.mem_map.mp hy
    exact numb_clean x
  · unfold slp at e
    cases hg : gens[i]? with
    | none => rw [hg] at e; cases e
    | some x =>
      rw [hg] at e
      dsimp only at e
      split at e
      · rename_i hx
        cases e
        exact ⟨hx, by rw [Array.getElem?_map, hg]; rfl⟩
      · cases e
theorem patch_slp (s : Shared) : patch (slp s.gens) { s with gens := s.gens.map numb } = s := by
  show { s with gens := patchA (slp s.gens) (s.gens.map numb) } = s
  have e : patchA (slp s.gens) (s.gens.map numb) = s.gens := by
    apply Array.ext_getElem?
    intro i
    rw [patchA_get, Array.getElem?_map]
    cases hg : s.gens[i]? with
    | none => rfl
    | some x =>
      show some ((slp s.gens i).getD (numb x)) = some x
      unfold slp
      rw [hg]
      dsimp only
      split
      · rfl
      · rename_i hx
        cases x <;> first | rfl | exact absurd rfl hx
  rw [e]
/-- THE rule: what runs where none that sleeps can be woken leaves them asleep -/
theorem wpAny_asleep {α : Type} {M : Model} {A : Around} {t : Sem α} {Q : α → Shared → Prop} {s : Shared} (h : wpAny M A t Q (fun _ _ => False) { s with gens := s.gens.map numb }) :
    wpAny M A t (fun a s' => ∃ z, Q a z ∧ s' = { z with gens := s'.gens } ∧ (∀ y ∈ s'.gens, y ∈ s.gens ∨ y ∈ z.gens) ∧ ∀ (g : Nat) (y : GenState), s.gens[g]? = some y → sleeps y = true → s'.gens[g]? = some y) (fun _ _ => False) s := by
  intro Γ p hΓ
  have a := wp_patch M (slp s.gens) Γ t _ _ p { s with gens := s.gens.map numb } (kept_slp s.gens) (h Γ p hΓ)
  rw [patch_slp] at a
  refine Sem.wp_mono M Γ t (fun x p' s' ⟨z, hk, e, q⟩ => ?_) (fun e p' s' ⟨z, _, _, q⟩ => q) p s a
  subst e
  refine ⟨z, q, rfl, fun y hy => ?_, fun g y hg hy => ?_⟩
  · obtain ⟨i, hi⟩ := Array.getElem?_of_mem hy
    have hi : (patchA (slp s.gens) z.gens)[i]? = some y := hi
    rw [patchA_get] at hi
    cases hz : z.gens[i]? with
    | none => rw [hz] at hi; cases hi
    | some x =>
      rw [hz] at hi
      cases em : slp s.gens i with
      | none =>
        rw [em] at hi
        injection hi with hi
        subst hi
        exact .inr (Array.mem_of_getElem? hz)
      | some y' =>
        rw [em] at hi
        injection hi with hi
        have hi : y' = y := hi
        subst hi
        left
        unfold slp at em
        cases hg : s.gens[i]? with
        | none => rw [hg] at em; cases em
        | some x' =>
          rw [hg] at em
          dsimp only at em
          split at em
          · cases em; exact Array.mem_of_getElem? hg
          · cases em
  · have em : slp s.gens g = some y := by
      unfold slp; rw [hg]; exact if_pos hy
    obtain ⟨_, b⟩ := hk.at' g y em
    show (patchA (slp s.gens) z.gens)[g]? = _
    rw [patchA_get, b, em]; rfl
end DY

/-! A generator's body whose consumer may do what it likes between two turns. -/
namespace DY
open PySem PySem.Spec PyProof.Rows L2 GenW
/-- how many are out; what the consumer wants kept while the body runs -/
structure Gh where
  n : Nat
  ep : List (Addr × Obj)
/-- the consumer: the n-th thing comes; what must hold when the body is woken again -/
abbrev Yw := Nat → V → Hp → (Hp → Prop) → Prop
/-- at these places -/
def AtEA (EA : List Addr) (ep : List (Addr × Obj)) : Prop := ep.map (·.1) = EA
theorem AtEA.mem {EA : List Addr} {ep ep' : List (Addr × Obj)} (h : AtEA EA ep) (h' : AtEA EA ep') {p : Addr × Obj} (hp : p ∈ ep) : ∃ q ∈ ep', q.1 = p.1 := by
  have : p.1 ∈ ep'.map (·.1) := by rw [h', ← h]; exact List.mem_map.mpr ⟨p, hp, rfl⟩
  exact List.mem_map.mp this
/-- .. as they stood when it was woken -/
def EpOk (EA : List Addr) (s₀ : Shared) (ep : List (Addr × Obj)) : Prop := AtEA EA ep ∧ ∀ p ∈ ep, s₀.heap.get? p.1 = some p.2
def GYy (X : Cx) (EA : List Addr) (Yl : Yw) : Protocol := fun m s₀ v s kap =>
  ∃ (c : Gh) (x : V) (ip : List (Addr × Obj)) (σ : L2.St) (H : Hp) (k : Hp → Prop), m + 1 + c.n = sizeLine ∧ EpOk EA s₀ c.ep ∧ (∀ p ∈ ip, p.1 ∉ EA) ∧ RelV x v ∧ L2.Inv X (c.ep ++ ip) σ H s ∧ Yl c.n x H k ∧
    ∀ (ep' : List (Addr × Obj)) (H' : Hp) (s' : Shared), AtEA EA ep' → k H' → L2.Inv X (ep' ++ ip) σ H' s' → kap (.send .none) s'
def GRy (X : Cx) (EA : List Addr) (Q : Nat → VK) (F : Value → Shared → Prop) : GenEnd := fun m s₀ r s => match r with
  | .ok (.ret u) => ∃ (c : Gh) (v : V) (ip : List (Addr × Obj)) (σ : L2.St) (H : Hp), EpOk EA s₀ c.ep ∧ L2.Inv X (c.ep ++ ip) σ H s ∧ RelV v u ∧ Q c.n v H
  | .ok _ => False
  | .error e => F e s
structure GEndsY where
  nx : Nat → L2.St → Hp → Prop
  rt : Nat → VK
  bk : Nat → L2.St → Hp → Prop := fun _ _ _ => False
  ct : Nat → L2.St → Hp → Prop := fun _ _ _ => False
abbrev TGy := Yw → GEndsY → Nat → L2.St → Hp → Prop
def GEndsY.at (D : GEndsY) (n : Nat) : Ends := { nx := D.nx n, rt := D.rt n, bk := D.bk n, ct := D.ct n }
def GSPy (X : Cx) (EA : List Addr) (ip : List (Addr × Obj)) (D : GEndsY) (c : Gh) (f : Flow) (s : Shared) : Prop :=
  match f with
  | .next => ∃ σ H, L2.Inv X (c.ep ++ ip) σ H s ∧ D.nx c.n σ H
  | .brk => ∃ σ H, L2.Inv X (c.ep ++ ip) σ H s ∧ D.bk c.n σ H
  | .cont => ∃ σ H, L2.Inv X (c.ep ++ ip) σ H s ∧ D.ct c.n σ H
  | .ret u => ∃ v σ H, L2.Inv X (c.ep ++ ip) σ H s ∧ RelV v u ∧ D.rt c.n v H
structure GCy (X : Cx) (A : Around) (c : Code) (fs : List Frame) (gd : Bool → Bool) : Prop where
  over : A.over c fs = X.A
  split : splitAtGen fs = none
  bare : fs.any Frame.guarded = false
  gd : gd false = false
structure GKy (X : Cx) (EA : List Addr) (Yl : Yw) (ip : List (Addr × Obj)) (A : Around) (R : GenEnd) (c : Code) (fs : List Frame) (K : Flow → Sem PySem.Fin) (J : Value → Sem PySem.Fin) (D : GEndsY) : Prop where
  ok : ∀ (m : Nat) (h : Gh) (s₀ s : Shared) (f : Flow), m + h.n = sizeLine → EpOk EA s₀ h.ep → GSPy X EA ip D h f s → Seg (model X.prog X.w) A R (GYy X EA Yl) m s₀ c (K f) fs s
  exc : ∀ (m : Nat) (s₀ : Shared) (e : Value) (s : Shared), X.xe e s → Seg (model X.prog X.w) A R (GYy X EA Yl) m s₀ c (J e) fs s
structure GSy (X : Cx) (st : Stmt) (t : TGy) : Prop where
  run : ∀ (EA : List Addr) (Yl : Yw) (A : Around) (ip : List (Addr × Obj)) (R : GenEnd) (m : Nat) (h : Gh) (s₀ : Shared) (c : Code) (fs : List Frame) (K : Flow → Sem PySem.Fin) (J : Value → Sem PySem.Fin) (gd : Bool → Bool) (lv : List Value → List Value) (s : Shared) (σ : L2.St) (H : Hp) (D : GEndsY),
    GCy X A c fs gd → m + h.n = sizeLine → EpOk EA s₀ h.ep → (∀ p ∈ ip, p.1 ∉ EA) → GKy X EA Yl ip A R c fs K J D → L2.Inv X (h.ep ++ ip) σ H s → t Yl D h.n σ H →
    Seg (model X.prog X.w) A R (GYy X EA Yl) m s₀ c ((exec st X.env).wrap K J gd lv) fs s
structure GSsy (X : Cx) (st : List Stmt) (t : TGy) : Prop where
  run : ∀ (EA : List Addr) (Yl : Yw) (A : Around) (ip : List (Addr × Obj)) (R : GenEnd) (m : Nat) (h : Gh) (s₀ : Shared) (c : Code) (fs : List Frame) (K : Flow → Sem PySem.Fin) (J : Value → Sem PySem.Fin) (gd : Bool → Bool) (lv : List Value → List Value) (s : Shared) (σ : L2.St) (H : Hp) (D : GEndsY),
    GCy X A c fs gd → m + h.n = sizeLine → EpOk EA s₀ h.ep → (∀ p ∈ ip, p.1 ∉ EA) → GKy X EA Yl ip A R c fs K J D → L2.Inv X (h.ep ++ ip) σ H s → t Yl D h.n σ H →
    Seg (model X.prog X.w) A R (GYy X EA Yl) m s₀ c ((execs st X.env).wrap K J gd lv) fs s
section
variable {X : Cx} {rest : List Stmt} {st : Stmt}
def tPlainY (t : TS) : TGy := fun _ D n σ H => t (D.at n) σ H
theorem sp_gspy {EA : List Addr} {ip : List (Addr × Obj)} {s : Shared} {D : GEndsY} {h : Gh} {f : Flow} (z : SP X (h.ep ++ ip) (D.at h.n) f s) : GSPy X EA ip D h f s := by
  cases f with
  | next => exact z
  | brk => exact z
  | cont => exact z
  | ret u => exact z
theorem gsy_ps {t : TS} (hp : PS X st t) : GSy X st (tPlainY t) := by
  refine ⟨fun EA Yl A ip R m h s₀ c fs K J gd lv s σ H D g hn ha hp' k hI ht => ?_⟩
  refine seg_wrap ?_
  rw [g.over]
  exact wpAny_mono (hp.run _ s σ H (D.at h.n) hI ht) (fun f s' hs => k.ok m h s₀ s' f hn ha (sp_gspy hs)) fun x s' hx => k.exc m s₀ x s' hx
def tG0Y : TGy := fun _ D n σ H => D.nx n σ H
theorem gssy_nil : GSsy X [] tG0Y :=
  ⟨fun EA Yl A ip R m h s₀ c fs K J gd lv s σ H D g hn ha hp' k hI ht => seg_execs_nil (k.ok m h s₀ s .next hn ha ⟨σ, H, hI, ht⟩)⟩
def tGThenY (t u : TGy) : TGy := fun Yl D n σ H => t Yl { D with nx := fun n' σ' H' => u Yl D n' σ' H' } n σ H
theorem gssy_cons {t u : TGy} (a : GSy X st t) (b : GSsy X rest u) : GSsy X (st :: rest) (tGThenY t u) := by
  refine ⟨fun EA Yl A ip R m h s₀ c fs K J gd lv s σ H D g hn ha hp' k hI ht => ?_⟩
  refine seg_execs_cons ?_
  refine a.run EA Yl A ip R m h s₀ c fs _ J gd lv s σ H { D with nx := fun n' σ' H' => u Yl D n' σ' H' } g hn ha hp' ⟨fun m' h' s₀' s' f hn' ha' hs => ?_, k.exc⟩ hI ht
  cases f with
  | next =>
    obtain ⟨σ', H', I', q⟩ := hs
    exact b.run EA Yl A ip R m' h' s₀' c fs K J gd lv s' σ' H' D g hn' ha' hp' k I' q
  | brk => exact k.ok m' h' s₀' s' .brk hn' ha' hs
  | cont => exact k.ok m' h' s₀' s' .cont hn' ha' hs
  | ret u => exact k.ok m' h' s₀' s' (.ret u) hn' ha' hs
def tGYieldY (te : TE) : TGy := fun Yl D n σ H => n < sizeLine ∧ te σ H fun x H1 => Yl n x H1 fun H' => D.nx (n + 1) σ H'
theorem gsy_yield {e : Expr} {yp pos : Pos} {te : TE} (he : PE X e te) (hco : X.env.scope.isCoroutine = false := by rfl) (hi : interactive X.env = false := by rfl) : GSy X (.Expr (.Yield (some e) yp) pos) (tGYieldY te) := by
  refine ⟨fun EA Yl A ip R m h s₀ c fs K J gd lv s σ H D g hn ha hp' k hI ht => ?_⟩
  obtain ⟨hlt, ht⟩ := ht
  obtain ⟨m, rfl⟩ : ∃ m', m = m' + 1 := ⟨m - 1, by omega⟩
  refine seg_Expr_Yield g.split g.gd g.bare ?_ hco hi
  rw [g.over]
  refine wpAny_mono (he.run _ s σ H _ hI ht) (fun v s' hv => ?_) fun x s' hx => k.exc _ s₀ x s' hx
  intro kap hk
  obtain ⟨x, H1, I1, rv, q⟩ : ∃ x H1, L2.Inv X (h.ep ++ ip) σ H1 s' ∧ RelV x v ∧ _ := hv
  refine ⟨h, x, ip, σ, H1, _, hn, ha, hp', rv, I1, q, fun ep' H' s'' ha' hD I' => hk .none s'' ?_⟩
  exact k.ok m ⟨h.n + 1, ep'⟩ s'' s'' .next (by show m + (h.n + 1) = _; omega) ⟨ha', fun p hp => (I'.pin p (List.mem_append_right _ (List.mem_append_left _ hp))).1⟩ ⟨σ, H', I', hD⟩
theorem gcy_loop {A : Around} {c c' : Code} {fs : List Frame} {gd : Bool → Bool} {k : Result → Sem PySem.Fin} {l kp : List Value} {p : Pos} (g : GCy X A c fs gd) (hw : c'.weight = 0) (hu : c'.cUnits = 0) :
    GCy X A c' (.ret k none (gd false) l c p kp :: fs) id := by
  refine ⟨Eq.trans (over_loop hw hu) g.over, ?_, ?_, rfl⟩
  · have q := g.split
    unfold splitAtGen
    rw [q]; rfl
  · have q : (gd false || fs.any Frame.guarded) = (false || false) := congr (congrArg or g.gd) g.bare
    exact q
theorem segy_cameBack {EA : List Addr} {Yl : Yw} {ip : List (Addr × Obj)} {A : Around} {R : GenEnd} {c : Code} {fs : List Frame} {K : Flow → Sem PySem.Fin} {J : Value → Sem PySem.Fin} {gd : Bool → Bool} {lv : List Value → List Value} {D : GEndsY} {n : Nat} {s₀ s : Shared} {e : Value}
    (g : GCy X A c fs gd) (k : GKy X EA Yl ip A R c fs K J D) (h : cameBackBy (model X.prog X.w) X.A X.env X.xe e s) :
    Seg (model X.prog X.w) A R (GYy X EA Yl) n s₀ c (((Sem.raise e : Sem Flow).onRaise (cameBack X.env)).wrap K J gd lv) fs s := by
  have e2 : ((Sem.raise e : Sem Flow).onRaise (cameBack X.env)).wrap K J gd lv = ((cameBack X.env e).wrap _ _ _ _).wrap K J gd lv := congrArg (fun t : Sem Flow => t.wrap K J gd lv) (Sem.bind_eq_wrap (cameBack X.env e) fun _ => (Sem.raise e : Sem Flow))
  rw [e2, Sem.wrap_wrap]
  apply seg_wrap
  rw [g.over]
  exact wpAny_mono h (fun _ s' hx => k.exc n s₀ e s' hx) (k.exc n s₀)
def tGForY (wi : TI) (g : TG) (tb : TGy) : TGy := fun Yl D n σ H =>
  wi σ H fun J H1 => ∃ W : Nat → Nat → Nat → L2.St → Hp → Prop, (∃ m, W 0 m n σ H1) ∧ ∀ (i m : Nat) (n : Nat) (σ : L2.St) (H : Hp), W i m n σ H →
    (J.stop i H ∧ D.nx n σ H) ∨ (J.go i H ∧ ∃ N : Nat → L2.St → Hp → Prop, (∀ (n' : Nat) (σ' : L2.St) (H' : Hp), N n' σ' H' → ∃ m', m' < m ∧ W (i + 1) m' n' σ' H') ∧
      ∀ (x : V) (H' : Hp), J.yld i H x H' → g x σ H' fun σ2 H2 => tb Yl { nx := N, rt := D.rt, bk := D.nx, ct := N } n σ2 H2)
theorem gsy_for {tg iter : Expr} {body : List Stmt} {wi : TI} {g : TG} {tb : TGy} {pos : Pos} (hp : PassesOwn (model X.prog X.w) X.A X.env X.xe) (hc : X.calm = true)
    (hi : PI X tg iter wi) (hg : PG X tg g) (hb : GSsy X body tb) (hs : ∀ x : Value, foldedSetIterable iter X.env x = pure x := by intro x; rfl) : GSy X (.For tg iter body [] pos) (tGForY wi g tb) := by
  refine ⟨fun EA Yl A ip R n h0 s₀ c fs K J gd lv s σ H D gc hn ha hp' k hI ht => ?_⟩
  refine seg_For hs ?_
  rw [gc.over]
  refine wpAny_mono (hi.run (h0.ep ++ ip) s σ H _ hI ht) (fun v s1 h1 => ?_) fun x s' h' => k.exc n s₀ x s' h'
  refine wpAny_mono h1 (fun itv s2 h2 p => ?_) fun x s' h' => k.exc n s₀ x s' h'
  obtain ⟨it, fp, tn, Jt, H2, rfl, I2, T, st2, f2, W, ⟨m0, w0⟩, turn⟩ := h2
  have gl := fun kk => gcy_loop (X := X) (c' := .forLoop tg (.ref it) body [] X.env) (k := kk) (l := lv []) (kp := []) (p := p) gc rfl rfl
  have stat : ∀ {H' : Hp} {ep : List (Addr × Obj)}, AtEA EA ep → (∀ b ∈ fp, H' b = none) → ∀ b ∈ fp, FpOk X (ep ++ ip) H' b := fun {H' ep} he hn b hb => by
    obtain ⟨q1, q2, q3, q4, q5, q6⟩ := f2 b hb
    refine ⟨hn b hb, q2, q3, q4, q5, fun p hp => ?_⟩
    rcases List.mem_append.mp hp with y | z
    · exact q6 p (List.mem_append_left _ y)
    · rcases List.mem_append.mp z with z | z
      · obtain ⟨q, hq, e⟩ := he.mem ha.1 z
        rw [← e]
        exact q6 q (List.mem_append_right _ (List.mem_append_left _ hq))
      · exact q6 p (List.mem_append_right _ (List.mem_append_right _ z))
  suffices loop : ∀ (m i n : Nat) (h : Gh) (s₀ s : Shared) (σ : L2.St) (H : Hp), n + h.n = sizeLine → EpOk EA s₀ h.ep → W i m h.n σ H → L2.Inv X (h.ep ++ ip) σ H s → tn i s.heap → (∀ b ∈ fp, H b = none) →
      Seg (model X.prog X.w) A R (GYy X EA Yl) n s₀ (.forLoop tg (.ref it) body [] X.env) ((model X.prog X.w).den (.forLoop tg (.ref it) body [] X.env))
        (Frame.ret (fun r => Sem.wrap K J gd lv ((match r with
            | Except.ok f => Sem.pure f
            | Except.error e => Sem.raise e).onRaise (cameBack X.env))) none (gd false) (lv []) c p [] :: fs) s from
    loop m0 0 n h0 s₀ s2 σ H2 hn ha w0 I2 st2 fun b hb => (f2 b hb).1
  intro m
  induction m using Nat.strongRecOn with | ind m ih =>
  intro i n h s₀ s σ H hn ha' w I st fr
  have ee : ∀ (n : Nat) (s₀ : Shared) (x : Value) (s' : Shared), X.xe x s' → Seg (model X.prog X.w) A R (GYy X EA Yl) n s₀ (.forLoop tg (.ref it) body [] X.env) (turnErr X.env x)
      (Frame.ret (fun r => Sem.wrap K J gd lv ((match r with
            | Except.ok f => Sem.pure f
            | Except.error e => Sem.raise e).onRaise (cameBack X.env))) none (gd false) (lv []) c p [] :: fs) s' := fun n s₀ x s' hx => by
    refine seg_wrap ?_
    rw [(gl _).over]
    exact wpAny_bind (wpAny_mono (hp x s' hx) (fun _ s'' hcb => wpAny_theTreesLotGoes (seg_leaf (Except.error x) (segy_cameBack gc k hcb))) fun y s'' hcb => seg_leaf (Except.error y) (segy_cameBack gc k hcb))
  refine seg_forLoop ?_
  rw [(gl _).over]
  rcases turn i m h.n σ H w with ⟨stop, qn⟩ | ⟨go, N, hN, step⟩
  · refine wpAny_mono (T.done X rfl rfl rfl hc i _ s σ H X.xe I (stat ha'.1 fr) st stop) (fun r s4 h4 => ?_) fun x s' h' => ee n s₀ x s' h'
    obtain ⟨rfl, I4⟩ := h4
    refine seg_again rfl ?_
    exact seg_leaf (Except.ok Flow.next) (k.ok n h s₀ s4 Flow.next hn ha' ⟨σ, H, I4, qn⟩)
  · refine wpAny_mono (T.item X rfl rfl rfl hc i _ s σ H X.xe I (stat ha'.1 fr) st go) (fun r4 s4 h4 => ?_) fun x s' h' => ee n s₀ x s' h'
    obtain ⟨u, rfl, h4⟩ := h4
    refine wpAny_mono h4 (fun _ s5 h5 => ?_) fun x s' h' => ee n s₀ x s' h'
    obtain ⟨x, H5, I5, rx, yl, st5, fr5⟩ := h5
    have I6 : L2.Inv X (h.ep ++ (pinsAt fp s5.heap ++ ip)) σ H5 s5 := by
      refine I5.pins_of fun q hq => ?_
      have old : q ∈ h.ep ++ ip ∨ q ∈ pinsAt fp s5.heap := by
        rcases List.mem_append.mp hq with z | z
        · exact .inl (List.mem_append_left _ z)
        · rcases List.mem_append.mp z with z | z
          · exact .inr z
          · exact .inl (List.mem_append_right _ z)
      rcases old with z | z
      · exact I5.pin q (List.mem_append_right _ z)
      · obtain ⟨hb, e⟩ := mem_pinsAt z
        obtain ⟨o, e2, nc⟩ := T.obj (i + 1) s5.heap st5 q.1 hb
        rw [e] at e2; cases e2
        obtain ⟨_, q2, q3, _⟩ := f2 q.1 hb
        exact ⟨e, fr5 q.1 hb, q2, q3, nc⟩
    refine wpAny_mono (hg.run _ s5 σ H5 x u _ I6 rx (step x H5 yl)) (fun _ s6 h6 => ?_) fun x s' h' => ee n s₀ x s' h'
    obtain ⟨σ6, H6, I7, q7⟩ := h6
    have hip2 : ∀ p ∈ pinsAt fp s5.heap ++ ip, p.1 ∉ EA := fun q hq => by
      rcases List.mem_append.mp hq with z | z
      · intro hm
        obtain ⟨hb, _⟩ := mem_pinsAt z
        rw [← show h0.ep.map (·.1) = EA from ha.1] at hm
        obtain ⟨y, hy, e⟩ := List.mem_map.mp hm
        exact (f2 q.1 hb).2.2.2.2.2 y (List.mem_append_right _ (List.mem_append_left _ hy)) e
      · exact hp' q z
    have back : ∀ {ep : List (Addr × Obj)} {σ : L2.St} {H : Hp} {s : Shared}, L2.Inv X (ep ++ (pinsAt fp s5.heap ++ ip)) σ H s → L2.Inv X (ep ++ ip) σ H s := fun {ep σ H s} I => by
      refine I.pins_of fun q hq => I.pin q (List.mem_append_right _ ?_)
      rcases List.mem_append.mp hq with y | y
      · exact List.mem_append_left _ y
      · exact List.mem_append_right _ (List.mem_append_right _ y)
    refine hb.run EA Yl A (pinsAt fp s5.heap ++ ip) R n h s₀ _ _ _ _ id id s6 σ6 H6 { nx := N, rt := D.rt, bk := D.nx, ct := N } (gl _) hn ha' hip2 ⟨fun n' h' s₀' s3 f hn' ha3 hs' => ?_, fun n' s₀' e s' he => ee n' s₀' e s' he⟩ I7 q7
    have nxt : ∀ σ3 H3, L2.Inv X (h'.ep ++ (pinsAt fp s5.heap ++ ip)) σ3 H3 s3 → N h'.n σ3 H3 → Seg (model X.prog X.w) A R (GYy X EA Yl) n' s₀' (.forLoop tg (.ref it) body [] X.env) (.pure (.again (.forLoop tg (.ref it) body [] X.env))) (Frame.ret (fun r => Sem.wrap K J gd lv ((match r with
            | Except.ok f => Sem.pure f
            | Except.error e => Sem.raise e).onRaise (cameBack X.env))) none (gd false) (lv []) c p [] :: fs) s3 := fun σ3 H3 I3 n3 => by
      obtain ⟨m', hm, w3⟩ := hN h'.n σ3 H3 n3
      have at3 : ∀ b ∈ fp, ∀ o, s5.heap.get? b = some o → s3.heap.get? b = some o ∧ H3 b = none := fun b hb o e =>
        let z := I3.pin (b, o) (List.mem_append_right _ (List.mem_append_right _ (List.mem_append_left _ (pinsAt_mem hb e))))
        ⟨z.1, z.2.1⟩
      refine seg_again rfl (ih m' hm (i + 1) n' h' s₀' s3 σ3 H3 hn' ha3 w3 (back I3) ?_ ?_)
      · exact T.keep (i + 1) s5.heap s3.heap st5 fun b hb o e => (at3 b hb o e).1
      · intro b hb
        obtain ⟨o, e, _⟩ := T.obj (i + 1) s5.heap st5 b hb
        exact (at3 b hb o e).2
    cases f with
    | next =>
      obtain ⟨σ3, H3, I3, n3⟩ := hs'
      exact nxt σ3 H3 I3 n3
    | cont =>
      obtain ⟨σ3, H3, I3, n3⟩ := hs'
      exact nxt σ3 H3 I3 n3
    | brk =>
      obtain ⟨σ3, H3, I3, n3⟩ := hs'
      exact seg_leaf (Except.ok Flow.next) (k.ok n' h' s₀' s3 Flow.next hn' ha3 ⟨σ3, H3, back I3, n3⟩)
    | ret v =>
      obtain ⟨v3, σ3, H3, I3, rv, n3⟩ := hs'
      exact seg_leaf (Except.ok (Flow.ret v)) (k.ok n' h' s₀' s3 (Flow.ret v) hn' ha3 ⟨v3, σ3, H3, back I3, rv, n3⟩)
end
end DY

/-! Generators that are woken where no repr runs around. -/
namespace DY
open PySem PySem.Spec PyProof.Rows L2 GenW
section
variable {P : Program} {w : World} {K : PySem.W.Frag} {mg : Str → Option Value} {base : Heap} {k : Nat}
/-- room where a generator is woken; where it is drained -/
structure RW (k : Nat) (A : Around) : Prop where
  hd : A.handled = none
  dp : A.depth + 3 * k + 9 < recursionLimit
  un : A.units + 16 * k + 219 < cLine
theorem RW.deeper {k : Nat} {A : Around} (h : RW k A) (env : Env) : Room (k + 1) (A.deeper env) := ⟨h.hd, by have := h.dp; show A.depth + 1 + 3 * (k + 1) + 5 < _; omega, by have := h.un; show A.units + 3 + 16 * (k + 1) + 200 < _; omega⟩
theorem RW.depth {k : Nat} {A : Around} (h : RW k A) : A.depth < recursionLimit := by have := h.dp; omega
theorem RG.rw {k : Nat} {A : Around} (h : RG k A) : RW k A := ⟨h.hd, h.dp, by have := h.un; omega⟩
/-- what a call of a generator def gives; it is woken only where no repr runs around -/
def GMadeG (P : Program) (w : World) (k : Nat) (outer : List Env) (H : Hp) (s : Shared) (ex : List Addr) (Q : List V → Hp → Prop) (E : XK) (u : Value) (z : Shared) : Prop :=
  ∃ (a : Addr) (g : Nat) (c : Code), (u = .ref a ∧ s.heap.objs.size ≤ a ∧ a < z.heap.objs.size ∧ z.heap.IsGen a g) ∧ (z.gens[g]? = some (.fresh c) ∧ z.os = s.os ∧ AllBare z.gens ∧ z.heap.NoLimit) ∧ (∀ b o, s.heap.get? b = some o → z.heap.get? b = some o) ∧
    ∀ (A : Around) (S : Addr) (y : Shared), RW k A → A.guards = some [] → A.frames = some outer → z.heap.objs.size ≤ S → (∀ b o, z.heap.get? b = some o → y.heap.get? b = some o) → (∃ c, y.heap.get? S = some (lstObj #[] c)) → y.os = s.os → AllBare y.gens →
      Seg (model P w) A (REnd P w outer H s ex S a g Q E) (YItem s S a g) sizeLine y c ((model P w).den c) [] y
structure GFnG (P : Program) (w : World) (K : PySem.W.Frag) (mg : Str → Option Value) (base : Heap) (k : Nat) (f : Addr) (fd : FuncData) (ps : List Str) (sp : SpG) : Prop where
  len : ∀ vs H Q E, sp vs H Q E → vs.length = ps.length
  run : ∀ (A : Around) (outer : List Env) (s : Shared) (H : Hp) (args : Args) (us : List Value) (vs : List V) (Q : List V → Hp → Prop) (E : XK), RW k A → Env0 P w K mg base A outer s H → BindsTo s fd args (ps.zip us) → Vals vs us → sp vs H Q E →
    codeAny (model P w) A (.call (.ref f) args) (fun r z => match r with | .ok (.ret u) => GMadeG P w k outer H s [] Q E u z | _ => False) s
/-- THE RULE of a generator def -/
theorem gfnG_of {f : Addr} {fd : FuncData} {x qual : Str} {st : Stmt} {N ps : List Str} {sp : SpG} (F : Fun K x qual st f fd) (S : GScope N ps (defScope st)) (len : ∀ vs H Q E, sp vs H Q E → vs.length = ps.length)
    (hbody : ∀ (cdv : Value) (A : Around) (outer : List Env) (s : Shared) (H : Hp) (vs : List V) (Q : List V → Hp → Prop) (E : XK) (pn : List (Addr × Obj)), Room (k + 1) (A.deeper (envOfC qual (defScope st) s.heap.objs.size f cdv)) → A.guards = some [] → sp vs H Q E →
      ∃ t, GSs (gcxOf P w K mg base N qual (defScope st) f cdv A outer s H E pn) (defBody st) t ∧ t { nx := fun ys _ H' => Q ys H', rt := fun ys v H' => v = .non ∧ Q ys H' } [] (L2.start N vs) H) :
    GFnG P w K mg base k f fd ps sp := by
  refine ⟨len, fun A outer s H args us vs Q E hr e0 hb rv hsp => ?_⟩
  obtain ⟨oc, od, kV, doc, pm, an, cdv, ct, osl, rfl, lk, hcd⟩ := F.ex
  have hl := len _ _ _ _ hsp
  have noLim : s.heap.NoLimit := e0.mod.nolimit.keeps fun b o e => ((e0.bs b o e).1)
  have KX : K.In s.heap := e0.mod.kin.keeps fun b o e => ((e0.bs b o e).1)
  have kinds : ∀ y ∈ ps.zip us, (defScope st).names.lookup y.1 = some .local ∨ ((defScope st).names.lookup y.1 = some .cell ∧ ((cellsFrom (s.heap.objs.size + 1) (defScope st).names []).lookup y.1).isSome = true) := by
    rintro ⟨n, v⟩ hy
    rcases S.par n (List.of_mem_zip hy).1 with q | q
    · exact .inl q
    · exact .inr ⟨q, PySem.W.cellsFrom_some _ _ _ (.inl q)⟩
  refine codeAny_call_generator hr.depth (KX _ _ lk) rfl S.co S.gen rfl (PySem.W.codeRec_of KX hcd) (hb _ _ _ _ (wpAny_newFunctionEnv_cells S.kind kinds ?_))
  rintro env rfl s1 x1
  have lim1 : s1.heap.NoLimit := noLim.keeps x1.toInCall.keep
  refine ⟨lim1, ?_⟩
  obtain ⟨h1, tk, es1, hk1⟩ := x1.done
  have e1os : s1.os = s.os := by rw [es1]
  have e1gen : s1.gens = s.gens := by rw [es1]
  have lt1 : s.heap.objs.size < s1.heap.objs.size := x1.toInCall.ns.lt
  have kp1 : ∀ b o, s.heap.get? b = some o → s1.heap.get? b = some o := x1.toInCall.keep
  suffices main : ∀ (go : Obj) (nm qn : Value) (tk2 : Nat), go.cls = .type "generator" → go.data = .fields #[.int s1.gens.size 0, nm, qn] → go.slots = #[] → (∀ h : Heap, (h.push go).get? h.objs.size = some go) →
      GMadeG P w k outer H s [] Q E (.ref s1.heap.objs.size) { s1 with gens := s1.gens.push (.fresh (.func (defBody st) (envOfC qual (defScope st) s.heap.objs.size f cdv))), toks := tk2, heap := s1.heap.push go } from
    main _ _ _ _ rfl rfl rfl fun h => Heap.get?_push_size _ rfl
  intro go nm qn tk2 gcl gda gsl gpu
  have isG : ∀ h : Heap, h.get? s1.heap.objs.size = some go → h.IsGen s1.heap.objs.size s1.gens.size := fun h e => ⟨go, nm, qn, e, gcl, gda, gsl⟩
  have gAt : (s1.heap.push go).get? s1.heap.objs.size = some go := gpu _
  have gno : ∀ v, go.data ≠ .cell v := fun v q => nomatch gda.symm.trans q
  refine ⟨s1.heap.objs.size, s1.gens.size, _, ⟨rfl, Nat.le_of_lt lt1, by show _ < (s1.heap.push _).objs.size; rw [Heap.size_push]; exact Nat.lt_succ_self _, isG _ gAt⟩,
    ⟨Array.getElem?_push_size .., e1os, AllBare.push (by rw [e1gen]; exact e0.bare) rfl, lim1.keeps fun b o e => Heap.get?_push_of_some _ e⟩, fun b o e => Heap.get?_push_of_some _ (kp1 b o e), fun Aw Sx s2 hrw hgw hfr hSx hk2 hSo hos hba => ?_⟩
  obtain ⟨t, ht, hq⟩ := hbody cdv Aw outer s H vs Q E [(s1.heap.objs.size, go)] (hrw.deeper _) hgw hsp
  have I1 : L2.Inv (gcxOf P w K mg base N qual (defScope st) f cdv Aw outer s H E []) [] (L2.start N vs) H s1 := inv_startG S hrw.hd ⟨hfr, e0.mod, e0.bs, e0.bsz, e0.funs, e0.frf, e0.hok, e0.bare⟩ hl rv x1
  have kp2 : ∀ b o, s1.heap.get? b = some o → s2.heap.get? b = some o := fun b o e => hk2 b o (Heap.get?_push_of_some _ e)
  have I2 : L2.Inv (gcxOf P w K mg base N qual (defScope st) f cdv Aw outer s H E []) [] (L2.start N vs) H s2 := I1.call' (ch := []) (hos.trans e1os.symm) (Un.kept kp2) (I1.hok.kept kp2) hba fun b z => nomatch z
  have hSz : s1.heap.objs.size < Sx := Nat.lt_of_lt_of_le (Nat.lt_succ_self _) (by have z : (s1.heap.push go).objs.size ≤ Sx := hSx; rwa [Heap.size_push] at z)
  obtain ⟨cS, heS⟩ := hSo
  have young : ∀ b, s1.heap.objs.size ≤ b → (H b = none ∧ b ≠ s.heap.objs.size ∧ b ∉ frs outer) ∧ s.heap.objs.size ≤ b ∧ ∀ y c, (cellsFrom (s.heap.objs.size + 1) (defScope st).names []).lookup y = some c → c ≠ b := fun b hb => by
    refine ⟨⟨I1.hok.fresh hb, Nat.ne_of_gt (Nat.lt_of_lt_of_le lt1 hb), I1.nofs hb⟩, Nat.le_trans (Nat.le_of_lt lt1) hb, fun y c e z => ?_⟩
    obtain ⟨v, ob, ho, _⟩ := I1.cell y c e
    exact absurd (Nat.lt_of_lt_of_le (z ▸ Heap.lt_size ho) hb) (Nat.lt_irrefl _)
  have hG : GI (gcxOf P w K mg base N qual (defScope st) f cdv Aw outer s H E [(s1.heap.objs.size, go)]) Sx [] [] (L2.start N vs) H s2 := by
    refine ⟨#[], cS, .nil, I2.pinnedG fun p hp => ?_⟩
    rcases List.mem_append.mp hp with z | z <;> rw [List.mem_singleton.mp z]
    · obtain ⟨⟨y1, y2, y3⟩, _⟩ := young s1.heap.objs.size (Nat.le_refl _)
      exact ⟨hk2 _ go gAt, y1, y2, y3, gno⟩
    · obtain ⟨⟨y1, y2, y3⟩, _⟩ := young Sx (Nat.le_of_lt hSz)
      exact ⟨heS, y1, y2, y3, fun v q => nomatch q⟩
  have hAp : Apart (gcxOf P w K mg base N qual (defScope st) f cdv Aw outer s H E [(s1.heap.objs.size, go)]) Sx := let ⟨⟨_, y2, _⟩, y4, y5⟩ := young Sx (Nat.le_of_lt hSz); ⟨y4, y2, y5⟩
  have pinned : ∀ {ip : List (Addr × Obj)} {ys : List V} {z : Shared} {sg : L2.St} {H' : Hp}, GI (gcxOf P w K mg base N qual (defScope st) f cdv Aw outer s H E [(s1.heap.objs.size, go)]) Sx ip ys sg H' z → z.heap.IsGen s1.heap.objs.size s1.gens.size := by
    rintro ip ys z sg H' ⟨acc, cc, _, J⟩
    exact isG _ (J.pin (s1.heap.objs.size, go) (List.mem_append_left _ (List.mem_singleton.mpr rfl))).1
  refine seg_func (seg_imp (R := GR (gcxOf P w K mg base N qual (defScope st) f cdv Aw outer s H E [(s1.heap.objs.size, go)]) Sx (fun ys v H' => v = .non ∧ Q ys H') fun e z => CX P w outer H s E e z ∧ ∀ p ∈ [(s1.heap.objs.size, go)], z.heap.get? p.1 = some p.2)
    (Y := GY (gcxOf P w K mg base N qual (defScope st) f cdv Aw outer s H E [(s1.heap.objs.size, go)]) Sx) (fun n s0 r z hR => ?_) (fun n s0 v z kap kap' hkk hY => ?_) sizeLine ?_)
  · match r, hR with
    | .error e, hR => exact .inr ⟨e, rfl, hR.1, isG _ (hR.2 (s1.heap.objs.size, go) (List.mem_singleton.mpr rfl))⟩
    | .ok .next, hR => exact hR.elim
    | .ok .brk, hR => exact hR.elim
    | .ok .cont, hR => exact hR.elim
    | .ok (.ret u), hR =>
      obtain ⟨ys, v, ip, sg, H', hn, hI, rw0, rfl, hQ⟩ := hR
      cases (show u = Value.none from rw0)
      obtain ⟨a1, _, _, acc, cc, ra, ea⟩ := hI.at
      obtain ⟨_, _, _, J⟩ := hI
      exact .inl ⟨.inl rfl, H', ys, acc, cc, J.os, J.bare, J.base, J.hok, a1, ea, ra, by omega, hQ⟩
  · obtain ⟨ys, xx, ip, sg, H', hn, h2, hI, h3⟩ := hY
    have hg := pinned hI
    obtain ⟨_, _, _, acc, cc, ra, ea⟩ := hI.at
    obtain ⟨_, _, _, J⟩ := hI
    have hz : acc.size = ys.length := by rw [ra.length, Array.length_toList]
    exact ⟨J.os, J.bare, J.nolimit, hg, ⟨acc, cc, ea, by omega⟩, fun s' z => hkk _ _ (h3 s' z)⟩
  · refine ht.run Aw Sx [] _ sizeLine [] s2 _ [] _ _ id id s2 (L2.start N vs) H _ ⟨fun p hp => ?_, fun p hp => (by simp at hp), hAp, over_func, rfl, rfl, rfl⟩ (Nat.add_zero _) ⟨fun n ys s0 z fl hn hs => ?_, fun n s0 e z hx => seg_wrap ?_⟩ hG hq
    · rw [List.mem_singleton.mp hp]; exact Nat.ne_of_lt hSz
    · match fl, hs with
      | .next, ⟨sg, H', hI, hQ⟩ => exact seg_end (.ok (.ret .none)) ⟨ys, .non, [], sg, H', hn, hI, rfl, rfl, hQ⟩
      | .brk, ⟨_, _, _, q⟩ => exact q.elim
      | .cont, ⟨_, _, _, q⟩ => exact q.elim
      | .ret u, ⟨v, sg, H', hI, rv, ev, hQ⟩ => exact seg_end (.ok (.ret u)) ⟨ys, v, [], sg, H', hn, hI, rv, ev, hQ⟩
    · rw [over_func]
      exact wpAny_mono (show wpAny (model P w) (Aw.deeper (envOfC qual (defScope st) s.heap.objs.size f cdv)) (leaving (envOfC qual (defScope st) s.heap.objs.size f cdv) e) (fun _ z => CX P w outer H s E e z ∧ ∀ p ∈ [(s1.heap.objs.size, go)], z.heap.get? p.1 = some p.2) (fun _ _ => False) z from hx) (fun _ z q => seg_end (.error e) q) fun _ _ q => q.elim
end
/-! ### list(f(..)) of a generator def -/
section
variable {P : Program} {w : World} {outer : List Env} {H : Hp} {sc s : Shared} {ex : List Addr} {k : Nat} {A : Around}
end

abbrev SemG := List D → Store → Res (List D)
/-- the promise to hand out what F tells -/
def spG (g : Gd) (n : Nat) (F : SemG) : SpG := fun vs H Q E => vs.length = n ∧ ∃ Z r st ds, RepL g Z r H ds vs ∧ Rl g Z r H st ∧ Post g Z r H (RVs g Z) (F ds st) Q E
/-- none of these ends an iterator -/
def NoStops (K : PySem.W.Frag) (cl : ClsT) (cs : List Nat) : Prop := ∀ c ∈ cs, PySem.W.subIn K (exV ⟨K, cl⟩ c) (.type "StopIteration") = some false
theorem NoStops.nil {K : PySem.W.Frag} {cl : ClsT} : NoStops K cl [] := fun _ z => nomatch z
section
variable {X : Cx} {cl : ClsT} {W : WX} {k : Nat} {pins : List (Addr × Obj)} {sg : L2.St} {H1 : Hp} {s1 s2 : Shared} {Q : VK} {u : Value}
end
section
variable {X : Cx} {cl : ClsT} {W : WX} {k : Nat} {f : Addr} {fd : FuncData} {ps : List Str} {F : SemG} {x : Str} {e : Expr} {es : List Expr} {fs : SemA} {pos pos2 p p2 : Pos} {cs : List Nat}
end

/-! ### a generator's body on data -/
inductive GR where
  | nx (ys : List D) (env : DEnv) (st : Store)
  | er (e : Ex) (env : DEnv) (st : Store)
  | no
abbrev SemGS := List D → DEnv → Store → GR
def PostG (g : Gd) (Z r : List Addr) (H : Hp) (x : GR) (E : GEnds) (W : WX) : Prop := match x with
  | .nx ys env st => ∀ r' H' sg vs, Ext r H r' H' → Rl g Z r' H' st → EnvR g Z r' H' env sg → RepL g Z r' H' ys vs → E.nx vs sg H'
  | .er e _ st => ∀ r' H' sg cls d, Ext r H r' H' → Rl g Z r' H' st → RepX g Z r' H' e cls d → W cls d sg H'
  | .no => False
theorem PostG.ext {g : Gd} {Z r r1 : List Addr} {H H1 : Hp} {x : GR} {E : GEnds} {W : WX} (e : Ext r H r1 H1) (h : PostG g Z r H x E W) : PostG g Z r1 H1 x E W := by
  cases x with
  | nx ys env st => exact fun r' H' sg vs e' => h r' H' sg vs (e.trans e')
  | er x env st => exact fun r' H' sg c d e' => h r' H' sg c d (e.trans e')
  | no => exact h
def rdN (g : Gd) (W : WX) (f : SemGS) : TGn := fun E vs sg H => ∃ Z r env st ys, EnvR g Z r H env sg ∧ Rl g Z r H st ∧ RepL g Z r H ys vs ∧ PostG g Z r H (f ys env st) E W
structure SGS (X : Cx) (cl : ClsT) (W : WX) (s : Stmt) (f : SemGS) : Prop where
  run : GS X s (rdN ⟨X.K, cl⟩ W f)
structure SGB (X : Cx) (cl : ClsT) (W : WX) (s : List Stmt) (f : SemGS) : Prop where
  run : GSs X s (rdN ⟨X.K, cl⟩ W f)
section
variable {X : Cx} {cl : ClsT} {W : WX} {pos : Pos}
end
/-- a generator def's body as a function -/
def runG (n : Nat) (body : SemGS) : SemG := fun ds st => match body [] (ds.map some ++ List.replicate (n - ds.length) none) st with
  | .nx ys _ st' => .ok ys st'
  | .er e _ st' => .er e st'
  | .no => .no
/-- with its number of arguments -/
def arG (n : Nat) (F : SemG) : SemG := fun ds st => if ds.length = n then F ds st else .no
section
variable {P : Program} {w : World} {K : PySem.W.Frag} {mg : Str → Option Value} {base : Heap} {cl : ClsT} {k : Nat}
/-- where a generator's body runs -/
theorem DF.gen {N : List Str} {qual : Str} {scope : Scope} {f : Addr} {cdv : Value} {A : Around} {outer : List Env} {s : Shared} {H : Hp} {E : XK} {pn : List (Addr × Obj)} (hr : Room (k + 1) (A.deeper (envOfC qual scope s.heap.objs.size f cdv))) (hg : A.guards = some []) :
    DF (gcxOf P w K mg base N qual scope f cdv A outer s H E pn) (fun c d _ H' => E c d H') k := ⟨rfl, owns_gcx, takes_gcx, hr, deeper_guards hg⟩
def BodyGn (P : Program) (w : World) (K : PySem.W.Frag) (mg : Str → Option Value) (base : Heap) (cl : ClsT) (k : Nat) (N : List Str) (qual : Str) (st : Stmt) (body : SemGS) : Prop :=
  ∀ (f : Addr) (cdv : Value) (A : Around) (outer : List Env) (s : Shared) (H : Hp) (E : XK) (pn : List (Addr × Obj)), Room (k + 1) (A.deeper (envOfC qual (defScope st) s.heap.objs.size f cdv)) → A.guards = some [] →
    SGB (gcxOf P w K mg base N qual (defScope st) f cdv A outer s H E pn) cl (fun c d _ H' => E c d H') (defBody st) body
theorem BodyGn.fn {N ps : List Str} {x qual : Str} {st : Stmt} {f : Addr} {fd : FuncData} {body : SemGS} (h : BodyGn P w K mg base cl k N qual st body) (F : Fun K x qual st f fd) (S : GScope N ps (defScope st)) :
    GFnG P w K mg base k f fd ps (spG ⟨K, cl⟩ ps.length (arG ps.length (runG N.length body))) := by
  refine gfnG_of F S (fun vs H Q E h => h.1) fun cdv A outer s H vs Q E pn hr hg ⟨hl, Z, r, st, ds, qd, R, hq⟩ => ⟨_, (h f cdv A outer s H E pn hr hg).run, Z, r, _, st, [], start_env qd, R, rfl, ?_⟩
  unfold arG at hq
  rw [if_pos (by rw [qd.length]; exact hl)] at hq
  unfold runG at hq
  split at hq
  · rename_i ys env' st' hb
    rw [hb]
    exact fun r' H' sg vs e R' _ q => hq r' H' vs e R' q
  · rename_i x env' st' hb
    rw [hb]
    exact fun r' H' sg c d e R' q => hq r' H' c d e R' q
  · exact hq.elim
/-- a body that drains generators -/
def BodyDr (P : Program) (w : World) (K : PySem.W.Frag) (mg : Str → Option Value) (base : Heap) (cl : ClsT) (k : Nat) (N : List Str) (qual : Str) (st : Stmt) (body : SemS) : Prop :=
  ∀ (f : Addr) (cdv : Value) (A : Around) (outer : List Env) (s : Shared) (H : Hp) (E : XK), Room (k + 2) A → A.guards = some [] →
    SB (cxOf (L2.CX P w) P w K mg base N qual (defScope st) f cdv A outer s H E) cl (fun c d _ H' => E c d H') (defBody st) body
/-- the rule of a def, with the room told as it is around the call -/
theorem fnG_of2 {x qual : Str} {st : Stmt} {f : Addr} {fd : FuncData} {N ps : List Str} {body : SemS} (F : Fun K x qual st f fd) (S : FnScope N ps (defScope st))
    (hbody : ∀ (cdv : Value) (A : Around) (outer : List Env) (s : Shared) (H : Hp) (E : XK), Room (k + 1) A → A.guards = some [] → fd.code = cdv →
      SB (cxOf (L2.CX P w) P w K mg base N qual (defScope st) f cdv A outer s H E) cl (fun c d _ H' => E c d H') (defBody st) body) :
    FnG P w K mg base (k + 1) f fd ps (spF ⟨K, cl⟩ ps.length (runB N.length body)) := by
  refine ⟨fun vs H Q E h => h.1, fun A outer s H args us vs Q E hr hg e0 hb r h => ?_⟩
  obtain ⟨oc, od, kV, doc, pm, an, cdv, ct, osl, rfl, lk, hcd⟩ := F.ex
  obtain ⟨hlen, Z, ra, sta, ds, qd, R, h⟩ := h
  let X := cxOf (L2.CX P w) P w K mg base N qual (defScope st) f cdv A outer s H E
  have KX : K.In s.heap := e0.mod.kin.keeps fun b o e => (e0.bs b o e).1
  have lim : s.heap.NoLimit := e0.mod.nolimit.keeps fun b o e => (e0.bs b o e).1
  have hk : ∀ y ∈ ps.zip us, (defScope st).names.lookup y.1 = some .local ∨ ((defScope st).names.lookup y.1 = some .cell ∧ ((cellsFrom (s.heap.objs.size + 1) (defScope st).names []).lookup y.1).isSome = true) := by
    intro y hy
    obtain ⟨n, v⟩ := y
    rcases S.par n (List.of_mem_zip hy).1 with q | q
    · exact .inl q
    · exact .inr ⟨q, PySem.W.cellsFrom_some _ _ _ (.inl q)⟩
  refine codeAny_call_function hr.depth (KX _ _ lk) rfl S.co S.gen rfl (PySem.W.codeRec_of KX hcd) (hb _ _ _ _ ?_)
  refine wpAny_newFunctionEnv_cells S.kind hk fun env he s1 x1 => ?_
  subst he
  refine ⟨lim.keeps x1.toInCall.keep, codeAny_func ?_⟩
  have B := (hbody cdv A outer s H E hr hg rfl).run
  have I : L2.Inv X [] (L2.start N vs) H s1 := inv_start S hr.hd e0 hlen r x1
  have hq : rdS ⟨K, cl⟩ (fun c d _ H' => E c d H') body { nx := fun _ H' => Q .non H', rt := Q } (L2.start N vs) H := by
    refine ⟨Z, ra, _, sta, start_env qd, R, ?_⟩
    unfold runB at h
    split at h
    · rename_i env' st' hb'
      rw [hb']
      exact fun r' H' sg e R' _ => h r' H' .non e R' rfl
    · rename_i d st' hb'
      rw [hb']
      exact fun r' H' v e R' q => h r' H' v e R' q
    · rename_i e' env' st' hb'
      rw [hb']
      exact fun r' H' sg c d e R' _ q => h r' H' c d e R' q
    · exact h.elim
  refine wpAny_mono (B.run [] s1 (L2.start N vs) H _ I hq) (fun fl s' hs => ?_) fun e s' hs => hs
  cases fl with
  | ret u =>
    obtain ⟨v, sg', H', J, rv, q⟩ := hs
    exact ⟨v, H', J.os, J.bare, J.base, J.hok, rv, q⟩
  | next =>
    obtain ⟨sg', H', J, q⟩ := hs
    exact ⟨.non, H', J.os, J.bare, J.base, J.hok, rfl, q⟩
  | brk =>
    obtain ⟨_, _, _, q⟩ := hs
    exact False.elim q
  | cont =>
    obtain ⟨_, _, _, q⟩ := hs
    exact False.elim q
theorem BodyDr.fn {N ps : List Str} {x qual : Str} {st : Stmt} {f : Addr} {fd : FuncData} {body : SemS} (h : BodyDr P w K mg base cl k N qual st body) (F : Fun K x qual st f fd) (S : FnScope N ps (defScope st)) :
    FnG P w K mg base (k + 2) f fd ps (spF ⟨K, cl⟩ ps.length (runB N.length body)) :=
  fnG_of2 F S fun cdv A outer s H E hr hg _ => h f cdv A outer s H E hr hg
end
end DY

/-! What is gone does not come back; the next thing of a generator. -/
namespace DY
open PySem PySem.Spec PyProof.Rows L2 GenW
open Sem (wp)
/-- what is gone stays gone -/
def Gone (h h' : Heap) : Prop := h.objs.size ≤ h'.objs.size ∧ ∀ b, b < h.objs.size → h.get? b = none → h'.get? b = none
theorem Gone.refl (h : Heap) : Gone h h := ⟨Nat.le_refl _, fun _ _ e => e⟩
theorem Gone.trans {a b c : Heap} (x : Gone a b) (y : Gone b c) : Gone a c := ⟨Nat.le_trans x.1 y.1, fun z hz e => y.2 z (Nat.lt_of_lt_of_le hz x.1) (x.2 z hz e)⟩
theorem Gone.push (h : Heap) (o : Obj) : Gone h (h.push o) := by
  refine ⟨by rw [Heap.size_push]; exact Nat.le_succ _, fun b hb e => ?_⟩
  cases h with
  | mk objs l =>
    simp only [Heap.get?, Heap.push, Array.getElem?_push] at e ⊢
    rw [if_neg (fun z => Nat.lt_irrefl _ (by rw [z] at hb; exact hb))]
    exact e
theorem Gone.update {h : Heap} {a : Addr} (f : Obj → Obj) (ha : (h.get? a).isSome = true) : Gone h (h.update a f) := by
  refine ⟨?_, fun b hb e => ?_⟩
  · cases h with
    | mk objs l => simp [Heap.update]
  · have ne : a ≠ b := fun z => by rw [z, e] at ha; cases ha
    rw [Heap.get?_update_other _ _ ne]
    exact e
theorem runs_gone {M : Model} {Γ : PySem.Ctx} {p : Pos} {t : Sem PySem.Fin} {fs : List Frame} {s : Shared} {e : End} {s' : Shared} (h : Runs M Γ p t fs s e s') : Gone s.heap s'.heap := by
  induction h with
  | done => exact .refl _
  | raise => exact .refl _
  | again q h ih => exact ih
  | rule h ih => exact ih
  | «at» h ih => exact ih
  | load ho h ih => exact ih
  | update ho h ih => exact (Gone.update _ ho).trans ih
  | loadIfAlive h ih => exact ih
  | point h ih => exact ih
  | alloc h ih => exact (Gone.push _ _).trans ih
  | fresh h ih => exact ih
  | ask h ih => exact ih
  | choose hn h ih => exact ih
  | os h ih => exact ih
  | handled h ih => exact ih
  | genState hg h ih => exact ih
  | stack h ih => exact ih
  | thread h ih => exact ih
  | newGen h ih => exact ih
  | call h1 h2 ih1 ih2 => exact ih1.trans ih2
  | callSusp h ih => exact ih
  | yield => exact .refl _
  | resumeFresh hg h1 q h2 ih1 ih2 => exact Gone.trans ih1 ih2
  | resumeSuspended hg h1 q h2 ih1 ih2 => exact Gone.trans ih1 ih2
  | resumeJustStarted hg hv h ih => exact ih
  | resumeThrowFresh hg h ih => exact ih
  | resumeRunning hg h ih => exact ih
  | resumeFinished hg h ih => exact ih
  | segRet h1 h2 ih1 ih2 => exact Gone.trans ih1 ih2
  | segGen h1 h2 ih1 ih2 => exact Gone.trans ih1 ih2
  | segSuspOut hs h ih => exact ih
  | segSuspGen hs h1 q h2 ih1 ih2 => exact Gone.trans ih1 ih2
theorem codeAny_gone {M : Model} {A : Around} {c : Code} {R : Result → Shared → Prop} {s : Shared} (h : codeAny M A c R s) : codeAny M A c (fun r s' => Gone s.heap s'.heap ∧ R r s') s := fun Γ p h1 h2 =>
  let ⟨r, s', hr, q⟩ := h Γ p h1 h2
  ⟨r, s', hr, runs_gone hr, q⟩
/-- it goes on from where it sleeps -/
def GoesOn (M : Model) (A : Around) (R : GenEnd) (Y : Protocol) (n : Nat) (gs : GenState) (r : Resume) (s : Shared) : Prop := match n with
  | 0 => False
  | k + 1 => gs.Goes M A R Y k r s
theorem wpAny_wake {M : Model} {A : Around} {R : GenEnd} {Y : Protocol} {n : Nat} {E : Value → Shared → Prop} {s : Shared} {g : Nat} {gs : GenState}
    {r : Resume} {lv : List Value} {α : Type} {k : GenResult → Sem α} {Q : α → Shared → Prop} (at' : s.gens[g]? = some gs)
    (go : gs.Goes M A R Y n r (s.setGen g .running))
    (ends : ∀ x z, R n (s.setGen g .running) x z → wpAny M A (k (End.ret x).result) Q E (z.setGen g .finished))
    (gives : ∀ v z gs', gs'.bare = true → sleeps gs' = true → s.gens.size ≤ z.gens.size → Y (n - 1) (s.setGen g .running) v z (GoesOn M A R Y n gs') → wpAny M A (k (.yielded v)) Q E (z.setGen g gs')) :
    wpAny M A (.resume g r lv k) Q E s := by
  intro Γ p hΓ
  rw [Sem.wp_resume]
  have B : ∀ c, (Γ.wake c p).Woken A := fun c => hΓ.wake c p
  have after : ∀ e z, s.gens.size ≤ z.gens.size → SegEnd R Y n (Seg.next M A R Y n) (s.setGen g .running) e z → e.quiet = true ∧ wp M Γ (k e.result) (fun a _ s' => Q a s') (fun e _ s' => E e s') p (z.setGen g e.genState) := fun e z hz he => by
    cases e with
    | ret x => exact ⟨rfl, ends x z he Γ p hΓ⟩
    | susp v gg ll kk cc pp ff =>
      refine ⟨he.1, gives v z _ (End.bare_of_quiet he.1) rfl hz ?_ Γ p hΓ⟩
      cases n with
      | zero => exact he.2
      | succ m => exact he.2
  have gz : ∀ {Γ' : PySem.Ctx} {p' : Pos} {t' : Sem PySem.Fin} {fs' : List Frame} {e : End} {z : Shared}, Runs M Γ' p' t' fs' (s.setGen g .running) e z → s.gens.size ≤ z.gens.size := fun hr => by
    have := runs_gsz hr
    rwa [setGen_size] at this
  cases gs with
  | fresh c =>
    obtain ⟨rfl, hs⟩ := go
    obtain ⟨e, z, hr, he⟩ := seg_iff.mp hs (Γ.wake c p) p rfl (B c)
    exact ⟨_, _, by unfold Wakes; rw [at']; exact ⟨e, z, hr, (after e z (gz hr) he).1, rfl, rfl⟩, (after e z (gz hr) he).2⟩
  | suspended kk ll cc pp ff cl =>
    obtain ⟨e, z, hr, he⟩ := seg_iff.mp go (Γ.wake cc p) pp rfl (B cc)
    exact ⟨_, _, by unfold Wakes; rw [at']; exact ⟨e, z, hr, (after e z (gz hr) he).1, rfl, rfl⟩, (after e z (gz hr) he).2⟩
  | running => exact go.elim
  | finished => exact go.elim
section
variable {prog : Program} {w : World} {A : Around} {E : Value → Shared → Prop} {s : Shared} {a : Addr} {g n : Nat} {gs : GenState} {P : Nat → Shared → Result → Shared → Prop} {Y : Protocol}
/-- a new StopIteration, seen from outside -/
def Stopped (Z : Shared → Prop) (x : Value) (s' : Shared) : Prop := ∃ b o, x = .ref b ∧ s'.heap.get? b = some o ∧ o.cls = .type "StopIteration" ∧ Z s'
/-- a generator def's generator is woken: the next thing, or its end -/
theorem wake_genfun {Q : Value → Shared → Prop} {Z : Shared → Prop} (hh : A.handled = none) (hl : s.heap.NoLimit) (hg : s.heap.IsGen a g) (at' : s.gens[g]? = some gs) (go : gs.Goes (model prog w) A P Y n (.send .none) (s.setGen g .running))
    (hY : ∀ v z gs', gs'.bare = true → sleeps gs' = true → s.gens.size ≤ z.gens.size → Y (n - 1) (s.setGen g .running) v z (GoesOn (model prog w) A P Y n gs') → Q v (z.setGen g gs'))
    (hP : ∀ r z, P n (s.setGen g .running) r z → (r = .ok .next ∨ r = .ok (.ret .none)) ∧ ∀ h', (∀ b o, z.heap.get? b = some o → h'.get? b = some o) → Z { z.setGen g .finished with heap := h' })
    (room : ∀ {α : Type} {f : Unit → Sem α} {R : α → Shared → Prop} {E : Value → Shared → Prop}, wpAny (model prog w) A (f ()) R E s → wpAny (model prog w) A (roomToWake >>= f) R E s) :
    wpAny (model prog w) A (Builtin.Generator.genWake (.ref a) (.send .none)) (fun fin s' => ∃ v, fin = .done (.ret v) ∧ Q v s') (Stopped Z) s := by
  delta Builtin.Generator.genWake
  apply wpAny_bind
  apply wpAny_holding
  apply wpAny_genNumber hg
  apply wpAny_bind
  apply wpAny_genState at'
  cases gs with
  | running => exact go.elim
  | finished => exact go.elim
  | _ =>
    refine room (wpAny_wake at' go (fun x z hx => ?_) fun v z gs' hb hsl hz hv => wpAny_pure ⟨v, rfl, hY v z gs' hb hsl hz hv⟩)
    obtain ⟨hx, hp⟩ := hP x z hx
    rw [show (End.ret x).result = .returned .none by rcases hx with rfl | rfl <;> rfl]
    show wpAny _ _ ((newExc (.type "StopIteration") [] : Sem Value) >>= fun e => (raiseNew e : Sem PUnit) >>= _) _ _ _
    rw [← bind_assoc]
    exact wpAny_bind (DVw.raise_stop hh fun h' e oe keep he hc => ⟨e, oe, rfl, he, hc, hp h' keep⟩)
/-- the next thing of a generator def's generator -/
theorem wpAny_pyNext_genfun {Q : Option Value → Shared → Prop} (hh : A.handled = none) (hl : s.heap.NoLimit) (hroom : A.depth < recursionLimit) (hg : s.heap.IsGen a g) (hgs : s.gens[g]? = some gs) (hgo : gs.Goes (model prog w) A.in1 P Y n (.send .none) (s.setGen g .running))
    (hY : ∀ v s₁ gs', gs'.bare = true → sleeps gs' = true → s.gens.size ≤ s₁.gens.size → Y (n - 1) (s.setGen g .running) v s₁ (GoesOn (model prog w) A.in1 P Y n gs') → Q (some v) (s₁.setGen g gs'))
    (hP : ∀ r s₁, P n (s.setGen g .running) r s₁ → (r = .ok .next ∨ r = .ok (.ret .none)) ∧ ∀ h', (∀ b o, s₁.heap.get? b = some o → h'.get? b = some o) → Q none { s₁.setGen g .finished with heap := h' }) : wpAny (model prog w) A (pyNext (.ref a)) Q E s := by
  have body := wake_genfun (A := A.in1) (Q := fun v s' => Q (some v) s') (Z := Q none) hh hl hg hgs hgo hY hP fun h => wpAny_bind (wpAny_roomToWake hl hroom h)
  unfold pyNext
  apply wpAny_bind
  apply wpAny_attempt
  apply wpAny_callSpecial?_slot (name := Str.ofString "__next__") hg.typeIs slot_gen_next
  apply wpAny_call_entry slot_gen_next hg.typeIs entry_gen_next _ (args_gen_next _)
  exact wpAny_mono body (fun fin s' q => q.elim fun v z => ⟨v, z.1, wpAny_pure z.2⟩) fun x s' ⟨b, o, e, ho, hc, q⟩ => by
    subst e
    exact wpAny_bind (wpAny_isInstance (T := "StopIteration") (b := true) ⟨o, ho, hc⟩ isSubtype_stop (wpAny_pure q))
end
end DY

/-! A generator def whose consumer may do what it likes between two turns: what a call of it gives. -/
namespace DY
open PySem PySem.Spec PyProof.Rows L2 GenW
/-- what a generator's body promises: of its arguments, where it is woken first, the consumer, and what holds at the end -/
abbrev SpY := List V → Hp → Yw → (Nat → Hp → Prop) → Prop
abbrev nEx : XK := fun _ _ _ => False
/-- where a generator's body runs, nothing being raised -/
abbrev yCx (P : Program) (w : World) (K : PySem.W.Frag) (mg : Str → Option Value) (base : Heap) (N : List Str) (qual : Str) (scope : Scope) (f : Addr) (cdv : Value) (A : Around) (outer : List Env) (s : Shared) (H : Hp) (a : Addr) (go : Obj) : Cx :=
  gcxOf P w K mg base N qual scope f cdv A outer s H nEx [(a, go)]
/-- what a call gives -/
def GMadeY (P : Program) (w : World) (K : PySem.W.Frag) (mg : Str → Option Value) (base : Heap) (k : Nat) (outer : List Env) (H : Hp) (s : Shared) (vs : List V) (sp : SpY) (u : Value) (z : Shared) : Prop :=
  ∃ (N : List Str) (qual : Str) (scope : Scope) (f : Addr) (cdv : Value) (c : Code) (g : Nat) (a : Addr) (go : Obj) (nm qn : Value),
    (u = .ref a ∧ s.heap.objs.size < a ∧ z.heap.get? a = some go) ∧ (go.cls = .type "generator" ∧ go.data = .fields #[.int g 0, nm, qn] ∧ go.slots = #[]) ∧
    (z.gens[g]? = some (.fresh c) ∧ z.os = s.os ∧ AllBare z.gens ∧ z.heap.NoLimit) ∧ (∀ b o, s.heap.get? b = some o → z.heap.get? b = some o) ∧ cellsFrom (s.heap.objs.size + 1) scope.names [] = [] ∧ s.heap.objs.size < z.heap.objs.size ∧
    ∀ (A : Around), RW k A → A.guards = some [] → A.frames = some outer →
      L2.Inv (yCx P w K mg base N qual scope f cdv A outer s H a go) [] (L2.start N vs) H z ∧
      ∀ (EA : List Addr) (Yl : Yw) (Q : Nat → Hp → Prop) (y : Shared) (ep : List (Addr × Obj)) (H' : Hp), AtEA EA ep → L2.Inv (yCx P w K mg base N qual scope f cdv A outer s H a go) (ep ++ []) (L2.start N vs) H' y → sp vs H' Yl Q →
        Seg (model P w) A (GRy (yCx P w K mg base N qual scope f cdv A outer s H a go) EA (fun n v H' => v = .non ∧ Q n H') (fun e z => L2.CX P w outer H s nEx e z)) (GYy (yCx P w K mg base N qual scope f cdv A outer s H a go) EA Yl) sizeLine y c ((model P w).den c) [] y
structure GFnY (P : Program) (w : World) (K : PySem.W.Frag) (mg : Str → Option Value) (base : Heap) (k : Nat) (f : Addr) (fd : FuncData) (ps : List Str) (sp : SpY) : Prop where
  run : ∀ (A : Around) (outer : List Env) (s : Shared) (H : Hp) (args : Args) (us : List Value) (vs : List V), RW k A → Env0 P w K mg base A outer s H → BindsTo s fd args (ps.zip us) → Vals vs us → vs.length = ps.length →
    codeAny (model P w) A (.call (.ref f) args) (fun r z => match r with | .ok (.ret u) => GMadeY P w K mg base k outer H s vs sp u z | _ => False) s
theorem no_cells' : ∀ (names : List (Str × NameKind)) (acc : List (Str × Addr)) (n : Nat), (∀ y ∈ names, y.2 ≠ .cell) → cellsFrom n names acc = acc
  | [], _, _, _ => rfl
  | (y, kd) :: r, acc, n, h => by
    have e : (kd == NameKind.cell) = false := by
      have := h (y, kd) List.mem_cons_self
      cases kd <;> first | rfl | exact absurd rfl this
    rw [cellsFrom, e]
    exact no_cells' r acc n fun z hz => h z (List.mem_cons_of_mem _ hz)
theorem no_cells {names : List (Str × NameKind)} (h : ∀ y ∈ names, y.2 ≠ .cell) (n : Nat) : cellsFrom n names [] = [] := no_cells' names [] n h
/-- THE RULE of a generator def -/
theorem gfnY_of {P : Program} {w : World} {K : PySem.W.Frag} {mg : Str → Option Value} {base : Heap} {k : Nat} {f : Addr} {fd : FuncData} {x qual : Str} {st : Stmt} {N ps : List Str} {sp : SpY} (F : Fun K x qual st f fd) (S : GScope N ps (defScope st)) (hcl : ∀ y ∈ (defScope st).names, y.2 ≠ .cell)
    (hbody : ∀ (cdv : Value) (A : Around) (outer : List Env) (s : Shared) (H : Hp) (a : Addr) (go : Obj) (vs : List V) (H' : Hp) (Yl : Yw) (Q : Nat → Hp → Prop), Room (k + 1) (A.deeper (envOfC qual (defScope st) s.heap.objs.size f cdv)) → A.guards = some [] → sp vs H' Yl Q → vs.length = ps.length →
      ∃ t, GSsy (yCx P w K mg base N qual (defScope st) f cdv A outer s H a go) (defBody st) t ∧ t Yl { nx := fun n _ H' => Q n H', rt := fun n v H' => v = .non ∧ Q n H' } 0 (L2.start N vs) H') :
    GFnY P w K mg base k f fd ps sp := by
  refine ⟨fun A outer s H args us vs hr e0 hb rv hl => ?_⟩
  obtain ⟨oc, od, kw, dc, pm, an, cdv, ct, sl, rfl, lk, hcd⟩ := F.ex
  have nolim : s.heap.NoLimit := e0.mod.nolimit.keeps fun b o e => ((e0.bs b o e).1)
  have kx : K.In s.heap := e0.mod.kin.keeps fun b o e => ((e0.bs b o e).1)
  have cnil := no_cells hcl (s.heap.objs.size + 1)
  have kinds : ∀ y ∈ ps.zip us, (defScope st).names.lookup y.1 = some .local ∨ ((defScope st).names.lookup y.1 = some .cell ∧ ((cellsFrom (s.heap.objs.size + 1) (defScope st).names []).lookup y.1).isSome = true) := by
    rintro ⟨n, v⟩ hy
    exact (S.par n (List.of_mem_zip hy).1).elim .inl fun q => .inr ⟨q, PySem.W.cellsFrom_some _ _ _ (Or.inl q)⟩
  refine codeAny_call_generator hr.depth (kx _ _ lk) rfl S.co S.gen rfl (PySem.W.codeRec_of kx hcd) (hb _ _ _ _ (wpAny_newFunctionEnv_cells S.kind kinds ?_))
  rintro env rfl s1 x1
  have lim1 : s1.heap.NoLimit := nolim.keeps x1.toInCall.keep
  refine ⟨lim1, ?_⟩
  have lt1 : s.heap.objs.size < s1.heap.objs.size := x1.toInCall.ns.lt
  have kp1 : ∀ b o, s.heap.get? b = some o → s1.heap.get? b = some o := x1.toInCall.keep
  have o1 : s1.os = s.os ∧ s1.gens = s.gens := by
    obtain ⟨h1, tk, es1, hk1⟩ := x1.done
    rw [es1]; exact ⟨rfl, rfl⟩
  suffices main : ∀ (go : Obj) (nm qn : Value) (tk2 : Nat), go.cls = .type "generator" → go.data = .fields #[.int s1.gens.size 0, nm, qn] → go.slots = #[] → (∀ h : Heap, (h.push go).get? h.objs.size = some go) →
      GMadeY P w K mg base k outer H s vs sp (.ref s1.heap.objs.size) { s1 with gens := s1.gens.push (.fresh (.func (defBody st) (envOfC qual (defScope st) s.heap.objs.size f cdv))), toks := tk2, heap := s1.heap.push go } from
    main _ _ _ _ rfl rfl rfl fun h => Heap.get?_push_size _ rfl
  intro go nm qn tk2 gcl gda gsl gpu
  have goAt : (s1.heap.push go).get? s1.heap.objs.size = some go := gpu _
  have kp2 : ∀ b o, s1.heap.get? b = some o → (s1.heap.push go).get? b = some o := fun b o e => Heap.get?_push_of_some _ e
  have bare1 : AllBare (s1.gens.push (.fresh (.func (defBody st) (envOfC qual (defScope st) s.heap.objs.size f cdv)))) := AllBare.push (by rw [o1.2]; exact e0.bare) rfl
  refine ⟨N, qual, defScope st, f, cdv, _, s1.gens.size, s1.heap.objs.size, go, nm, qn, ⟨rfl, lt1, goAt⟩, ⟨gcl, gda, gsl⟩,
    ⟨Array.getElem?_push_size .., o1.1, bare1, lim1.keeps kp2⟩, fun b o e => kp2 b o (kp1 b o e), cnil, by show _ < (s1.heap.push go).objs.size; rw [Heap.size_push]; exact Nat.lt_succ_of_lt lt1, fun Aw hrw hgw hfr => ?_⟩
  have I1 : L2.Inv (gcxOf P w K mg base N qual (defScope st) f cdv Aw outer s H nEx []) [] (L2.start N vs) H s1 := inv_startG S hrw.hd ⟨hfr, e0.mod, e0.bs, e0.bsz, e0.funs, e0.frf, e0.hok, e0.bare⟩ hl rv x1
  have I2 : L2.Inv (gcxOf P w K mg base N qual (defScope st) f cdv Aw outer s H nEx []) [] (L2.start N vs) H { s1 with gens := s1.gens.push (.fresh (.func (defBody st) (envOfC qual (defScope st) s.heap.objs.size f cdv))), toks := tk2, heap := s1.heap.push go } :=
    I1.call' (ch := []) rfl (Un.kept kp2) (I1.hok.kept kp2) bare1 fun b z => nomatch z
  have off : H s1.heap.objs.size = none ∧ s1.heap.objs.size ≠ s.heap.objs.size ∧ s1.heap.objs.size ∉ frs outer := ⟨I1.hok.fresh (Nat.le_refl _), Nat.ne_of_gt lt1, I1.nofs (Nat.le_refl _)⟩
  have I3 : L2.Inv (yCx P w K mg base N qual (defScope st) f cdv Aw outer s H s1.heap.objs.size go) [] (L2.start N vs) H { s1 with gens := s1.gens.push (.fresh (.func (defBody st) (envOfC qual (defScope st) s.heap.objs.size f cdv))), toks := tk2, heap := s1.heap.push go } := by
    refine I2.pinnedG fun p hp => ?_
    rcases List.mem_append.mp hp with y | z
    · rw [show p = _ from List.mem_singleton.mp y]
      exact ⟨goAt, off.1, off.2.1, off.2.2, fun v q => nomatch gda.symm.trans q⟩
    · exact absurd (show p ∈ ([] : List (Addr × Obj)) from z) (by simp)
  refine ⟨I3, fun EA Yl Q y ep H' hEA J hsp => ?_⟩
  obtain ⟨t, ht, hq⟩ := hbody cdv Aw outer s H s1.heap.objs.size go vs H' Yl Q (hrw.deeper _) hgw hsp hl
  refine seg_func ?_
  refine ht.run EA Yl Aw [] _ sizeLine ⟨0, ep⟩ y _ [] _ _ id id y (L2.start N vs) H' _ ⟨over_func, rfl, rfl, rfl⟩ (Nat.add_zero _) ⟨hEA, fun p hp => (J.pin p (List.mem_append_right _ (List.mem_append_left _ hp))).1⟩ (fun p z => absurd z (by simp)) ⟨fun m h s0 z fl hn ha hs => ?_, fun m s0 e z hx => seg_wrap ?_⟩ J hq
  · match fl, hs with
    | .next, ⟨sg, H', hI, hQ⟩ => exact seg_end (.ok (.ret .none)) ⟨h, .non, [], sg, H', ha, hI, rfl, rfl, hQ⟩
    | .brk, ⟨_, _, _, q⟩ => exact q.elim
    | .cont, ⟨_, _, _, q⟩ => exact q.elim
    | .ret u, ⟨v, sg, H', hI, rv, ev, hQ⟩ => exact seg_end (.ok (.ret u)) ⟨h, v, [], sg, H', ha, hI, rv, ev, hQ⟩
  · rw [over_func]
    exact wpAny_mono (show wpAny (model P w) (Aw.deeper (envOfC qual (defScope st) s.heap.objs.size f cdv)) (leaving (envOfC qual (defScope st) s.heap.objs.size f cdv) e) (fun _ z => L2.CX P w outer H s nEx e z ∧ ∀ p ∈ [(s1.heap.objs.size, go)], z.heap.get? p.1 = some p.2) (fun _ _ => False) z from hx) (fun _ z q => seg_end (.error e) q.1) fun _ _ q => q.elim
end DY

/-! The consumer's block and the generator's body, turn by turn. -/
namespace DY
open PySem PySem.Spec PyProof.Rows L2 GenW
theorem inv_gens {X : Cx} {pins : List (Addr × Obj)} {σ : L2.St} {H : Hp} {s : Shared} {G : Array GenState} (I : L2.Inv X pins σ H s) (b : AllBare G) : L2.Inv X pins σ H { s with gens := G } :=
  I.call' (ch := []) rfl (Un.kept fun _ _ e => e) I.hok b fun _ z => nomatch z
theorem bare_map {G : Array GenState} (b : AllBare G) : AllBare (G.map numb) := fun y hy => by
  obtain ⟨x, hx, rfl⟩ := Array.mem_map.mp hy
  rw [numb_bare]; exact b x hx
theorem bare_set {G : Array GenState} {g : Nat} {x : GenState} (b : AllBare G) (hx : x.bare = true) : AllBare (G.setIfInBounds g x) := fun y hy => by
  rcases Array.mem_or_eq_of_mem_setIfInBounds hy with z | z
  · exact b y z
  · rw [z]; exact hx
/-- a step of the consumer's leaves the generator asleep -/
theorem step_asleep {α : Type} {M : Model} {A : Around} {t : Sem α} {Q : α → Shared → Prop} {s : Shared} {g : Nat} {gs : GenState} (hgs : s.gens[g]? = some gs) (hsl : sleeps gs = true) (hb : AllBare s.gens)
    (h : ∀ G, AllBare G → wpAny M A t (fun a z => AllBare z.gens ∧ ∀ G, AllBare G → Q a { z with gens := G }) (fun _ _ => False) { s with gens := G }) :
    wpAny M A t (fun a s' => Q a s' ∧ s'.gens[g]? = some gs ∧ AllBare s'.gens) (fun _ _ => False) s := by
  refine thnF (wpAny_asleep (h _ (bare_map hb))) fun a s' ⟨z, ⟨zb, q⟩, e, mem, kp⟩ => ?_
  have b : AllBare s'.gens := fun y hy => (mem y hy).elim (hb y) (zb y)
  refine ⟨?_, kp g gs hgs hsl, b⟩
  rw [e]
  exact q _ b
/-- how the two stand to one another -/
structure Pair (Xg Xb : Cx) (D : Addr) (fp : List Addr) : Prop where
  pr : Xg.prog = Xb.prog
  wo : Xg.w = Xb.w
  fs : Xg.fs = Xb.fs
  exg : Xg.ex = []
  exb : Xb.ex = fp
  cells : Xg.env.cells = []
  pnb : Xb.pn = []
  os : Xb.s_0.os = Xg.s_0.os
  hd : Xb.H_0 D = some (.lst [])
  up : ∀ b, b ≠ D → Xb.H_0 b = Xg.H_0 b
  dg : Xg.H_0 D = none
  dnew : Xg.s_0.heap.objs.size ≤ D
  fwd : ∀ b o, Xg.s_0.heap.get? b = some o → Xb.s_0.heap.get? b = some o
  bck : ∀ b o, Xb.s_0.heap.get? b = some o → b ≠ D → b ∉ fp → Xg.s_0.heap.get? b = some o
  fpn : ∀ b ∈ fp, Xg.s_0.heap.objs.size ≤ b
  cb : ∀ x c, Xb.env.cells.lookup x = some c → ∃ o, Xg.s_0.heap.get? c = some o ∧ Xg.H_0 c = none
section
variable {Xg Xb : Cx} {D : Addr} {fp : List Addr} {ep0 ep ip pins : List (Addr × Obj)} {σ σb : L2.St} {H0 H : Hp} {s0 s : Shared}
theorem Pair.nD (W : Pair Xg Xb D fp) {b : Addr} {o : Obj} (e : Xg.s_0.heap.get? b = some o) : b ≠ D ∧ b ∉ fp := by
  have l := Heap.lt_size e
  constructor <;> intro z
  · rw [z] at l; exact absurd (Nat.lt_of_lt_of_le l W.dnew) (Nat.lt_irrefl _)
  · exact absurd (Nat.lt_of_lt_of_le l (W.fpn b z)) (Nat.lt_irrefl _)
theorem Pair.un (W : Pair Xg Xb D fp) {h : Heap} (V : Un Xb.fs Xb.ex Xb.H_0 H Xb.s_0.heap h) : Un Xg.fs Xg.ex Xg.H_0 H Xg.s_0.heap h := by
  have nx : ∀ {b : Addr} {o : Obj}, Xg.s_0.heap.get? b = some o → b ∉ Xb.ex := fun {b o} e => by rw [W.exb]; exact (W.nD e).2
  refine ⟨fun b o e n hf _ => ?_, fun b o e n hf _ => ?_, fun b o e n _ => ?_, fun b o e _ => ?_, fun b xs e => ?_, fun b o u e => ?_, fun b ps e => ?_⟩
  · exact V.keep b o (W.fwd b o e) (by rw [W.up b (W.nD e).1]; exact n) (by rw [← W.fs]; exact hf) (nx e)
  · exact V.slot b o (W.fwd b o e) (by rw [W.up b (W.nD e).1]; exact n) (by rw [← W.fs]; exact hf) (nx e)
  · exact V.free b o (W.fwd b o e) (by rw [W.up b (W.nD e).1]; exact n) (nx e)
  · exact V.there b o (W.fwd b o e) (nx e)
  · exact V.tups b xs (by rw [W.up b (fun z => by rw [z, W.dg] at e; cases e)]; exact e)
  · exact V.frzs b o u (by rw [W.up b (fun z => by rw [z, W.dg] at e; cases e)]; exact e)
  · exact V.tbls b ps (by rw [W.up b (fun z => by rw [z, W.dg] at e; cases e)]; exact e)
/-- woken: the body's side, of the consumer's -/
theorem Pair.toG (W : Pair Xg Xb D fp) {oL : Obj} (IG : L2.Inv Xg (ep0 ++ ip) σ H0 s0) (hL0 : s0.heap.get? Xg.env.locals = some oL) (IB : L2.Inv Xb pins σb H s) (hL : (Xg.env.locals, oL) ∈ pins) (hpin : ∀ p ∈ Xg.pn ++ ip, p ∈ pins)
    (hep : ∀ p ∈ ep, s.heap.get? p.1 = some p.2 ∧ H p.1 = none ∧ p.1 ≠ Xg.env.locals ∧ p.1 ∉ Xg.fs ∧ ∀ v, p.2.data ≠ .cell v) : L2.Inv Xg (ep ++ ip) σ H s := by
  have pL := IB.pin _ (List.mem_append_right _ hL)
  have nc : ∀ x c, Xg.env.cells.lookup x = some c → False := fun x c e => by rw [W.cells] at e; cases e
  refine ⟨IG.ok, IB.os.trans W.os, IB.bare, W.un IB.base, ?_, fun x c e => (nc x c e).elim, pL.2.1, fun x c e => (nc x c e).elim, fun p hp => ?_, by rw [W.pr, W.wo]; exact IB.hok, IG.len⟩
  · obtain ⟨m, ⟨o, es, epp, ho, r⟩, hl⟩ := IG.loc
    rw [hL0] at ho
    cases ho
    refine ⟨m, ⟨oL, es, epp, pL.1, r⟩, fun i x v e1 e2 e3 => ?_⟩
    obtain ⟨u, ru, l⟩ := hl i x v e1 e2 e3
    refine ⟨u, ru, ?_⟩
    rcases l with l | ⟨_, c, e, _⟩
    · exact .inl l
    · exact (nc x c e).elim
  · have old : p ∈ Xg.pn ++ ip ∨ p ∈ ep := by
      rcases List.mem_append.mp hp with y | z
      · exact .inl (List.mem_append_left _ y)
      · rcases List.mem_append.mp z with z | z
        · exact .inr z
        · exact .inl (List.mem_append_right _ z)
    rcases old with z | z
    · have q := IB.pin p (List.mem_append_right _ (hpin p z))
      have q0 := IG.pin p (by
        rcases List.mem_append.mp z with y | y
        · exact List.mem_append_left _ y
        · exact List.mem_append_right _ (List.mem_append_right _ y))
      exact ⟨q.1, q.2.1, q0.2.2⟩
    · exact hep p z
/-- a turn is over: the consumer's side, of the body's -/
theorem Pair.fromG (W : Pair Xg Xb D fp) {oB : Obj} (IB : L2.Inv Xb pins σb H0 s0) (hB0 : s0.heap.get? Xb.env.locals = some oB) (IG : L2.Inv Xg (ep ++ ip) σ H s) (hB : (Xb.env.locals, oB) ∈ ep) {acc : List V} (hD : H D = some (.lst acc)) : L2.Inv Xb [] σb H s := by
  have pB := IG.pin _ (List.mem_append_right _ (List.mem_append_left _ hB))
  have nex : ∀ b, b ∉ Xg.ex := fun b z => by rw [W.exg] at z; cases z
  have cell : ∀ x c, Xb.env.cells.lookup x = some c → ∀ v, s0.heap.IsCell c v → s.heap.IsCell c v := fun x c e v ⟨o, ho, hd⟩ => by
    obtain ⟨oc, hc, nc⟩ := W.cb x c e
    obtain ⟨sl, e1⟩ := IB.base.any (W.fwd c oc hc) (by rw [W.up c (W.nD hc).1]; exact nc) (by rw [W.exb]; exact (W.nD hc).2)
    obtain ⟨sl', e2⟩ := IG.base.any hc nc (nex c)
    rw [ho] at e1
    cases e1
    exact ⟨_, e2, hd⟩
  have dD : ∃ o', s.heap.get? D = some o' := by
    have q := IG.hok D _ hD
    obtain ⟨_, its, n, _, e⟩ := q
    exact ⟨_, e⟩
  refine ⟨IB.ok, IG.os.trans W.os.symm, IG.bare, ⟨fun b o e n hf hx => ?_, fun b o e n hf hx => ?_, fun b o e n hx => ?_, fun b o e hx => ?_, fun b xs e => ?_, fun b o u e => ?_, fun b ps e => ?_⟩, ?_, fun x c e => ?_, pB.2.1, fun x c e => ?_, fun p hp => ?_, by rw [← W.pr, ← W.wo]; exact IG.hok, IB.len⟩
  · have nD : b ≠ D := fun z => by rw [z, W.hd] at n; cases n
    exact IG.base.keep b o (W.bck b o e nD (by rw [← W.exb]; exact hx)) (by rw [← W.up b nD]; exact n) (by rw [W.fs]; exact hf) (nex b)
  · have nD : b ≠ D := fun z => by rw [z, W.hd] at n; cases n
    exact IG.base.slot b o (W.bck b o e nD (by rw [← W.exb]; exact hx)) (by rw [← W.up b nD]; exact n) (by rw [W.fs]; exact hf) (nex b)
  · have nD : b ≠ D := fun z => by rw [z, W.hd] at n; cases n
    exact IG.base.free b o (W.bck b o e nD (by rw [← W.exb]; exact hx)) (by rw [← W.up b nD]; exact n) (nex b)
  · by_cases z : b = D
    · rw [z]; exact dD
    · exact IG.base.there b o (W.bck b o e z (by rw [← W.exb]; exact hx)) (nex b)
  · exact IG.base.tups b xs (by rw [← W.up b (fun z => by rw [z, W.hd] at e; cases e)]; exact e)
  · exact IG.base.frzs b o u (by rw [← W.up b (fun z => by rw [z, W.hd] at e; cases e)]; exact e)
  · exact IG.base.tbls b ps (by rw [← W.up b (fun z => by rw [z, W.hd] at e; cases e)]; exact e)
  · obtain ⟨m, ⟨o, es, epp, ho, r⟩, hl⟩ := IB.loc
    rw [hB0] at ho
    cases ho
    refine ⟨m, ⟨oB, es, epp, pB.1, r⟩, fun i x v e1 e2 e3 => ?_⟩
    obtain ⟨u, ru, l⟩ := hl i x v e1 e2 e3
    refine ⟨u, ru, ?_⟩
    rcases l with l | ⟨kd, c, e, z⟩
    · exact .inl l
    · exact .inr ⟨kd, c, e, cell x c e _ z⟩
  · obtain ⟨v, z⟩ := IB.cell x c e
    exact ⟨v, cell x c e v z⟩
  · obtain ⟨oc, hc, nc⟩ := W.cb x c e
    exact IG.base.free c oc hc nc (nex c)
  · rw [W.pnb] at hp
    exact absurd (show p ∈ ([] : List (Addr × Obj)) ++ [] from hp) (by simp)
end
end DY

/-! A list comprehension over a generator def's generator, with tests and items of any kind. -/
namespace DY
open PySem PySem.Spec PyProof.Rows L2 GenW
/-- an expression that makes a generator -/
structure PGenY (X : Cx) (iter : Expr) (k : Nat) (sp : SpY) (t : L2.St → Hp → (List V → Hp → Prop) → Prop) : Prop where
  run : ∀ (pins : List (Addr × Obj)) (s : Shared) (σ : L2.St) (H : Hp) (R : List V → Hp → Prop), L2.Inv X pins σ H s → t σ H R →
    wpAny (model X.prog X.w) X.A (eval iter X.env) (fun u z => ∃ vs s1 H1, L2.Inv X pins σ H1 s1 ∧ R vs H1 ∧ GMadeY X.prog X.w X.K X.mg X.base k X.stack H1 s1 vs sp u z ∧ Gone s1.heap z.heap) X.xe s
/-- the consumer's turn -/
def turnY (D : Addr) (g : TG) (tt : TT) (te : TE) (vs : List Nat) (σw : L2.St) : Yw := fun n x H k => (∃ acc, H D = some (.lst acc)) ∧ g x σw H fun σ2 H2 => wipe σ2 vs = σw ∧ tt σ2 H2 fun b H3 =>
  if b = true then te σ2 H3 fun y H4 => ∃ acc, H4 D = some (.lst acc) ∧ acc.length < sizeLine ∧ k (upd H4 D (.lst (acc ++ [y]))) else k H3
def tLcY (t : L2.St → Hp → (List V → Hp → Prop) → Prop) (sp : SpY) (g : TG) (tt : TT) (te : TE) (vs : List Nat) : TE := fun σ H Q => t σ H fun us H1 => ∀ D, H1 D = none →
  sp us (upd H1 D (.lst [])) (turnY D g tt te vs (wipe σ vs)) fun n H' => (∃ acc, H' D = some (.lst acc)) ∧ Q (.ref D) H'
/-- in the block of a comprehension, wherever it is laid -/
def OnBlk (X : Cx) (scope : Scope) (P : Cx → Prop) : Prop := ∀ (s : Shared) (H : Hp) (C : Addr) (l : List (Str × Addr)) (fp : List Addr), P (X.blk s H scope (compEnvC scope l C X.env) fp)
theorem free_has {X : Cx} {pins : List (Addr × Obj)} {s : Shared} {σ : L2.St} {H : Hp} {scope : Scope} {own : List (Str × Nat)} (I : L2.Inv X pins σ H s) (ok : BlkOk X.N X.env.scope scope own) (y : Str × NameKind) (hy : y ∈ scope.names) (e : y.2 = .free) : ∃ c, X.env.cells.lookup y.1 = some c :=
  (ok.free y hy e).elim (fun k => I.ok.has _ (.inl k)) fun k => I.ok.has _ (.inr k)
section
variable {X : Cx}
theorem lcY_core {pins : List (Addr × Obj)} {s : Shared} {σ : L2.St} {H : Hp} {Q : VK} {elt tg iter : Expr} {ifs : List Expr} {scope : Scope} {own : List (Str × Nat)} {pos pos' : Pos} {t : L2.St → Hp → (List V → Hp → Prop) → Prop} {g : TG} {tt : TT} {te : TE} {k : Nat} {sp : SpY} {use : Option (Value → Sem Unit)} {Qf : Value → Shared → Prop} (hc : X.calm = true) (hN : X.N.Nodup) (I : L2.Inv X pins σ H s) (hi : PGenY X iter k sp t) (ok : BlkOk X.N X.env.scope scope own)
    (hnc : ∀ y ∈ scope.names, y.2 ≠ .cell) (hrw : RW k X.A.in1) (hgu : X.A.in1.guards = some [])
    (hg : OnBlk X scope fun B => PG B tg g) (ht : OnBlk X scope fun B => PTs B ifs tt)
    (he : OnBlk X scope fun B => PE B elt te)
    (hs : ∀ x, foldedSetIterable iter X.env x = pure x) (h : tLcY t sp g tt te (own.map (·.2)) σ H Q)
    (hRR : ∀ D C s' m H', L2.Inv X pins σ H' s' → Q (.ref D) H' → s'.heap.Ns C m → FpOk X pins H' C → compPost (model X.prog X.w) X.A X.xe use Qf (.ref D) C (.ok .next) s') : wpAny (model X.prog X.w) X.A (comprehension (.ListComp elt [⟨tg, iter, ifs, 0⟩] scope pos) scope X.env pos' (newList []) false (eval iter X.env) use) Qf X.xe s := by
  have hfree := free_has I ok
  refine wpAny_comprehension_free (use := use) rfl hs (closure_ok hfree) ok.kind (fun y hy e => by rw [ok.uniq y hy, e]) (thn (hi.run pins s σ H _ I h) fun u z hz => ?_)
  obtain ⟨us, sc, Hc, Ic, hsp, gm, gone⟩ := hz
  obtain ⟨N, qual, gscope, f, cdv, c, gn, a, go, nm, qn, ⟨rfl, alt, hgo⟩, ⟨gcl, gda, gsl⟩, ⟨hgs, hos, hbz, hlz⟩, kp, cnil, szlt, wake⟩ := gm
  obtain ⟨I0, wk⟩ := wake X.A.in1 hrw hgu Ic.ok.frames
  refine wpAny_pyIter_gen ⟨go, nm, qn, hgo, gcl, gda, gsl⟩ ?_
  refine wpAny_newObj_type (newEnv_comp ?_) (Nat.zero_le _)
  have I2 : L2.Inv X pins σ Hc z := Ic.call' (ch := []) hos (Un.kept kp) (Ic.hok.kept kp) hbz fun b y => nomatch y
  generalize hD : z.heap.objs.size = D
  have hDc : Hc D = none := I2.hok.fresh (Nat.le_of_eq hD)
  have spD := hsp D hDc
  generalize hs3 : ({ z with heap := z.heap.push { cls := .type "list", data := .seq ([] : List Value).toArray } } : Shared) = s3
  have h3 : s3.heap = z.heap.push { cls := .type "list", data := .seq ([] : List Value).toArray } := by rw [← hs3]
  have kp3 : ∀ b o, z.heap.get? b = some o → s3.heap.get? b = some o := fun b o e => by rw [h3]; exact Heap.get?_push_of_some _ e
  have I3 : L2.Inv X pins σ (upd Hc D (.lst [])) s3 := by
    rw [← hs3]
    refine I2.laid (t' := z.toks) (fun b o e => Heap.get?_push_of_some _ e) (Nat.le_of_eq hD) ⟨Nat.zero_le _, [], 0, .nil, ?_⟩
    subst hD; exact Heap.get?_push_size _ rfl
  have sz3 : s3.heap.objs.size = D + 1 := by rw [h3, Heap.size_push, hD]
  obtain ⟨fp, hfp⟩ : ∃ fp : List Addr, ∀ b, b ∈ fp ↔ (sc.heap.objs.size ≤ b ∧ b < D) := ⟨(List.range D).filter fun b => decide (sc.heap.objs.size ≤ b), fun b => by simp [List.mem_filter, and_comm]⟩
  have f3 : ∀ b ∈ fp, FpOk X pins (upd Hc D (.lst [])) b ∧ b < s3.heap.objs.size := fun b hb => by
    obtain ⟨b1, b2⟩ := (hfp b).mp hb
    refine ⟨Ic.fpOk b1 ?_, by rw [sz3]; exact Nat.lt_succ_of_lt b2⟩
    rw [upd_ne (Nat.ne_of_lt b2)]
    exact Ic.hok.fresh b1
  have I4 := block_start (own := own) I3 ok hN f3
  have pg := hg s3 (upd Hc D (.lst [])) s3.heap.objs.size (cellsFrom (s3.heap.objs.size + 1) scope.names (cloFrom X.env.cells scope.names [])) fp
  have pt := ht s3 (upd Hc D (.lst [])) s3.heap.objs.size (cellsFrom (s3.heap.objs.size + 1) scope.names (cloFrom X.env.cells scope.names [])) fp
  have pe := he s3 (upd Hc D (.lst [])) s3.heap.objs.size (cellsFrom (s3.heap.objs.size + 1) scope.names (cloFrom X.env.cells scope.names [])) fp
  show codeAny _ _ (.compStart (.ListComp elt [⟨tg, iter, ifs, 0⟩] scope pos) 0 (.ref a) (.ref D) (compEnvC scope (cellsFrom (s3.heap.objs.size + 1) scope.names (cloFrom X.env.cells scope.names [])) s3.heap.objs.size X.env)) (compPost (model X.prog X.w) X.A X.xe use Qf (.ref D) s3.heap.objs.size) { s3 with heap := pushCells (s3.heap.push { cls := .type "dict", data := .dict #[] }) scope.names }
  have hcl : ∀ x c, (compEnvC scope (cellsFrom (s3.heap.objs.size + 1) scope.names (cloFrom X.env.cells scope.names [])) s3.heap.objs.size X.env).cells.lookup x = some c → ∃ o, sc.heap.get? c = some o ∧ Hc c = none := fun x c e => by
    have e1 : (compEnvC scope (cellsFrom (s3.heap.objs.size + 1) scope.names (cloFrom X.env.cells scope.names [])) s3.heap.objs.size X.env).cells = cloFrom X.env.cells scope.names [] := no_cells' _ _ _ hnc
    rw [e1] at e
    rcases cloFrom_mem (PySem.mem_of_lookup e) with hm | ⟨h1, rfl⟩
    · cases hm
    · obtain ⟨c', hc'⟩ := hfree _ h1 rfl
      rw [hc']
      obtain ⟨v, o, ho, _⟩ := Ic.cell _ _ hc'
      exact ⟨o, ho, Ic.freeC _ _ hc'⟩
  generalize hce : compEnvC scope (cellsFrom (s3.heap.objs.size + 1) scope.names (cloFrom X.env.cells scope.names [])) s3.heap.objs.size X.env = ce at I4 pg pt pe hcl ⊢
  have cL : ce.locals = s3.heap.objs.size := hce ▸ rfl
  generalize hH3 : upd Hc D (.lst []) = H3 at I3 I4 pg pt pe f3 spD
  have hD3 : H3 D = some (.lst []) := by rw [← hH3]; exact upd_same
  have up3 : ∀ b, b ≠ D → H3 b = Hc b := fun b hb => by rw [← hH3]; exact upd_ne hb
  generalize hs4 : (Shared.mk (pushCells (s3.heap.push { cls := .type "dict", data := .dict #[] }) scope.names) s3.gens s3.drawn s3.toks s3.os) = s4 at I4 ⊢
  have kp4 : ∀ b o, s3.heap.get? b = some o → s4.heap.get? b = some o := fun b o e => by rw [← hs4]; exact pushCells_keeps _ _ _ _ (Heap.get?_push_of_some _ e)
  have nfs : ∀ b, sc.heap.objs.size ≤ b → b ∉ frs X.stack := fun b hb hm => by
    obtain ⟨_, o, ho, _⟩ := I0.ok.funs.mem hm
    exact absurd (Nat.lt_of_lt_of_le (Heap.lt_size ho) hb) (Nat.lt_irrefl _)
  have kpz : ∀ b o, z.heap.get? b = some o → s4.heap.get? b = some o := fun b o e => kp4 b o (kp3 b o e)
  obtain ⟨mL, ⟨oL, esL, eppL, hoL, hdL, hrL⟩, _⟩ := id I0.loc
  have hoL : z.heap.get? sc.heap.objs.size = some oL := hoL
  obtain ⟨mB, ⟨oB4, esB, eppB, hoB, hdB, hrB⟩, _⟩ := id I4.loc
  have nLc : ∀ v, oL.data ≠ .cell v := fun v q => by rw [hdL] at q; cases q
  have W : Pair (yCx X.prog X.w X.K X.mg X.base N qual gscope f cdv X.A.in1 X.stack sc Hc a go) (X.blk s3 H3 scope ce fp) D fp := by
    refine ⟨rfl, rfl, rfl, rfl, rfl, cnil, rfl, ?_, hD3, up3, hDc, by rw [← hD]; exact Nat.le_of_lt szlt, fun b o e => kp3 b o (kp b o e), fun b o e n1 n2 => ?_, fun b hb => ((hfp b).mp hb).1, hcl⟩
    · show s3.os = sc.os
      rw [← hs3]; exact hos
    · show sc.heap.get? b = some o
      have e : s3.heap.get? b = some o := e
      have l3 : b < D + 1 := by rw [← sz3]; exact Heap.lt_size e
      have l1 : b < sc.heap.objs.size := by
        refine Nat.lt_of_not_le fun y => n2 ((hfp b).mpr ⟨y, ?_⟩)
        exact Nat.lt_of_le_of_ne (Nat.le_of_lt_succ l3) n1
      cases q : sc.heap.get? b with
      | none =>
        have dz := gone.2 b l1 q
        exfalso
        have : s3.heap.get? b = none := by
          rw [h3]
          exact (Gone.push z.heap _).2 b (Nat.lt_of_lt_of_le l1 gone.1) dz
        rw [this] at e; cases e
      | some o' =>
        have := kp3 b o' (kp b o' q)
        rw [this] at e
        exact e
  have ha : sc.heap.objs.size < a ∧ a < D := ⟨alt, by rw [← hD]; exact Heap.lt_size hgo⟩
  have LB : sc.heap.objs.size ≠ ce.locals := by rw [cL, sz3]; exact Nat.ne_of_lt (Nat.lt_succ_of_lt (Nat.lt_trans ha.1 ha.2))
  have aB : a ≠ ce.locals := by rw [cL, sz3]; exact Nat.ne_of_lt (Nat.lt_succ_of_lt ha.2)
  have ngo : ∀ v, go.data ≠ .cell v := fun v q => by rw [gda] at q; cases q
  have hepB : ∀ {pp : List (Addr × Obj)} {σb : L2.St} {H' : Hp} {s' : Shared} {oB : Obj}, L2.Inv (X.blk s3 H3 scope ce fp) pp σb H' s' → s'.heap.get? ce.locals = some oB →
      ∀ p ∈ [(ce.locals, oB)], s'.heap.get? p.1 = some p.2 ∧ H' p.1 = none ∧ p.1 ≠ sc.heap.objs.size ∧ p.1 ∉ frs X.stack ∧ ∀ v, p.2.data ≠ .cell v := fun {pp σb H' s' oB} I' e p hp => by
    rw [List.mem_singleton.mp hp]
    refine ⟨e, I'.free, LB.symm, nfs _ (by rw [cL, sz3]; exact Nat.le_of_lt (Nat.lt_succ_of_lt (Nat.lt_trans ha.1 ha.2))), fun v q => ?_⟩
    obtain ⟨m', ⟨o', es', epp', ho', hd', _⟩, _⟩ := I'.loc
    have ho' : s'.heap.get? ce.locals = some o' := ho'
    rw [e] at ho'
    cases ho'
    rw [hd'] at q; cases q
  -- the loop
  have loop : codeAny (model X.prog X.w) X.A (.compLoop (.ListComp elt [⟨tg, iter, ifs, 0⟩] scope pos) 0 (.ref a) (.ref D) ce) (compPost (model X.prog X.w) X.A X.xe use Qf (.ref D) s3.heap.objs.size) s4 := by
    refine compLoop_any (fun n s' => ∃ H', L2.Inv (X.blk s3 H3 scope ce fp) [] (wipe σ (own.map (·.2))) H' s' ∧ s'.heap.get? a = some go ∧ ∃ gs, s'.gens[gn]? = some gs ∧
      gs.Goes (model X.prog X.w) X.A.in1 (GRy (yCx X.prog X.w X.K X.mg X.base N qual gscope f cdv X.A.in1 X.stack sc Hc a go) [ce.locals] (fun n v H' => v = .non ∧ (∃ acc, H' D = some (.lst acc)) ∧ Q (.ref D) H') (fun e z => L2.CX X.prog X.w X.stack Hc sc nEx e z)) (GYy (yCx X.prog X.w X.K X.mg X.base N qual gscope f cdv X.A.in1 X.stack sc Hc a go) [ce.locals] (turnY D g tt te (own.map (·.2)) (wipe σ (own.map (·.2))))) n (.send .none) (s'.setGen gn .running)) ?_ sizeLine ?_
    · rintro n s5 ⟨H5, I5, ha5, gs, hgs5, hgo5⟩
      have one : ∀ {ep : List (Addr × Obj)}, EpOk [ce.locals] (s5.setGen gn .running) ep → ∃ oX, (ce.locals, oX) ∈ ep ∧ s5.heap.get? ce.locals = some oX := fun {ep} hE => by
        obtain ⟨h1, h2⟩ := hE
        cases ep with
        | nil => cases h1
        | cons p ps =>
          obtain ⟨b, o⟩ := p
          have h1 : b :: ps.map (·.1) = [ce.locals] := h1
          injection h1 with h1 _
          subst h1
          exact ⟨o, List.mem_cons_self, h2 _ List.mem_cons_self⟩
      refine wpAny_pyNext_genfun (I.ok.hd hc) I5.nolimit hrw.depth ⟨go, nm, qn, ha5, gcl, gda, gsl⟩ hgs5 hgo5 (fun v s6 gs' gb gsl' gz hy => ?_) (fun r s6 hr => ?_)
      · obtain ⟨cg, x, ip, σg, H6, kk, hn, hE, hip, rv, IG, ⟨⟨acc, hD6⟩, hturn⟩, hk⟩ := hy
        obtain ⟨oX, mX, eX⟩ := one hE
        have I6 := W.fromG I5 eX IG mX hD6
        have b6 : AllBare (s6.setGen gn gs').gens := bare_set IG.bare gb
        have I6g : L2.Inv (X.blk s3 H3 scope ce fp) [] (wipe σ (own.map (·.2))) H6 (s6.setGen gn gs') := inv_gens I6 b6
        obtain ⟨m6, ⟨o6, es6, ep6, ho6, hd6, _⟩, _⟩ := id IG.loc
        have ho6 : s6.heap.get? sc.heap.objs.size = some o6 := ho6
        have nLc6 : ∀ v, o6.data ≠ .cell v := fun v q => by rw [hd6] at q; cases q
        have gAt : (s6.setGen gn gs').gens[gn]? = some gs' := by
          show (s6.gens.setIfInBounds gn gs')[gn]? = _
          have l5 := (Array.getElem?_eq_some_iff.mp hgs5).1
          rw [Array.getElem?_setIfInBounds_self_of_lt (Nat.lt_of_lt_of_le l5 gz)]
        obtain ⟨gp, hgp⟩ : ∃ gp : List (Addr × Obj), gp = (sc.heap.objs.size, o6) :: ([(a, go)] ++ ip) := ⟨_, rfl⟩
        have I6p : L2.Inv (X.blk s3 H3 scope ce fp) gp (wipe σ (own.map (·.2))) H6 (s6.setGen gn gs') := I6g.pins_of fun p hp => by
          rw [hgp] at hp
          rcases List.mem_cons.mp hp with y | y
          · rw [y]
            exact ⟨ho6, IG.free, LB, nfs _ (Nat.le_refl _), nLc6⟩
          · have q : s6.heap.get? p.1 = some p.2 ∧ H6 p.1 = none ∧ p.1 ≠ sc.heap.objs.size ∧ p.1 ∉ frs X.stack ∧ ∀ v, p.2.data ≠ .cell v := IG.pin p (by
              rcases List.mem_append.mp y with y | y
              · exact List.mem_append_left _ y
              · exact List.mem_append_right _ (List.mem_append_right _ y))
            refine ⟨q.1, q.2.1, ?_, q.2.2.2.1, q.2.2.2.2⟩
            rcases List.mem_append.mp y with y | y
            · rw [List.mem_singleton.mp y]; exact aB
            · intro e
              exact hip p y (by rw [List.mem_singleton]; exact e)
        have fin : ∀ {s' : Shared} {H' : Hp} {σ8 : L2.St}, L2.Inv (X.blk s3 H3 scope ce fp) gp σ8 H' s' → wipe σ8 (own.map (·.2)) = wipe σ (own.map (·.2)) → kk H' → s'.gens[gn]? = some gs' →
            ∃ m, m < n ∧ ∃ H', L2.Inv (X.blk s3 H3 scope ce fp) [] (wipe σ (own.map (·.2))) H' s' ∧ s'.heap.get? a = some go ∧ ∃ gs, s'.gens[gn]? = some gs ∧
              gs.Goes (model X.prog X.w) X.A.in1 (GRy (yCx X.prog X.w X.K X.mg X.base N qual gscope f cdv X.A.in1 X.stack sc Hc a go) [ce.locals] (fun n v H' => v = .non ∧ (∃ acc, H' D = some (.lst acc)) ∧ Q (.ref D) H') (fun e z => L2.CX X.prog X.w X.stack Hc sc nEx e z)) (GYy (yCx X.prog X.w X.K X.mg X.base N qual gscope f cdv X.A.in1 X.stack sc Hc a go) [ce.locals] (turnY D g tt te (own.map (·.2)) (wipe σ (own.map (·.2))))) m (.send .none) (s'.setGen gn .running) := fun {s' H' σ8} I' hw8 hkk hg' => by
          obtain ⟨m', ⟨oB, es', epp', ho', hd', _⟩, _⟩ := id I'.loc
          have ho' : s'.heap.get? ce.locals = some oB := ho'
          have pa := I'.pin (a, go) (List.mem_append_right _ (by rw [hgp]; exact List.mem_cons_of_mem _ (List.mem_append_left _ List.mem_cons_self)))
          have J := W.toG (ep := [(ce.locals, oB)]) IG ho6 I' (by rw [hgp]; exact List.mem_cons_self) (fun p hp => by rw [hgp]; exact List.mem_cons_of_mem _ hp) (hepB I' ho')
          have q := hk [(ce.locals, oB)] H' (s'.setGen gn .running) rfl hkk (inv_gens J (bare_set I'.bare rfl))
          cases n with
          | zero => exact q.elim
          | succ m =>
            refine ⟨m, Nat.lt_succ_self m, H', (I'.pins_of (pins' := []) (fun p hp => absurd hp (by simp))).weak (by rw [← hw8, wipe_length]) (fun j v e => ?_), pa.1, gs', hg', q⟩
            rw [← hw8] at e
            exact (wipe_some e).1
        refine go_of (show (s6.setGen gn gs').heap.get? a = some go from (IG.pin (a, go) (List.mem_append_left _ List.mem_cons_self)).1) gcl gda (by decide) ?_
        refine thnF (step_asleep (Q := fun _ s' => ∃ σ' H', L2.Inv (X.blk s3 H3 scope ce fp) gp σ' H' s' ∧ (wipe σ' (own.map (·.2)) = wipe σ (own.map (·.2)) ∧ tt σ' H' fun b H3 => if b = true then te σ' H3 fun y H4 => (∃ acc, H4 D = some (.lst acc) ∧ acc.length < sizeLine ∧ kk (upd H4 D (.lst (acc ++ [y])))) else kk H3)) gAt gsl' b6 fun G hG => wpAny_mono (pg.run gp _ _ H6 x v _ (inv_gens I6p hG) rv hturn) (fun _ z ⟨σ', H', I', q⟩ => ⟨I'.bare, fun G' hG' => ⟨σ', H', inv_gens I' hG', q⟩⟩) fun _ _ y => y) fun _ s7 ⟨⟨σ8, H8, I8, hw8, q8⟩, g7, b7⟩ => ?_
        refine thnF (step_asleep (Q := fun (b : Bool) s' => ∃ H', L2.Inv (X.blk s3 H3 scope ce fp) gp σ8 H' s' ∧ (if b = true then te σ8 H' fun y H4 => (∃ acc, H4 D = some (.lst acc) ∧ acc.length < sizeLine ∧ kk (upd H4 D (.lst (acc ++ [y])))) else kk H')) g7 gsl' b7 fun G hG => wpAny_mono (pt.run gp _ σ8 H8 _ (inv_gens I8 hG) q8) (fun b z ⟨H', I', q⟩ => ⟨I'.bare, fun G' hG' => ⟨H', inv_gens I' hG', q⟩⟩) fun _ _ y => y) fun b s8 ⟨⟨H9, I9, q9⟩, g8, b8⟩ => ?_
        cases b with
        | false =>
          simp only [if_neg Bool.false_ne_true] at q9 ⊢
          exact fin I9 hw8 q9 g8
        | true =>
          simp only [if_true] at q9 ⊢
          refine thnF (step_asleep (Q := fun (w : Value) s' => ∃ yv H', L2.Inv (X.blk s3 H3 scope ce fp) gp σ8 H' s' ∧ RelV yv w ∧ (∃ acc, H' D = some (.lst acc) ∧ acc.length < sizeLine ∧ kk (upd H' D (.lst (acc ++ [yv]))))) g8 gsl' b8 fun G hG => wpAny_mono (pe.run gp _ σ8 H9 _ (inv_gens I9 hG) q9) (fun w z ⟨yv, H', I', r', q⟩ => ⟨I'.bare, fun G' hG' => ⟨yv, H', inv_gens I' hG', r', q⟩⟩) fun _ _ y => y) fun w s9 ⟨⟨yv, H10, I10, r10, acc', hD10, hz10, nx⟩, g9, b9⟩ => ?_
          refine thnF (step_asleep (Q := fun _ s' => L2.Inv (X.blk s3 H3 scope ce fp) gp σ8 (upd H10 D (.lst (acc' ++ [yv]))) s') g9 gsl' b9 fun G hG => app_ok (X := X.blk s3 H3 scope ce fp) (inv_gens I10 hG) hD10 hz10 r10 fun s11 I11 => ⟨I11.bare, fun G' hG' => inv_gens I11 hG'⟩) fun _ s10 ⟨I11, g10, b10⟩ => ?_
          exact fin I11 hw8 nx g10
      · cases r with
        | error e =>
          obtain ⟨_, _, _, _, _, _, _, _, _, _, _, _, q⟩ := hr
          exact q.elim
        | ok fl =>
          cases fl with
          | next => exact hr.elim
          | brk => exact hr.elim
          | cont => exact hr.elim
          | ret u =>
            obtain ⟨cg, v, ip, σg, H6, hE, IG, rv, rfl, ⟨acc, hD6⟩, hQ⟩ := hr
            cases (show u = Value.none from rv)
            refine ⟨.inr rfl, fun h' kh => ?_⟩
            obtain ⟨oX, mX, eX⟩ := one hE
            have I6 := W.fromG I5 eX IG mX hD6
            generalize hs7 : ({ s6.setGen gn .finished with heap := h' } : Shared) = s7
            have I6' : L2.Inv (X.blk s3 H3 scope ce fp) [] (wipe σ (own.map (·.2))) H6 s7 := by
              rw [← hs7]
              exact I6.call' (ch := []) rfl (Un.kept kh) (I6.hok.kept kh) (bare_set IG.bare rfl) fun b y => nomatch y
            have I7 : L2.Inv X pins σ H6 s7 := I3.call' (ch := fp) I6'.os I6'.base I6'.hok I6'.bare fun b hb => ⟨(f3 b hb).1.2.2.2.1, (f3 b hb).1.2.1, (f3 b hb).1.2.2.2.2.1, (f3 b hb).1.2.2.2.2.2⟩
            have nC : H6 s3.heap.objs.size = none := by
              have y : H6 ce.locals = none := I6'.free
              rw [cL] at y
              exact y
            obtain ⟨m, hn, _⟩ := I6'.loc
            have hn : s7.heap.Ns ce.locals m := hn
            rw [cL] at hn
            exact hRR D _ s7 m H6 I7 hQ hn (I3.fpOk (Nat.le_refl _) nC)
    · refine ⟨H3, I4, kpz _ _ hgo, .fresh c, ?_, rfl, ?_⟩
      · rw [← hs4, ← hs3]; exact hgs
      · have I4p : L2.Inv (X.blk s3 H3 scope ce fp) [(sc.heap.objs.size, oL), (a, go)] (wipe σ (own.map (·.2))) H3 s4 := I4.pins_of fun p hp => by
          rcases List.mem_cons.mp hp with y | y
          · rw [y]
            refine ⟨kpz _ _ hoL, ?_, LB, nfs _ (Nat.le_refl _), nLc⟩
            rw [up3 _ (Nat.ne_of_lt (Nat.lt_trans ha.1 ha.2))]
            exact I0.free
          · rw [List.mem_singleton.mp y]
            refine ⟨kpz _ _ hgo, ?_, aB, nfs _ (Nat.le_of_lt ha.1), ngo⟩
            rw [up3 _ (Nat.ne_of_lt ha.2)]
            exact (I0.pin (a, go) (List.mem_append_left _ List.mem_cons_self)).2.1
        have J := W.toG (ep := [(ce.locals, oB4)]) (ep0 := []) (ip := []) I0 hoL I4p List.mem_cons_self (fun p hp => List.mem_cons_of_mem _ (by have hp : p ∈ [(a, go)] ++ [] := hp; simpa using hp)) (hepB I4p hoB)
        exact wk [ce.locals] _ _ _ [(ce.locals, oB4)] H3 rfl (inv_gens J (bare_set I4.bare rfl)) spD
  exact codeAny_compStart_list loop (wpAny_pyIter_gen ⟨go, nm, qn, kpz _ _ hgo, gcl, gda, gsl⟩ loop)
theorem pe_lcY {elt tg iter : Expr} {ifs : List Expr} {scope : Scope} {own : List (Str × Nat)} {pos : Pos} {t : L2.St → Hp → (List V → Hp → Prop) → Prop} {g : TG} {tt : TT} {te : TE} {k : Nat} {sp : SpY} (hc : X.calm = true) (hN : X.N.Nodup) (hi : PGenY X iter k sp t) (ok : BlkOk X.N X.env.scope scope own)
    (hnc : ∀ y ∈ scope.names, y.2 ≠ .cell) (hrw : RW k X.A.in1) (hgu : X.A.in1.guards = some [])
    (hg : OnBlk X scope fun B => PG B tg g) (ht : OnBlk X scope fun B => PTs B ifs tt)
    (he : OnBlk X scope fun B => PE B elt te)
    (hs : ∀ x, foldedSetIterable iter X.env x = pure x := by intro _; rfl) : PE X (.ListComp elt [⟨tg, iter, ifs, 0⟩] scope pos) (tLcY t sp g tt te (own.map (·.2))) := by
  constructor
  intro pins s σ H Q I h
  rw [eval_ListComp]
  refine lcY_core hc hN I hi ok hnc hrw hgu hg ht he hs h fun D C s' m H' I' q hn fpk => ⟨m, hn, fun h'' sb => ?_⟩
  obtain ⟨g0, g1, g2, g3, g4, g5⟩ := fpk
  exact ⟨.ref D, H', I'.turned (t' := s'.toks) (fun b o hb e => (sb.2 b hb).trans e) g0 g1 g3 g4 g5, rfl, q⟩
/-- y = [..] on one line, y a local -/
theorem ps_setLcY {i : Nat} {y : Str} {py : Pos} {elt tg iter : Expr} {ifs : List Expr} {scope : Scope} {own : List (Str × Nat)} {pos spos : Pos} {t : L2.St → Hp → (List V → Hp → Prop) → Prop} {g : TG} {tt : TT} {te : TE} {k : Nat} {sp : SpY} (hc : X.calm = true) (hN : X.N.Nodup) (hy : X.N[i]? = some y) (hyl : X.env.scope.names.lookup y = some .local)
    (hsw : swapsWith (.ListComp elt [⟨tg, iter, ifs, 0⟩] scope pos) (some (.Name y py)) spos.line X.env = pure true) (hi : PGenY X iter k sp t) (ok : BlkOk X.N X.env.scope scope own)
    (hnc : ∀ y ∈ scope.names, y.2 ≠ .cell) (hrw : RW k X.A.in1) (hgu : X.A.in1.guards = some [])
    (hg : OnBlk X scope fun B => PG B tg g) (ht : OnBlk X scope fun B => PTs B ifs tt)
    (he : OnBlk X scope fun B => PE B elt te) (hs : ∀ x, foldedSetIterable iter X.env x = pure x := by intro _; rfl) :
    PS X (.Assign [.Name y py] (.ListComp elt [⟨tg, iter, ifs, 0⟩] scope pos) spos) (tAsg (tLcY t sp g tt te (own.map (·.2))) (gName i)) := by
  refine ⟨fun pins s σ H E I h => ?_⟩
  refine exec_Assign_Name_used _ _ _ _ hsw ▸ wpAny_bind (wpAny_standAt (wpAny_bind ?_))
  show wpAny _ X.A (do let _ ← comprehension (.ListComp elt [⟨tg, iter, ifs, 0⟩] scope pos) scope X.env (firstIterPos [⟨tg, iter, ifs, 0⟩] pos) (newList []) false (eval iter X.env) (some (assign (.Name y py) X.env))) _ _ _
  have h : tLcY t sp g tt te (own.map (·.2)) σ H (fun x H1 => gName i x σ H1 E.nx) := h
  refine wpAny_bind (thn (lcY_core (Qf := fun _ s' => SP X pins E .next s') hc hN I hi ok hnc hrw hgu hg ht he hs h fun L C s' m H' I' q hn fpk => ?_) fun _ s' hq => wpAny_pure (wpAny_pure hq))
  change wpAny (model X.prog X.w) X.A (assign (.Name y py) X.env (.ref L)) _ _ _
  apply wpAny_assign_Name
  apply store_ok2 (v := V.ref L) I' hN hy (.inl hyl) rfl _ (.inr hyl)
  rintro s2 I2 ⟨a, sb, ha⟩
  obtain ⟨g0, g1, g2, g3, g4, g5⟩ := fpk
  have ne : C ≠ a := by
    rcases ha with z | z
    · rw [z]; exact g1
    · exact fun e => g4 y a z e.symm
  refine ⟨m, hn.sameBut sb ne, fun h3 sb3 => ?_⟩
  exact ⟨_, H', I2.turned (t' := s2.toks) (fun b o hb e => (sb3.2 b hb).trans e) g0 g1 g3 g4 g5, q⟩
end
end DY

/-! A comprehension over a generator, with calls between its turns: on data. -/
namespace DY
open PySem PySem.Spec PyProof.Rows L2 GenW
/-- the store may have grown and turned, and what is at p; all else stands -/
structure ExtP (p : Addr) (r : List Addr) (H : Hp) (r' : List Addr) (H' : Hp) : Prop where
  pre : ∃ q, r' = r ++ q
  keep : ∀ a o, H a = some o → (∀ ps, o ≠ .tbl ps) → a ∉ r → a ≠ p → H' a = some o ∧ a ∉ r'
section
variable {g : Gd} {Z r r1 r2 rb : List Addr} {H H1 H2 Hb : Hp} {p : Addr}
theorem Ext.toP (e : Ext r H r1 H1) : ExtP p r H r1 H1 := ⟨e.pre, fun a o h t n _ => e.keep a o h t n⟩
theorem ExtP.refl : ExtP p r H r H := Ext.toP (Ext.refl r H)
theorem ExtP.trans (a : ExtP p r H r1 H1) (b : ExtP p r1 H1 r2 H2) : ExtP p r H r2 H2 := by
  obtain ⟨q1, e1⟩ := a.pre
  obtain ⟨q2, e2⟩ := b.pre
  refine ⟨⟨q1 ++ q2, by rw [e2, e1, List.append_assoc]⟩, fun x o h t n m => ?_⟩
  obtain ⟨h1, n1⟩ := a.keep x o h t n m
  exact b.keep x o h1 t n1 m
theorem ExtP.w (e : ExtP p r H r1 H1) (m : p ∈ Z) : ExtW Z r H r1 H1 := ⟨e.pre, fun a o h t n nz => e.keep a o h t n fun z => nz (z ▸ m)⟩
theorem ExtP.upd {o : HO} : ExtP p r H r (upd H p o) := ⟨⟨[], by simp⟩, fun a u h _ n m => ⟨by rw [upd_ne m]; exact h, n⟩⟩
theorem EnvR.toP {env : DEnv} {sg : L2.St} (E : EnvR g Z r H env sg) (e : ExtP p r H r1 H1) (m : p ∈ Z) : EnvR g Z r1 H1 env sg :=
  ⟨E.len, fun i d h => let ⟨v, a, b⟩ := E.at_ i d h; ⟨v, a, Rep.extV (e.w m) (Zs.refl Z H) d b⟩⟩
/-- how the body stands: at p the consumer's list -/
structure Bo (g : Gd) (Z : List Addr) (p : Addr) (rb : List Addr) (Hb : Hp) (r : List Addr) (H : Hp) (ys : List D) (st : Store) : Prop where
  mem : p ∈ Z
  ex : ExtP p rb Hb r H
  rl : Rl g Z r H st
  at' : ∃ vs, H p = some (.lst vs) ∧ RepL g Z r H ys vs
theorem Bo.ext {ys : List D} {st st1 : Store} (B : Bo g Z p rb Hb r H ys st) (e : Ext r H r1 H1) (R : Rl g Z r1 H1 st1) : Bo g Z p rb Hb r1 H1 ys st1 := by
  obtain ⟨vs, hp, q⟩ := B.at'
  exact ⟨B.mem, B.ex.trans e.toP, R, vs, (e.keep p _ hp nx_lst.1 (B.rl.z p B.mem).1).1, RepL.ext e ys q⟩
end
/-- the consumer, on data: what came so far, the thing, the store -/
abbrev Cy := List D → D → Store → Option (List D × Store)
inductive GYr where
  | nx (n : Nat) (ys : List D) (env : DEnv) (st : Store)
  | no
abbrev SemGy := Cy → Nat → List D → DEnv → Store → GYr
def YOk (g : Gd) (Z : List Addr) (p : Addr) (rb : List Addr) (Hb : Hp) (C : Cy) (Yl : Yw) : Prop :=
  ∀ n r H st ys x y k ys2 st2, Bo g Z p rb Hb r H ys st → Rep g Z r H y x → C ys y st = some (ys2, st2) → (∀ r' H', ExtP p r H r' H' → Bo g Z p rb Hb r' H' ys2 st2 → k H') → Yl n x H k
def PostGy (g : Gd) (Z : List Addr) (p : Addr) (rb : List Addr) (Hb : Hp) (r : List Addr) (H : Hp) (x : GYr) (E : GEndsY) : Prop := match x with
  | .nx n ys env st => ∀ r' H' σ, ExtP p r H r' H' → Bo g Z p rb Hb r' H' ys st → EnvR g Z r' H' env σ → E.nx n σ H'
  | .no => False
theorem PostGy.toP {g : Gd} {Z : List Addr} {p : Addr} {rb r r1 : List Addr} {Hb H H1 : Hp} {x : GYr} {E : GEndsY} (e : ExtP p r H r1 H1) (h : PostGy g Z p rb Hb r H x E) : PostGy g Z p rb Hb r1 H1 x E := by
  cases x with
  | nx n ys env st => exact fun r' H' σ e' => h r' H' σ (e.trans e')
  | no => exact h
def rdY (g : Gd) (f : SemGy) : TGy := fun Yl E n σ H => ∃ Z p rb Hb r ys env st C, YOk g Z p rb Hb C Yl ∧ Bo g Z p rb Hb r H ys st ∧ EnvR g Z r H env σ ∧ PostGy g Z p rb Hb r H (f C n ys env st) E
structure SGY (X : Cx) (cl : ClsT) (s : Stmt) (f : SemGy) : Prop where
  run : GSy X s (rdY ⟨X.K, cl⟩ f)
structure SGYs (X : Cx) (cl : ClsT) (s : List Stmt) (f : SemGy) : Prop where
  run : GSsy X s (rdY ⟨X.K, cl⟩ f)
theorem gsy_imp {X : Cx} {s : Stmt} {t t' : TGy} (h : GSy X s t) (f : ∀ Yl E n sg H, t' Yl E n sg H → t Yl E n sg H) : GSy X s t' :=
  ⟨fun EA Yl A ip R m h0 s₀ c fs K J gd lv s sg H D g hn ha hp k hI ht => h.run EA Yl A ip R m h0 s₀ c fs K J gd lv s sg H D g hn ha hp k hI (f _ _ _ _ _ ht)⟩
theorem gssy_imp {X : Cx} {s : List Stmt} {t t' : TGy} (h : GSsy X s t) (f : ∀ Yl E n sg H, t' Yl E n sg H → t Yl E n sg H) : GSsy X s t' :=
  ⟨fun EA Yl A ip R m h0 s₀ c fs K J gd lv s sg H D g hn ha hp k hI ht => h.run EA Yl A ip R m h0 s₀ c fs K J gd lv s sg H D g hn ha hp k hI (f _ _ _ _ _ ht)⟩
section
variable {X : Cx} {cl : ClsT} {pos : Pos}
def gPlainY (f : SemS) : SemGy := fun _ n ys env st => match f env st with
  | .nx env1 st1 => .nx n ys env1 st1
  | _ => .no
theorem sgy_plain {s : Stmt} {f : SemS} (h : SS X cl WF s f) : SGY X cl s (gPlainY f) := by
  refine ⟨gsy_imp (gsy_ps h.run) fun Yl E n sg H ⟨Z, p, rb, Hb, r, ys, env, st, C, yo, B, En, h⟩ => ⟨Z, r, env, st, En, B.rl, ?_⟩⟩
  unfold gPlainY at h
  cases hf : f env st with
  | nx env1 st1 => rw [hf] at h; exact fun r' H' sg' e R' En' => h r' H' sg' e.toP (B.ext e R') En'
  | er e env1 st1 => rw [hf] at h; exact h.elim
  | rt d st1 => rw [hf] at h; exact h.elim
  | bk env1 st1 => rw [hf] at h; exact h.elim
  | ct env1 st1 => rw [hf] at h; exact h.elim
  | no => rw [hf] at h; exact h.elim
def gNilY : SemGy := fun _ n ys env st => .nx n ys env st
def gThenY (a b : SemGy) : SemGy := fun C n ys env st => match a C n ys env st with
  | .nx n1 ys1 env1 st1 => b C n1 ys1 env1 st1
  | .no => .no
theorem sgys_nil : SGYs X cl [] gNilY := ⟨gssy_imp gssy_nil fun Yl E n sg H ⟨Z, p, rb, Hb, r, ys, env, st, C, yo, B, En, h⟩ => h r H sg ExtP.refl B En⟩
theorem sgys_cons {s : Stmt} {ss : List Stmt} {a b : SemGy} (ha : SGY X cl s a) (hb : SGYs X cl ss b) : SGYs X cl (s :: ss) (gThenY a b) := by
  refine ⟨gssy_imp (gssy_cons ha.run hb.run) fun Yl E n sg H ⟨Z, p, rb, Hb, r, ys, env, st, C, yo, B, En, h⟩ => ⟨Z, p, rb, Hb, r, ys, env, st, C, yo, B, En, ?_⟩⟩
  unfold gThenY at h
  cases hf : a C n ys env st with
  | nx n1 ys1 env1 st1 => rw [hf] at h; exact fun r' H' sg' e B' En' => ⟨Z, p, rb, Hb, r', ys1, env1, st1, C, yo, B', En', PostGy.toP e h⟩
  | no => rw [hf] at h; exact h.elim
def gYieldY (fe : SemE) : SemGy := fun C n ys env st => if n < szL then (match fe env st with
  | .ok y st1 => (match C ys y st1 with
    | some (ys2, st2) => .nx (n + 1) ys2 env st2
    | none => .no)
  | _ => .no) else .no
theorem sgy_yield {e : Expr} {yp : Pos} {fe : SemE} (he : SE X cl WF e fe) (hco : X.env.scope.isCoroutine = false := by rfl) (hi : interactive X.env = false := by rfl) : SGY X cl (.Expr (.Yield (some e) yp) pos) (gYieldY fe) := by
  refine ⟨gsy_imp (gsy_yield he.run hco hi) fun Yl E n sg H ⟨Z, p, rb, Hb, r, ys, env, st, C, yo, B, En, h⟩ => ?_⟩
  unfold gYieldY at h
  split at h
  · rename_i hl
    refine ⟨hl, Z, r, env, st, En, B.rl, ?_⟩
    cases hf : fe env st with
    | ok y st1 =>
      rw [hf] at h
      dsimp only at h
      cases hc : C ys y st1 with
      | none => rw [hc] at h; exact h.elim
      | some q =>
        obtain ⟨ys2, st2⟩ := q
        rw [hc] at h
        exact fun r1 H1 v e1 R1 q1 => yo n r1 H1 st1 ys v y _ ys2 st2 (B.ext e1 R1) q1 hc fun r2 H2 e2 B2 => h r2 H2 sg (e1.toP.trans e2) B2 (En.toP (e1.toP.trans e2) B.mem)
    | er x st1 => rw [hf] at h; exact h.elim
    | no => rw [hf] at h; exact h.elim
  · exact h.elim
noncomputable def gForLY (chk : Store → Prop) (tg : DTg) (fb : SemGy) : List D → SemGy
  | [], _, n, ys, env, st => open Classical in if chk st then .nx n ys env st else .no
  | d :: ds, C, n, ys, env, st => open Classical in if chk st then (match tg d env st with
      | some env1 => (match fb C n ys env1 st with
        | .nx n2 ys2 env2 st2 => gForLY chk tg fb ds C n2 ys2 env2 st2
        | .no => .no)
      | none => .no) else .no
noncomputable def gForY (fi : SemI) (tg : DTg) (fb : SemGy) : SemGy := fun C n ys env st => match fi env st with
  | .ok it st1 => gForLY it.chk tg fb it.items C n ys env st1
  | _ => .no
theorem sgy_for {tg iter : Expr} {body : List Stmt} {fi : SemI} {t : DTg} {ws : List Nat} {fb : SemGy} (hp : PassesOwn (model X.prog X.w) X.A X.env X.xe) (hc : X.calm = true) (hi : SI X cl WF tg iter fi) (hg : SG X cl ws tg t) (hb : SGYs X cl body fb)
    (hs : ∀ x, foldedSetIterable iter X.env x = pure x := by intro _; rfl) : SGY X cl (.For tg iter body [] pos) (gForY fi t fb) := by
  refine ⟨gsy_imp (gsy_for hp hc hi.run hg.run hb.run hs) fun Yl E n sg H ⟨Z, p, rb, Hb, r, ys, env, st, C, yo, B, En, h⟩ => ⟨Z, r, env, st, En, B.rl, ?_⟩⟩
  unfold gForY at h
  cases hf : fi env st with
  | no => rw [hf] at h; exact h.elim
  | er e st1 => rw [hf] at h; exact h.elim
  | ok it st1 =>
    rw [hf] at h
    intro r1 H1 J e1 R1 q1
    have h1 := PostGy.toP e1.toP h
    have B1 := B.ext e1 R1
    refine ⟨fun i m n2 sg2 H2 => m + i = it.items.length ∧ ∃ r2 env2 st2 ys2, EnvR ⟨X.K, cl⟩ Z r2 H2 env2 sg2 ∧ Bo ⟨X.K, cl⟩ Z p rb Hb r2 H2 ys2 st2 ∧ ExtP p r1 H1 r2 H2 ∧ PostGy ⟨X.K, cl⟩ Z p rb Hb r2 H2 (gForLY it.chk t fb (it.items.drop i) C n2 ys2 env2 st2) E,
      ⟨it.items.length, by omega, r1, env, st1, ys, En.ext e1, B1, ExtP.refl, by simpa using h1⟩, fun i m n2 sg2 H2 ⟨hm, r2, env2, st2, ys2, En2, B2, e2, h2⟩ => ?_⟩
    cases hd : it.items[i]? with
    | none =>
      have hl : it.items.length ≤ i := List.getElem?_eq_none_iff.mp hd
      rw [List.drop_eq_nil_of_le hl, gForLY] at h2
      split at h2
      · rename_i hchk
        exact .inl ⟨(q1 Z r2 H2 st2 i (e2.w B.mem) (Zs.refl _ _) B2.rl hchk).2 hl, h2 r2 H2 sg2 ExtP.refl B2 En2⟩
      · exact h2.elim
    | some d =>
      rw [drop_cons hd, gForLY] at h2
      split at h2
      · rename_i hchk
        obtain ⟨go, yl⟩ := (q1 Z r2 H2 st2 i (e2.w B.mem) (Zs.refl _ _) B2.rl hchk).1 d hd
        refine .inr ⟨go, fun n3 sg3 H3 => ∃ r3 env3 st3 ys3, EnvR ⟨X.K, cl⟩ Z r3 H3 env3 sg3 ∧ Bo ⟨X.K, cl⟩ Z p rb Hb r3 H3 ys3 st3 ∧ ExtP p r1 H1 r3 H3 ∧ PostGy ⟨X.K, cl⟩ Z p rb Hb r3 H3 (gForLY it.chk t fb (it.items.drop (i + 1)) C n3 ys3 env3 st3) E, fun n3 sg3 H3 ⟨r3, env3, st3, ys3, a, b, c, d⟩ => ?_, fun x H3 hy => ?_⟩
        · have hl := (List.getElem?_eq_some_iff.mp hd).1
          exact ⟨m - 1, by omega, by omega, r3, env3, st3, ys3, a, b, c, d⟩
        · obtain ⟨e3, R3, q3⟩ := yl x H3 hy
          have B3 := B2.ext e3 R3
          refine ⟨Z, r2, env2, st2, d, En2.ext e3, R3, q3, ?_⟩
          cases ht : t d env2 st2 with
          | none => rw [ht] at h2; exact h2.elim
          | some env3 =>
            rw [ht] at h2
            dsimp only at h2 ⊢
            intro sg3 En3 _
            refine ⟨Z, p, rb, Hb, r2, ys2, env3, st2, C, yo, B3, En3, ?_⟩
            have h3 := PostGy.toP e3.toP h2
            cases hbd : fb C n2 ys2 env3 st2 with
            | nx n4 ys4 env4 st4 => rw [hbd] at h3; exact fun r4 H4 sg4 e4 B4 En4 => ⟨r4, env4, st4, ys4, En4, B4, (e2.trans e3.toP).trans e4, PostGy.toP e4 h3⟩
            | no => rw [hbd] at h3; exact h3.elim
      · exact h2.elim
end
/-! ### a generator def -/
abbrev SemY := Cy → List D → Store → GYr
def runY (n : Nat) (body : SemGy) : SemY := fun C ds st => body C 0 [] (ds.map some ++ List.replicate (n - ds.length) none) st
/-- what its body promises, on data -/
def spY (g : Gd) (F : SemY) : SpY := fun vs H Yl Q => ∃ Z p rb Hb r ds st C, YOk g Z p rb Hb C Yl ∧ Bo g Z p rb Hb r H [] st ∧ RepL g Z r H ds vs ∧ ∃ n ys env st2, F C ds st = .nx n ys env st2 ∧ ∀ r' H', ExtP p r H r' H' → Bo g Z p rb Hb r' H' ys st2 → Q n H'
section
variable {P : Program} {w : World} {K : PySem.W.Frag} {mg : Str → Option Value} {base : Heap} {cl : ClsT} {k : Nat}
/-- where the body runs -/
theorem DF.genY {N : List Str} {qual : Str} {scope : Scope} {f : Addr} {cdv : Value} {A : Around} {outer : List Env} {s : Shared} {H : Hp} {a : Addr} {go : Obj} (hr : Room (k + 1) (A.deeper (envOfC qual scope s.heap.objs.size f cdv))) (hg : A.guards = some []) :
    DF (yCx P w K mg base N qual scope f cdv A outer s H a go) WF k := ⟨rfl, owns_gcx, takes_gcx, hr, deeper_guards hg⟩
def BodyY (P : Program) (w : World) (K : PySem.W.Frag) (mg : Str → Option Value) (base : Heap) (cl : ClsT) (k : Nat) (N : List Str) (qual : Str) (st : Stmt) (body : SemGy) : Prop :=
  ∀ (f : Addr) (cdv : Value) (A : Around) (outer : List Env) (s : Shared) (H : Hp) (a : Addr) (go : Obj), Room (k + 1) (A.deeper (envOfC qual (defScope st) s.heap.objs.size f cdv)) → A.guards = some [] →
    SGYs (yCx P w K mg base N qual (defScope st) f cdv A outer s H a go) cl (defBody st) body
theorem BodyY.fn {N ps : List Str} {x qual : Str} {st : Stmt} {f : Addr} {fd : FuncData} {body : SemGy} (h : BodyY P w K mg base cl k N qual st body) (F : Fun K x qual st f fd) (S : GScope N ps (defScope st)) (hcl : ∀ y ∈ (defScope st).names, y.2 ≠ .cell) :
    GFnY P w K mg base k f fd ps (spY ⟨K, cl⟩ (runY N.length body)) := by
  refine gfnY_of F S hcl fun cdv A outer s H a go vs H' Yl Q hr hg ⟨Z, p, rb, Hb, r, ds, st, C, yo, B, qd, n, ys, env, st2, hF, hq⟩ hl => ⟨_, (h f cdv A outer s H a go hr hg).run, Z, p, rb, Hb, r, [], _, st, C, yo, B, start_env qd, ?_⟩
  unfold runY at hF
  rw [hF]
  exact fun r' H'' sg e B' _ => hq r' H'' e B'
end
end DY

/-! [.. for .. in f(..) if ..], f a generator def: the rule on data. -/
namespace DY
open PySem PySem.Spec PyProof.Rows L2 GenW
/-- the consumer's turn, on data -/
def consC (tg : DTg) (tst : SemT) (elt : SemE) (cenv : DEnv) : Cy := fun ys y st => match tg y cenv st with
  | some env1 => (match tst env1 st with
    | .ok true st1 => (match elt env1 st1 with
      | .ok d st2 => if ys.length < szL then some (ys ++ [d], st2) else none
      | _ => none)
    | .ok false st1 => some (ys, st1)
    | _ => none)
  | none => none
theorem Rl.putP {g : Gd} {Z r : List Addr} {H : Hp} {st : Store} {p : Addr} {vs us : List V} (R : Rl g Z r H st) (m : p ∈ Z) (hd : H p = some (.lst vs)) : Rl g Z r (upd H p (.lst us)) st := by
  have np : ¬ Nin Z r p := fun n => n.1 m
  refine ⟨R.len, R.nd, fun a ma => ?_, tabs_upd (fun u e => by rw [hd] at e; cases e; exact nx_lst) R.tb, fun k d e => ?_⟩
  · obtain ⟨n, u, eu, x⟩ := R.z a ma
    by_cases ha : a = p
    · subst ha; exact ⟨n, _, upd_same, ⟨nx_lst, nt_lst⟩⟩
    · exact ⟨n, u, by rw [upd_ne ha]; exact eu, x⟩
  · obtain ⟨a, ea, t, xs, vs', ed, hm, hx⟩ := R.cell k d e
    have ha : a ≠ p := fun z => (R.z p m).1 (z ▸ List.mem_of_getElem? ea)
    exact ⟨a, ea, t, xs, vs', ed, hm.keep (upd_ne ha), RepL.off np _ hx⟩
theorem yok_cons {g : Gd} {tg : DTg} {tst : SemT} {elt : SemE} {own ws : List Nat} (hw : ∀ w ∈ ws, w ∈ own) {Z : List Addr} {p : Addr} {rb : List Addr} {Hb : Hp} {env : DEnv} {sg : L2.St} (En : EnvR g Z rb Hb (wipeD env own) (wipe sg own)) :
    YOk g Z p rb Hb (consC tg tst elt (wipeD env own)) (turnY p (rdG g ws tg) (rdT g WF tst) (rdE g WF elt) own (wipe sg own)) := by
  intro n r H st ys x y k ys2 st2 B qy hC hk
  obtain ⟨vs, hp, qv⟩ := B.at'
  refine ⟨⟨vs, hp⟩, Z, r, wipeD env own, st, y, En.toP B.ex B.mem, B.rl, qy, ?_⟩
  unfold consC at hC
  cases ht : tg y (wipeD env own) st with
  | none => rw [ht] at hC; cases hC
  | some env1 =>
    rw [ht] at hC
    dsimp only at hC ⊢
    intro sg3 En3 hw3
    refine ⟨by rw [hw3 own hw, wipe_wipe], Z, r, env1, st, En3, B.rl, ?_⟩
    cases hts : tst env1 st with
    | er x s => rw [hts] at hC; cases hC
    | no => rw [hts] at hC; cases hC
    | ok b st1 =>
      rw [hts] at hC
      intro r3 H3 b' e3 R3 hb
      cases hb
      have B3 := B.ext e3 R3
      cases b with
      | false =>
        rw [if_neg (by decide)]
        dsimp only at hC
        cases hC
        exact hk r3 H3 e3.toP B3
      | true =>
        rw [if_pos rfl]
        dsimp only at hC
        refine ⟨Z, r3, env1, st1, En3.ext e3, R3, ?_⟩
        cases hel : elt env1 st1 with
        | er x s => rw [hel] at hC; cases hC
        | no => rw [hel] at hC; cases hC
        | ok d st3 =>
          rw [hel] at hC
          dsimp only at hC
          intro r4 H4 v e4 R4 qd
          have B4 := B3.ext e4 R4
          obtain ⟨vs4, hd4, qa4⟩ := B4.at'
          split at hC
          · rename_i hzl
            cases hC
            have np : ¬ Nin Z r4 p := fun n => n.1 B.mem
            refine ⟨vs4, hd4, by rw [← qa4.length]; exact hzl, hk r4 _ ((e3.toP.trans e4.toP).trans ExtP.upd) ⟨B.mem, B4.ex.trans ExtP.upd, R4.putP B.mem hd4, vs4 ++ [v], upd_same, RepL.off np _ (qa4.append (RepL.one qd))⟩⟩
          · cases hC
/-- the list, on data -/
def dLcY (n : Nat) (F : SemY) (fs : SemA) (tg : DTg) (tst : SemT) (elt : SemE) (own : List Nat) : SemE := fun env st => (fs env st).bind fun ds st1 =>
  if ds.length = n then (match F (consC tg tst elt (wipeD env own)) ds st1 with
    | .nx _ ys _ st2 => .ok (.nd .lst ys) st2
    | .no => .no) else .no
def dLcYK (n : Nat) (is : List Nat) (m : Nat) (F : SemY) (fs : SemA) (tg : DTg) (tst : SemT) (elt : SemE) (own : List Nat) : SemE := fun env st => (fs env st).bind fun ds st1 =>
  if ds.length = m ∧ is.length = n ∧ (is.all fun i => decide (i < m)) = true then (match F (consC tg tst elt (wipeD env own)) (pmL is ds) st1 with
    | .nx _ ys _ st2 => .ok (.nd .lst ys) st2
    | .no => .no) else .no
section
variable {X : Cx} {cl : ClsT} {W : WX} {k : Nat} {f : Addr} {fd : FuncData} {ps : List Str} {F : SemY} {x : Str} {e : Expr} {es : List Expr} {fs : SemA} {pos pos2 p p2 : Pos}
theorem pgen_call {sp : SpY} (hF : GFnY X.prog X.w X.K X.mg X.base k f fd ps sp) (hr : RW k X.A) (hb : L2.Binds X.K fd ps [])
    (hm : X.mg x = some (.ref f)) (hk : PySem.W.keepIn X.K (.ref f) = true) (ha : SA X cl W (e :: es) fs) (hg2 : Gl X x := by rfl) (hdb : (x == ("__debug__" : Str)) = false := by decide +kernel)
    (he : starEach (e :: es) X.env = (false, eval e X.env) :: starEach es X.env := by rfl) (hpl : (backTo pos2 (starEach es X.env)).any (·.1) = false := by rfl) :
    PGenY X (.Call (.Name x p2) (e :: es) [] pos2) k sp fun sg H R => rdA ⟨X.K, cl⟩ W fs sg H fun vs H1 => vs.length = ps.length ∧ R vs H1 := by
  refine ⟨fun pins s sg H R I h => ?_⟩
  refine wpAny_Call_Name_kw (ld_glob I hg2 hm ?_ hdb)
  refine PySem.W.callWith_K (h₀ := X.base) I.ok.mod.kin hk (thn (ha.run.run pos2 pins s sg H (fun vs H1 => vs.length = ps.length ∧ R vs H1) I h) fun us s1 ⟨vs, H1, I1, rv, hl, hR⟩ => ⟨I1.kIn, ?_⟩) he hpl
  have hl2 : (us ++ []).length = ps.length := by rw [List.append_nil, ← rv.length]; exact hl
  have hbd := hb s1 us I1.kIn hl2
  rw [List.append_nil] at hbd
  refine wpAny_call (codeAny_mono (codeAny_gone (hF.run X.A X.stack s1 H1 ⟨us, []⟩ us vs hr I1.env0 hbd rv hl)) fun rr z ⟨gone, hq⟩ => ?_)
  cases rr with
  | error ee => exact hq.elim
  | ok fl =>
    cases fl with
    | next => exact hq.elim
    | brk => exact hq.elim
    | cont => exact hq.elim
    | ret u => exact ⟨vs, s1, H1, I1, hR, hq, gone⟩
theorem pgen_callK {sp : SpY} {kws : List Keyword} {ks : List Str} {is : List Nat} (hF : GFnY X.prog X.w X.K X.mg X.base k f fd ps sp) (hr : RW k X.A) (hb : BindsK X.K fd ps ks is)
    (hm : X.mg x = some (.ref f)) (hk : PySem.W.keepIn X.K (.ref f) = true) (ha : SK X cl W kws fs) (hg2 : Gl X x := by rfl) (hdb : (x == ("__debug__" : Str)) = false := by decide +kernel)
    (hall : (backToKw pos2 (keywordEach kws X.env)).all (·.1.isSome) = true := by rfl) (hks : (backToKw pos2 (keywordEach kws X.env)).filterMap (·.1) = ks := by rfl)
    (hpl : ((backTo pos2 (starEach [] X.env)).any (·.1) || (backToKw pos2 (keywordEach kws X.env)).any (·.1.isNone)) = false := by rfl) :
    PGenY X (.Call (.Name x p2) [] kws pos2) k sp fun sg H R => rdA ⟨X.K, cl⟩ W fs sg H fun vs H1 => vs.length = ks.length ∧ (pmL is vs).length = ps.length ∧ R (pmL is vs) H1 := by
  refine ⟨fun pins s sg H R I h => ?_⟩
  refine wpAny_Call_Name_kw (ld_glob I hg2 hm ?_ hdb)
  refine PySem.W.callWith_KW0 (h₀ := X.base) I.ok.mod.kin hk hall (thn (ha.run.run pos2 pins s sg H (fun vs H1 => vs.length = ks.length ∧ (pmL is vs).length = ps.length ∧ R (pmL is vs) H1) I h) fun us s1 ⟨vs, H1, I1, rv, hl1, hl, hR⟩ => ⟨I1.kIn, ?_⟩) hpl
  rw [hks]
  refine wpAny_call (codeAny_mono (codeAny_gone (hF.run X.A X.stack s1 H1 ⟨[], ks.zip us⟩ (pmL is us) (pmL is vs) hr I1.env0 (hb s1 us I1.kIn (by rw [← rv.length]; exact hl1)) (pm_vals rv is) hl)) fun rr z ⟨gone, hq⟩ => ?_)
  cases rr with
  | error ee => exact hq.elim
  | ok fl =>
    cases fl with
    | next => exact hq.elim
    | brk => exact hq.elim
    | cont => exact hq.elim
    | ret u => exact ⟨pmL is vs, s1, H1, I1, hR, hq, gone⟩
/-- the consumer's part, once the arguments are there -/
theorem spY_of {tg : DTg} {tst : SemT} {elt : SemE} {own ws : List Nat} (hw : ∀ w ∈ ws, w ∈ own) {Z r r1 : List Addr} {H H1 : Hp} {env env' : DEnv} {sg : L2.St} {ds ys : List D} {vs : List V} {st1 st2 : Store} {n : Nat} {Q : VK} {W' : Value → Option Addr → Hp → Prop}
    (En : EnvR ⟨X.K, cl⟩ Z r H env sg) (e1 : Ext r H r1 H1) (R1 : Rl ⟨X.K, cl⟩ Z r1 H1 st1) (q1 : RepL ⟨X.K, cl⟩ Z r1 H1 ds vs) (hF : F (consC tg tst elt (wipeD env own)) ds st1 = .nx n ys env' st2) (h1 : Post ⟨X.K, cl⟩ Z r1 H1 (RV ⟨X.K, cl⟩ Z) (.ok (.nd .lst ys) st2) Q W') :
    ∀ D, H1 D = none → spY ⟨X.K, cl⟩ F vs (upd H1 D (.lst [])) (turnY D (rdG ⟨X.K, cl⟩ ws tg) (rdT ⟨X.K, cl⟩ WF tst) (rdE ⟨X.K, cl⟩ WF elt) own (wipe sg own)) fun n H' => (∃ acc, H' D = some (.lst acc)) ∧ Q (.ref D) H' := by
  intro p hp
  let g : Gd := ⟨X.K, cl⟩
  have hz : Zs Z H1 (p :: Z) := fun a m => by
    rcases List.mem_cons.mp m with rfl | m
    · exact .inr hp
    · exact .inl m
  have hpr := R1.free hp
  have R0 : Rl g (p :: Z) r1 (upd H1 p (.lst [])) st1 := by
    have R2 := R1.new (o := .lst []) hp
    exact ⟨R2.len, R2.nd, fun a m => by
      rcases List.mem_cons.mp m with rfl | m
      · exact ⟨hpr.2, _, upd_same, ⟨nx_lst, nt_lst⟩⟩
      · exact R2.z a m, R2.tb, fun k d e => by
      obtain ⟨a, ea, t, xs, vs, ed, hm, hx⟩ := R1.cell k d e
      obtain ⟨u, eu⟩ := hm.some
      exact ⟨a, ea, t, xs, vs, ed, hm.keep (upd_ne (ne_of_none eu hp)), RepL.extZ (Ext.new hp).w hz hx⟩⟩
  have En1 := En.ext e1
  have En2 : EnvR g (p :: Z) r1 (upd H1 p (.lst [])) (wipeD env own) (wipe sg own) := wipe_env ⟨En1.len, fun i d h => let ⟨v, a, b⟩ := En1.at_ i d h; ⟨v, a, Rep.extZ (Ext.new hp).w hz b⟩⟩ own
  refine ⟨p :: Z, p, r1, upd H1 p (.lst []), r1, ds, st1, _, yok_cons hw En2, ⟨List.mem_cons_self, ExtP.refl, R0, [], upd_same, rfl⟩, RepL.extZ (Ext.new hp).w hz q1, n, ys, env', st2, hF, fun r' H' e B => ?_⟩
  obtain ⟨vs', hd, qx⟩ := B.at'
  refine ⟨⟨vs', hd⟩, fin_lst Z r1 H1 p hp hpr.1 r' H' vs' ⟨e.pre, fun a o h t n => ?_⟩ hd B.rl qx h1⟩
  have ne : a ≠ p := ne_of_none h hp
  exact e.keep a o (by rw [upd_ne ne]; exact h) t n ne
variable {elt tg : Expr} {ifs : List Expr} {scope : Scope} {g : DTg} {tt : SemT} {te : SemE} {ws : List Nat}
theorem lcY_rd {t : DTg} {own : List Nat} (hw : ∀ w ∈ ws, w ∈ own) (sg : L2.St) (H : Hp) (Q : VK) (h : rdE ⟨X.K, cl⟩ W (dLcY ps.length F fs t tt te own) sg H Q) :
    tLcY (fun sg H R => rdA ⟨X.K, cl⟩ W fs sg H fun vs H1 => vs.length = ps.length ∧ R vs H1) (spY ⟨X.K, cl⟩ F) (rdG ⟨X.K, cl⟩ ws t) (rdT ⟨X.K, cl⟩ WF tt) (rdE ⟨X.K, cl⟩ WF te) own sg H Q := by
  obtain ⟨Z, r, env, st, En, R, h⟩ := h
  refine ⟨Z, r, env, st, En, R, Post.bind h fun ds st1 r1 H1 vs _ e1 R1 q1 h1 => ?_⟩
  split at h1
  · rename_i hl
    cases hFx : F (consC t tt te (wipeD env own)) ds st1 with
    | no => rw [hFx] at h1; exact h1.elim
    | nx n ys env' st2 =>
      rw [hFx] at h1
      exact ⟨by rw [← q1.length]; exact hl, spY_of hw En e1 R1 q1 hFx h1⟩
  · exact h1.elim
theorem lcYK_rd {t : DTg} {own is : List Nat} {m : Nat} (hw : ∀ w ∈ ws, w ∈ own) (sg : L2.St) (H : Hp) (Q : VK) (h : rdE ⟨X.K, cl⟩ W (dLcYK ps.length is m F fs t tt te own) sg H Q) :
    tLcY (fun sg H R => rdA ⟨X.K, cl⟩ W fs sg H fun vs H1 => vs.length = m ∧ (pmL is vs).length = ps.length ∧ R (pmL is vs) H1) (spY ⟨X.K, cl⟩ F) (rdG ⟨X.K, cl⟩ ws t) (rdT ⟨X.K, cl⟩ WF tt) (rdE ⟨X.K, cl⟩ WF te) own sg H Q := by
  obtain ⟨Z, r, env, st, En, R, h⟩ := h
  refine ⟨Z, r, env, st, En, R, Post.bind h fun ds st1 r1 H1 vs _ e1 R1 q1 h1 => ?_⟩
  split at h1
  · rename_i hl
    have hpm : (pmL is vs).length = ps.length := by
      have len : vs.length = m := by rw [← q1.length]; exact hl.1
      have all : ∀ (js : List Nat), (js.all fun i => decide (i < m)) = true → (pmL js vs).length = js.length := fun js hj => by
        induction js with
        | nil => rfl
        | cons j js ih =>
          rw [List.all_cons, Bool.and_eq_true] at hj
          have lt : j < vs.length := by rw [len]; exact of_decide_eq_true hj.1
          unfold pmL at ih ⊢
          rw [List.filterMap_cons, List.getElem?_eq_getElem lt]
          simp [ih hj.2]
      rw [all is hl.2.2]; exact hl.2.1
    cases hFx : F (consC t tt te (wipeD env own)) (pmL is ds) st1 with
    | no => rw [hFx] at h1; exact h1.elim
    | nx n ys env' st2 =>
      rw [hFx] at h1
      exact ⟨by rw [← q1.length]; exact hl.1, hpm, spY_of hw En e1 R1 (pm_rep q1 is) hFx h1⟩
  · exact h1.elim
theorem rw_in1 (hr : RG k X.A) : RW k X.A.in1 := ⟨hr.hd, hr.dp, by have := hr.un; show X.A.units + 1 + 16 * k + 219 < cLine; omega⟩
theorem se_lcY (own : List (Str × Nat)) (hF : GFnY X.prog X.w X.K X.mg X.base k f fd ps (spY ⟨X.K, cl⟩ F)) (hr : RG k X.A) (hgd : X.A.guards = some []) (hb : L2.Binds X.K fd ps [])
    (hm : X.mg x = some (.ref f)) (hk : PySem.W.keepIn X.K (.ref f) = true) (ha : SA X cl W (e :: es) fs) (hc : X.calm = true) (hN : X.N.Nodup) (ok : BlkOk X.N X.env.scope scope own)
    (hg : ∀ (s : Shared) (H : Hp) (C : Addr) (l : List (Str × Addr)) (fp : List Addr), SG (X.blk s H scope (compEnvC scope l C X.env) fp) cl ws tg g) (ht : ∀ (s : Shared) (H : Hp) (C : Addr) (l : List (Str × Addr)) (fp : List Addr), STs (X.blk s H scope (compEnvC scope l C X.env) fp) cl WF ifs tt)
    (he : ∀ (s : Shared) (H : Hp) (C : Addr) (l : List (Str × Addr)) (fp : List Addr), SE (X.blk s H scope (compEnvC scope l C X.env) fp) cl WF elt te) (hnc : ∀ y ∈ scope.names, y.2 ≠ .cell := by decide +kernel) (hw : ∀ w ∈ ws, w ∈ own.map (·.2) := by decide) (hs : ∀ x', foldedSetIterable (.Call (.Name x p2) (e :: es) [] pos2) X.env x' = pure x' := by intro _; rfl) (hg2 : Gl X x := by rfl) (hdb : (x == ("__debug__" : Str)) = false := by decide +kernel)
    (hse : starEach (e :: es) X.env = (false, eval e X.env) :: starEach es X.env := by rfl) (hpl : (backTo pos2 (starEach es X.env)).any (·.1) = false := by rfl) :
    SE X cl W (.ListComp elt [⟨tg, (.Call (.Name x p2) (e :: es) [] pos2), ifs, 0⟩] scope pos) (dLcY ps.length F fs g tt te (own.map (·.2))) :=
  ⟨(pe_lcY (g := rdG ⟨X.K, cl⟩ ws g) (tt := rdT ⟨X.K, cl⟩ WF tt) (te := rdE ⟨X.K, cl⟩ WF te) hc hN (pgen_call hF hr.rw hb hm hk ha hg2 hdb hse hpl) ok hnc (rw_in1 hr) hgd (fun s H C l fp => (hg s H C l fp).run) (fun s H C l fp => (ht s H C l fp).run) (fun s H C l fp => (he s H C l fp).run) hs).imp fun sg H Q h => lcY_rd hw sg H Q h⟩
theorem ss_setLcYK (i : Nat) (own : List (Str × Nat)) {y : Str} {py cpos : Pos} {kws : List Keyword} {ks : List Str} {is : List Nat} (hF : GFnY X.prog X.w X.K X.mg X.base k f fd ps (spY ⟨X.K, cl⟩ F)) (hr : RG k X.A) (hgd : X.A.guards = some []) (hb : BindsK X.K fd ps ks is)
    (hm : X.mg x = some (.ref f)) (hk : PySem.W.keepIn X.K (.ref f) = true) (ha : SK X cl W kws fs) (hc : X.calm = true) (hN : X.N.Nodup) (ok : BlkOk X.N X.env.scope scope own)
    (hg : ∀ (s : Shared) (H : Hp) (C : Addr) (l : List (Str × Addr)) (fp : List Addr), SG (X.blk s H scope (compEnvC scope l C X.env) fp) cl ws tg g) (ht : ∀ (s : Shared) (H : Hp) (C : Addr) (l : List (Str × Addr)) (fp : List Addr), STs (X.blk s H scope (compEnvC scope l C X.env) fp) cl WF ifs tt)
    (he : ∀ (s : Shared) (H : Hp) (C : Addr) (l : List (Str × Addr)) (fp : List Addr), SE (X.blk s H scope (compEnvC scope l C X.env) fp) cl WF elt te) (hy : X.N[i]? = some y := by rfl) (hyl : X.env.scope.names.lookup y = some .local := by rfl)
    (hsw : swapsWith (.ListComp elt [⟨tg, (.Call (.Name x p2) [] kws pos2), ifs, 0⟩] scope cpos) (some (.Name y py)) pos.line X.env = pure true := by exact sw_true rfl rfl rfl (by decide +kernel)) (hnc : ∀ y ∈ scope.names, y.2 ≠ .cell := by decide +kernel) (hw : ∀ w ∈ ws, w ∈ own.map (·.2) := by decide) (hs : ∀ x', foldedSetIterable (.Call (.Name x p2) [] kws pos2) X.env x' = pure x' := by intro _; rfl) (hg2 : Gl X x := by rfl) (hdb : (x == ("__debug__" : Str)) = false := by decide +kernel)
    (hall : (backToKw pos2 (keywordEach kws X.env)).all (·.1.isSome) = true := by rfl) (hks : (backToKw pos2 (keywordEach kws X.env)).filterMap (·.1) = ks := by rfl)
    (hpl : ((backTo pos2 (starEach [] X.env)).any (·.1) || (backToKw pos2 (keywordEach kws X.env)).any (·.1.isNone)) = false := by rfl) :
    SS X cl W (.Assign [.Name y py] (.ListComp elt [⟨tg, (.Call (.Name x p2) [] kws pos2), ifs, 0⟩] scope cpos) pos) (sSet i (dLcYK ps.length is ks.length F fs g tt te (own.map (·.2)))) :=
  ⟨(ps_setLcY (g := rdG ⟨X.K, cl⟩ ws g) (tt := rdT ⟨X.K, cl⟩ WF tt) (te := rdE ⟨X.K, cl⟩ WF te) hc hN hy hyl hsw (pgen_callK hF hr.rw hb hm hk ha hg2 hdb hall hks hpl) ok hnc (rw_in1 hr) hgd (fun s H C l fp => (hg s H C l fp).run) (fun s H C l fp => (ht s H C l fp).run) (fun s H C l fp => (he s H C l fp).run) hs).imp fun E sg H h =>
    set_lc_rd (X := X) (cl := cl) (W := W) (i := i) (f := dLcYK ps.length is ks.length F fs g tt te (own.map (·.2))) (fun sg H Q h => lcYK_rd hw sg H Q h) E sg H h⟩
end
end DY

/-! x(k = v), x an instance with a __call__ of its own. -/
namespace DY
open PySem PySem.Spec PyProof.Rows L2
theorem callO_kw {M : Model} {A : Around} {E : Value → Shared → Prop} {s : Shared} {a : Addr} {pos : Pos} {Q : Value → Shared → Prop} {args : List (Bool × Sem Value)} {kws : List (Option Str × Sem Value)} (hpl : (args.any (·.1) || kws.any (·.1.isNone)) = false)
    (h : wpAny M A (evalArgs (.ref a) true args kws) (fun z s1 => (∃ C ox od, PySem.W.InstAt s1.heap a ox C od ∧ ox.data = .plain) ∧ wpAny M A (call (.ref a) ([] ++ z.pos) z.kw) Q E s1) E s) : wpAny M A (callWith pos (.ref a) [] args kws) Q E s := by
  unfold callWith
  refine wpAny_bind (wpAny_holding (wpAny_mono h (fun z s1 h1 => wpAny_bind (wpAny_standAt ?_)) fun _ _ y => y))
  obtain ⟨⟨C, ox, od, J, hd⟩, h2⟩ := h1
  have L := PySem.W.kco_keeper (M := M) J hd
  simp only [hpl]
  refine wpAny_bind (L.here ?_)
  exact wpAny_bind (wpAny_mono (wpAny_operateT h2) (fun r s2 hr => wpAny_bind (wpAny_holding (wpAny_point (wpAny_pure hr)))) fun _ _ y => y)
section
variable {X : Cx} {cl : ClsT} {W : WX} {pos : Pos} {o : Expr} {fo : SemE} {fa : SemA} {F : SemF}
theorem se_callIK {f : Addr} {kws : List Keyword} {ks : List Str} (c : Nat) (O : StX.CallO X.K (cl c) f) (hF : CalK1 X cl W (.ref f) ks F) (ho : SE X cl W o fo) (ha : SK X cl W kws fa)
    (ht : eval (.Call o [] kws pos) X.env = (do callWith pos (← eval o X.env) [] (backTo pos (starEach [] X.env)) (backToKw pos (keywordEach kws X.env))) := by rfl)
    (hall : (backToKw pos (keywordEach kws X.env)).all (·.1.isSome) = true := by rfl) (hks : (backToKw pos (keywordEach kws X.env)).filterMap (·.1) = ks := by rfl)
    (hpl : ((backTo pos (starEach [] X.env)).any (·.1) || (backToKw pos (keywordEach kws X.env)).any (·.1.isNone)) = false := by rfl) : SE X cl W (.Call o [] kws pos) (dCallI c F fo fa) := by
  refine ⟨⟨fun pins s sg H Q I h => ?_⟩⟩
  have h' : rdE ⟨X.K, cl⟩ W fo sg H fun x H1 => (∃ a, x = .ref a) ∧ rdA ⟨X.K, cl⟩ W fa sg H1 fun vs H2 => ∃ a dx fs, x = .ref a ∧ H2 a = some (.ins (cl c) dx fs) ∧ rdC ⟨X.K, cl⟩ W F (x :: vs) sg H2 Q := by
    obtain ⟨Z, r, env, st, E, R, h⟩ := h
    refine ⟨Z, r, env, st, E, R, Post.bind h fun x st1 r1 H1 v _ e1 R1 q1 h1 => ?_⟩
    split at h1
    · rename_i c1 n1 v1 hs1
      obtain ⟨a, us, ev, _, s1⟩ := seen_ok R1 q1 hs1
      refine ⟨⟨a, ev⟩, Z, r1, env, st1, E.ext e1, R1, Post.bind h1 fun ds st2 r2 H2 vs _ e2 R2 q2 h2 => ?_⟩
      have qx := Rep.ext e2 x q1
      split at h2
      · rename_i c' ns xs hs
        split at h2
        · rename_i hc
          subst hc
          obtain ⟨a, us, rfl, _, s1⟩ := seen_ok R2 qx hs
          obtain ⟨_, dx, hp⟩ := ins_at s1
          exact ⟨a, dx, _, rfl, hp, Z, r2, st2, x :: ds, ⟨_, _, rfl, qx, q2⟩, R2, h2⟩
        · exact h2.elim
      · exact h2.elim
    · exact h1.elim
  rw [ht]
  refine wpAny_bind (thn (ho.run.run pins s sg H _ I h') fun u s1 ⟨y, H1, I1, ry, ⟨a, ey⟩, q⟩ => ?_)
  subst ey
  obtain rfl : u = Value.ref a := ry
  refine callO_kw hpl (PyProof.Rows.evalArgs_kw2_nil hall (thn (ha.run.run pos pins s1 sg H1 _ I1 q) fun us s2 ⟨vs, H2, I2, rv, b, dx, fs, eb, hb, q2⟩ => ?_))
  cases eb
  obtain ⟨ox, od, J, hd⟩ := inst_of I2 hb
  rw [hks]
  exact ⟨⟨_, ox, od, J, hd⟩, wp_codeK (args := ⟨[], ks.zip us⟩) (PySem.W.kco_code I2.kIn J hd O.at_ O.fn O.fi (hF.code pins s2 sg H2 Q (.ref a) (.ref a) vs us I2 rfl rv q2))⟩
end
end DY

/-! law_k05_moments_at_which_items_leave: the defs as functions on data. -/
namespace Q
open PySem PySem.Spec PyProof.Rows L2 DY
abbrev nF : Nat := 42
abbrev kwD : String := "wide"
abbrev k_Walk : Nat := 0
abbrev k_Line : Nat := 1
abbrev f_is_number : Nat := 0
abbrev f_is_moment : Nat := 1
abbrev f_first_bad : Nat := 2
abbrev f_need_arrivals : Nat := 3
abbrev f_Walk___init__ : Nat := 4
abbrev f_Walk_earlier : Nat := 5
abbrev f_Walk_left : Nat := 6
abbrev f_Walk_go : Nat := 7
abbrev f_Walk_rows : Nat := 8
abbrev f_inner_parts : Nat := 9
abbrev f_walk_of : Nat := 10
abbrev f_walked : Nat := 11
abbrev f_is_time : Nat := 12
abbrev f_is_count : Nat := 13
abbrev f_need_count : Nat := 14
abbrev f_need_time : Nat := 15
abbrev f_paths_of : Nat := 16
abbrev f_Line___init__ : Nat := 17
abbrev f_Line_belt : Nat := 18
abbrev f_Line_gap : Nat := 19
abbrev f_Line_hold : Nat := 20
abbrev f_Line_limited : Nat := 21
abbrev f_Line___add__ : Nat := 22
abbrev f_Line___and__ : Nat := 23
abbrev f_Line___call__ : Nat := 24
abbrev f_Line_parts : Nat := 25
abbrev f__law_begun : Nat := 26
abbrev f__law_mixed : Nat := 27
abbrev f__law_take : Nat := 28
abbrev f__law_pick : Nat := 29
abbrev f__law_time : Nat := 30
abbrev f__law_leaf : Nat := 31
abbrev f__law_tree : Nat := 32
abbrev f__law_line : Nat := 33
abbrev f__law_inner : Nat := 34
abbrev f__law_walk : Nat := 35
abbrev f__law_behind : Nat := 36
abbrev f__law_go : Nat := 37
abbrev f__law_left : Nat := 38
abbrev f__law_arrivals : Nat := 39
abbrev f__law_twice_right : Nat := 40
abbrev f_law : Nat := 41
noncomputable def gb_leavings (c : Nat → SemF) : SemGy :=
    gThenY (gPlainY (sExpr (dCall (c f_need_arrivals) (dCons (dVar 1) (dNil)))))
    (gThenY (gPlainY (sSet 2 (dCall (runInit k_Walk (c f_Walk___init__)) (dCons (dMeth k_Line "parts" (c f_Line_parts) (dVar 0) dNil) (dCons (dTup (dNil)) (dNil))))))
    (gThenY (gForY (iSeq (dVar 1)) (gN 3) (gThenY (gYieldY (dMeth k_Walk "go" (c f_Walk_go) (dVar 2) (dCons (dVar 3) (dNil))))
    (gNilY)))
    (gNilY)))
noncomputable def y_leavings (c : Nat → SemF) : SemY := runY 4 (gb_leavings c)
noncomputable def b_is_number (c : Nat → SemF) : SemS :=
    sRet (dAndV (dIsi ["int"] (dVar 0)) (dAndV (dNotV (dIsi ["bool"] (dVar 0))) (dBin dGe (dVar 0) (dConst (.int 0)))))
noncomputable def b_is_moment (c : Nat → SemF) : SemS :=
    sRet (dAndV (dCall (c f_is_number) (dCons (dVar 0) (dNil))) (dBin dLe (dVar 0) (dConst (.int 1000000000000000))))
noncomputable def b_first_bad (c : Nat → SemF) : SemS :=
    sCons (sSet 1 (dConst (.int 0)))
    (sCons (sFor (iEnum2 (dCons (dVar 0) (dNil))) (gT 2 (gCons' (gN 2) (gCons' (gN 3) (gNil')))) (sCons (sIf (dOr (dNot (dBool (dCall (c f_is_moment) (dCons (dVar 3) (dNil))))) (dBool (dBin dLt (dVar 3) (dVar 1)))) (sRet (dVar 2)) (sNil))
    (sSet 1 (dVar 3))))
    (sRet (dConst .non)))
noncomputable def b_need_arrivals (c : Nat → SemF) : SemS :=
    sCons (sIf (dNot (dBool (dIsi ["list", "tuple"] (dVar 0)))) ((fun _ _ => .no)) (sNil))
    (sCons (sSet 1 (dCall (c f_first_bad) (dCons (dVar 0) (dNil))))
    (sIf (dBool (dBin dNotN (dVar 1) (dConst .non))) ((fun _ _ => .no)) (sNil)))
noncomputable def b_Walk___init__ (c : Nat → SemF) : SemS :=
    sCons (sAttr k_Walk 0 "path" (dVar 0) (dVar 2))
    (sCons (sAttr k_Walk 1 "piece" (dVar 0) (dVar 1))
    (sCons (sAttr k_Walk 2 "entries" (dVar 0) (dLstM (dNil)))
    (sCons (sAttr k_Walk 3 "leavings" (dVar 0) (dLstM (dNil)))
    (sAttr k_Walk 4 "inner" (dVar 0) (dLc (iEnum2 (dCons (dCall (c f_inner_parts) (dCons (dVar 1) (dNil))) (dNil))) (gT 2 (gCons' (gN 3) (gCons' (gN 4) (gNil')))) (tYesD) (dCall (runInit k_Walk (c f_Walk___init__)) (dCons (dVar 4) (dCons (dBin dAdd (dVar 2) (dTup (dCons (dVar 3) (dNil)))) (dNil)))) [3, 4])))))
noncomputable def b_Walk_earlier (c : Nat → SemF) : SemS :=
    sRet (dIfE (dBool (dBin dLe (dVar 2) (dCall dLen (dCons (dVar 1) (dNil))))) (dCall dMax (dCons (dVar 3) (dCons (dBin dIx (dVar 1) (dNeg (dVar 2))) (dNil)))) (dVar 3))
noncomputable def b_Walk_left (c : Nat → SemF) : SemS :=
    sCons (sSet 2 (dBin dIx (dAt k_Walk 1 "piece" (dVar 0)) (dConst (.int 0))))
    (sCons (sIf (dBool (dBin dEq (dVar 2) (dConst (.str "belt")))) (sRet (dBin dAdd (dVar 1) (dBin dIx (dAt k_Walk 1 "piece" (dVar 0)) (dConst (.int 1))))) (sNil))
    (sCons (sIf (dBool (dBin dEq (dVar 2) (dConst (.str "gap")))) (sRet (dMeth k_Walk "earlier" (c f_Walk_earlier) (dVar 0) (dCons (dLc (iSeq (dAt k_Walk 3 "leavings" (dVar 0))) (gN 3) (tYesD) (dBin dAdd (dVar 3) (dBin dIx (dAt k_Walk 1 "piece" (dVar 0)) (dConst (.int 2)))) [3]) (dCons (dBin dIx (dAt k_Walk 1 "piece" (dVar 0)) (dConst (.int 1))) (dCons (dVar 1) (dNil)))))) (sNil))
    (sCons (sIf (dBool (dBin dEq (dVar 2) (dConst (.str "hold")))) (sRet (dMeth k_Walk "earlier" (c f_Walk_earlier) (dVar 0) (dCons (dLc (iSeq (dAt k_Walk 2 "entries" (dVar 0))) (gN 3) (tYesD) (dBin dAdd (dVar 3) (dBin dIx (dAt k_Walk 1 "piece" (dVar 0)) (dConst (.int 2)))) [3]) (dCons (dBin dIx (dAt k_Walk 1 "piece" (dVar 0)) (dConst (.int 1))) (dCons (dVar 1) (dNil)))))) (sNil))
    (sCons (sIf (dBool (dBin dEq (dVar 2) (dConst (.str "section")))) (sRet (dMeth k_Walk "go" (c f_Walk_go) (dBin dIx (dAt k_Walk 4 "inner" (dVar 0)) (dConst (.int 0))) (dCons (dMeth k_Walk "earlier" (c f_Walk_earlier) (dVar 0) (dCons (dAt k_Walk 3 "leavings" (dVar 0)) (dCons (dBin dIx (dAt k_Walk 1 "piece" (dVar 0)) (dConst (.int 1))) (dCons (dVar 1) (dNil))))) (dNil)))) (sNil))
    (sCons (sIf (dBool (dBin dEq (dVar 2) (dConst (.str "both")))) (sRet (dCall dMax (dCons (dLc (iSeq (dAt k_Walk 4 "inner" (dVar 0))) (gN 4) (tYesD) (dMeth k_Walk "go" (c f_Walk_go) (dVar 4) (dCons (dVar 1) (dNil))) [4]) (dNil)))) (sNil))
    (sRet (dMeth k_Walk "go" (c f_Walk_go) (dBin dIx (dAt k_Walk 4 "inner" (dVar 0)) (dConst (.int 1))) (dCons (dMeth k_Walk "go" (c f_Walk_go) (dBin dIx (dAt k_Walk 4 "inner" (dVar 0)) (dConst (.int 0))) (dCons (dVar 1) (dNil))) (dNil)))))))))
noncomputable def b_Walk_go (c : Nat → SemF) : SemS :=
    sCons (sSet 2 (dMeth k_Walk "left" (c f_Walk_left) (dVar 0) (dCons (dVar 1) (dNil))))
    (sCons (sExpr (dBML opAppend (dAt k_Walk 2 "entries" (dVar 0)) (dCons (dVar 1) (dNil))))
    (sCons (sExpr (dBML opAppend (dAt k_Walk 3 "leavings" (dVar 0)) (dCons (dVar 2) (dNil))))
    (sRet (dVar 2))))
noncomputable def b_Walk_rows (c : Nat → SemF) : SemS :=
    sCons (sSet 1 (dLst (dCons (dTup (dCons (dAt k_Walk 0 "path" (dVar 0)) (dCons (dTup (dCons (dAt k_Walk 2 "entries" (dVar 0)) (dCons (dAt k_Walk 3 "leavings" (dVar 0)) (dNil)))) (dNil)))) (dNil))))
    (sCons (sFor (iSeq (dAt k_Walk 4 "inner" (dVar 0))) (gN 2) (sSet 1 (dBin dAdd (dVar 1) (dMeth k_Walk "rows" (c f_Walk_rows) (dVar 2) dNil))))
    (sRet (dVar 1)))
noncomputable def b_inner_parts (c : Nat → SemF) : SemS :=
    sCons (sIf (dBool (dBin dEq (dBin dIx (dVar 0) (dConst (.int 0))) (dConst (.str "section")))) (sRet (dLst (dCons (dBin dIx (dVar 0) (dConst (.int 2))) (dNil)))) (sNil))
    (sRet (dIfE (dBool (dBin dIn (dBin dIx (dVar 0) (dConst (.int 0))) (dTup (dCons (dConst (.str "behind")) (dCons (dConst (.str "both")) (dNil)))))) (dLst (dCons (dBin dIx (dVar 0) (dConst (.int 1))) (dCons (dBin dIx (dVar 0) (dConst (.int 2))) (dNil)))) (dLst (dNil))))
noncomputable def b_walk_of (c : Nat → SemF) : SemS :=
    sCons (sExpr (dCall (c f_need_arrivals) (dCons (dVar 1) (dNil))))
    (sCons (sSet 2 (dCall (runInit k_Walk (c f_Walk___init__)) (dCons (dMeth k_Line "parts" (c f_Line_parts) (dVar 0) dNil) (dCons (dTup (dNil)) (dNil)))))
    (sCons (sFor (iSeq (dVar 1)) (gN 3) (sExpr (dMeth k_Walk "go" (c f_Walk_go) (dVar 2) (dCons (dVar 3) (dNil)))))
    (sRet (dVar 2))))
noncomputable def b_walked (c : Nat → SemF) : SemS :=
    sRet (dDc (iSeq (dCall dSorted (dCons (dFrz (dMeth k_Walk "rows" (c f_Walk_rows) (dCall (c f_walk_of) (dCons (dVar 0) (dCons (dVar 1) (dNil)))) dNil)) (dNil)))) (gT 2 (gCons' (gN 2) (gCons' (gN 3) (gNil')))) (tYesD) (dVar 2) (dVar 3) [2, 3])
noncomputable def b_is_time (c : Nat → SemF) : SemS :=
    sRet (dAndV (dCall (c f_is_number) (dCons (dVar 0) (dNil))) (dBin dLe (dVar 0) (dConst (.int 1000000000))))
noncomputable def b_is_count (c : Nat → SemF) : SemS :=
    sRet (dAndV (dCall (c f_is_number) (dCons (dVar 0) (dNil))) (dChain dLe dLe (dConst (.int 1)) (dVar 0) (dConst (.int 12))))
noncomputable def b_need_count (c : Nat → SemF) : SemS :=
    sIf (dNot (dBool (dCall (c f_is_count) (dCons (dVar 0) (dNil))))) ((fun _ _ => .no)) (sNil)
noncomputable def b_need_time (c : Nat → SemF) : SemS :=
    sIf (dNot (dBool (dCall (c f_is_time) (dCons (dVar 0) (dNil))))) ((fun _ _ => .no)) (sNil)
noncomputable def b_paths_of (c : Nat → SemF) : SemS :=
    sCons (sSet 2 (dLst (dCons (dVar 1) (dNil))))
    (sCons (sFor (iEnum2 (dCons (dCall (c f_inner_parts) (dCons (dVar 0) (dNil))) (dNil))) (gT 2 (gCons' (gN 3) (gCons' (gN 4) (gNil')))) (sSet 2 (dBin dAdd (dVar 2) (dCall (c f_paths_of) (dCons (dVar 4) (dCons (dBin dAdd (dVar 1) (dTup (dCons (dVar 3) (dNil)))) (dNil)))))))
    (sRet (dVar 2)))
noncomputable def b_Line___init__ (c : Nat → SemF) : SemS :=
    sCons (sAttr k_Line 0 "nested" (dVar 0) (dVar 1))
    (sCons (sAttr k_Line 1 "all_paths" (dVar 0) (dCall (c f_paths_of) (dCons (dVar 1) (dCons (dTup (dNil)) (dNil)))))
    (sIf (dBool (dBin dGt (dCall dLen (dCons (dAt k_Line 1 "all_paths" (dVar 0)) (dNil))) (dConst (.int 12)))) ((fun _ _ => .no)) (sNil)))
noncomputable def b_Line_belt (c : Nat → SemF) : SemS :=
    sCons (sExpr (dCall (c f_need_time) (dCons (dVar 0) (dNil))))
    (sRet (dCall (frzF (runInit k_Line (c f_Line___init__))) (dCons (dTup (dCons (dConst (.str "belt")) (dCons (dVar 0) (dNil)))) (dNil))))
noncomputable def b_Line_gap (c : Nat → SemF) : SemS :=
    sCons (sExpr (dCall (c f_need_count) (dCons (dVar 0) (dNil))))
    (sCons (sExpr (dCall (c f_need_time) (dCons (dVar 1) (dNil))))
    (sRet (dCall (frzF (runInit k_Line (c f_Line___init__))) (dCons (dTup (dCons (dConst (.str "gap")) (dCons (dVar 0) (dCons (dVar 1) (dNil))))) (dNil)))))
noncomputable def b_Line_hold (c : Nat → SemF) : SemS :=
    sCons (sExpr (dCall (c f_need_count) (dCons (dVar 0) (dNil))))
    (sCons (sExpr (dCall (c f_need_time) (dCons (dVar 1) (dNil))))
    (sRet (dCall (frzF (runInit k_Line (c f_Line___init__))) (dCons (dTup (dCons (dConst (.str "hold")) (dCons (dVar 0) (dCons (dVar 1) (dNil))))) (dNil)))))
noncomputable def b_Line_limited (c : Nat → SemF) : SemS :=
    sCons (sExpr (dCall (c f_need_count) (dCons (dVar 1) (dNil))))
    (sRet (dCall (frzF (runInit k_Line (c f_Line___init__))) (dCons (dTup (dCons (dConst (.str "section")) (dCons (dVar 1) (dCons (dAt k_Line 0 "nested" (dVar 0)) (dNil))))) (dNil))))
noncomputable def b_Line___add__ (c : Nat → SemF) : SemS :=
    sRet (dCall (frzF (runInit k_Line (c f_Line___init__))) (dCons (dTup (dCons (dConst (.str "behind")) (dCons (dAt k_Line 0 "nested" (dVar 0)) (dCons (dAt k_Line 0 "nested" (dVar 1)) (dNil))))) (dNil)))
noncomputable def b_Line___and__ (c : Nat → SemF) : SemS :=
    sRet (dCall (frzF (runInit k_Line (c f_Line___init__))) (dCons (dTup (dCons (dConst (.str "both")) (dCons (dAt k_Line 0 "nested" (dVar 0)) (dCons (dAt k_Line 0 "nested" (dVar 1)) (dNil))))) (dNil)))
noncomputable def b_Line___call__ (c : Nat → SemF) : SemS :=
    sRet (dAt k_Walk 3 "leavings" (dCall (c f_walk_of) (dCons (dVar 0) (dCons (dVar 1) (dNil)))))
noncomputable def b_Line_parts (c : Nat → SemF) : SemS :=
    sRet (dAt k_Line 0 "nested" (dVar 0))
noncomputable def b__law_begun (c : Nat → SemF) : SemS :=
    sCons (sSet 1 (dLcM (iSeq (dVar 0)) (gN 2) (dBool (dBin dGe (dCall dAbs (dCons (dVar 2) (dNil))) (dBin dPow (dConst (.int 10)) (dConst (.int 18))))) (dBin dSub (dCall dAbs (dCons (dVar 2) (dNil))) (dBin dPow (dConst (.int 10)) (dConst (.int 18)))) [2]))
    (sRet (dDictM [(dConst (.str "wide"), dVar 1), (dConst (.str "cells"), dLc (iSeq (dVar 0)) (gN 2) (tYesD) (dBin dMod (dCall dInt (dCons (dCall dAbs (dCons (dVar 2) (dNil))) (dNil))) (dConst (.int 2147483629))) [2]), (dConst (.str "rest"), dConst (.int 0)), (dConst (.str "turn"), dConst (.int 0))]))
noncomputable def b__law_mixed (c : Nat → SemF) : SemS :=
    sCons (sPar 1 2 (dCons (dBin dAdd (dBin (dGet 3) (dVar 0) (dConst (.str "turn"))) (dConst (.int 1))) (dCons (dConst (.int 0)) (dNil))))
    (sCons (sDPut 3 (dVar 0) (dConst (.str "turn")) (dVar 1))
    (sCons (sFor (iSeq (dLst (dCons (dConst (.int 2147483629)) (dCons (dConst (.int 2147483587)) (dCons (dConst (.int 2147483579)) (dCons (dConst (.int 2147483563)) (dNil))))))) (gN 3) (sCons (sSet 4 (dBin dAdd (dBin dMul (dConst (.int 61441)) (dVar 1)) (dBin dFdiv (dVar 3) (dConst (.int 19)))))
    (sCons (sFor (iSeq (dBin (dGet 1) (dVar 0) (dConst (.str "cells")))) (gN 5) (sSet 4 (dBin dMod (dCall dInt (dCons (dBin dAdd (dBin dAdd (dBin dMul (dVar 4) (dConst (.int 48271))) (dVar 5)) (dVar 1)) (dNil))) (dVar 3))))
    (sSet 2 (dBin dAdd (dBin dMul (dVar 2) (dConst (.int 2147483647))) (dBin dMod (dCall dInt (dCons (dBin dPow (dVar 4) (dConst (.int 5))) (dNil))) (dVar 3)))))))
    (sRet (dVar 2))))
noncomputable def b__law_take (c : Nat → SemF) : SemS :=
    sCons (sIf (dBool (dBin dEq (dBin (dGet 2) (dVar 0) (dConst (.str "rest"))) (dConst (.int 0)))) (sDPut 2 (dVar 0) (dConst (.str "rest")) (dIfE (dBool (dBin dNe (dBin (dGet 0) (dVar 0) (dConst (.str "wide"))) (dLst (dNil)))) (dBML opPopAt (dBin (dGet 0) (dVar 0) (dConst (.str "wide"))) (dCons (dConst (.int 0)) (dNil))) (dCall (c f__law_mixed) (dCons (dVar 0) (dNil))))) (sNil))
    (sCons (sSet 2 (dBin dMod (dCall dInt (dCons (dBin (dGet 2) (dVar 0) (dConst (.str "rest"))) (dNil))) (dVar 1)))
    (sCons (sDPut 2 (dVar 0) (dConst (.str "rest")) (dBin dFdiv (dBin (dGet 2) (dVar 0) (dConst (.str "rest"))) (dVar 1)))
    (sRet (dVar 2))))
noncomputable def b__law_pick (c : Nat → SemF) : SemS :=
    sRet (dBin dIx (dVar 1) (dCall (c f__law_take) (dCons (dVar 0) (dCons (dCall dLen (dCons (dVar 1) (dNil))) (dNil)))))
noncomputable def b__law_time (c : Nat → SemF) : SemS :=
    sCons (sIf (dBool (dBin dEq (dVar 1) (dConst (.str "small")))) (sRet (dCall (c f__law_take) (dCons (dVar 0) (dCons (dConst (.int 10)) (dNil))))) (sNil))
    (sRet (dCall (c f__law_pick) (dCons (dVar 0) (dCons (dLst (dCons (dConst (.int 0)) (dCons (dConst (.int 1)) (dCons (dConst (.int 2)) (dCons (dConst (.int 5)) (dCons (dConst (.int 7)) (dCons (dBin dPow (dConst (.int 10)) (dConst (.int 9))) (dCons (dBin dSub (dBin dPow (dConst (.int 10)) (dConst (.int 9))) (dConst (.int 1))) (dCons (dCall (c f__law_take) (dCons (dVar 0) (dCons (dConst (.int 100)) (dNil)))) (dCons (dCall (c f__law_take) (dCons (dVar 0) (dCons (dBin dAdd (dBin dPow (dConst (.int 10)) (dConst (.int 9))) (dConst (.int 1))) (dNil)))) (dNil))))))))))) (dNil)))))
noncomputable def b__law_leaf (c : Nat → SemF) : SemS :=
    sCons (sSet 4 (dCall (c f__law_pick) (dCons (dVar 0) (dCons (dVar 3) (dNil)))))
    (sCons (sIf (dBool (dBin dEq (dVar 4) (dConst (.str "belt")))) (sRet (dTup (dCons (dConst (.str "belt")) (dCons (dCall (c f__law_time) (dCons (dVar 0) (dCons (dVar 2) (dNil)))) (dNil))))) (sNil))
    (sRet (dTup (dCons (dVar 4) (dCons (dBin dAdd (dConst (.int 1)) (dCall (c f__law_take) (dCons (dVar 0) (dCons (dVar 1) (dNil))))) (dCons (dCall (c f__law_time) (dCons (dVar 0) (dCons (dVar 2) (dNil)))) (dNil)))))))
noncomputable def b__law_tree (c : Nat → SemF) : SemS :=
    sCons (sSet 5 (dCall (c f__law_take) (dCons (dVar 0) (dCons (dConst (.int 8)) (dNil)))))
    (sCons (sIf (dAnd (dBool (dBin dGe (dVar 1) (dConst (.int 3)))) (dBool (dBin dLt (dVar 5) (dConst (.int 5))))) (sCons (sSet 6 (dBin dAdd (dConst (.int 1)) (dCall (c f__law_take) (dCons (dVar 0) (dCons (dBin dSub (dVar 1) (dConst (.int 2))) (dNil))))))
    (sCons (sSet 7 (dCall (c f__law_tree) (dCons (dVar 0) (dCons (dVar 6) (dCons (dVar 2) (dCons (dVar 3) (dCons (dVar 4) (dNil))))))))
    (sCons (sSet 8 (dCall (c f__law_tree) (dCons (dVar 0) (dCons (dBin dSub (dBin dSub (dVar 1) (dConst (.int 1))) (dVar 6)) (dCons (dVar 2) (dCons (dVar 3) (dCons (dVar 4) (dNil))))))))
    (sCons (sSet 9 (dIfE (dAnd (dBool (dBin dIn (dConst (.str "both")) (dVar 4))) (dBool (dBin dLt (dVar 5) (dConst (.int 2))))) (dConst (.str "both")) (dConst (.str "behind"))))
    (sRet (dTup (dCons (dVar 9) (dCons (dVar 7) (dCons (dVar 8) (dNil)))))))))) (sNil))
    (sCons (sIf (dAnd (dBool (dBin dGe (dVar 1) (dConst (.int 2)))) (dBool (dBin dLt (dVar 5) (dConst (.int 7))))) (sCons (sSet 10 (dBin dAdd (dConst (.int 1)) (dCall (c f__law_take) (dCons (dVar 0) (dCons (dVar 2) (dNil))))))
    (sRet (dTup (dCons (dConst (.str "section")) (dCons (dVar 10) (dCons (dCall (c f__law_tree) (dCons (dVar 0) (dCons (dBin dSub (dVar 1) (dConst (.int 1))) (dCons (dVar 2) (dCons (dVar 3) (dCons (dVar 4) (dNil))))))) (dNil))))))) (sNil))
    (sRet (dCall (c f__law_leaf) (dCons (dVar 0) (dCons (dVar 2) (dCons (dVar 3) (dCons (dLc (iSeq (dVar 4)) (gN 11) (dBool (dBin dNe (dVar 11) (dConst (.str "both")))) (dVar 11) [11]) (dNil)))))))))
noncomputable def b__law_line (c : Nat → SemF) : SemS :=
    sCons (sIf (dBool (dBin dEq (dBin dIx (dVar 0) (dConst (.int 0))) (dConst (.str "belt")))) (sRet (dCall (c f_Line_belt) (dCons (dBin dIx (dVar 0) (dConst (.int 1))) (dNil)))) (sNil))
    (sCons (sIf (dBool (dBin dEq (dBin dIx (dVar 0) (dConst (.int 0))) (dConst (.str "gap")))) (sRet (dCall (c f_Line_gap) (dCons (dBin dIx (dVar 0) (dConst (.int 1))) (dCons (dBin dIx (dVar 0) (dConst (.int 2))) (dNil))))) (sNil))
    (sCons (sIf (dBool (dBin dEq (dBin dIx (dVar 0) (dConst (.int 0))) (dConst (.str "hold")))) (sRet (dCall (c f_Line_hold) (dCons (dBin dIx (dVar 0) (dConst (.int 1))) (dCons (dBin dIx (dVar 0) (dConst (.int 2))) (dNil))))) (sNil))
    (sCons (sIf (dBool (dBin dEq (dBin dIx (dVar 0) (dConst (.int 0))) (dConst (.str "section")))) (sRet (dMeth k_Line "limited" (c f_Line_limited) (dCall (c f__law_line) (dCons (dBin dIx (dVar 0) (dConst (.int 2))) (dNil))) (dCons (dBin dIx (dVar 0) (dConst (.int 1))) (dNil)))) (sNil))
    (sCons (sPar 1 2 (dCons (dCall (c f__law_line) (dCons (dBin dIx (dVar 0) (dConst (.int 1))) (dNil))) (dCons (dCall (c f__law_line) (dCons (dBin dIx (dVar 0) (dConst (.int 2))) (dNil))) (dNil))))
    (sRet (dIfE (dBool (dBin dEq (dBin dIx (dVar 0) (dConst (.int 0))) (dConst (.str "both")))) (dBin (dOwn k_Line (c f_Line___and__)) (dVar 1) (dVar 2)) (dBin (dOwn k_Line (c f_Line___add__)) (dVar 1) (dVar 2))))))))
noncomputable def b__law_inner (c : Nat → SemF) : SemS :=
    sCons (sIf (dBool (dBin dEq (dBin dIx (dVar 0) (dConst (.int 0))) (dConst (.str "section")))) (sRet (dLst (dCons (dBin dIx (dVar 0) (dConst (.int 2))) (dNil)))) (sNil))
    (sRet (dIfE (dBool (dBin dIn (dBin dIx (dVar 0) (dConst (.int 0))) (dTup (dCons (dConst (.str "behind")) (dCons (dConst (.str "both")) (dNil)))))) (dLst (dCons (dBin dIx (dVar 0) (dConst (.int 1))) (dCons (dBin dIx (dVar 0) (dConst (.int 2))) (dNil)))) (dLst (dNil))))
noncomputable def b__law_walk (c : Nat → SemF) : SemS :=
    sCons (sSet 1 (dLc (iSeq (dCall (c f__law_inner) (dCons (dVar 0) (dNil)))) (gN 2) (tYesD) (dCall (c f__law_walk) (dCons (dVar 2) (dNil))) [2]))
    (sRet (dDict [(dConst (.str "told"), dVar 0), (dConst (.str "came"), dLstM (dNil)), (dConst (.str "left"), dLstM (dNil)), (dConst (.str "inner"), dVar 1)]))
noncomputable def b__law_behind (c : Nat → SemF) : SemS :=
    sRet (dIfE (dBool (dBin dGe (dCall dLen (dCons (dVar 1) (dNil))) (dVar 2))) (dCall dMax (dCons (dVar 0) (dCons (dBin dAdd (dBin dIx (dVar 1) (dNeg (dVar 2))) (dVar 3)) (dNil)))) (dVar 0))
noncomputable def b__law_go (c : Nat → SemF) : SemS :=
    sCons (sPar 2 3 (dCons (dBin (dGet 0) (dVar 0) (dConst (.str "told"))) (dCons (dBin (dGet 3) (dVar 0) (dConst (.str "inner"))) (dNil))))
    (sCons (sIf (dBool (dBin dEq (dBin dIx (dVar 2) (dConst (.int 0))) (dConst (.str "belt")))) (sSet 4 (dBin dAdd (dVar 1) (dBin dIx (dVar 2) (dConst (.int 1))))) (sIf (dBool (dBin dEq (dBin dIx (dVar 2) (dConst (.int 0))) (dConst (.str "gap")))) (sSet 4 (dCall (c f__law_behind) (dCons (dVar 1) (dCons (dBin (dGet 2) (dVar 0) (dConst (.str "left"))) (dCons (dBin dIx (dVar 2) (dConst (.int 1))) (dCons (dBin dIx (dVar 2) (dConst (.int 2))) (dNil))))))) (sIf (dBool (dBin dEq (dBin dIx (dVar 2) (dConst (.int 0))) (dConst (.str "hold")))) (sSet 4 (dCall (c f__law_behind) (dCons (dVar 1) (dCons (dBin (dGet 1) (dVar 0) (dConst (.str "came"))) (dCons (dBin dIx (dVar 2) (dConst (.int 1))) (dCons (dBin dIx (dVar 2) (dConst (.int 2))) (dNil))))))) (sIf (dBool (dBin dEq (dBin dIx (dVar 2) (dConst (.int 0))) (dConst (.str "section")))) (sSet 4 (dCall (c f__law_go) (dCons (dBin dIx (dVar 3) (dConst (.int 0))) (dCons (dCall (c f__law_behind) (dCons (dVar 1) (dCons (dBin (dGet 2) (dVar 0) (dConst (.str "left"))) (dCons (dBin dIx (dVar 2) (dConst (.int 1))) (dCons (dConst (.int 0)) (dNil)))))) (dNil))))) (sCons (sSet 5 (dCall (c f__law_go) (dCons (dBin dIx (dVar 3) (dConst (.int 0))) (dCons (dVar 1) (dNil)))))
    (sSet 4 (dIfE (dBool (dBin dEq (dBin dIx (dVar 2) (dConst (.int 0))) (dConst (.str "both")))) (dCall dMax (dCons (dVar 5) (dCons (dCall (c f__law_go) (dCons (dBin dIx (dVar 3) (dConst (.int 1))) (dCons (dVar 1) (dNil)))) (dNil)))) (dCall (c f__law_go) (dCons (dBin dIx (dVar 3) (dConst (.int 1))) (dCons (dVar 5) (dNil)))))))))))
    (sCons (sExpr (dBML opAppend (dBin (dGet 1) (dVar 0) (dConst (.str "came"))) (dCons (dVar 1) (dNil))))
    (sCons (sExpr (dBML opAppend (dBin (dGet 2) (dVar 0) (dConst (.str "left"))) (dCons (dVar 4) (dNil))))
    (sRet (dVar 4)))))
noncomputable def b__law_left (c : Nat → SemF) : SemS :=
    sCons (sSet 2 (dCall (c f__law_walk) (dCons (dVar 0) (dNil))))
    (sRet (dLc (iSeq (dVar 1)) (gN 3) (tYesD) (dCall (c f__law_go) (dCons (dVar 2) (dCons (dVar 3) (dNil)))) [3]))
noncomputable def b__law_arrivals (c : Nat → SemF) : SemS :=
    sCons (sPar3 2 3 4 (dCons (dCall (c f__law_pick) (dCons (dVar 0) (dCons (dLst (dCons (dConst (.int 0)) (dCons (dConst (.int 1)) (dCons (dConst (.int 2)) (dCons (dConst (.int 5)) (dCons (dConst (.int 20)) (dCons (dBin dPow (dConst (.int 10)) (dConst (.int 9))) (dNil)))))))) (dNil)))) (dCons (dLstM (dNil)) (dCons (dCall (c f__law_pick) (dCons (dVar 0) (dCons (dLst (dCons (dConst (.int 0)) (dCons (dConst (.int 0)) (dCons (dConst (.int 3)) (dCons (dBin dPow (dConst (.int 10)) (dConst (.int 12))) (dNil)))))) (dNil)))) (dNil)))))
    (sCons (sFor (iRange1 (dCons (dVar 1) (dNil))) (gN 5) (sCons (sExpr (dBML opAppend (dVar 3) (dCons (dVar 4) (dNil))))
    (sSet 4 (dBin dAdd (dVar 4) (dCall (c f__law_pick) (dCons (dVar 0) (dCons (dLst (dCons (dConst (.int 0)) (dCons (dConst (.int 0)) (dCons (dVar 2) (dCons (dCall (c f__law_take) (dCons (dVar 0) (dCons (dBin dAdd (dVar 2) (dConst (.int 1))) (dNil)))) (dNil)))))) (dNil))))))))
    (sRet (dVar 3)))
noncomputable def b__law_twice_right (c : Nat → SemF) : SemS :=
    sCons (sSet 1 (dCall (c f__law_tree) (dCons (dVar 0) (dCons (dConst (.int 3)) (dCons (dConst (.int 5)) (dCons (dConst (.str "small")) (dCons (dLst (dCons (dConst (.str "belt")) (dCons (dConst (.str "gap")) (dCons (dConst (.str "hold")) (dCons (dConst (.str "both")) (dNil)))))) (dNil))))))))
    (sCons (sAsg (dTup (dCons (dCall (c f__law_line) (dCons (dVar 1) (dNil))) (dCons (dCall (c f__law_arrivals) (dCons (dVar 0) (dCons (dBin dAdd (dConst (.int 1)) (dCall (c f__law_take) (dCons (dVar 0) (dCons (dConst (.int 30)) (dNil))))) (dNil)))) (dNil)))) (gT 2 (gCons' (gN 2) (gCons' (gN 3) (gNil')))))
    (sCons (sFor (iSeq (dLst (dCons (dTup (dCons (dConst (.str "behind")) (dCons (dBin (dOwn k_Line (c f_Line___add__)) (dVar 2) (dVar 2)) (dNil)))) (dCons (dTup (dCons (dConst (.str "both")) (dCons (dBin (dOwn k_Line (c f_Line___and__)) (dVar 2) (dVar 2)) (dNil)))) (dNil))))) (gT 2 (gCons' (gN 4) (gCons' (gN 5) (gNil')))) (sCons (sSet 6 (dCall (c f__law_left) (dCons (dTup (dCons (dVar 4) (dCons (dVar 1) (dCons (dVar 1) (dNil))))) (dCons (dVar 3) (dNil)))))
    (sIf (dOr (dBool (dBin dNe (dCallI k_Line (c f_Line___call__) (dVar 5) (dCons (dVar 3) (dNil))) (dVar 6))) (dBool (dBin dNe (dBin dIx (dBin (dGet 0) (dCall (c f_walked) (dCons (dVar 5) (dCons (dVar 3) (dNil)))) (dTup (dNil))) (dConst (.int 1))) (dVar 6)))) (sRet (dConst (.bl false))) (sNil))))
    (sCons (sSet 5 (dBin (dOwn k_Line (c f_Line___and__)) (dBin (dOwn k_Line (c f_Line___add__)) (dVar 2) (dMeth k_Line "limited" (c f_Line_limited) (dVar 2) (dCons (dConst (.int 2)) (dNil)))) (dVar 2)))
    (sCons (sIf (dBool (dBin dNe (dCallI k_Line (c f_Line___call__) (dVar 5) (dCons (dVar 3) (dNil))) (dCall (c f__law_left) (dCons (dTup (dCons (dConst (.str "both")) (dCons (dTup (dCons (dConst (.str "behind")) (dCons (dVar 1) (dCons (dTup (dCons (dConst (.str "section")) (dCons (dConst (.int 2)) (dCons (dVar 1) (dNil))))) (dNil))))) (dCons (dVar 1) (dNil))))) (dCons (dVar 3) (dNil)))))) (sRet (dConst (.bl false))) (sNil))
    (sCons (sSet 6 (dCall (c f__law_left) (dCons (dVar 1) (dCons (dVar 3) (dNil)))))
    (sCons (sSet 7 (dLcYK 2 [1, 0] 2 (y_leavings c) (dCons (dVar 3) (dCons (dVar 2) (dNil))) (gN 8) (dBool (dBin dEq (dCallI k_Line (c f_Line___call__) (dVar 2) (dCons (dVar 3) (dNil))) (dVar 6))) (dVar 8) [8]))
    (sRet (dAndV (dBin dEq (dCallI k_Line (c f_Line___call__) (dVar 2) (dCons (dVar 3) (dNil))) (dVar 6)) (dBin dEq (dVar 7) (dVar 6))))))))))
noncomputable def b_law (c : Nat → SemF) : SemS :=
    sCons (sSet 1 (dCall (c f__law_begun) (dCons (dVar 0) (dNil))))
    (sCons (sFor (iRange1 (dCons (dBin dAdd (dConst (.int 3)) (dCall dMin (dCons (dCall dLen (dCons (dVar 0) (dNil))) (dCons (dConst (.int 10)) (dNil))))) (dNil))) (gN 2) (sCons (sIf (dNot (dBool (dCall (c f__law_twice_right) (dCons (dVar 1) (dNil))))) (sRet (dConst (.bl false))) (sNil))
    (sCons (sSet 3 (dCall (c f__law_pick) (dCons (dVar 1) (dCons (dLst (dCons (dConst (.str "small")) (dCons (dConst (.str "small")) (dCons (dConst (.str "any")) (dNil))))) (dNil)))))
    (sCons (sSet 4 (dCall (c f__law_tree) (dCons (dVar 1) (dCons (dCall (c f__law_pick) (dCons (dVar 1) (dCons (dLst (dCons (dConst (.int 1)) (dCons (dConst (.int 3)) (dCons (dConst (.int 6)) (dCons (dConst (.int 9)) (dNil)))))) (dNil)))) (dCons (dConst (.int 5)) (dCons (dVar 3) (dCons (dLst (dCons (dConst (.str "belt")) (dCons (dConst (.str "gap")) (dCons (dConst (.str "hold")) (dCons (dConst (.str "both")) (dNil)))))) (dNil))))))))
    (sCons (sSet 5 (dCall (c f__law_line) (dCons (dVar 4) (dNil))))
    (sFor (iRange1 (dCons (dConst (.int 3)) (dNil))) (gN 6) (sCons (sSet 7 (dCall (c f__law_arrivals) (dCons (dVar 1) (dCons (dCall (c f__law_pick) (dCons (dVar 1) (dCons (dLst (dCons (dConst (.int 0)) (dCons (dConst (.int 1)) (dCons (dConst (.int 8)) (dCons (dConst (.int 40)) (dNil)))))) (dNil)))) (dNil)))))
    (sCons (sPar 8 9 (dCons (dCall (c f__law_left) (dCons (dVar 4) (dCons (dVar 7) (dNil)))) (dCons (dCall dReprX (dCons (dVar 7) (dNil))) (dNil))))
    (sCons (sSet 10 (dCallI k_Line (c f_Line___call__) (dVar 5) (dCons (dVar 7) (dNil))))
    (sCons (sIf (dBool (dBin dNe (dCall dReprX (dCons (dVar 10) (dNil))) (dCall dReprX (dCons (dVar 8) (dNil))))) (sRet (dConst (.bl false))) (sNil))
    (sCons (sExpr (dBML opAppend (dVar 10) (dCons (dConst .non) (dNil))))
    (sCons (sIf (dOr (dBool (dBin dNe (dCallI k_Line (kwF1 1 2 [0] (c f_Line___call__)) (dVar 5) (dCons (dCall dTuple (dCons (dVar 7) (dNil))) (dNil))) (dVar 8))) (dBool (dBin dNe (dCall dReprX (dCons (dVar 7) (dNil))) (dVar 9)))) (sRet (dConst (.bl false))) (sNil))
    (sIf (dOr (dBool (dBin dNe (dLcY 2 (y_leavings c) (dCons (dVar 5) (dCons (dVar 7) (dNil))) (gN 11) (tYesD) (dVar 11) [11]) (dVar 8))) (dBool (dBin dNe (dCallI k_Line (c f_Line___call__) (dCall (c f__law_line) (dCons (dVar 4) (dNil))) (dCons (dVar 7) (dNil))) (dVar 8)))) (sRet (dConst (.bl false))) (sNil))))))))))))))
    (sRet (dConst (.bl true))))
noncomputable def tbl (c : Nat → SemF) : List SemF :=
  [arF 1 (runB 1 (b_is_number c)),
   arF 1 (runB 1 (b_is_moment c)),
   arF 1 (runB 4 (b_first_bad c)),
   arF 1 (runB 2 (b_need_arrivals c)),
   arF 3 (runB 5 (b_Walk___init__ c)),
   arF 4 (runB 4 (b_Walk_earlier c)),
   arF 2 (runB 5 (b_Walk_left c)),
   arF 2 (runB 3 (b_Walk_go c)),
   arF 1 (runB 3 (b_Walk_rows c)),
   arF 1 (runB 1 (b_inner_parts c)),
   arF 2 (runB 4 (b_walk_of c)),
   arF 2 (runB 4 (b_walked c)),
   arF 1 (runB 1 (b_is_time c)),
   arF 1 (runB 1 (b_is_count c)),
   arF 1 (runB 1 (b_need_count c)),
   arF 1 (runB 1 (b_need_time c)),
   arF 2 (runB 5 (b_paths_of c)),
   arF 2 (runB 2 (b_Line___init__ c)),
   arF 1 (runB 1 (b_Line_belt c)),
   arF 2 (runB 2 (b_Line_gap c)),
   arF 2 (runB 2 (b_Line_hold c)),
   arF 2 (runB 2 (b_Line_limited c)),
   arF 2 (runB 2 (b_Line___add__ c)),
   arF 2 (runB 2 (b_Line___and__ c)),
   arF 2 (frzH (runB 2 (b_Line___call__ c))),
   arF 1 (runB 1 (b_Line_parts c)),
   arF 1 (runB 3 (b__law_begun c)),
   arF 1 (runB 6 (b__law_mixed c)),
   arF 2 (runB 3 (b__law_take c)),
   arF 2 (runB 2 (b__law_pick c)),
   arF 2 (runB 2 (b__law_time c)),
   arF 4 (runB 5 (b__law_leaf c)),
   arF 5 (runB 12 (b__law_tree c)),
   arF 1 (runB 3 (b__law_line c)),
   arF 1 (runB 1 (b__law_inner c)),
   arF 1 (runB 3 (b__law_walk c)),
   arF 4 (runB 4 (b__law_behind c)),
   arF 2 (runB 6 (b__law_go c)),
   arF 2 (frzF (runB 4 (b__law_left c))),
   arF 2 (frzF (runB 6 (b__law_arrivals c))),
   arF 1 (runB 9 (b__law_twice_right c)),
   arF 1 (runB 12 (b_law c))]
noncomputable def sem : Nat → Nat → SemF
  | 0 => fun _ _ _ => .no
  | n + 1 => fun i => (tbl (sem n)).getD i fun _ _ => .no
theorem S_is_number {n : Nat} {a0 : D} {st : Store} : sem (n + 1) f_is_number [a0] st = finB (b_is_number (sem n) [some a0] st) := ar_runB (m := 1) (n := 1) (body := b_is_number (sem n)) (ds := [a0]) (st := st) (env := [some a0]) rfl rfl
theorem S_is_moment {n : Nat} {a0 : D} {st : Store} : sem (n + 1) f_is_moment [a0] st = finB (b_is_moment (sem n) [some a0] st) := ar_runB (m := 1) (n := 1) (body := b_is_moment (sem n)) (ds := [a0]) (st := st) (env := [some a0]) rfl rfl
theorem S_first_bad {n : Nat} {a0 : D} {st : Store} : sem (n + 1) f_first_bad [a0] st = finB (b_first_bad (sem n) [some a0, none, none, none] st) := ar_runB (m := 1) (n := 4) (body := b_first_bad (sem n)) (ds := [a0]) (st := st) (env := [some a0, none, none, none]) rfl rfl
theorem S_need_arrivals {n : Nat} {a0 : D} {st : Store} : sem (n + 1) f_need_arrivals [a0] st = finB (b_need_arrivals (sem n) [some a0, none] st) := ar_runB (m := 1) (n := 2) (body := b_need_arrivals (sem n)) (ds := [a0]) (st := st) (env := [some a0, none]) rfl rfl
theorem S_Walk___init__ {n : Nat} {a0 a1 a2 : D} {st : Store} : sem (n + 1) f_Walk___init__ [a0, a1, a2] st = finB (b_Walk___init__ (sem n) [some a0, some a1, some a2, none, none] st) := ar_runB (m := 3) (n := 5) (body := b_Walk___init__ (sem n)) (ds := [a0, a1, a2]) (st := st) (env := [some a0, some a1, some a2, none, none]) rfl rfl
theorem S_Walk_earlier {n : Nat} {a0 a1 a2 a3 : D} {st : Store} : sem (n + 1) f_Walk_earlier [a0, a1, a2, a3] st = finB (b_Walk_earlier (sem n) [some a0, some a1, some a2, some a3] st) := ar_runB (m := 4) (n := 4) (body := b_Walk_earlier (sem n)) (ds := [a0, a1, a2, a3]) (st := st) (env := [some a0, some a1, some a2, some a3]) rfl rfl
theorem S_Walk_left {n : Nat} {a0 a1 : D} {st : Store} : sem (n + 1) f_Walk_left [a0, a1] st = finB (b_Walk_left (sem n) [some a0, some a1, none, none, none] st) := ar_runB (m := 2) (n := 5) (body := b_Walk_left (sem n)) (ds := [a0, a1]) (st := st) (env := [some a0, some a1, none, none, none]) rfl rfl
theorem S_Walk_go {n : Nat} {a0 a1 : D} {st : Store} : sem (n + 1) f_Walk_go [a0, a1] st = finB (b_Walk_go (sem n) [some a0, some a1, none] st) := ar_runB (m := 2) (n := 3) (body := b_Walk_go (sem n)) (ds := [a0, a1]) (st := st) (env := [some a0, some a1, none]) rfl rfl
theorem S_Walk_rows {n : Nat} {a0 : D} {st : Store} : sem (n + 1) f_Walk_rows [a0] st = finB (b_Walk_rows (sem n) [some a0, none, none] st) := ar_runB (m := 1) (n := 3) (body := b_Walk_rows (sem n)) (ds := [a0]) (st := st) (env := [some a0, none, none]) rfl rfl
theorem S_inner_parts {n : Nat} {a0 : D} {st : Store} : sem (n + 1) f_inner_parts [a0] st = finB (b_inner_parts (sem n) [some a0] st) := ar_runB (m := 1) (n := 1) (body := b_inner_parts (sem n)) (ds := [a0]) (st := st) (env := [some a0]) rfl rfl
theorem S_walk_of {n : Nat} {a0 a1 : D} {st : Store} : sem (n + 1) f_walk_of [a0, a1] st = finB (b_walk_of (sem n) [some a0, some a1, none, none] st) := ar_runB (m := 2) (n := 4) (body := b_walk_of (sem n)) (ds := [a0, a1]) (st := st) (env := [some a0, some a1, none, none]) rfl rfl
theorem S_walked {n : Nat} {a0 a1 : D} {st : Store} : sem (n + 1) f_walked [a0, a1] st = finB (b_walked (sem n) [some a0, some a1, none, none] st) := ar_runB (m := 2) (n := 4) (body := b_walked (sem n)) (ds := [a0, a1]) (st := st) (env := [some a0, some a1, none, none]) rfl rfl
theorem S_is_time {n : Nat} {a0 : D} {st : Store} : sem (n + 1) f_is_time [a0] st = finB (b_is_time (sem n) [some a0] st) := ar_runB (m := 1) (n := 1) (body := b_is_time (sem n)) (ds := [a0]) (st := st) (env := [some a0]) rfl rfl
theorem S_is_count {n : Nat} {a0 : D} {st : Store} : sem (n + 1) f_is_count [a0] st = finB (b_is_count (sem n) [some a0] st) := ar_runB (m := 1) (n := 1) (body := b_is_count (sem n)) (ds := [a0]) (st := st) (env := [some a0]) rfl rfl
theorem S_need_count {n : Nat} {a0 : D} {st : Store} : sem (n + 1) f_need_count [a0] st = finB (b_need_count (sem n) [some a0] st) := ar_runB (m := 1) (n := 1) (body := b_need_count (sem n)) (ds := [a0]) (st := st) (env := [some a0]) rfl rfl
theorem S_need_time {n : Nat} {a0 : D} {st : Store} : sem (n + 1) f_need_time [a0] st = finB (b_need_time (sem n) [some a0] st) := ar_runB (m := 1) (n := 1) (body := b_need_time (sem n)) (ds := [a0]) (st := st) (env := [some a0]) rfl rfl
theorem S_paths_of {n : Nat} {a0 a1 : D} {st : Store} : sem (n + 1) f_paths_of [a0, a1] st = finB (b_paths_of (sem n) [some a0, some a1, none, none, none] st) := ar_runB (m := 2) (n := 5) (body := b_paths_of (sem n)) (ds := [a0, a1]) (st := st) (env := [some a0, some a1, none, none, none]) rfl rfl
theorem S_Line___init__ {n : Nat} {a0 a1 : D} {st : Store} : sem (n + 1) f_Line___init__ [a0, a1] st = finB (b_Line___init__ (sem n) [some a0, some a1] st) := ar_runB (m := 2) (n := 2) (body := b_Line___init__ (sem n)) (ds := [a0, a1]) (st := st) (env := [some a0, some a1]) rfl rfl
theorem S_Line_belt {n : Nat} {a0 : D} {st : Store} : sem (n + 1) f_Line_belt [a0] st = finB (b_Line_belt (sem n) [some a0] st) := ar_runB (m := 1) (n := 1) (body := b_Line_belt (sem n)) (ds := [a0]) (st := st) (env := [some a0]) rfl rfl
theorem S_Line_gap {n : Nat} {a0 a1 : D} {st : Store} : sem (n + 1) f_Line_gap [a0, a1] st = finB (b_Line_gap (sem n) [some a0, some a1] st) := ar_runB (m := 2) (n := 2) (body := b_Line_gap (sem n)) (ds := [a0, a1]) (st := st) (env := [some a0, some a1]) rfl rfl
theorem S_Line_hold {n : Nat} {a0 a1 : D} {st : Store} : sem (n + 1) f_Line_hold [a0, a1] st = finB (b_Line_hold (sem n) [some a0, some a1] st) := ar_runB (m := 2) (n := 2) (body := b_Line_hold (sem n)) (ds := [a0, a1]) (st := st) (env := [some a0, some a1]) rfl rfl
theorem S_Line_limited {n : Nat} {a0 a1 : D} {st : Store} : sem (n + 1) f_Line_limited [a0, a1] st = finB (b_Line_limited (sem n) [some a0, some a1] st) := ar_runB (m := 2) (n := 2) (body := b_Line_limited (sem n)) (ds := [a0, a1]) (st := st) (env := [some a0, some a1]) rfl rfl
theorem S_Line___add__ {n : Nat} {a0 a1 : D} {st : Store} : sem (n + 1) f_Line___add__ [a0, a1] st = finB (b_Line___add__ (sem n) [some a0, some a1] st) := ar_runB (m := 2) (n := 2) (body := b_Line___add__ (sem n)) (ds := [a0, a1]) (st := st) (env := [some a0, some a1]) rfl rfl
theorem S_Line___and__ {n : Nat} {a0 a1 : D} {st : Store} : sem (n + 1) f_Line___and__ [a0, a1] st = finB (b_Line___and__ (sem n) [some a0, some a1] st) := ar_runB (m := 2) (n := 2) (body := b_Line___and__ (sem n)) (ds := [a0, a1]) (st := st) (env := [some a0, some a1]) rfl rfl
theorem S_Line___call__ {n : Nat} {a0 a1 : D} {st : Store} : sem (n + 1) f_Line___call__ [a0, a1] st = frzN st (finB (b_Line___call__ (sem n) [some a0, some a1] st)) := ar_frzH (m := 2) (n := 2) (body := b_Line___call__ (sem n)) (ds := [a0, a1]) (st := st) (env := [some a0, some a1]) rfl rfl
theorem S_Line_parts {n : Nat} {a0 : D} {st : Store} : sem (n + 1) f_Line_parts [a0] st = finB (b_Line_parts (sem n) [some a0] st) := ar_runB (m := 1) (n := 1) (body := b_Line_parts (sem n)) (ds := [a0]) (st := st) (env := [some a0]) rfl rfl
theorem S__law_begun {n : Nat} {a0 : D} {st : Store} : sem (n + 1) f__law_begun [a0] st = finB (b__law_begun (sem n) [some a0, none, none] st) := ar_runB (m := 1) (n := 3) (body := b__law_begun (sem n)) (ds := [a0]) (st := st) (env := [some a0, none, none]) rfl rfl
theorem S__law_mixed {n : Nat} {a0 : D} {st : Store} : sem (n + 1) f__law_mixed [a0] st = finB (b__law_mixed (sem n) [some a0, none, none, none, none, none] st) := ar_runB (m := 1) (n := 6) (body := b__law_mixed (sem n)) (ds := [a0]) (st := st) (env := [some a0, none, none, none, none, none]) rfl rfl
theorem S__law_take {n : Nat} {a0 a1 : D} {st : Store} : sem (n + 1) f__law_take [a0, a1] st = finB (b__law_take (sem n) [some a0, some a1, none] st) := ar_runB (m := 2) (n := 3) (body := b__law_take (sem n)) (ds := [a0, a1]) (st := st) (env := [some a0, some a1, none]) rfl rfl
theorem S__law_pick {n : Nat} {a0 a1 : D} {st : Store} : sem (n + 1) f__law_pick [a0, a1] st = finB (b__law_pick (sem n) [some a0, some a1] st) := ar_runB (m := 2) (n := 2) (body := b__law_pick (sem n)) (ds := [a0, a1]) (st := st) (env := [some a0, some a1]) rfl rfl
theorem S__law_time {n : Nat} {a0 a1 : D} {st : Store} : sem (n + 1) f__law_time [a0, a1] st = finB (b__law_time (sem n) [some a0, some a1] st) := ar_runB (m := 2) (n := 2) (body := b__law_time (sem n)) (ds := [a0, a1]) (st := st) (env := [some a0, some a1]) rfl rfl
theorem S__law_leaf {n : Nat} {a0 a1 a2 a3 : D} {st : Store} : sem (n + 1) f__law_leaf [a0, a1, a2, a3] st = finB (b__law_leaf (sem n) [some a0, some a1, some a2, some a3, none] st) := ar_runB (m := 4) (n := 5) (body := b__law_leaf (sem n)) (ds := [a0, a1, a2, a3]) (st := st) (env := [some a0, some a1, some a2, some a3, none]) rfl rfl
theorem S__law_tree {n : Nat} {a0 a1 a2 a3 a4 : D} {st : Store} : sem (n + 1) f__law_tree [a0, a1, a2, a3, a4] st = finB (b__law_tree (sem n) [some a0, some a1, some a2, some a3, some a4, none, none, none, none, none, none, none] st) := ar_runB (m := 5) (n := 12) (body := b__law_tree (sem n)) (ds := [a0, a1, a2, a3, a4]) (st := st) (env := [some a0, some a1, some a2, some a3, some a4, none, none, none, none, none, none, none]) rfl rfl
theorem S__law_line {n : Nat} {a0 : D} {st : Store} : sem (n + 1) f__law_line [a0] st = finB (b__law_line (sem n) [some a0, none, none] st) := ar_runB (m := 1) (n := 3) (body := b__law_line (sem n)) (ds := [a0]) (st := st) (env := [some a0, none, none]) rfl rfl
theorem S__law_inner {n : Nat} {a0 : D} {st : Store} : sem (n + 1) f__law_inner [a0] st = finB (b__law_inner (sem n) [some a0] st) := ar_runB (m := 1) (n := 1) (body := b__law_inner (sem n)) (ds := [a0]) (st := st) (env := [some a0]) rfl rfl
theorem S__law_walk {n : Nat} {a0 : D} {st : Store} : sem (n + 1) f__law_walk [a0] st = finB (b__law_walk (sem n) [some a0, none, none] st) := ar_runB (m := 1) (n := 3) (body := b__law_walk (sem n)) (ds := [a0]) (st := st) (env := [some a0, none, none]) rfl rfl
theorem S__law_behind {n : Nat} {a0 a1 a2 a3 : D} {st : Store} : sem (n + 1) f__law_behind [a0, a1, a2, a3] st = finB (b__law_behind (sem n) [some a0, some a1, some a2, some a3] st) := ar_runB (m := 4) (n := 4) (body := b__law_behind (sem n)) (ds := [a0, a1, a2, a3]) (st := st) (env := [some a0, some a1, some a2, some a3]) rfl rfl
theorem S__law_go {n : Nat} {a0 a1 : D} {st : Store} : sem (n + 1) f__law_go [a0, a1] st = finB (b__law_go (sem n) [some a0, some a1, none, none, none, none] st) := ar_runB (m := 2) (n := 6) (body := b__law_go (sem n)) (ds := [a0, a1]) (st := st) (env := [some a0, some a1, none, none, none, none]) rfl rfl
theorem S__law_left {n : Nat} {a0 a1 : D} {st : Store} : sem (n + 1) f__law_left [a0, a1] st = frzR st (finB (b__law_left (sem n) [some a0, some a1, none, none] st)) := ar_frzF (m := 2) (n := 4) (body := b__law_left (sem n)) (ds := [a0, a1]) (st := st) (env := [some a0, some a1, none, none]) rfl rfl
theorem S__law_arrivals {n : Nat} {a0 a1 : D} {st : Store} : sem (n + 1) f__law_arrivals [a0, a1] st = frzR st (finB (b__law_arrivals (sem n) [some a0, some a1, none, none, none, none] st)) := ar_frzF (m := 2) (n := 6) (body := b__law_arrivals (sem n)) (ds := [a0, a1]) (st := st) (env := [some a0, some a1, none, none, none, none]) rfl rfl
theorem S__law_twice_right {n : Nat} {a0 : D} {st : Store} : sem (n + 1) f__law_twice_right [a0] st = finB (b__law_twice_right (sem n) [some a0, none, none, none, none, none, none, none, none] st) := ar_runB (m := 1) (n := 9) (body := b__law_twice_right (sem n)) (ds := [a0]) (st := st) (env := [some a0, none, none, none, none, none, none, none, none]) rfl rfl
theorem S_law {n : Nat} {a0 : D} {st : Store} : sem (n + 1) f_law [a0] st = finB (b_law (sem n) [some a0, none, none, none, none, none, none, none, none, none, none, none] st) := ar_runB (m := 1) (n := 12) (body := b_law (sem n)) (ds := [a0]) (st := st) (env := [some a0, none, none, none, none, none, none, none, none, none, none, none]) rfl rfl
end Q

namespace Q
open PySem PySem.Spec PyProof.Rows L2 DY
abbrev N0 : List Str := ["thing"]
abbrev p0 : List Str := ["thing"]
theorem nd0 : N0.Nodup := by decide +kernel
theorem sc0 : FnScope N0 p0 (defScope s0) := ⟨rfl, rfl, rfl, nd0, rfl, by decide +kernel, by decide +kernel⟩
abbrev N1 : List Str := ["thing"]
abbrev p1 : List Str := ["thing"]
theorem nd1 : N1.Nodup := by decide +kernel
theorem sc1 : FnScope N1 p1 (defScope s1) := ⟨rfl, rfl, rfl, nd1, rfl, by decide +kernel, by decide +kernel⟩
abbrev N2 : List Str := ["moments", "last", "at", "moment"]
abbrev p2 : List Str := ["moments"]
theorem nd2 : N2.Nodup := by decide +kernel
theorem sc2 : FnScope N2 p2 (defScope s2) := ⟨rfl, rfl, rfl, nd2, rfl, by decide +kernel, by decide +kernel⟩
abbrev N3 : List Str := ["arrivals", "at"]
abbrev p3 : List Str := ["arrivals"]
theorem nd3 : N3.Nodup := by decide +kernel
theorem sc3 : FnScope N3 p3 (defScope s3) := ⟨rfl, rfl, rfl, nd3, rfl, by decide +kernel, by decide +kernel⟩
abbrev N4 : List Str := ["self", "part", "path", "at", "one"]
abbrev p4 : List Str := ["self", "part", "path"]
theorem nd4 : N4.Nodup := by decide +kernel
theorem sc4 : FnScope N4 p4 (defScope s4) := ⟨rfl, rfl, rfl, nd4, rfl, by decide +kernel, by decide +kernel⟩
abbrev N5 : List Str := ["self", "moments", "count", "moment"]
abbrev p5 : List Str := ["self", "moments", "count", "moment"]
theorem nd5 : N5.Nodup := by decide +kernel
theorem sc5 : FnScope N5 p5 (defScope s5) := ⟨rfl, rfl, rfl, nd5, rfl, by decide +kernel, by decide +kernel⟩
abbrev N6 : List Str := ["self", "moment", "kind", "one", "walk"]
abbrev p6 : List Str := ["self", "moment"]
theorem nd6 : N6.Nodup := by decide +kernel
theorem sc6 : FnScope N6 p6 (defScope s6) := ⟨rfl, rfl, rfl, nd6, rfl, by decide +kernel, by decide +kernel⟩
abbrev N7 : List Str := ["self", "moment", "leaving"]
abbrev p7 : List Str := ["self", "moment"]
theorem nd7 : N7.Nodup := by decide +kernel
theorem sc7 : FnScope N7 p7 (defScope s7) := ⟨rfl, rfl, rfl, nd7, rfl, by decide +kernel, by decide +kernel⟩
abbrev N8 : List Str := ["self", "found", "walk"]
abbrev p8 : List Str := ["self"]
theorem nd8 : N8.Nodup := by decide +kernel
theorem sc8 : FnScope N8 p8 (defScope s8) := ⟨rfl, rfl, rfl, nd8, rfl, by decide +kernel, by decide +kernel⟩
abbrev N9 : List Str := ["part"]
abbrev p9 : List Str := ["part"]
theorem nd9 : N9.Nodup := by decide +kernel
theorem sc9 : FnScope N9 p9 (defScope s9) := ⟨rfl, rfl, rfl, nd9, rfl, by decide +kernel, by decide +kernel⟩
abbrev N10 : List Str := ["line", "arrivals", "walk", "moment"]
abbrev p10 : List Str := ["line", "arrivals"]
theorem nd10 : N10.Nodup := by decide +kernel
theorem sc10 : FnScope N10 p10 (defScope s10) := ⟨rfl, rfl, rfl, nd10, rfl, by decide +kernel, by decide +kernel⟩
abbrev N11 : List Str := ["line", "arrivals", "path", "pair"]
abbrev p11 : List Str := ["line", "arrivals"]
theorem nd11 : N11.Nodup := by decide +kernel
theorem sc11 : FnScope N11 p11 (defScope s11) := ⟨rfl, rfl, rfl, nd11, rfl, by decide +kernel, by decide +kernel⟩
abbrev NG0 : List Str := ["line", "arrivals", "walk", "moment"]
abbrev pG0 : List Str := ["line", "arrivals"]
theorem ndG0 : NG0.Nodup := by decide +kernel
theorem scG0 : GScope NG0 pG0 (defScope sG0) := ⟨rfl, rfl, rfl, ndG0, rfl, by decide +kernel, by decide +kernel⟩
abbrev N12 : List Str := ["thing"]
abbrev p12 : List Str := ["thing"]
theorem nd12 : N12.Nodup := by decide +kernel
theorem sc12 : FnScope N12 p12 (defScope s12) := ⟨rfl, rfl, rfl, nd12, rfl, by decide +kernel, by decide +kernel⟩
abbrev N13 : List Str := ["thing"]
abbrev p13 : List Str := ["thing"]
theorem nd13 : N13.Nodup := by decide +kernel
theorem sc13 : FnScope N13 p13 (defScope s13) := ⟨rfl, rfl, rfl, nd13, rfl, by decide +kernel, by decide +kernel⟩
abbrev N14 : List Str := ["count"]
abbrev p14 : List Str := ["count"]
theorem nd14 : N14.Nodup := by decide +kernel
theorem sc14 : FnScope N14 p14 (defScope s14) := ⟨rfl, rfl, rfl, nd14, rfl, by decide +kernel, by decide +kernel⟩
abbrev N15 : List Str := ["time"]
abbrev p15 : List Str := ["time"]
theorem nd15 : N15.Nodup := by decide +kernel
theorem sc15 : FnScope N15 p15 (defScope s15) := ⟨rfl, rfl, rfl, nd15, rfl, by decide +kernel, by decide +kernel⟩
abbrev N16 : List Str := ["part", "path", "found", "at", "one"]
abbrev p16 : List Str := ["part", "path"]
theorem nd16 : N16.Nodup := by decide +kernel
theorem sc16 : FnScope N16 p16 (defScope s16) := ⟨rfl, rfl, rfl, nd16, rfl, by decide +kernel, by decide +kernel⟩
abbrev N17 : List Str := ["self", "nested"]
abbrev p17 : List Str := ["self", "nested"]
theorem nd17 : N17.Nodup := by decide +kernel
theorem sc17 : FnScope N17 p17 (defScope s17) := ⟨rfl, rfl, rfl, nd17, rfl, by decide +kernel, by decide +kernel⟩
abbrev N18 : List Str := ["time"]
abbrev p18 : List Str := ["time"]
theorem nd18 : N18.Nodup := by decide +kernel
theorem sc18 : FnScope N18 p18 (defScope s18) := ⟨rfl, rfl, rfl, nd18, rfl, by decide +kernel, by decide +kernel⟩
abbrev N19 : List Str := ["count", "time"]
abbrev p19 : List Str := ["count", "time"]
theorem nd19 : N19.Nodup := by decide +kernel
theorem sc19 : FnScope N19 p19 (defScope s19) := ⟨rfl, rfl, rfl, nd19, rfl, by decide +kernel, by decide +kernel⟩
abbrev N20 : List Str := ["count", "time"]
abbrev p20 : List Str := ["count", "time"]
theorem nd20 : N20.Nodup := by decide +kernel
theorem sc20 : FnScope N20 p20 (defScope s20) := ⟨rfl, rfl, rfl, nd20, rfl, by decide +kernel, by decide +kernel⟩
abbrev N21 : List Str := ["self", "count"]
abbrev p21 : List Str := ["self", "count"]
theorem nd21 : N21.Nodup := by decide +kernel
theorem sc21 : FnScope N21 p21 (defScope s21) := ⟨rfl, rfl, rfl, nd21, rfl, by decide +kernel, by decide +kernel⟩
abbrev N22 : List Str := ["self", "other"]
abbrev p22 : List Str := ["self", "other"]
theorem nd22 : N22.Nodup := by decide +kernel
theorem sc22 : FnScope N22 p22 (defScope s22) := ⟨rfl, rfl, rfl, nd22, rfl, by decide +kernel, by decide +kernel⟩
abbrev N23 : List Str := ["self", "other"]
abbrev p23 : List Str := ["self", "other"]
theorem nd23 : N23.Nodup := by decide +kernel
theorem sc23 : FnScope N23 p23 (defScope s23) := ⟨rfl, rfl, rfl, nd23, rfl, by decide +kernel, by decide +kernel⟩
abbrev N24 : List Str := ["self", "arrivals"]
abbrev p24 : List Str := ["self", "arrivals"]
theorem nd24 : N24.Nodup := by decide +kernel
theorem sc24 : FnScope N24 p24 (defScope s24) := ⟨rfl, rfl, rfl, nd24, rfl, by decide +kernel, by decide +kernel⟩
abbrev N25 : List Str := ["self"]
abbrev p25 : List Str := ["self"]
theorem nd25 : N25.Nodup := by decide +kernel
theorem sc25 : FnScope N25 p25 (defScope s25) := ⟨rfl, rfl, rfl, nd25, rfl, by decide +kernel, by decide +kernel⟩
abbrev N26 : List Str := ["_law_script", "_law_wide_here", "_law_cell"]
abbrev p26 : List Str := ["_law_script"]
theorem nd26 : N26.Nodup := by decide +kernel
theorem sc26 : FnScope N26 p26 (defScope s26) := ⟨rfl, rfl, rfl, nd26, rfl, by decide +kernel, by decide +kernel⟩
abbrev N27 : List Str := ["_law_draw", "_law_turn", "_law_found", "_law_prime", "_law_blend", "_law_cell"]
abbrev p27 : List Str := ["_law_draw"]
theorem nd27 : N27.Nodup := by decide +kernel
theorem sc27 : FnScope N27 p27 (defScope s27) := ⟨rfl, rfl, rfl, nd27, rfl, by decide +kernel, by decide +kernel⟩
abbrev N28 : List Str := ["_law_draw", "_law_size", "_law_found"]
abbrev p28 : List Str := ["_law_draw", "_law_size"]
theorem nd28 : N28.Nodup := by decide +kernel
theorem sc28 : FnScope N28 p28 (defScope s28) := ⟨rfl, rfl, rfl, nd28, rfl, by decide +kernel, by decide +kernel⟩
abbrev N29 : List Str := ["_law_draw", "_law_some"]
abbrev p29 : List Str := ["_law_draw", "_law_some"]
theorem nd29 : N29.Nodup := by decide +kernel
theorem sc29 : FnScope N29 p29 (defScope s29) := ⟨rfl, rfl, rfl, nd29, rfl, by decide +kernel, by decide +kernel⟩
abbrev N30 : List Str := ["_law_draw", "_law_kind"]
abbrev p30 : List Str := ["_law_draw", "_law_kind"]
theorem nd30 : N30.Nodup := by decide +kernel
theorem sc30 : FnScope N30 p30 (defScope s30) := ⟨rfl, rfl, rfl, nd30, rfl, by decide +kernel, by decide +kernel⟩
abbrev N31 : List Str := ["_law_draw", "_law_top", "_law_kind", "_law_sorts", "_law_sort"]
abbrev p31 : List Str := ["_law_draw", "_law_top", "_law_kind", "_law_sorts"]
theorem nd31 : N31.Nodup := by decide +kernel
theorem sc31 : FnScope N31 p31 (defScope s31) := ⟨rfl, rfl, rfl, nd31, rfl, by decide +kernel, by decide +kernel⟩
abbrev N32 : List Str := ["_law_draw", "_law_room", "_law_top", "_law_kind", "_law_sorts", "_law_way", "_law_first", "_law_one", "_law_other", "_law_word", "_law_count", "_law_sort"]
abbrev p32 : List Str := ["_law_draw", "_law_room", "_law_top", "_law_kind", "_law_sorts"]
theorem nd32 : N32.Nodup := by decide +kernel
theorem sc32 : FnScope N32 p32 (defScope s32) := ⟨rfl, rfl, rfl, nd32, rfl, by decide +kernel, by decide +kernel⟩
abbrev N33 : List Str := ["_law_told", "_law_one", "_law_other"]
abbrev p33 : List Str := ["_law_told"]
theorem nd33 : N33.Nodup := by decide +kernel
theorem sc33 : FnScope N33 p33 (defScope s33) := ⟨rfl, rfl, rfl, nd33, rfl, by decide +kernel, by decide +kernel⟩
abbrev N34 : List Str := ["_law_told"]
abbrev p34 : List Str := ["_law_told"]
theorem nd34 : N34.Nodup := by decide +kernel
theorem sc34 : FnScope N34 p34 (defScope s34) := ⟨rfl, rfl, rfl, nd34, rfl, by decide +kernel, by decide +kernel⟩
abbrev N35 : List Str := ["_law_told", "_law_inner_here", "_law_one"]
abbrev p35 : List Str := ["_law_told"]
theorem nd35 : N35.Nodup := by decide +kernel
theorem sc35 : FnScope N35 p35 (defScope s35) := ⟨rfl, rfl, rfl, nd35, rfl, by decide +kernel, by decide +kernel⟩
abbrev N36 : List Str := ["_law_moment", "_law_earlier", "_law_count", "_law_time_here"]
abbrev p36 : List Str := ["_law_moment", "_law_earlier", "_law_count", "_law_time_here"]
theorem nd36 : N36.Nodup := by decide +kernel
theorem sc36 : FnScope N36 p36 (defScope s36) := ⟨rfl, rfl, rfl, nd36, rfl, by decide +kernel, by decide +kernel⟩
abbrev N37 : List Str := ["_law_walk_here", "_law_moment", "_law_told", "_law_inner_here", "_law_leaving", "_law_first"]
abbrev p37 : List Str := ["_law_walk_here", "_law_moment"]
theorem nd37 : N37.Nodup := by decide +kernel
theorem sc37 : FnScope N37 p37 (defScope s37) := ⟨rfl, rfl, rfl, nd37, rfl, by decide +kernel, by decide +kernel⟩
abbrev N38 : List Str := ["_law_told", "_law_moments", "_law_walk_here", "_law_moment"]
abbrev p38 : List Str := ["_law_told", "_law_moments"]
theorem nd38 : N38.Nodup := by decide +kernel
theorem sc38 : FnScope N38 p38 (defScope s38) := ⟨rfl, rfl, rfl, nd38, rfl, by decide +kernel, by decide +kernel⟩
abbrev N39 : List Str := ["_law_draw", "_law_many", "_law_pause", "_law_found", "_law_moment", "_law_turn"]
abbrev p39 : List Str := ["_law_draw", "_law_many"]
theorem nd39 : N39.Nodup := by decide +kernel
theorem sc39 : FnScope N39 p39 (defScope s39) := ⟨rfl, rfl, rfl, nd39, rfl, by decide +kernel, by decide +kernel⟩
abbrev N40 : List Str := ["_law_draw", "_law_part", "_law_one", "_law_moments", "_law_word", "_law_row", "_law_due", "_law_told", "_law_out"]
abbrev p40 : List Str := ["_law_draw"]
theorem nd40 : N40.Nodup := by decide +kernel
theorem sc40 : FnScope N40 p40 (defScope s40) := ⟨rfl, rfl, rfl, nd40, rfl, by decide +kernel, by decide +kernel⟩
abbrev N41 : List Str := ["_law_script", "_law_draw", "_law_turn", "_law_kind", "_law_told", "_law_line_here", "_law_lap", "_law_moments", "_law_due", "_law_shown", "_law_found", "_law_moment"]
abbrev p41 : List Str := ["_law_script"]
theorem nd41 : N41.Nodup := by decide +kernel
theorem sc41 : FnScope N41 p41 (defScope s41) := ⟨rfl, rfl, rfl, nd41, rfl, by decide +kernel, by decide +kernel⟩
def psL : List (List Str) := [p0, p1, p2, p3, p4, p5, p6, p7, p8, p9, p10, p11, p12, p13, p14, p15, p16, p17, p18, p19, p20, p21, p22, p23, p24, p25, p26, p27, p28, p29, p30, p31, p32, p33, p34, p35, p36, p37, p38, p39, p40, p41]
def ps (i : Nat) : List Str := psL.getD i []
/-- what the top has written -/
structure LX (K : PySem.W.Frag) (mg : Str → Option Value) (cl : ClsT) (fa : Nat → Addr) (fd : Nat → FuncData) : Prop where
  m_is_number : mg "is_number" = some (.ref (fa 0))
  m_is_moment : mg "is_moment" = some (.ref (fa 1))
  m_first_bad : mg "first_bad" = some (.ref (fa 2))
  m_need_arrivals : mg "need_arrivals" = some (.ref (fa 3))
  m_inner_parts : mg "inner_parts" = some (.ref (fa 9))
  m_walk_of : mg "walk_of" = some (.ref (fa 10))
  m_walked : mg "walked" = some (.ref (fa 11))
  m_is_time : mg "is_time" = some (.ref (fa 12))
  m_is_count : mg "is_count" = some (.ref (fa 13))
  m_need_count : mg "need_count" = some (.ref (fa 14))
  m_need_time : mg "need_time" = some (.ref (fa 15))
  m_paths_of : mg "paths_of" = some (.ref (fa 16))
  m__law_begun : mg "_law_begun" = some (.ref (fa 26))
  m__law_mixed : mg "_law_mixed" = some (.ref (fa 27))
  m__law_take : mg "_law_take" = some (.ref (fa 28))
  m__law_pick : mg "_law_pick" = some (.ref (fa 29))
  m__law_time : mg "_law_time" = some (.ref (fa 30))
  m__law_leaf : mg "_law_leaf" = some (.ref (fa 31))
  m__law_tree : mg "_law_tree" = some (.ref (fa 32))
  m__law_line : mg "_law_line" = some (.ref (fa 33))
  m__law_inner : mg "_law_inner" = some (.ref (fa 34))
  m__law_walk : mg "_law_walk" = some (.ref (fa 35))
  m__law_behind : mg "_law_behind" = some (.ref (fa 36))
  m__law_go : mg "_law_go" = some (.ref (fa 37))
  m__law_left : mg "_law_left" = some (.ref (fa 38))
  m__law_arrivals : mg "_law_arrivals" = some (.ref (fa 39))
  m__law_twice_right : mg "_law_twice_right" = some (.ref (fa 40))
  m_law : mg "law" = some (.ref (fa 41))
  m_leavings : mg "leavings" = some (.ref (fa 42))
  gf_leavings : Fun K "leavings" "leavings" sG0 (fa 42) (fd 42)
  gb_leavings : L2.Binds K (fd 42) pG0 []
  m_Walk : mg "Walk" = some (.ref (cl 0))
  c_Walk : Cls K (cl 0)
  n_Walk_entries : NoAttr K (cl 0) "entries"
  n_Walk_inner : NoAttr K (cl 0) "inner"
  n_Walk_leavings : NoAttr K (cl 0) "leavings"
  n_Walk_path : NoAttr K (cl 0) "path"
  n_Walk_piece : NoAttr K (cl 0) "piece"
  k_Walk : Mk K (cl 0) (fa 4)
  t_Walk_earlier : Meth K (cl 0) "earlier" (fa 5)
  t_Walk_go : Meth K (cl 0) "go" (fa 7)
  t_Walk_left : Meth K (cl 0) "left" (fa 6)
  t_Walk_rows : Meth K (cl 0) "rows" (fa 8)
  m_Line : mg "Line" = some (.ref (cl 1))
  c_Line : Cls K (cl 1)
  n_Line_all_paths : NoAttr K (cl 1) "all_paths"
  n_Line_nested : NoAttr K (cl 1) "nested"
  k_Line : Mk K (cl 1) (fa 17)
  t_Line_limited : Meth K (cl 1) "limited" (fa 21)
  t_Line_parts : Meth K (cl 1) "parts" (fa 25)
  o_Line___add__ : OwnOp K (cl 1) .Add (fa 22)
  o_Line___and__ : OwnOp K (cl 1) .BitAnd (fa 23)
  s_Line_belt : StM K (cl 1) "belt" (fa 18)
  s_Line_gap : StM K (cl 1) "gap" (fa 19)
  s_Line_hold : StM K (cl 1) "hold" (fa 20)
  q_Line : StX.CallO K (cl 1) (fa 24)
  g_GREATEST_MOMENT : ∃ t, mg "GREATEST_MOMENT" = some (.int 1000000000000000 t)
  g_GREATEST_TIME : ∃ t, mg "GREATEST_TIME" = some (.int 1000000000 t)
  g_MOST_COUNT : ∃ t, mg "MOST_COUNT" = some (.int 12 t)
  g_MOST_PARTS : ∃ t, mg "MOST_PARTS" = some (.int 12 t)
  z_isinstance : mg "isinstance" = none
  z_int : mg "int" = none
  z_bool : mg "bool" = none
  z_enumerate : mg "enumerate" = none
  z_list : mg "list" = none
  z_tuple : mg "tuple" = none
  z_len : mg "len" = none
  z_max : mg "max" = none
  z_sorted : mg "sorted" = none
  z_abs : mg "abs" = none
  z_range : mg "range" = none
  z_min : mg "min" = none
  z_repr : mg "repr" = none
  kw_leavings_arrivals_line : BindsK K (fd 42) pG0 ["arrivals", "line"] [1, 0]
  kwm_Line___call___arrivals : BindsK1 K (fd 24) (ps 24) ["arrivals"] [0]
section
variable {P : Program} {w : World} {K : PySem.W.Frag} {mg : Str → Option Value} {base : Heap} {cl : ClsT} {fa : Nat → Addr} {fd : Nat → FuncData} {k : Nat} {c : Nat → SemF}
theorem gwG0 (T : TX P w K mg base cl fa fd ps nF k c) (T2 : LX K mg cl fa fd) : BodyY P w K mg base cl k NG0 "leavings" sG0 (gb_leavings c) := by
  intro f cdv A outer sh0 H0 a0 go0 hr hg
  have D := DF.genY (P := P) (w := w) (K := K) (mg := mg) (base := base) (N := NG0) (outer := outer) (H := H0) (a := a0) (go := go0) hr hg
  exact (sgys_cons (sgy_plain (ss_expr (T.call D 3 T2.m_need_arrivals (sa_cons (se_var 1) sa_nil))))
    (sgys_cons (sgy_plain (ss_set 2 ndG0 (se_call (T.make D 4 0 (by decide) T2.k_Walk) T2.m_Walk T2.k_Walk.kp (sa_cons (se_meth0 1 T2.c_Line T2.t_Line_parts (T.cal D 25 (by decide)) (se_var 0)) (sa_cons (se_tup sa_nil) sa_nil)))))
    (sgys_cons (sgy_for D.own D.calm (si_seq (se_var 1)) (sg_name 3 ndG0) (sgys_cons (sgy_yield (se_meth 0 T2.c_Walk T2.t_Walk_go (T.cal D 7 (by decide)) (se_var 2) (sa_cons (se_var 3) sa_nil)))
    sgys_nil))
    sgys_nil)))
theorem w0 (T : TX P w K mg base cl fa fd ps nF k c) (T2 : LX K mg cl fa fd) : BodyOk P w K mg base cl k N0 "is_number" s0 (b_is_number c) := by
  intro f cdv A outer sh0 H0 E0 hr hg
  have D := DF.of (P := P) (w := w) (K := K) (mg := mg) (base := base) (N := N0) (outer := outer) (H := H0) (E := E0) hr hg
  exact (sb_one (ss_ret (se_and (se_isi "int" T2.z_isinstance T2.z_int (by rfl) (se_var 0)) (se_and (se_not (se_isi "bool" T2.z_isinstance T2.z_bool (by rfl) (se_var 0))) (se_one (se_cmp ops_ge (se_var 0) se_int))))))
theorem w1 (T : TX P w K mg base cl fa fd ps nF k c) (T2 : LX K mg cl fa fd) : BodyOk P w K mg base cl k N1 "is_moment" s1 (b_is_moment c) := by
  intro f cdv A outer sh0 H0 E0 hr hg
  have D := DF.of (P := P) (w := w) (K := K) (mg := mg) (base := base) (N := N1) (outer := outer) (H := H0) (E := E0) hr hg
  exact (sb_one (ss_ret (se_and (T.call D 0 T2.m_is_number (sa_cons (se_var 0) sa_nil)) (se_one (se_cmp ops_le (se_var 0) (se_gint 1000000000000000 T2.g_GREATEST_MOMENT))))))
theorem w2 (T : TX P w K mg base cl fa fd ps nF k c) (T2 : LX K mg cl fa fd) : BodyOk P w K mg base cl k N2 "first_bad" s2 (b_first_bad c) := by
  intro f cdv A outer sh0 H0 E0 hr hg
  have D := DF.of (P := P) (w := w) (K := K) (mg := mg) (base := base) (N := N2) (outer := outer) (H := H0) (E := E0) hr hg
  exact (sb_cons (ss_set 1 nd2 se_int)
    (sb_cons (ss_for D.own D.calm (si_enum2 T2.z_enumerate (sa_cons (se_var 0) sa_nil)) (sg_tup D.calm (sgs_cons (sg_name 2 nd2) (sgs_cons (sg_name 3 nd2) sgs_nil))) (sb_cons (ss_if (sw_or (st_not (st_val (T.call D 1 T2.m_is_moment (sa_cons (se_var 3) sa_nil)))) (sw_or1 (st_cmp ops_lt (se_var 3) (se_var 1)))).st (sb_one (ss_ret (se_var 2))) sb_nil)
    (sb_one (ss_set 1 nd2 (se_var 3)))))
    (sb_one (ss_ret se_non))))
theorem w3 (T : TX P w K mg base cl fa fd ps nF k c) (T2 : LX K mg cl fa fd) : BodyOk P w K mg base cl k N3 "need_arrivals" s3 (b_need_arrivals c) := by
  intro f cdv A outer sh0 H0 E0 hr hg
  have D := DF.of (P := P) (w := w) (K := K) (mg := mg) (base := base) (N := N3) (outer := outer) (H := H0) (E := E0) hr hg
  exact (sb_cons (ss_if (st_not (st_val (se_isi2 "list" "tuple" T2.z_isinstance T2.z_list (by rfl) T2.z_tuple (by rfl) (se_var 0)))) (sb_one ss_never) sb_nil)
    (sb_cons (ss_set 1 nd3 (T.call D 2 T2.m_first_bad (sa_cons (se_var 0) sa_nil)))
    (sb_one (ss_if (st_cmp ops_notN (se_var 1) se_non) (sb_one ss_never) sb_nil))))
theorem w4 (T : TX P w K mg base cl fa fd ps nF k c) (T2 : LX K mg cl fa fd) : BodyOk P w K mg base cl k N4 "Walk.__init__" s4 (b_Walk___init__ c) := by
  intro f cdv A outer sh0 H0 E0 hr hg
  have D := DF.of (P := P) (w := w) (K := K) (mg := mg) (base := base) (N := N4) (outer := outer) (H := H0) (E := E0) hr hg
  exact (sb_cons (ss_attr 0 0 T2.c_Walk T2.n_Walk_path (se_var 0) (se_var 2))
    (sb_cons (ss_attr 0 1 T2.c_Walk T2.n_Walk_piece (se_var 0) (se_var 1))
    (sb_cons (ss_attr 0 2 T2.c_Walk T2.n_Walk_entries (se_var 0) (se_lstM sa_nil))
    (sb_cons (ss_attr 0 3 T2.c_Walk T2.n_Walk_leavings (se_var 0) (se_lstM sa_nil))
    (sb_one (ss_attr 0 4 T2.c_Walk T2.n_Walk_inner (se_var 0) (se_lc [("at", 3), ("one", 4)] D.calm nd4 (si_enum2 T2.z_enumerate (sa_cons (T.call D 9 T2.m_inner_parts (sa_cons (se_var 1) sa_nil)) sa_nil)) (blk_ok (N0 := N4) (sc0 := defScope s4) rfl rfl (by decide +kernel)) (fun s H C l fp => (sg_tup (D.blk s H _ _ fp).calm (sgs_cons (sg_name 3 nd4) (sgs_cons (sg_name 4 nd4) sgs_nil)))) (fun s H C l fp => sts_nil) (fun s H C l fp => (se_call (T.make (D.blk s H _ _ fp) 4 0 (by decide) T2.k_Walk) T2.m_Walk T2.k_Walk.kp (sa_cons (se_var 4) (sa_cons (se_bin ops_add (se_var 2) (se_tup (sa_cons (se_var 3) sa_nil))) sa_nil)))))))))))
theorem w5 (T : TX P w K mg base cl fa fd ps nF k c) (T2 : LX K mg cl fa fd) : BodyOk P w K mg base cl k N5 "Walk.earlier" s5 (b_Walk_earlier c) := by
  intro f cdv A outer sh0 H0 E0 hr hg
  have D := DF.of (P := P) (w := w) (K := K) (mg := mg) (base := base) (N := N5) (outer := outer) (H := H0) (E := E0) hr hg
  exact (sb_one (ss_ret (se_ifE (st_cmp ops_le (se_var 2) (se_callB cs_len T2.z_len (by rfl) (sa_cons (se_var 1) sa_nil))) (se_callB (cs_max D.calm) T2.z_max (by rfl) (sa_cons (se_var 3) (sa_cons (se_ix (se_var 1) (se_neg (se_var 2))) sa_nil))) (se_var 3))))
theorem w6 (T : TX P w K mg base cl fa fd ps nF k c) (T2 : LX K mg cl fa fd) : BodyOk P w K mg base cl k N6 "Walk.left" s6 (b_Walk_left c) := by
  intro f cdv A outer sh0 H0 E0 hr hg
  have D := DF.of (P := P) (w := w) (K := K) (mg := mg) (base := base) (N := N6) (outer := outer) (H := H0) (E := E0) hr hg
  exact (sb_cons (ss_set 2 nd6 (se_ix (se_at 0 1 T2.c_Walk T2.n_Walk_piece (se_var 0)) se_int))
    (sb_cons (ss_if (st_cmp (ops_eq D.hu) (se_var 2) se_str) (sb_one (ss_ret (se_bin ops_add (se_var 1) (se_ix (se_at 0 1 T2.c_Walk T2.n_Walk_piece (se_var 0)) se_int)))) sb_nil)
    (sb_cons (ss_if (st_cmp (ops_eq D.hu) (se_var 2) se_str) (sb_one (ss_ret (se_meth 0 T2.c_Walk T2.t_Walk_earlier (T.cal D 5 (by decide)) (se_var 0) (sa_cons (se_lc [("one", 3)] D.calm nd6 (si_seq (se_at 0 3 T2.c_Walk T2.n_Walk_leavings (se_var 0))) (blk_ok (N0 := N6) (sc0 := defScope s6) rfl rfl (by decide +kernel)) (fun s H C l fp => (sg_name 3 nd6)) (fun s H C l fp => sts_nil) (fun s H C l fp => (se_bin ops_add (se_var 3) (se_ix (se_at 0 1 T2.c_Walk T2.n_Walk_piece (se_var 0)) se_int)))) (sa_cons (se_ix (se_at 0 1 T2.c_Walk T2.n_Walk_piece (se_var 0)) se_int) (sa_cons (se_var 1) sa_nil)))))) sb_nil)
    (sb_cons (ss_if (st_cmp (ops_eq D.hu) (se_var 2) se_str) (sb_one (ss_ret (se_meth 0 T2.c_Walk T2.t_Walk_earlier (T.cal D 5 (by decide)) (se_var 0) (sa_cons (se_lc [("one", 3)] D.calm nd6 (si_seq (se_at 0 2 T2.c_Walk T2.n_Walk_entries (se_var 0))) (blk_ok (N0 := N6) (sc0 := defScope s6) rfl rfl (by decide +kernel)) (fun s H C l fp => (sg_name 3 nd6)) (fun s H C l fp => sts_nil) (fun s H C l fp => (se_bin ops_add (se_var 3) (se_ix (se_at 0 1 T2.c_Walk T2.n_Walk_piece (se_var 0)) se_int)))) (sa_cons (se_ix (se_at 0 1 T2.c_Walk T2.n_Walk_piece (se_var 0)) se_int) (sa_cons (se_var 1) sa_nil)))))) sb_nil)
    (sb_cons (ss_if (st_cmp (ops_eq D.hu) (se_var 2) se_str) (sb_one (ss_ret (se_meth 0 T2.c_Walk T2.t_Walk_go (T.cal D 7 (by decide)) (se_ix (se_at 0 4 T2.c_Walk T2.n_Walk_inner (se_var 0)) se_int) (sa_cons (se_meth 0 T2.c_Walk T2.t_Walk_earlier (T.cal D 5 (by decide)) (se_var 0) (sa_cons (se_at 0 3 T2.c_Walk T2.n_Walk_leavings (se_var 0)) (sa_cons (se_ix (se_at 0 1 T2.c_Walk T2.n_Walk_piece (se_var 0)) se_int) (sa_cons (se_var 1) sa_nil)))) sa_nil)))) sb_nil)
    (sb_cons (ss_if (st_cmp (ops_eq D.hu) (se_var 2) se_str) (sb_one (ss_ret (se_callB (cs_max D.calm) T2.z_max (by rfl) (sa_cons (se_lc [("walk", 4)] D.calm nd6 (si_seq (se_at 0 4 T2.c_Walk T2.n_Walk_inner (se_var 0))) (blk_ok (N0 := N6) (sc0 := defScope s6) rfl rfl (by decide +kernel)) (fun s H C l fp => (sg_name 4 nd6)) (fun s H C l fp => sts_nil) (fun s H C l fp => (se_meth 0 T2.c_Walk T2.t_Walk_go (T.cal (D.blk s H _ _ fp) 7 (by decide)) (se_var 4) (sa_cons (se_var 1) sa_nil)))) sa_nil)))) sb_nil)
    (sb_one (ss_ret (se_meth 0 T2.c_Walk T2.t_Walk_go (T.cal D 7 (by decide)) (se_ix (se_at 0 4 T2.c_Walk T2.n_Walk_inner (se_var 0)) se_int) (sa_cons (se_meth 0 T2.c_Walk T2.t_Walk_go (T.cal D 7 (by decide)) (se_ix (se_at 0 4 T2.c_Walk T2.n_Walk_inner (se_var 0)) se_int) (sa_cons (se_var 1) sa_nil)) sa_nil))))))))))
theorem w7 (T : TX P w K mg base cl fa fd ps nF k c) (T2 : LX K mg cl fa fd) : BodyOk P w K mg base cl k N7 "Walk.go" s7 (b_Walk_go c) := by
  intro f cdv A outer sh0 H0 E0 hr hg
  have D := DF.of (P := P) (w := w) (K := K) (mg := mg) (base := base) (N := N7) (outer := outer) (H := H0) (E := E0) hr hg
  exact (sb_cons (ss_set 2 nd7 (se_meth 0 T2.c_Walk T2.t_Walk_left (T.cal D 6 (by decide)) (se_var 0) (sa_cons (se_var 1) sa_nil)))
    (sb_cons (ss_expr (se_bml ms_append (se_at 0 2 T2.c_Walk T2.n_Walk_entries (se_var 0)) (sa_cons (se_var 1) sa_nil) F.slot_list_append (by rfl)))
    (sb_cons (ss_expr (se_bml ms_append (se_at 0 3 T2.c_Walk T2.n_Walk_leavings (se_var 0)) (sa_cons (se_var 2) sa_nil) F.slot_list_append (by rfl)))
    (sb_one (ss_ret (se_var 2))))))
theorem w8 (T : TX P w K mg base cl fa fd ps nF k c) (T2 : LX K mg cl fa fd) : BodyOk P w K mg base cl k N8 "Walk.rows" s8 (b_Walk_rows c) := by
  intro f cdv A outer sh0 H0 E0 hr hg
  have D := DF.of (P := P) (w := w) (K := K) (mg := mg) (base := base) (N := N8) (outer := outer) (H := H0) (E := E0) hr hg
  exact (sb_cons (ss_set 1 nd8 (se_lst (sa_cons (se_tup (sa_cons (se_at 0 0 T2.c_Walk T2.n_Walk_path (se_var 0)) (sa_cons (se_tup (sa_cons (se_at 0 2 T2.c_Walk T2.n_Walk_entries (se_var 0)) (sa_cons (se_at 0 3 T2.c_Walk T2.n_Walk_leavings (se_var 0)) sa_nil))) sa_nil))) sa_nil)))
    (sb_cons (ss_for D.own D.calm (si_seq (se_at 0 4 T2.c_Walk T2.n_Walk_inner (se_var 0))) (sg_name 2 nd8) (sb_one (ss_set 1 nd8 (se_bin ops_add (se_var 1) (se_meth0 0 T2.c_Walk T2.t_Walk_rows (T.cal D 8 (by decide)) (se_var 2))))))
    (sb_one (ss_ret (se_var 1)))))
theorem w9 (T : TX P w K mg base cl fa fd ps nF k c) (T2 : LX K mg cl fa fd) : BodyOk P w K mg base cl k N9 "inner_parts" s9 (b_inner_parts c) := by
  intro f cdv A outer sh0 H0 E0 hr hg
  have D := DF.of (P := P) (w := w) (K := K) (mg := mg) (base := base) (N := N9) (outer := outer) (H := H0) (E := E0) hr hg
  exact (sb_cons (ss_if (st_cmp (ops_eq D.hu) (se_ix (se_var 0) se_int) se_str) (sb_one (ss_ret (se_lst (sa_cons (se_ix (se_var 0) se_int) sa_nil)))) sb_nil)
    (sb_one (ss_ret (se_ifE (st_cmp (ops_in D.hu) (se_ix (se_var 0) se_int) (se_tup (sa_cons se_str (sa_cons se_str sa_nil)))) (se_lst (sa_cons (se_ix (se_var 0) se_int) (sa_cons (se_ix (se_var 0) se_int) sa_nil))) (se_lst sa_nil)))))
theorem w10 (T : TX P w K mg base cl fa fd ps nF k c) (T2 : LX K mg cl fa fd) : BodyOk P w K mg base cl k N10 "walk_of" s10 (b_walk_of c) := by
  intro f cdv A outer sh0 H0 E0 hr hg
  have D := DF.of (P := P) (w := w) (K := K) (mg := mg) (base := base) (N := N10) (outer := outer) (H := H0) (E := E0) hr hg
  exact (sb_cons (ss_expr (T.call D 3 T2.m_need_arrivals (sa_cons (se_var 1) sa_nil)))
    (sb_cons (ss_set 2 nd10 (se_call (T.make D 4 0 (by decide) T2.k_Walk) T2.m_Walk T2.k_Walk.kp (sa_cons (se_meth0 1 T2.c_Line T2.t_Line_parts (T.cal D 25 (by decide)) (se_var 0)) (sa_cons (se_tup sa_nil) sa_nil))))
    (sb_cons (ss_for D.own D.calm (si_seq (se_var 1)) (sg_name 3 nd10) (sb_one (ss_expr (se_meth 0 T2.c_Walk T2.t_Walk_go (T.cal D 7 (by decide)) (se_var 2) (sa_cons (se_var 3) sa_nil)))))
    (sb_one (ss_ret (se_var 2))))))
theorem w11 (T : TX P w K mg base cl fa fd ps nF k c) (T2 : LX K mg cl fa fd) : BodyOk P w K mg base cl k N11 "walked" s11 (b_walked c) := by
  intro f cdv A outer sh0 H0 E0 hr hg
  have D := DF.of (P := P) (w := w) (K := K) (mg := mg) (base := base) (N := N11) (outer := outer) (H := H0) (E := E0) hr hg
  exact (sb_one (ss_ret (se_dc [("path", 2), ("pair", 3)] D.hu1 D.calm nd11 (si_seq (se_callB (cs_sorted D.hu) T2.z_sorted (by rfl) (sa_cons (se_frz (se_meth0 0 T2.c_Walk T2.t_Walk_rows (T.cal D 8 (by decide)) (T.call D 10 T2.m_walk_of (sa_cons (se_var 0) (sa_cons (se_var 1) sa_nil))))) sa_nil))) (blk_ok (N0 := N11) (sc0 := defScope s11) rfl rfl (by decide +kernel)) (fun s H C l fp => (sg_tup (D.blk s H _ _ fp).calm (sgs_cons (sg_name 2 nd11) (sgs_cons (sg_name 3 nd11) sgs_nil)))) (fun s H C l fp => sts_nil) (fun s H C l fp => (se_var 2)) (fun s H C l fp => (se_var 3)))))
theorem w12 (T : TX P w K mg base cl fa fd ps nF k c) (T2 : LX K mg cl fa fd) : BodyOk P w K mg base cl k N12 "is_time" s12 (b_is_time c) := by
  intro f cdv A outer sh0 H0 E0 hr hg
  have D := DF.of (P := P) (w := w) (K := K) (mg := mg) (base := base) (N := N12) (outer := outer) (H := H0) (E := E0) hr hg
  exact (sb_one (ss_ret (se_and (T.call D 0 T2.m_is_number (sa_cons (se_var 0) sa_nil)) (se_one (se_cmp ops_le (se_var 0) (se_gint 1000000000 T2.g_GREATEST_TIME))))))
theorem w13 (T : TX P w K mg base cl fa fd ps nF k c) (T2 : LX K mg cl fa fd) : BodyOk P w K mg base cl k N13 "is_count" s13 (b_is_count c) := by
  intro f cdv A outer sh0 H0 E0 hr hg
  have D := DF.of (P := P) (w := w) (K := K) (mg := mg) (base := base) (N := N13) (outer := outer) (H := H0) (E := E0) hr hg
  exact (sb_one (ss_ret (se_and (T.call D 0 T2.m_is_number (sa_cons (se_var 0) sa_nil)) (se_one (se_chain ops_le ops_le se_int (se_var 0) (se_gint 12 T2.g_MOST_COUNT))))))
theorem w14 (T : TX P w K mg base cl fa fd ps nF k c) (T2 : LX K mg cl fa fd) : BodyOk P w K mg base cl k N14 "need_count" s14 (b_need_count c) := by
  intro f cdv A outer sh0 H0 E0 hr hg
  have D := DF.of (P := P) (w := w) (K := K) (mg := mg) (base := base) (N := N14) (outer := outer) (H := H0) (E := E0) hr hg
  exact (sb_one (ss_if (st_not (st_val (T.call D 13 T2.m_is_count (sa_cons (se_var 0) sa_nil)))) (sb_one ss_never) sb_nil))
theorem w15 (T : TX P w K mg base cl fa fd ps nF k c) (T2 : LX K mg cl fa fd) : BodyOk P w K mg base cl k N15 "need_time" s15 (b_need_time c) := by
  intro f cdv A outer sh0 H0 E0 hr hg
  have D := DF.of (P := P) (w := w) (K := K) (mg := mg) (base := base) (N := N15) (outer := outer) (H := H0) (E := E0) hr hg
  exact (sb_one (ss_if (st_not (st_val (T.call D 12 T2.m_is_time (sa_cons (se_var 0) sa_nil)))) (sb_one ss_never) sb_nil))
theorem w16 (T : TX P w K mg base cl fa fd ps nF k c) (T2 : LX K mg cl fa fd) : BodyOk P w K mg base cl k N16 "paths_of" s16 (b_paths_of c) := by
  intro f cdv A outer sh0 H0 E0 hr hg
  have D := DF.of (P := P) (w := w) (K := K) (mg := mg) (base := base) (N := N16) (outer := outer) (H := H0) (E := E0) hr hg
  exact (sb_cons (ss_set 2 nd16 (se_lst (sa_cons (se_var 1) sa_nil)))
    (sb_cons (ss_for D.own D.calm (si_enum2 T2.z_enumerate (sa_cons (T.call D 9 T2.m_inner_parts (sa_cons (se_var 0) sa_nil)) sa_nil)) (sg_tup D.calm (sgs_cons (sg_name 3 nd16) (sgs_cons (sg_name 4 nd16) sgs_nil))) (sb_one (ss_set 2 nd16 (se_bin ops_add (se_var 2) (T.call D 16 T2.m_paths_of (sa_cons (se_var 4) (sa_cons (se_bin ops_add (se_var 1) (se_tup (sa_cons (se_var 3) sa_nil))) sa_nil)))))))
    (sb_one (ss_ret (se_var 2)))))
theorem w17 (T : TX P w K mg base cl fa fd ps nF k c) (T2 : LX K mg cl fa fd) : BodyOk P w K mg base cl k N17 "Line.__init__" s17 (b_Line___init__ c) := by
  intro f cdv A outer sh0 H0 E0 hr hg
  have D := DF.of (P := P) (w := w) (K := K) (mg := mg) (base := base) (N := N17) (outer := outer) (H := H0) (E := E0) hr hg
  exact (sb_cons (ss_attr 1 0 T2.c_Line T2.n_Line_nested (se_var 0) (se_var 1))
    (sb_cons (ss_attr 1 1 T2.c_Line T2.n_Line_all_paths (se_var 0) (T.call D 16 T2.m_paths_of (sa_cons (se_var 1) (sa_cons (se_tup sa_nil) sa_nil))))
    (sb_one (ss_if (st_cmp ops_gt (se_callB cs_len T2.z_len (by rfl) (sa_cons (se_at 1 1 T2.c_Line T2.n_Line_all_paths (se_var 0)) sa_nil)) (se_gint 12 T2.g_MOST_PARTS)) (sb_one ss_never) sb_nil))))
theorem w18 (T : TX P w K mg base cl fa fd ps nF k c) (T2 : LX K mg cl fa fd) : BodyOk P w K mg base cl k N18 "Line.belt" s18 (b_Line_belt c) := by
  intro f cdv A outer sh0 H0 E0 hr hg
  have D := DF.of (P := P) (w := w) (K := K) (mg := mg) (base := base) (N := N18) (outer := outer) (H := H0) (E := E0) hr hg
  exact (sb_cons (ss_expr (T.call D 15 T2.m_need_time (sa_cons (se_var 0) sa_nil)))
    (sb_one (ss_ret (se_call (T.make D 17 1 (by decide) T2.k_Line).frz T2.m_Line T2.k_Line.kp (sa_cons (se_tup (sa_cons se_str (sa_cons (se_var 0) sa_nil))) sa_nil)))))
theorem w19 (T : TX P w K mg base cl fa fd ps nF k c) (T2 : LX K mg cl fa fd) : BodyOk P w K mg base cl k N19 "Line.gap" s19 (b_Line_gap c) := by
  intro f cdv A outer sh0 H0 E0 hr hg
  have D := DF.of (P := P) (w := w) (K := K) (mg := mg) (base := base) (N := N19) (outer := outer) (H := H0) (E := E0) hr hg
  exact (sb_cons (ss_expr (T.call D 14 T2.m_need_count (sa_cons (se_var 0) sa_nil)))
    (sb_cons (ss_expr (T.call D 15 T2.m_need_time (sa_cons (se_var 1) sa_nil)))
    (sb_one (ss_ret (se_call (T.make D 17 1 (by decide) T2.k_Line).frz T2.m_Line T2.k_Line.kp (sa_cons (se_tup (sa_cons se_str (sa_cons (se_var 0) (sa_cons (se_var 1) sa_nil)))) sa_nil))))))
theorem w20 (T : TX P w K mg base cl fa fd ps nF k c) (T2 : LX K mg cl fa fd) : BodyOk P w K mg base cl k N20 "Line.hold" s20 (b_Line_hold c) := by
  intro f cdv A outer sh0 H0 E0 hr hg
  have D := DF.of (P := P) (w := w) (K := K) (mg := mg) (base := base) (N := N20) (outer := outer) (H := H0) (E := E0) hr hg
  exact (sb_cons (ss_expr (T.call D 14 T2.m_need_count (sa_cons (se_var 0) sa_nil)))
    (sb_cons (ss_expr (T.call D 15 T2.m_need_time (sa_cons (se_var 1) sa_nil)))
    (sb_one (ss_ret (se_call (T.make D 17 1 (by decide) T2.k_Line).frz T2.m_Line T2.k_Line.kp (sa_cons (se_tup (sa_cons se_str (sa_cons (se_var 0) (sa_cons (se_var 1) sa_nil)))) sa_nil))))))
theorem w21 (T : TX P w K mg base cl fa fd ps nF k c) (T2 : LX K mg cl fa fd) : BodyOk P w K mg base cl k N21 "Line.limited" s21 (b_Line_limited c) := by
  intro f cdv A outer sh0 H0 E0 hr hg
  have D := DF.of (P := P) (w := w) (K := K) (mg := mg) (base := base) (N := N21) (outer := outer) (H := H0) (E := E0) hr hg
  exact (sb_cons (ss_expr (T.call D 14 T2.m_need_count (sa_cons (se_var 1) sa_nil)))
    (sb_one (ss_ret (se_call (T.make D 17 1 (by decide) T2.k_Line).frz T2.m_Line T2.k_Line.kp (sa_cons (se_tup (sa_cons se_str (sa_cons (se_var 1) (sa_cons (se_at 1 0 T2.c_Line T2.n_Line_nested (se_var 0)) sa_nil)))) sa_nil)))))
theorem w22 (T : TX P w K mg base cl fa fd ps nF k c) (T2 : LX K mg cl fa fd) : BodyOk P w K mg base cl k N22 "Line.__add__" s22 (b_Line___add__ c) := by
  intro f cdv A outer sh0 H0 E0 hr hg
  have D := DF.of (P := P) (w := w) (K := K) (mg := mg) (base := base) (N := N22) (outer := outer) (H := H0) (E := E0) hr hg
  exact (sb_one (ss_ret (se_call (T.make D 17 1 (by decide) T2.k_Line).frz T2.m_Line T2.k_Line.kp (sa_cons (se_tup (sa_cons se_str (sa_cons (se_at 1 0 T2.c_Line T2.n_Line_nested (se_var 0)) (sa_cons (se_at 1 0 T2.c_Line T2.n_Line_nested (se_var 1)) sa_nil)))) sa_nil))))
theorem w23 (T : TX P w K mg base cl fa fd ps nF k c) (T2 : LX K mg cl fa fd) : BodyOk P w K mg base cl k N23 "Line.__and__" s23 (b_Line___and__ c) := by
  intro f cdv A outer sh0 H0 E0 hr hg
  have D := DF.of (P := P) (w := w) (K := K) (mg := mg) (base := base) (N := N23) (outer := outer) (H := H0) (E := E0) hr hg
  exact (sb_one (ss_ret (se_call (T.make D 17 1 (by decide) T2.k_Line).frz T2.m_Line T2.k_Line.kp (sa_cons (se_tup (sa_cons se_str (sa_cons (se_at 1 0 T2.c_Line T2.n_Line_nested (se_var 0)) (sa_cons (se_at 1 0 T2.c_Line T2.n_Line_nested (se_var 1)) sa_nil)))) sa_nil))))
theorem w24 (T : TX P w K mg base cl fa fd ps nF k c) (T2 : LX K mg cl fa fd) : BodyOk P w K mg base cl k N24 "Line.__call__" s24 (b_Line___call__ c) := by
  intro f cdv A outer sh0 H0 E0 hr hg
  have D := DF.of (P := P) (w := w) (K := K) (mg := mg) (base := base) (N := N24) (outer := outer) (H := H0) (E := E0) hr hg
  exact (sb_one (ss_ret (se_at 0 3 T2.c_Walk T2.n_Walk_leavings (T.call D 10 T2.m_walk_of (sa_cons (se_var 0) (sa_cons (se_var 1) sa_nil))))))
theorem w25 (T : TX P w K mg base cl fa fd ps nF k c) (T2 : LX K mg cl fa fd) : BodyOk P w K mg base cl k N25 "Line.parts" s25 (b_Line_parts c) := by
  intro f cdv A outer sh0 H0 E0 hr hg
  have D := DF.of (P := P) (w := w) (K := K) (mg := mg) (base := base) (N := N25) (outer := outer) (H := H0) (E := E0) hr hg
  exact (sb_one (ss_ret (se_at 1 0 T2.c_Line T2.n_Line_nested (se_var 0))))
theorem w26 (T : TX P w K mg base cl fa fd ps nF k c) (T2 : LX K mg cl fa fd) : BodyOk P w K mg base cl k N26 "_law_begun" s26 (b__law_begun c) := by
  intro f cdv A outer sh0 H0 E0 hr hg
  have D := DF.of (P := P) (w := w) (K := K) (mg := mg) (base := base) (N := N26) (outer := outer) (H := H0) (E := E0) hr hg
  exact (sb_cons (ss_setLcM 1 [("_law_cell", 2)] D.calm nd26 (si_seq (se_var 0)) (blk_ok (N0 := N26) (sc0 := defScope s26) rfl rfl (by decide +kernel)) (fun s H C l fp => (sg_name 2 nd26)) (fun s H C l fp => (sts_one (st_cmp ops_ge (se_callB cs_abs T2.z_abs (by rfl) (sa_cons (se_var 2) sa_nil)) (se_bin ops_pow se_int se_int)))) (fun s H C l fp => (se_bin ops_sub (se_callB cs_abs T2.z_abs (by rfl) (sa_cons (se_var 2) sa_nil)) (se_bin ops_pow se_int se_int))))
    (sb_one (ss_ret (se_dictM (sps_cons se_str (se_var 1) (sps_cons se_str (se_lc [("_law_cell", 2)] D.calm nd26 (si_seq (se_var 0)) (blk_ok (N0 := N26) (sc0 := defScope s26) rfl rfl (by decide +kernel)) (fun s H C l fp => (sg_name 2 nd26)) (fun s H C l fp => sts_nil) (fun s H C l fp => (se_bin ops_mod (se_callT cs_int T2.z_int (by rfl) (sa_cons (se_callB cs_abs T2.z_abs (by rfl) (sa_cons (se_var 2) sa_nil)) sa_nil)) se_int))) (sps_cons se_str se_int (sps_cons se_str se_int sps_nil))))))))
theorem w27 (T : TX P w K mg base cl fa fd ps nF k c) (T2 : LX K mg cl fa fd) : BodyOk P w K mg base cl k N27 "_law_mixed" s27 (b__law_mixed c) := by
  intro f cdv A outer sh0 H0 E0 hr hg
  have D := DF.of (P := P) (w := w) (K := K) (mg := mg) (base := base) (N := N27) (outer := outer) (H := H0) (E := E0) hr hg
  exact (sb_cons (ss_par 1 2 D.calm nd27 (sa_cons (se_bin ops_add (se_dget 3 D.hu1 (se_var 0) se_str) se_int) (sa_cons se_int sa_nil)))
    (sb_cons (ss_dput 3 D.hu1 (se_var 0) se_str (se_var 1))
    (sb_cons (ss_for D.own D.calm (si_seq (se_lst (sa_cons se_int (sa_cons se_int (sa_cons se_int (sa_cons se_int sa_nil)))))) (sg_name 3 nd27) (sb_cons (ss_set 4 nd27 (se_bin ops_add (se_bin ops_mul se_int (se_var 1)) (se_bin ops_fdiv (se_var 3) se_int)))
    (sb_cons (ss_for D.own D.calm (si_seq (se_dget 1 D.hu1 (se_var 0) se_str)) (sg_name 5 nd27) (sb_one (ss_set 4 nd27 (se_bin ops_mod (se_callT cs_int T2.z_int (by rfl) (sa_cons (se_bin ops_add (se_bin ops_add (se_bin ops_mul (se_var 4) se_int) (se_var 5)) (se_var 1)) sa_nil)) (se_var 3)))))
    (sb_one (ss_set 2 nd27 (se_bin ops_add (se_bin ops_mul (se_var 2) se_int) (se_bin ops_mod (se_callT cs_int T2.z_int (by rfl) (sa_cons (se_bin ops_pow (se_var 4) se_int) sa_nil)) (se_var 3))))))))
    (sb_one (ss_ret (se_var 2))))))
theorem w28 (T : TX P w K mg base cl fa fd ps nF k c) (T2 : LX K mg cl fa fd) : BodyOk P w K mg base cl k N28 "_law_take" s28 (b__law_take c) := by
  intro f cdv A outer sh0 H0 E0 hr hg
  have D := DF.of (P := P) (w := w) (K := K) (mg := mg) (base := base) (N := N28) (outer := outer) (H := H0) (E := E0) hr hg
  exact (sb_cons (ss_if (st_cmp (ops_eq D.hu) (se_dget 2 D.hu1 (se_var 0) se_str) se_int) (sb_one (ss_dput 2 D.hu1 (se_var 0) se_str (se_ifE (st_cmp (ops_ne D.hu) (se_dget 0 D.hu1 (se_var 0) se_str) (se_lst sa_nil)) (se_bml ms_popAt (se_dget 0 D.hu1 (se_var 0) se_str) (sa_cons se_int sa_nil) F.slot_list_pop (by rfl)) (T.call D 27 T2.m__law_mixed (sa_cons (se_var 0) sa_nil))))) sb_nil)
    (sb_cons (ss_set 2 nd28 (se_bin ops_mod (se_callT cs_int T2.z_int (by rfl) (sa_cons (se_dget 2 D.hu1 (se_var 0) se_str) sa_nil)) (se_var 1)))
    (sb_cons (ss_dput 2 D.hu1 (se_var 0) se_str (se_bin ops_fdiv (se_dget 2 D.hu1 (se_var 0) se_str) (se_var 1)))
    (sb_one (ss_ret (se_var 2))))))
theorem w29 (T : TX P w K mg base cl fa fd ps nF k c) (T2 : LX K mg cl fa fd) : BodyOk P w K mg base cl k N29 "_law_pick" s29 (b__law_pick c) := by
  intro f cdv A outer sh0 H0 E0 hr hg
  have D := DF.of (P := P) (w := w) (K := K) (mg := mg) (base := base) (N := N29) (outer := outer) (H := H0) (E := E0) hr hg
  exact (sb_one (ss_ret (se_ix (se_var 1) (T.call D 28 T2.m__law_take (sa_cons (se_var 0) (sa_cons (se_callB cs_len T2.z_len (by rfl) (sa_cons (se_var 1) sa_nil)) sa_nil))))))
theorem w30 (T : TX P w K mg base cl fa fd ps nF k c) (T2 : LX K mg cl fa fd) : BodyOk P w K mg base cl k N30 "_law_time" s30 (b__law_time c) := by
  intro f cdv A outer sh0 H0 E0 hr hg
  have D := DF.of (P := P) (w := w) (K := K) (mg := mg) (base := base) (N := N30) (outer := outer) (H := H0) (E := E0) hr hg
  exact (sb_cons (ss_if (st_cmp (ops_eq D.hu) (se_var 1) se_str) (sb_one (ss_ret (T.call D 28 T2.m__law_take (sa_cons (se_var 0) (sa_cons se_int sa_nil))))) sb_nil)
    (sb_one (ss_ret (T.call D 29 T2.m__law_pick (sa_cons (se_var 0) (sa_cons (se_lst (sa_cons se_int (sa_cons se_int (sa_cons se_int (sa_cons se_int (sa_cons se_int (sa_cons (se_bin ops_pow se_int se_int) (sa_cons (se_bin ops_sub (se_bin ops_pow se_int se_int) se_int) (sa_cons (T.call D 28 T2.m__law_take (sa_cons (se_var 0) (sa_cons se_int sa_nil))) (sa_cons (T.call D 28 T2.m__law_take (sa_cons (se_var 0) (sa_cons (se_bin ops_add (se_bin ops_pow se_int se_int) se_int) sa_nil))) sa_nil)))))))))) sa_nil))))))
theorem w31 (T : TX P w K mg base cl fa fd ps nF k c) (T2 : LX K mg cl fa fd) : BodyOk P w K mg base cl k N31 "_law_leaf" s31 (b__law_leaf c) := by
  intro f cdv A outer sh0 H0 E0 hr hg
  have D := DF.of (P := P) (w := w) (K := K) (mg := mg) (base := base) (N := N31) (outer := outer) (H := H0) (E := E0) hr hg
  exact (sb_cons (ss_set 4 nd31 (T.call D 29 T2.m__law_pick (sa_cons (se_var 0) (sa_cons (se_var 3) sa_nil))))
    (sb_cons (ss_if (st_cmp (ops_eq D.hu) (se_var 4) se_str) (sb_one (ss_ret (se_tup (sa_cons se_str (sa_cons (T.call D 30 T2.m__law_time (sa_cons (se_var 0) (sa_cons (se_var 2) sa_nil))) sa_nil))))) sb_nil)
    (sb_one (ss_ret (se_tup (sa_cons (se_var 4) (sa_cons (se_bin ops_add se_int (T.call D 28 T2.m__law_take (sa_cons (se_var 0) (sa_cons (se_var 1) sa_nil)))) (sa_cons (T.call D 30 T2.m__law_time (sa_cons (se_var 0) (sa_cons (se_var 2) sa_nil))) sa_nil))))))))
theorem w32 (T : TX P w K mg base cl fa fd ps nF k c) (T2 : LX K mg cl fa fd) : BodyOk P w K mg base cl k N32 "_law_tree" s32 (b__law_tree c) := by
  intro f cdv A outer sh0 H0 E0 hr hg
  have D := DF.of (P := P) (w := w) (K := K) (mg := mg) (base := base) (N := N32) (outer := outer) (H := H0) (E := E0) hr hg
  exact (sb_cons (ss_set 5 nd32 (T.call D 28 T2.m__law_take (sa_cons (se_var 0) (sa_cons se_int sa_nil))))
    (sb_cons (ss_if (sw_and (st_cmp ops_ge (se_var 1) se_int) (sw_and1 (st_cmp ops_lt (se_var 5) se_int))).st (sb_cons (ss_set 6 nd32 (se_bin ops_add se_int (T.call D 28 T2.m__law_take (sa_cons (se_var 0) (sa_cons (se_bin ops_sub (se_var 1) se_int) sa_nil)))))
    (sb_cons (ss_set 7 nd32 (T.call D 32 T2.m__law_tree (sa_cons (se_var 0) (sa_cons (se_var 6) (sa_cons (se_var 2) (sa_cons (se_var 3) (sa_cons (se_var 4) sa_nil)))))))
    (sb_cons (ss_set 8 nd32 (T.call D 32 T2.m__law_tree (sa_cons (se_var 0) (sa_cons (se_bin ops_sub (se_bin ops_sub (se_var 1) se_int) (se_var 6)) (sa_cons (se_var 2) (sa_cons (se_var 3) (sa_cons (se_var 4) sa_nil)))))))
    (sb_cons (ss_set 9 nd32 (se_ifE (sw_and (st_cmp (ops_in D.hu) se_str (se_var 4)) (sw_and1 (st_cmp ops_lt (se_var 5) se_int))).st se_str se_str))
    (sb_one (ss_ret (se_tup (sa_cons (se_var 9) (sa_cons (se_var 7) (sa_cons (se_var 8) sa_nil)))))))))) sb_nil)
    (sb_cons (ss_if (sw_and (st_cmp ops_ge (se_var 1) se_int) (sw_and1 (st_cmp ops_lt (se_var 5) se_int))).st (sb_cons (ss_set 10 nd32 (se_bin ops_add se_int (T.call D 28 T2.m__law_take (sa_cons (se_var 0) (sa_cons (se_var 2) sa_nil)))))
    (sb_one (ss_ret (se_tup (sa_cons se_str (sa_cons (se_var 10) (sa_cons (T.call D 32 T2.m__law_tree (sa_cons (se_var 0) (sa_cons (se_bin ops_sub (se_var 1) se_int) (sa_cons (se_var 2) (sa_cons (se_var 3) (sa_cons (se_var 4) sa_nil)))))) sa_nil))))))) sb_nil)
    (sb_one (ss_ret (T.call D 31 T2.m__law_leaf (sa_cons (se_var 0) (sa_cons (se_var 2) (sa_cons (se_var 3) (sa_cons (se_lc [("_law_sort", 11)] D.calm nd32 (si_seq (se_var 4)) (blk_ok (N0 := N32) (sc0 := defScope s32) rfl rfl (by decide +kernel)) (fun s H C l fp => (sg_name 11 nd32)) (fun s H C l fp => (sts_one (st_cmp (ops_ne (D.blk s H _ _ fp).hu) (se_var 11) se_str))) (fun s H C l fp => (se_var 11))) sa_nil))))))))))
theorem w33 (T : TX P w K mg base cl fa fd ps nF k c) (T2 : LX K mg cl fa fd) : BodyOk P w K mg base cl k N33 "_law_line" s33 (b__law_line c) := by
  intro f cdv A outer sh0 H0 E0 hr hg
  have D := DF.of (P := P) (w := w) (K := K) (mg := mg) (base := base) (N := N33) (outer := outer) (H := H0) (E := E0) hr hg
  exact (sb_cons (ss_if (st_cmp (ops_eq D.hu) (se_ix (se_var 0) se_int) se_str) (sb_one (ss_ret (se_static T2.s_Line_belt (T.cal D 18 (by decide)) T2.m_Line (sa_cons (se_ix (se_var 0) se_int) sa_nil)))) sb_nil)
    (sb_cons (ss_if (st_cmp (ops_eq D.hu) (se_ix (se_var 0) se_int) se_str) (sb_one (ss_ret (se_static T2.s_Line_gap (T.cal D 19 (by decide)) T2.m_Line (sa_cons (se_ix (se_var 0) se_int) (sa_cons (se_ix (se_var 0) se_int) sa_nil))))) sb_nil)
    (sb_cons (ss_if (st_cmp (ops_eq D.hu) (se_ix (se_var 0) se_int) se_str) (sb_one (ss_ret (se_static T2.s_Line_hold (T.cal D 20 (by decide)) T2.m_Line (sa_cons (se_ix (se_var 0) se_int) (sa_cons (se_ix (se_var 0) se_int) sa_nil))))) sb_nil)
    (sb_cons (ss_if (st_cmp (ops_eq D.hu) (se_ix (se_var 0) se_int) se_str) (sb_one (ss_ret (se_meth 1 T2.c_Line T2.t_Line_limited (T.cal D 21 (by decide)) (T.call D 33 T2.m__law_line (sa_cons (se_ix (se_var 0) se_int) sa_nil)) (sa_cons (se_ix (se_var 0) se_int) sa_nil)))) sb_nil)
    (sb_cons (ss_par 1 2 D.calm nd33 (sa_cons (T.call D 33 T2.m__law_line (sa_cons (se_ix (se_var 0) se_int) sa_nil)) (sa_cons (T.call D 33 T2.m__law_line (sa_cons (se_ix (se_var 0) se_int) sa_nil)) sa_nil)))
    (sb_one (ss_ret (se_ifE (st_cmp (ops_eq D.hu) (se_ix (se_var 0) se_int) se_str) (se_own 1 T2.o_Line___and__ (T.cal D 23 (by decide)) (se_var 1) (se_var 2)) (se_own 1 T2.o_Line___add__ (T.cal D 22 (by decide)) (se_var 1) (se_var 2))))))))))
theorem w34 (T : TX P w K mg base cl fa fd ps nF k c) (T2 : LX K mg cl fa fd) : BodyOk P w K mg base cl k N34 "_law_inner" s34 (b__law_inner c) := by
  intro f cdv A outer sh0 H0 E0 hr hg
  have D := DF.of (P := P) (w := w) (K := K) (mg := mg) (base := base) (N := N34) (outer := outer) (H := H0) (E := E0) hr hg
  exact (sb_cons (ss_if (st_cmp (ops_eq D.hu) (se_ix (se_var 0) se_int) se_str) (sb_one (ss_ret (se_lst (sa_cons (se_ix (se_var 0) se_int) sa_nil)))) sb_nil)
    (sb_one (ss_ret (se_ifE (st_cmp (ops_in D.hu) (se_ix (se_var 0) se_int) (se_tup (sa_cons se_str (sa_cons se_str sa_nil)))) (se_lst (sa_cons (se_ix (se_var 0) se_int) (sa_cons (se_ix (se_var 0) se_int) sa_nil))) (se_lst sa_nil)))))
theorem w35 (T : TX P w K mg base cl fa fd ps nF k c) (T2 : LX K mg cl fa fd) : BodyOk P w K mg base cl k N35 "_law_walk" s35 (b__law_walk c) := by
  intro f cdv A outer sh0 H0 E0 hr hg
  have D := DF.of (P := P) (w := w) (K := K) (mg := mg) (base := base) (N := N35) (outer := outer) (H := H0) (E := E0) hr hg
  exact (sb_cons (ss_setLc 1 [("_law_one", 2)] D.calm nd35 (si_seq (T.call D 34 T2.m__law_inner (sa_cons (se_var 0) sa_nil))) (blk_ok (N0 := N35) (sc0 := defScope s35) rfl rfl (by decide +kernel)) (fun s H C l fp => (sg_name 2 nd35)) (fun s H C l fp => sts_nil) (fun s H C l fp => (T.call (D.blk s H _ _ fp) 35 T2.m__law_walk (sa_cons (se_var 2) sa_nil))))
    (sb_one (ss_ret (se_dict (sps_cons se_str (se_var 0) (sps_cons se_str (se_lstM sa_nil) (sps_cons se_str (se_lstM sa_nil) (sps_cons se_str (se_var 1) sps_nil))))))))
theorem w36 (T : TX P w K mg base cl fa fd ps nF k c) (T2 : LX K mg cl fa fd) : BodyOk P w K mg base cl k N36 "_law_behind" s36 (b__law_behind c) := by
  intro f cdv A outer sh0 H0 E0 hr hg
  have D := DF.of (P := P) (w := w) (K := K) (mg := mg) (base := base) (N := N36) (outer := outer) (H := H0) (E := E0) hr hg
  exact (sb_one (ss_ret (se_ifE (st_cmp ops_ge (se_callB cs_len T2.z_len (by rfl) (sa_cons (se_var 1) sa_nil)) (se_var 2)) (se_callB (cs_max D.calm) T2.z_max (by rfl) (sa_cons (se_var 0) (sa_cons (se_bin ops_add (se_ix (se_var 1) (se_neg (se_var 2))) (se_var 3)) sa_nil))) (se_var 0))))
theorem w37 (T : TX P w K mg base cl fa fd ps nF k c) (T2 : LX K mg cl fa fd) : BodyOk P w K mg base cl k N37 "_law_go" s37 (b__law_go c) := by
  intro f cdv A outer sh0 H0 E0 hr hg
  have D := DF.of (P := P) (w := w) (K := K) (mg := mg) (base := base) (N := N37) (outer := outer) (H := H0) (E := E0) hr hg
  exact (sb_cons (ss_par 2 3 D.calm nd37 (sa_cons (se_dget 0 D.hu1 (se_var 0) se_str) (sa_cons (se_dget 3 D.hu1 (se_var 0) se_str) sa_nil)))
    (sb_cons (ss_if (st_cmp (ops_eq D.hu) (se_ix (se_var 2) se_int) se_str) (sb_one (ss_set 4 nd37 (se_bin ops_add (se_var 1) (se_ix (se_var 2) se_int)))) (sb_one (ss_if (st_cmp (ops_eq D.hu) (se_ix (se_var 2) se_int) se_str) (sb_one (ss_set 4 nd37 (T.call D 36 T2.m__law_behind (sa_cons (se_var 1) (sa_cons (se_dget 2 D.hu1 (se_var 0) se_str) (sa_cons (se_ix (se_var 2) se_int) (sa_cons (se_ix (se_var 2) se_int) sa_nil))))))) (sb_one (ss_if (st_cmp (ops_eq D.hu) (se_ix (se_var 2) se_int) se_str) (sb_one (ss_set 4 nd37 (T.call D 36 T2.m__law_behind (sa_cons (se_var 1) (sa_cons (se_dget 1 D.hu1 (se_var 0) se_str) (sa_cons (se_ix (se_var 2) se_int) (sa_cons (se_ix (se_var 2) se_int) sa_nil))))))) (sb_one (ss_if (st_cmp (ops_eq D.hu) (se_ix (se_var 2) se_int) se_str) (sb_one (ss_set 4 nd37 (T.call D 37 T2.m__law_go (sa_cons (se_ix (se_var 3) se_int) (sa_cons (T.call D 36 T2.m__law_behind (sa_cons (se_var 1) (sa_cons (se_dget 2 D.hu1 (se_var 0) se_str) (sa_cons (se_ix (se_var 2) se_int) (sa_cons se_int sa_nil))))) sa_nil))))) (sb_cons (ss_set 5 nd37 (T.call D 37 T2.m__law_go (sa_cons (se_ix (se_var 3) se_int) (sa_cons (se_var 1) sa_nil))))
    (sb_one (ss_set 4 nd37 (se_ifE (st_cmp (ops_eq D.hu) (se_ix (se_var 2) se_int) se_str) (se_callB (cs_max D.calm) T2.z_max (by rfl) (sa_cons (se_var 5) (sa_cons (T.call D 37 T2.m__law_go (sa_cons (se_ix (se_var 3) se_int) (sa_cons (se_var 1) sa_nil))) sa_nil))) (T.call D 37 T2.m__law_go (sa_cons (se_ix (se_var 3) se_int) (sa_cons (se_var 5) sa_nil))))))))))))))
    (sb_cons (ss_expr (se_bml ms_append (se_dget 1 D.hu1 (se_var 0) se_str) (sa_cons (se_var 1) sa_nil) F.slot_list_append (by rfl)))
    (sb_cons (ss_expr (se_bml ms_append (se_dget 2 D.hu1 (se_var 0) se_str) (sa_cons (se_var 4) sa_nil) F.slot_list_append (by rfl)))
    (sb_one (ss_ret (se_var 4)))))))
theorem w38 (T : TX P w K mg base cl fa fd ps nF k c) (T2 : LX K mg cl fa fd) : BodyOk P w K mg base cl k N38 "_law_left" s38 (b__law_left c) := by
  intro f cdv A outer sh0 H0 E0 hr hg
  have D := DF.of (P := P) (w := w) (K := K) (mg := mg) (base := base) (N := N38) (outer := outer) (H := H0) (E := E0) hr hg
  exact (sb_cons (ss_set 2 nd38 (T.call D 35 T2.m__law_walk (sa_cons (se_var 0) sa_nil)))
    (sb_one (ss_ret (se_lc [("_law_moment", 3)] D.calm nd38 (si_seq (se_var 1)) (blk_ok (N0 := N38) (sc0 := defScope s38) rfl rfl (by decide +kernel)) (fun s H C l fp => (sg_name 3 nd38)) (fun s H C l fp => sts_nil) (fun s H C l fp => (T.call (D.blk s H _ _ fp) 37 T2.m__law_go (sa_cons (se_var 2) (sa_cons (se_var 3) sa_nil))))))))
theorem w39 (T : TX P w K mg base cl fa fd ps nF k c) (T2 : LX K mg cl fa fd) : BodyOk P w K mg base cl k N39 "_law_arrivals" s39 (b__law_arrivals c) := by
  intro f cdv A outer sh0 H0 E0 hr hg
  have D := DF.of (P := P) (w := w) (K := K) (mg := mg) (base := base) (N := N39) (outer := outer) (H := H0) (E := E0) hr hg
  exact (sb_cons (ss_par3 2 3 4 D.calm nd39 (sa_cons (T.call D 29 T2.m__law_pick (sa_cons (se_var 0) (sa_cons (se_lst (sa_cons se_int (sa_cons se_int (sa_cons se_int (sa_cons se_int (sa_cons se_int (sa_cons (se_bin ops_pow se_int se_int) sa_nil))))))) sa_nil))) (sa_cons (se_lstM sa_nil) (sa_cons (T.call D 29 T2.m__law_pick (sa_cons (se_var 0) (sa_cons (se_lst (sa_cons se_int (sa_cons se_int (sa_cons se_int (sa_cons (se_bin ops_pow se_int se_int) sa_nil))))) sa_nil))) sa_nil))))
    (sb_cons (ss_for D.own D.calm (si_range1 T2.z_range (sa_cons (se_var 1) sa_nil)) (sg_name 5 nd39) (sb_cons (ss_expr (se_bml ms_append (se_var 3) (sa_cons (se_var 4) sa_nil) F.slot_list_append (by rfl)))
    (sb_one (ss_set 4 nd39 (se_bin ops_add (se_var 4) (T.call D 29 T2.m__law_pick (sa_cons (se_var 0) (sa_cons (se_lst (sa_cons se_int (sa_cons se_int (sa_cons (se_var 2) (sa_cons (T.call D 28 T2.m__law_take (sa_cons (se_var 0) (sa_cons (se_bin ops_add (se_var 2) se_int) sa_nil))) sa_nil))))) sa_nil))))))))
    (sb_one (ss_ret (se_var 3)))))
theorem w40 (T : TX P w K mg base cl fa fd ps nF k c) (T2 : LX K mg cl fa fd) : BodyDr P w K mg base cl k N40 "_law_twice_right" s40 (b__law_twice_right c) := by
  intro f cdv A outer sh0 H0 E0 hr hg
  have D := DF.of (P := P) (w := w) (K := K) (mg := mg) (base := base) (N := N40) (outer := outer) (H := H0) (E := E0) (qual := "_law_twice_right") (scope := defScope s40) (f := f) (cdv := cdv) (s := sh0) (hr.deeper _) hg
  have rg := RG.of (env := envOfC "_law_twice_right" (defScope s40) sh0.heap.objs.size f cdv) hr
  exact (sb_cons (ss_set 1 nd40 (T.call D 32 T2.m__law_tree (sa_cons (se_var 0) (sa_cons se_int (sa_cons se_int (sa_cons se_str (sa_cons (se_lst (sa_cons se_str (sa_cons se_str (sa_cons se_str (sa_cons se_str sa_nil))))) sa_nil)))))))
    (sb_cons (ss_asg (se_tup (sa_cons (T.call D 33 T2.m__law_line (sa_cons (se_var 1) sa_nil)) (sa_cons (T.call D 39 T2.m__law_arrivals (sa_cons (se_var 0) (sa_cons (se_bin ops_add se_int (T.call D 28 T2.m__law_take (sa_cons (se_var 0) (sa_cons se_int sa_nil)))) sa_nil))) sa_nil))) (sg_tup D.calm (sgs_cons (sg_name 2 nd40) (sgs_cons (sg_name 3 nd40) sgs_nil))))
    (sb_cons (ss_for D.own D.calm (si_seq (se_lst (sa_cons (se_tup (sa_cons se_str (sa_cons (se_own 1 T2.o_Line___add__ (T.cal D 22 (by decide)) (se_var 2) (se_var 2)) sa_nil))) (sa_cons (se_tup (sa_cons se_str (sa_cons (se_own 1 T2.o_Line___and__ (T.cal D 23 (by decide)) (se_var 2) (se_var 2)) sa_nil))) sa_nil)))) (sg_tup D.calm (sgs_cons (sg_name 4 nd40) (sgs_cons (sg_name 5 nd40) sgs_nil))) (sb_cons (ss_set 6 nd40 (T.call D 38 T2.m__law_left (sa_cons (se_tup (sa_cons (se_var 4) (sa_cons (se_var 1) (sa_cons (se_var 1) sa_nil)))) (sa_cons (se_var 3) sa_nil))))
    (sb_one (ss_if (sw_or (st_cmp (ops_ne D.hu) (se_callI 1 T2.q_Line (T.cal D 24 (by decide)) (se_var 5) (sa_cons (se_var 3) sa_nil)) (se_var 6)) (sw_or1 (st_cmp (ops_ne D.hu) (se_ix (se_dget 0 D.hu1 (T.call D 11 T2.m_walked (sa_cons (se_var 5) (sa_cons (se_var 3) sa_nil))) (se_tup sa_nil)) se_int) (se_var 6)))).st (sb_one (ss_ret se_bl)) sb_nil))))
    (sb_cons (ss_set 5 nd40 (se_own 1 T2.o_Line___and__ (T.cal D 23 (by decide)) (se_own 1 T2.o_Line___add__ (T.cal D 22 (by decide)) (se_var 2) (se_meth 1 T2.c_Line T2.t_Line_limited (T.cal D 21 (by decide)) (se_var 2) (sa_cons se_int sa_nil))) (se_var 2)))
    (sb_cons (ss_if (st_cmp (ops_ne D.hu) (se_callI 1 T2.q_Line (T.cal D 24 (by decide)) (se_var 5) (sa_cons (se_var 3) sa_nil)) (T.call D 38 T2.m__law_left (sa_cons (se_tup (sa_cons se_str (sa_cons (se_tup (sa_cons se_str (sa_cons (se_var 1) (sa_cons (se_tup (sa_cons se_str (sa_cons se_int (sa_cons (se_var 1) sa_nil)))) sa_nil)))) (sa_cons (se_var 1) sa_nil)))) (sa_cons (se_var 3) sa_nil)))) (sb_one (ss_ret se_bl)) sb_nil)
    (sb_cons (ss_set 6 nd40 (T.call D 38 T2.m__law_left (sa_cons (se_var 1) (sa_cons (se_var 3) sa_nil))))
    (sb_cons (ss_setLcYK 7 [("_law_out", 8)] (ks := ["arrivals", "line"]) (is := [1, 0]) ((gwG0 T T2).fn T2.gf_leavings scG0 (by decide +kernel)) rg D.gd T2.kw_leavings_arrivals_line T2.m_leavings T2.gf_leavings.kp (sk_cons (se_var 3) (sk_cons (se_var 2) sk_nil)) D.calm nd40 (blk_ok (N0 := N40) (sc0 := defScope s40) rfl rfl (by decide +kernel)) (fun s H C l fp => (sg_name 8 nd40)) (fun s H C l fp => (sts_one (st_cmp (ops_eq (D.blk s H _ _ fp).hu) (se_callI 1 T2.q_Line (T.cal (D.blk s H _ _ fp) 24 (by decide)) (se_var 2) (sa_cons (se_var 3) sa_nil)) (se_var 6)))) (fun s H C l fp => (se_var 8)))
    (sb_one (ss_ret (se_and (se_cmp (ops_eq D.hu) (se_callI 1 T2.q_Line (T.cal D 24 (by decide)) (se_var 2) (sa_cons (se_var 3) sa_nil)) (se_var 6)) (se_one (se_cmp (ops_eq D.hu) (se_var 7) (se_var 6)))))))))))))
theorem w41 (T : TX P w K mg base cl fa fd ps nF k c) (T2 : LX K mg cl fa fd) : BodyDr P w K mg base cl k N41 "law" s41 (b_law c) := by
  intro f cdv A outer sh0 H0 E0 hr hg
  have D := DF.of (P := P) (w := w) (K := K) (mg := mg) (base := base) (N := N41) (outer := outer) (H := H0) (E := E0) (qual := "law") (scope := defScope s41) (f := f) (cdv := cdv) (s := sh0) (hr.deeper _) hg
  have rg := RG.of (env := envOfC "law" (defScope s41) sh0.heap.objs.size f cdv) hr
  exact (sb_cons (ss_set 1 nd41 (T.call D 26 T2.m__law_begun (sa_cons (se_var 0) sa_nil)))
    (sb_cons (ss_for D.own D.calm (si_range1 T2.z_range (sa_cons (se_bin ops_add se_int (se_callB (cs_min D.calm) T2.z_min (by rfl) (sa_cons (se_callB cs_len T2.z_len (by rfl) (sa_cons (se_var 0) sa_nil)) (sa_cons se_int sa_nil)))) sa_nil)) (sg_name 2 nd41) (sb_cons (ss_if (st_not (st_val (T.call D 40 T2.m__law_twice_right (sa_cons (se_var 1) sa_nil)))) (sb_one (ss_ret se_bl)) sb_nil)
    (sb_cons (ss_set 3 nd41 (T.call D 29 T2.m__law_pick (sa_cons (se_var 1) (sa_cons (se_lst (sa_cons se_str (sa_cons se_str (sa_cons se_str sa_nil)))) sa_nil))))
    (sb_cons (ss_set 4 nd41 (T.call D 32 T2.m__law_tree (sa_cons (se_var 1) (sa_cons (T.call D 29 T2.m__law_pick (sa_cons (se_var 1) (sa_cons (se_lst (sa_cons se_int (sa_cons se_int (sa_cons se_int (sa_cons se_int sa_nil))))) sa_nil))) (sa_cons se_int (sa_cons (se_var 3) (sa_cons (se_lst (sa_cons se_str (sa_cons se_str (sa_cons se_str (sa_cons se_str sa_nil))))) sa_nil)))))))
    (sb_cons (ss_set 5 nd41 (T.call D 33 T2.m__law_line (sa_cons (se_var 4) sa_nil)))
    (sb_one (ss_for D.own D.calm (si_range1 T2.z_range (sa_cons se_int sa_nil)) (sg_name 6 nd41) (sb_cons (ss_set 7 nd41 (T.call D 39 T2.m__law_arrivals (sa_cons (se_var 1) (sa_cons (T.call D 29 T2.m__law_pick (sa_cons (se_var 1) (sa_cons (se_lst (sa_cons se_int (sa_cons se_int (sa_cons se_int (sa_cons se_int sa_nil))))) sa_nil))) sa_nil))))
    (sb_cons (ss_par 8 9 D.calm nd41 (sa_cons (T.call D 38 T2.m__law_left (sa_cons (se_var 4) (sa_cons (se_var 7) sa_nil))) (sa_cons (se_callB (cs_reprX D.hu D.gd) T2.z_repr (by rfl) (sa_cons (se_var 7) sa_nil)) sa_nil)))
    (sb_cons (ss_set 10 nd41 (se_callI 1 T2.q_Line (T.cal D 24 (by decide)) (se_var 5) (sa_cons (se_var 7) sa_nil)))
    (sb_cons (ss_if (st_cmp (ops_ne D.hu) (se_callB (cs_reprX D.hu D.gd) T2.z_repr (by rfl) (sa_cons (se_var 10) sa_nil)) (se_callB (cs_reprX D.hu D.gd) T2.z_repr (by rfl) (sa_cons (se_var 8) sa_nil))) (sb_one (ss_ret se_bl)) sb_nil)
    (sb_cons (ss_expr (se_bml ms_append (se_var 10) (sa_cons se_non sa_nil) F.slot_list_append (by rfl)))
    (sb_cons (ss_if (sw_or (st_cmp (ops_ne D.hu) (se_callIK 1 T2.q_Line (T.calK1 D 24 (by decide) ["arrivals"] [0] T2.kwm_Line___call___arrivals) (se_var 5) (sk_cons (se_callT cs_tuple T2.z_tuple (by rfl) (sa_cons (se_var 7) sa_nil)) sk_nil)) (se_var 8)) (sw_or1 (st_cmp (ops_ne D.hu) (se_callB (cs_reprX D.hu D.gd) T2.z_repr (by rfl) (sa_cons (se_var 7) sa_nil)) (se_var 9)))).st (sb_one (ss_ret se_bl)) sb_nil)
    (sb_one (ss_if (sw_or (st_cmp (ops_ne D.hu) (se_lcY [("_law_moment", 11)] ((gwG0 T T2).fn T2.gf_leavings scG0 (by decide +kernel)) rg D.gd T2.gb_leavings T2.m_leavings T2.gf_leavings.kp (sa_cons (se_var 5) (sa_cons (se_var 7) sa_nil)) D.calm nd41 (blk_ok (N0 := N41) (sc0 := defScope s41) rfl rfl (by decide +kernel)) (fun s H C l fp => (sg_name 11 nd41)) (fun s H C l fp => sts_nil) (fun s H C l fp => (se_var 11))) (se_var 8)) (sw_or1 (st_cmp (ops_ne D.hu) (se_callI 1 T2.q_Line (T.cal D 24 (by decide)) (T.call D 33 T2.m__law_line (sa_cons (se_var 4) sa_nil)) (sa_cons (se_var 7) sa_nil)) (se_var 8)))).st (sb_one (ss_ret se_bl)) sb_nil)))))))))))))))
    (sb_one (ss_ret se_bl))))
end
section
variable {P : Program} {w : World} {K : PySem.W.Frag} {mg : Str → Option Value} {base : Heap} {cl : ClsT} {fa : Nat → Addr} {fd : Nat → FuncData}
/-- the defs as they stand -/
structure FX (K : PySem.W.Frag) (fa : Nat → Addr) (fd : Nat → FuncData) : Prop where
  f0 : Fun K "is_number" "is_number" s0 (fa 0) (fd 0)
  f1 : Fun K "is_moment" "is_moment" s1 (fa 1) (fd 1)
  f2 : Fun K "first_bad" "first_bad" s2 (fa 2) (fd 2)
  f3 : Fun K "need_arrivals" "need_arrivals" s3 (fa 3) (fd 3)
  f4 : Fun K "__init__" "Walk.__init__" s4 (fa 4) (fd 4)
  f5 : Fun K "earlier" "Walk.earlier" s5 (fa 5) (fd 5)
  f6 : Fun K "left" "Walk.left" s6 (fa 6) (fd 6)
  f7 : Fun K "go" "Walk.go" s7 (fa 7) (fd 7)
  f8 : Fun K "rows" "Walk.rows" s8 (fa 8) (fd 8)
  f9 : Fun K "inner_parts" "inner_parts" s9 (fa 9) (fd 9)
  f10 : Fun K "walk_of" "walk_of" s10 (fa 10) (fd 10)
  f11 : Fun K "walked" "walked" s11 (fa 11) (fd 11)
  f12 : Fun K "is_time" "is_time" s12 (fa 12) (fd 12)
  f13 : Fun K "is_count" "is_count" s13 (fa 13) (fd 13)
  f14 : Fun K "need_count" "need_count" s14 (fa 14) (fd 14)
  f15 : Fun K "need_time" "need_time" s15 (fa 15) (fd 15)
  f16 : Fun K "paths_of" "paths_of" s16 (fa 16) (fd 16)
  f17 : Fun K "__init__" "Line.__init__" s17 (fa 17) (fd 17)
  f18 : Fun K "belt" "Line.belt" s18 (fa 18) (fd 18)
  f19 : Fun K "gap" "Line.gap" s19 (fa 19) (fd 19)
  f20 : Fun K "hold" "Line.hold" s20 (fa 20) (fd 20)
  f21 : Fun K "limited" "Line.limited" s21 (fa 21) (fd 21)
  f22 : Fun K "__add__" "Line.__add__" s22 (fa 22) (fd 22)
  f23 : Fun K "__and__" "Line.__and__" s23 (fa 23) (fd 23)
  f24 : Fun K "__call__" "Line.__call__" s24 (fa 24) (fd 24)
  f25 : Fun K "parts" "Line.parts" s25 (fa 25) (fd 25)
  f26 : Fun K "_law_begun" "_law_begun" s26 (fa 26) (fd 26)
  f27 : Fun K "_law_mixed" "_law_mixed" s27 (fa 27) (fd 27)
  f28 : Fun K "_law_take" "_law_take" s28 (fa 28) (fd 28)
  f29 : Fun K "_law_pick" "_law_pick" s29 (fa 29) (fd 29)
  f30 : Fun K "_law_time" "_law_time" s30 (fa 30) (fd 30)
  f31 : Fun K "_law_leaf" "_law_leaf" s31 (fa 31) (fd 31)
  f32 : Fun K "_law_tree" "_law_tree" s32 (fa 32) (fd 32)
  f33 : Fun K "_law_line" "_law_line" s33 (fa 33) (fd 33)
  f34 : Fun K "_law_inner" "_law_inner" s34 (fa 34) (fd 34)
  f35 : Fun K "_law_walk" "_law_walk" s35 (fa 35) (fd 35)
  f36 : Fun K "_law_behind" "_law_behind" s36 (fa 36) (fd 36)
  f37 : Fun K "_law_go" "_law_go" s37 (fa 37) (fd 37)
  f38 : Fun K "_law_left" "_law_left" s38 (fa 38) (fd 38)
  f39 : Fun K "_law_arrivals" "_law_arrivals" s39 (fa 39) (fd 39)
  f40 : Fun K "_law_twice_right" "_law_twice_right" s40 (fa 40) (fd 40)
  f41 : Fun K "law" "law" s41 (fa 41) (fd 41)
  b0 : L2.Binds K (fd 0) p0 []
  b1 : L2.Binds K (fd 1) p1 []
  b2 : L2.Binds K (fd 2) p2 []
  b3 : L2.Binds K (fd 3) p3 []
  b4 : L2.Binds K (fd 4) p4 []
  b5 : L2.Binds K (fd 5) p5 []
  b6 : L2.Binds K (fd 6) p6 []
  b7 : L2.Binds K (fd 7) p7 []
  b8 : L2.Binds K (fd 8) p8 []
  b9 : L2.Binds K (fd 9) p9 []
  b10 : L2.Binds K (fd 10) p10 []
  b11 : L2.Binds K (fd 11) p11 []
  b12 : L2.Binds K (fd 12) p12 []
  b13 : L2.Binds K (fd 13) p13 []
  b14 : L2.Binds K (fd 14) p14 []
  b15 : L2.Binds K (fd 15) p15 []
  b16 : L2.Binds K (fd 16) p16 []
  b17 : L2.Binds K (fd 17) p17 []
  b18 : L2.Binds K (fd 18) p18 []
  b19 : L2.Binds K (fd 19) p19 []
  b20 : L2.Binds K (fd 20) p20 []
  b21 : L2.Binds K (fd 21) p21 []
  b22 : L2.Binds K (fd 22) p22 []
  b23 : L2.Binds K (fd 23) p23 []
  b24 : L2.Binds K (fd 24) p24 []
  b25 : L2.Binds K (fd 25) p25 []
  b26 : L2.Binds K (fd 26) p26 []
  b27 : L2.Binds K (fd 27) p27 []
  b28 : L2.Binds K (fd 28) p28 []
  b29 : L2.Binds K (fd 29) p29 []
  b30 : L2.Binds K (fd 30) p30 []
  b31 : L2.Binds K (fd 31) p31 []
  b32 : L2.Binds K (fd 32) p32 []
  b33 : L2.Binds K (fd 33) p33 []
  b34 : L2.Binds K (fd 34) p34 []
  b35 : L2.Binds K (fd 35) p35 []
  b36 : L2.Binds K (fd 36) p36 []
  b37 : L2.Binds K (fd 37) p37 []
  b38 : L2.Binds K (fd 38) p38 []
  b39 : L2.Binds K (fd 39) p39 []
  b40 : L2.Binds K (fd 40) p40 []
  b41 : L2.Binds K (fd 41) p41 []
  k0 : PySem.W.keepIn K (.ref (fa 0)) = true
  k1 : PySem.W.keepIn K (.ref (fa 1)) = true
  k2 : PySem.W.keepIn K (.ref (fa 2)) = true
  k3 : PySem.W.keepIn K (.ref (fa 3)) = true
  k4 : PySem.W.keepIn K (.ref (fa 4)) = true
  k5 : PySem.W.keepIn K (.ref (fa 5)) = true
  k6 : PySem.W.keepIn K (.ref (fa 6)) = true
  k7 : PySem.W.keepIn K (.ref (fa 7)) = true
  k8 : PySem.W.keepIn K (.ref (fa 8)) = true
  k9 : PySem.W.keepIn K (.ref (fa 9)) = true
  k10 : PySem.W.keepIn K (.ref (fa 10)) = true
  k11 : PySem.W.keepIn K (.ref (fa 11)) = true
  k12 : PySem.W.keepIn K (.ref (fa 12)) = true
  k13 : PySem.W.keepIn K (.ref (fa 13)) = true
  k14 : PySem.W.keepIn K (.ref (fa 14)) = true
  k15 : PySem.W.keepIn K (.ref (fa 15)) = true
  k16 : PySem.W.keepIn K (.ref (fa 16)) = true
  k17 : PySem.W.keepIn K (.ref (fa 17)) = true
  k18 : PySem.W.keepIn K (.ref (fa 18)) = true
  k19 : PySem.W.keepIn K (.ref (fa 19)) = true
  k20 : PySem.W.keepIn K (.ref (fa 20)) = true
  k21 : PySem.W.keepIn K (.ref (fa 21)) = true
  k22 : PySem.W.keepIn K (.ref (fa 22)) = true
  k23 : PySem.W.keepIn K (.ref (fa 23)) = true
  k24 : PySem.W.keepIn K (.ref (fa 24)) = true
  k25 : PySem.W.keepIn K (.ref (fa 25)) = true
  k26 : PySem.W.keepIn K (.ref (fa 26)) = true
  k27 : PySem.W.keepIn K (.ref (fa 27)) = true
  k28 : PySem.W.keepIn K (.ref (fa 28)) = true
  k29 : PySem.W.keepIn K (.ref (fa 29)) = true
  k30 : PySem.W.keepIn K (.ref (fa 30)) = true
  k31 : PySem.W.keepIn K (.ref (fa 31)) = true
  k32 : PySem.W.keepIn K (.ref (fa 32)) = true
  k33 : PySem.W.keepIn K (.ref (fa 33)) = true
  k34 : PySem.W.keepIn K (.ref (fa 34)) = true
  k35 : PySem.W.keepIn K (.ref (fa 35)) = true
  k36 : PySem.W.keepIn K (.ref (fa 36)) = true
  k37 : PySem.W.keepIn K (.ref (fa 37)) = true
  k38 : PySem.W.keepIn K (.ref (fa 38)) = true
  k39 : PySem.W.keepIn K (.ref (fa 39)) = true
  k40 : PySem.W.keepIn K (.ref (fa 40)) = true
  k41 : PySem.W.keepIn K (.ref (fa 41)) = true
theorem arity : ∀ n i ds st, ds.length ≠ (ps i).length → sem n i ds st = .no
  | 0, _, _, _, _ => rfl
  | _ + 1, 0, _, _, h => arF_ne h
  | _ + 1, 1, _, _, h => arF_ne h
  | _ + 1, 2, _, _, h => arF_ne h
  | _ + 1, 3, _, _, h => arF_ne h
  | _ + 1, 4, _, _, h => arF_ne h
  | _ + 1, 5, _, _, h => arF_ne h
  | _ + 1, 6, _, _, h => arF_ne h
  | _ + 1, 7, _, _, h => arF_ne h
  | _ + 1, 8, _, _, h => arF_ne h
  | _ + 1, 9, _, _, h => arF_ne h
  | _ + 1, 10, _, _, h => arF_ne h
  | _ + 1, 11, _, _, h => arF_ne h
  | _ + 1, 12, _, _, h => arF_ne h
  | _ + 1, 13, _, _, h => arF_ne h
  | _ + 1, 14, _, _, h => arF_ne h
  | _ + 1, 15, _, _, h => arF_ne h
  | _ + 1, 16, _, _, h => arF_ne h
  | _ + 1, 17, _, _, h => arF_ne h
  | _ + 1, 18, _, _, h => arF_ne h
  | _ + 1, 19, _, _, h => arF_ne h
  | _ + 1, 20, _, _, h => arF_ne h
  | _ + 1, 21, _, _, h => arF_ne h
  | _ + 1, 22, _, _, h => arF_ne h
  | _ + 1, 23, _, _, h => arF_ne h
  | _ + 1, 24, _, _, h => arF_ne h
  | _ + 1, 25, _, _, h => arF_ne h
  | _ + 1, 26, _, _, h => arF_ne h
  | _ + 1, 27, _, _, h => arF_ne h
  | _ + 1, 28, _, _, h => arF_ne h
  | _ + 1, 29, _, _, h => arF_ne h
  | _ + 1, 30, _, _, h => arF_ne h
  | _ + 1, 31, _, _, h => arF_ne h
  | _ + 1, 32, _, _, h => arF_ne h
  | _ + 1, 33, _, _, h => arF_ne h
  | _ + 1, 34, _, _, h => arF_ne h
  | _ + 1, 35, _, _, h => arF_ne h
  | _ + 1, 36, _, _, h => arF_ne h
  | _ + 1, 37, _, _, h => arF_ne h
  | _ + 1, 38, _, _, h => arF_ne h
  | _ + 1, 39, _, _, h => arF_ne h
  | _ + 1, 40, _, _, h => arF_ne h
  | _ + 1, 41, _, _, h => arF_ne h
  | _ + 1, _ + 42, _, _, _ => rfl
theorem tx_of (F : FX K fa fd) {n : Nat} (h : ∀ i, i < nF → FnG P w K mg base (2 * n + 2) (fa i) (fd i) (ps i) (spF ⟨K, cl⟩ (ps i).length (sem n i))) : TX P w K mg base cl fa fd ps nF (2 * n + 2) (sem n) :=
  ⟨h, arity n, fun i hi => match i, hi with
    | 0, _ => F.b0
    | 1, _ => F.b1
    | 2, _ => F.b2
    | 3, _ => F.b3
    | 4, _ => F.b4
    | 5, _ => F.b5
    | 6, _ => F.b6
    | 7, _ => F.b7
    | 8, _ => F.b8
    | 9, _ => F.b9
    | 10, _ => F.b10
    | 11, _ => F.b11
    | 12, _ => F.b12
    | 13, _ => F.b13
    | 14, _ => F.b14
    | 15, _ => F.b15
    | 16, _ => F.b16
    | 17, _ => F.b17
    | 18, _ => F.b18
    | 19, _ => F.b19
    | 20, _ => F.b20
    | 21, _ => F.b21
    | 22, _ => F.b22
    | 23, _ => F.b23
    | 24, _ => F.b24
    | 25, _ => F.b25
    | 26, _ => F.b26
    | 27, _ => F.b27
    | 28, _ => F.b28
    | 29, _ => F.b29
    | 30, _ => F.b30
    | 31, _ => F.b31
    | 32, _ => F.b32
    | 33, _ => F.b33
    | 34, _ => F.b34
    | 35, _ => F.b35
    | 36, _ => F.b36
    | 37, _ => F.b37
    | 38, _ => F.b38
    | 39, _ => F.b39
    | 40, _ => F.b40
    | 41, _ => F.b41
    | _ + 42, h => absurd (show _ < 42 from h) (by omega), fun i hi => match i, hi with
    | 0, _ => F.k0
    | 1, _ => F.k1
    | 2, _ => F.k2
    | 3, _ => F.k3
    | 4, _ => F.k4
    | 5, _ => F.k5
    | 6, _ => F.k6
    | 7, _ => F.k7
    | 8, _ => F.k8
    | 9, _ => F.k9
    | 10, _ => F.k10
    | 11, _ => F.k11
    | 12, _ => F.k12
    | 13, _ => F.k13
    | 14, _ => F.k14
    | 15, _ => F.k15
    | 16, _ => F.k16
    | 17, _ => F.k17
    | 18, _ => F.k18
    | 19, _ => F.k19
    | 20, _ => F.k20
    | 21, _ => F.k21
    | 22, _ => F.k22
    | 23, _ => F.k23
    | 24, _ => F.k24
    | 25, _ => F.k25
    | 26, _ => F.k26
    | 27, _ => F.k27
    | 28, _ => F.k28
    | 29, _ => F.k29
    | 30, _ => F.k30
    | 31, _ => F.k31
    | 32, _ => F.k32
    | 33, _ => F.k33
    | 34, _ => F.k34
    | 35, _ => F.k35
    | 36, _ => F.k36
    | 37, _ => F.k37
    | 38, _ => F.k38
    | 39, _ => F.k39
    | 40, _ => F.k40
    | 41, _ => F.k41
    | _ + 42, h => absurd (show _ < 42 from h) (by omega)⟩
theorem fn_all (F : FX K fa fd) (T2 : LX K mg cl fa fd) : ∀ n i, i < nF → FnG P w K mg base (2 * n + 2) (fa i) (fd i) (ps i) (spF ⟨K, cl⟩ (ps i).length (sem n i))
  | 0, _, _ => FnG.none
  | n + 1, 0, _ => ((w0 (tx_of F (fn_all F T2 n)) T2).fn F.f0 sc0).ar
  | n + 1, 1, _ => ((w1 (tx_of F (fn_all F T2 n)) T2).fn F.f1 sc1).ar
  | n + 1, 2, _ => ((w2 (tx_of F (fn_all F T2 n)) T2).fn F.f2 sc2).ar
  | n + 1, 3, _ => ((w3 (tx_of F (fn_all F T2 n)) T2).fn F.f3 sc3).ar
  | n + 1, 4, _ => ((w4 (tx_of F (fn_all F T2 n)) T2).fn F.f4 sc4).ar
  | n + 1, 5, _ => ((w5 (tx_of F (fn_all F T2 n)) T2).fn F.f5 sc5).ar
  | n + 1, 6, _ => ((w6 (tx_of F (fn_all F T2 n)) T2).fn F.f6 sc6).ar
  | n + 1, 7, _ => ((w7 (tx_of F (fn_all F T2 n)) T2).fn F.f7 sc7).ar
  | n + 1, 8, _ => ((w8 (tx_of F (fn_all F T2 n)) T2).fn F.f8 sc8).ar
  | n + 1, 9, _ => ((w9 (tx_of F (fn_all F T2 n)) T2).fn F.f9 sc9).ar
  | n + 1, 10, _ => ((w10 (tx_of F (fn_all F T2 n)) T2).fn F.f10 sc10).ar
  | n + 1, 11, _ => ((w11 (tx_of F (fn_all F T2 n)) T2).fn F.f11 sc11).ar
  | n + 1, 12, _ => ((w12 (tx_of F (fn_all F T2 n)) T2).fn F.f12 sc12).ar
  | n + 1, 13, _ => ((w13 (tx_of F (fn_all F T2 n)) T2).fn F.f13 sc13).ar
  | n + 1, 14, _ => ((w14 (tx_of F (fn_all F T2 n)) T2).fn F.f14 sc14).ar
  | n + 1, 15, _ => ((w15 (tx_of F (fn_all F T2 n)) T2).fn F.f15 sc15).ar
  | n + 1, 16, _ => ((w16 (tx_of F (fn_all F T2 n)) T2).fn F.f16 sc16).ar
  | n + 1, 17, _ => ((w17 (tx_of F (fn_all F T2 n)) T2).fn F.f17 sc17).ar
  | n + 1, 18, _ => ((w18 (tx_of F (fn_all F T2 n)) T2).fn F.f18 sc18).ar
  | n + 1, 19, _ => ((w19 (tx_of F (fn_all F T2 n)) T2).fn F.f19 sc19).ar
  | n + 1, 20, _ => ((w20 (tx_of F (fn_all F T2 n)) T2).fn F.f20 sc20).ar
  | n + 1, 21, _ => ((w21 (tx_of F (fn_all F T2 n)) T2).fn F.f21 sc21).ar
  | n + 1, 22, _ => ((w22 (tx_of F (fn_all F T2 n)) T2).fn F.f22 sc22).ar
  | n + 1, 23, _ => ((w23 (tx_of F (fn_all F T2 n)) T2).fn F.f23 sc23).ar
  | n + 1, 24, _ => ((w24 (tx_of F (fn_all F T2 n)) T2).fn F.f24 sc24).frzH.ar
  | n + 1, 25, _ => ((w25 (tx_of F (fn_all F T2 n)) T2).fn F.f25 sc25).ar
  | n + 1, 26, _ => ((w26 (tx_of F (fn_all F T2 n)) T2).fn F.f26 sc26).ar
  | n + 1, 27, _ => ((w27 (tx_of F (fn_all F T2 n)) T2).fn F.f27 sc27).ar
  | n + 1, 28, _ => ((w28 (tx_of F (fn_all F T2 n)) T2).fn F.f28 sc28).ar
  | n + 1, 29, _ => ((w29 (tx_of F (fn_all F T2 n)) T2).fn F.f29 sc29).ar
  | n + 1, 30, _ => ((w30 (tx_of F (fn_all F T2 n)) T2).fn F.f30 sc30).ar
  | n + 1, 31, _ => ((w31 (tx_of F (fn_all F T2 n)) T2).fn F.f31 sc31).ar
  | n + 1, 32, _ => ((w32 (tx_of F (fn_all F T2 n)) T2).fn F.f32 sc32).ar
  | n + 1, 33, _ => ((w33 (tx_of F (fn_all F T2 n)) T2).fn F.f33 sc33).ar
  | n + 1, 34, _ => ((w34 (tx_of F (fn_all F T2 n)) T2).fn F.f34 sc34).ar
  | n + 1, 35, _ => ((w35 (tx_of F (fn_all F T2 n)) T2).fn F.f35 sc35).ar
  | n + 1, 36, _ => ((w36 (tx_of F (fn_all F T2 n)) T2).fn F.f36 sc36).ar
  | n + 1, 37, _ => ((w37 (tx_of F (fn_all F T2 n)) T2).fn F.f37 sc37).ar
  | n + 1, 38, _ => ((w38 (tx_of F (fn_all F T2 n)) T2).fn F.f38 sc38).frz.ar
  | n + 1, 39, _ => ((w39 (tx_of F (fn_all F T2 n)) T2).fn F.f39 sc39).frz.ar
  | n + 1, 40, _ => ((w40 (tx_of F (fn_all F T2 n)) T2).fn F.f40 sc40).ar
  | n + 1, 41, _ => ((w41 (tx_of F (fn_all F T2 n)) T2).fn F.f41 sc41).ar
  | _ + 1, _ + 42, h => absurd (show _ < 42 from h) (by omega)
end
end Q

/-! Lines as parts, walks of items: plain Lean. -/
namespace Q
open PySem PySem.Spec L2 DY
inductive Part where
  | belt (t : Int)
  | gap (c t : Int)
  | hold (c t : Int)
  | sec (c : Int) (p : Part)
  | beh (a b : Part)
  | both (a b : Part)
  deriving DecidableEq
def sS (s : String) : D := .str (Str.ofString s)
namespace Part
def kind : Part → String
  | belt _ => "belt"
  | gap _ _ => "gap"
  | hold _ _ => "hold"
  | sec _ _ => "section"
  | beh _ _ => "behind"
  | both _ _ => "both"
def size : Part → Nat
  | belt _ => 1
  | gap _ _ => 1
  | hold _ _ => 1
  | sec _ p => p.size + 1
  | beh a b => a.size + b.size + 1
  | both a b => a.size + b.size + 1
def inner : Part → List Part
  | sec _ p => [p]
  | beh a b => [a, b]
  | both a b => [a, b]
  | _ => []
/-- as the program keeps it -/
def d : Part → D
  | belt t => .nd .tup [.str (Str.ofString "belt"), .int t]
  | gap c t => .nd .tup [.str (Str.ofString "gap"), .int c, .int t]
  | hold c t => .nd .tup [.str (Str.ofString "hold"), .int c, .int t]
  | sec c p => .nd .tup [.str (Str.ofString "section"), .int c, p.d]
  | beh a b => .nd .tup [.str (Str.ofString "behind"), a.d, b.d]
  | both a b => .nd .tup [.str (Str.ofString "both"), a.d, b.d]
/-- counts and times within their bounds -/
def ok (top : Int) : Part → Prop
  | belt t => 0 ≤ t ∧ t ≤ 1000000000
  | gap c t => (1 ≤ c ∧ c ≤ top) ∧ 0 ≤ t ∧ t ≤ 1000000000
  | hold c t => (1 ≤ c ∧ c ≤ top) ∧ 0 ≤ t ∧ t ≤ 1000000000
  | sec c p => (1 ≤ c ∧ c ≤ top) ∧ p.ok top
  | beh a b => a.ok top ∧ b.ok top
  | both a b => a.ok top ∧ b.ok top
/-- made of some sorts -/
def within (S : List String) : Part → Prop
  | belt _ => "belt" ∈ S
  | gap _ _ => "gap" ∈ S
  | hold _ _ => "hold" ∈ S
  | sec _ p => p.within S
  | beh a b => a.within S ∧ b.within S
  | both a b => "both" ∈ S ∧ a.within S ∧ b.within S
theorem ok.mono {s t : Int} (h : s ≤ t) : ∀ {p : Part}, p.ok s → p.ok t
  | belt _, q => q
  | gap _ _, q => ⟨⟨q.1.1, Int.le_trans q.1.2 h⟩, q.2⟩
  | hold _ _, q => ⟨⟨q.1.1, Int.le_trans q.1.2 h⟩, q.2⟩
  | sec _ p, q => ⟨⟨q.1.1, Int.le_trans q.1.2 h⟩, ok.mono h q.2⟩
  | beh _ _, q => ⟨ok.mono h q.1, ok.mono h q.2⟩
  | both _ _, q => ⟨ok.mono h q.1, ok.mono h q.2⟩
@[simp] theorem noH_d : ∀ p : Part, noH p.d = true
  | belt _ => rfl
  | gap _ _ => rfl
  | hold _ _ => rfl
  | sec _ p => by simp [d, noH_d p]
  | beh a b => by simp [d, noH_d a, noH_d b]
  | both a b => by simp [d, noH_d a, noH_d b]
/-- the items of the tuple -/
def ds : Part → List D
  | belt t => [.str (Str.ofString "belt"), .int t]
  | gap c t => [.str (Str.ofString "gap"), .int c, .int t]
  | hold c t => [.str (Str.ofString "hold"), .int c, .int t]
  | sec c p => [.str (Str.ofString "section"), .int c, p.d]
  | beh a b => [.str (Str.ofString "behind"), a.d, b.d]
  | both a b => [.str (Str.ofString "both"), a.d, b.d]
/-- the paths of a part and of all within it -/
def paths : Part → List Int → List (List Int)
  | sec _ p, q => q :: p.paths (q ++ [0])
  | beh a b, q => q :: (a.paths (q ++ [0]) ++ b.paths (q ++ [1]))
  | both a b, q => q :: (a.paths (q ++ [0]) ++ b.paths (q ++ [1]))
  | _, q => [q]
theorem paths_len : ∀ (p : Part) (q : List Int), (p.paths q).length = p.size
  | belt _, _ => rfl
  | gap _ _, _ => rfl
  | hold _ _, _ => rfl
  | sec _ p, q => by simp [paths, size, paths_len p]
  | beh a b, q => by simp [paths, size, paths_len a, paths_len b]
  | both a b, q => by simp [paths, size, paths_len a, paths_len b]
end Part
/-- a row of whole numbers -/
def tupI (q : List Int) : D := .nd .tup (q.map D.int)
def lstI (q : List Int) : D := .nd .lst (q.map D.int)
@[simp] theorem noH_tupI (q : List Int) : noH (tupI q) = true := by simp [tupI]
@[simp] theorem noH_lstI (q : List Int) : noH (lstI q) = true := by simp [lstI]
/-! ### walks of items -/
/-- of each part the moments at which the items came and left -/
inductive W where
  | nd (came left : List Int) (sub : List W)
def W.came : W → List Int
  | nd c _ _ => c
def W.left : W → List Int
  | nd _ l _ => l
def W.sub : W → List W
  | nd _ _ s => s
/-- the one count items ago, with a time, if that is later -/
def ago (l : List Int) (c t m : Int) : Int := if c ≤ (l.length : Int) then max m (l.getD (l.length - c.toNat) 0 + t) else m
def W0 : Part → W
  | .sec _ p => .nd [] [] [W0 p]
  | .beh a b => .nd [] [] [W0 a, W0 b]
  | .both a b => .nd [] [] [W0 a, W0 b]
  | _ => .nd [] [] []
/-- the next item comes at a moment -/
def go : Part → W → Int → Int × W
  | .belt t, .nd c l s, m => (m + t, .nd (c ++ [m]) (l ++ [m + t]) s)
  | .gap k t, .nd c l s, m => (ago l k t m, .nd (c ++ [m]) (l ++ [ago l k t m]) s)
  | .hold k t, .nd c l s, m => (ago c k t m, .nd (c ++ [m]) (l ++ [ago c k t m]) s)
  | .sec k p, .nd c l [w], m => ((go p w (ago l k 0 m)).1, .nd (c ++ [m]) (l ++ [(go p w (ago l k 0 m)).1]) [(go p w (ago l k 0 m)).2])
  | .beh a b, .nd c l [u, v], m => ((go b v (go a u m).1).1, .nd (c ++ [m]) (l ++ [(go b v (go a u m).1).1]) [(go a u m).2, (go b v (go a u m).1).2])
  | .both a b, .nd c l [u, v], m => (max (go a u m).1 (go b v m).1, .nd (c ++ [m]) (l ++ [max (go a u m).1 (go b v m).1]) [(go a u m).2, (go b v m).2])
  | _, w, m => (m, w)
/-- a state that fits the part, behind n items -/
def Fit : Part → Nat → W → Prop
  | .sec _ p, n, .nd c l [w] => c.length = n ∧ l.length = n ∧ Fit p n w
  | .beh a b, n, .nd c l [u, v] => c.length = n ∧ l.length = n ∧ Fit a n u ∧ Fit b n v
  | .both a b, n, .nd c l [u, v] => c.length = n ∧ l.length = n ∧ Fit a n u ∧ Fit b n v
  | .belt _, n, .nd c l [] => c.length = n ∧ l.length = n
  | .gap _ _, n, .nd c l [] => c.length = n ∧ l.length = n
  | .hold _ _, n, .nd c l [] => c.length = n ∧ l.length = n
  | _, _, _ => False
theorem fit0 : ∀ p : Part, Fit p 0 (W0 p)
  | .belt _ => ⟨rfl, rfl⟩
  | .gap _ _ => ⟨rfl, rfl⟩
  | .hold _ _ => ⟨rfl, rfl⟩
  | .sec _ p => ⟨rfl, rfl, fit0 p⟩
  | .beh a b => ⟨rfl, rfl, fit0 a, fit0 b⟩
  | .both a b => ⟨rfl, rfl, fit0 a, fit0 b⟩
theorem fit_go : ∀ (p : Part) (n : Nat) (w : W) (m : Int), Fit p n w → Fit p (n + 1) (go p w m).2
  | .belt _, n, .nd c l [], m, h => by simp [go, Fit] at h ⊢; exact h
  | .gap _ _, n, .nd c l [], m, h => by simp [go, Fit] at h ⊢; exact h
  | .hold _ _, n, .nd c l [], m, h => by simp [go, Fit] at h ⊢; exact h
  | .sec _ p, n, .nd c l [w], m, h => by
    simp [go, Fit] at h ⊢
    exact ⟨h.1, h.2.1, fit_go p n w _ h.2.2⟩
  | .beh a b, n, .nd c l [u, v], m, h => by
    simp [go, Fit] at h ⊢
    exact ⟨h.1, h.2.1, fit_go a n u _ h.2.2.1, fit_go b n v _ h.2.2.2⟩
  | .both a b, n, .nd c l [u, v], m, h => by
    simp [go, Fit] at h ⊢
    exact ⟨h.1, h.2.1, fit_go a n u _ h.2.2.1, fit_go b n v _ h.2.2.2⟩
/-- all items go through -/
def goes (p : Part) : W → List Int → W
  | w, [] => w
  | w, m :: ms => goes p (go p w m).2 ms
def leaves (p : Part) (ms : List Int) : List Int := (goes p (W0 p) ms).left
theorem fit_goes (p : Part) : ∀ (ms : List Int) (n : Nat) (w : W), Fit p n w → Fit p (n + ms.length) (goes p w ms)
  | [], _, _, h => h
  | m :: ms, n, w, h => by
    have := fit_goes p ms (n + 1) _ (fit_go p n w m h)
    rw [show n + 1 + ms.length = n + (m :: ms).length by simp; omega] at this
    exact this
/-- what the items' walks hand out -/
def outs (p : Part) : W → List Int → List Int
  | _, [] => []
  | w, m :: ms => (go p w m).1 :: outs p (go p w m).2 ms
theorem go_left {p : Part} {n : Nat} {w : W} {m : Int} (h : Fit p n w) : (go p w m).2.left = w.left ++ [(go p w m).1] ∧ (go p w m).2.came = w.came ++ [m] := by
  cases p <;> obtain ⟨c, l, s⟩ := w <;> rcases s with _ | ⟨u, _ | ⟨v, _ | ⟨x, s⟩⟩⟩ <;> simp [Fit, W.left, W.came, go] at h ⊢
theorem goes_left {p : Part} : ∀ (ms : List Int) (n : Nat) (w : W), Fit p n w → (goes p w ms).left = w.left ++ outs p w ms
  | [], _, w, _ => by simp [goes, outs]
  | m :: ms, n, w, h => by
    simp only [goes, outs]
    rw [goes_left ms (n + 1) _ (fit_go p n w m h), (go_left h).1]
    simp
theorem W0_left (p : Part) : (W0 p).left = [] ∧ (W0 p).came = [] := by cases p <;> exact ⟨rfl, rfl⟩
theorem leaves_eq (p : Part) (ms : List Int) : leaves p ms = outs p (W0 p) ms := by
  unfold leaves
  rw [goes_left ms 0 _ (fit0 p), (W0_left p).1]; rfl
theorem outs_take (p : Part) : ∀ (ms : List Int) (w : W) (i : Nat) (m : Int), ms[i]? = some m → outs p w (ms.take (i + 1)) = outs p w (ms.take i) ++ [(go p (goes p w (ms.take i)) m).1]
  | [], _, i, m, h => by simp at h
  | x :: ms, w, 0, m, h => by simp at h; subst h; simp [outs, goes]
  | x :: ms, w, i + 1, m, h => by
    simp at h
    simp only [List.take_succ_cons, outs, goes]
    rw [outs_take p ms _ i m h]; simp
theorem goes_take (p : Part) : ∀ (ms : List Int) (w : W) (i : Nat) (m : Int), ms[i]? = some m → goes p w (ms.take (i + 1)) = (go p (goes p w (ms.take i)) m).2
  | [], _, i, m, h => by simp at h
  | x :: ms, w, 0, m, h => by simp at h; subst h; simp [goes]
  | x :: ms, w, i + 1, m, h => by
    simp at h
    simp only [List.take_succ_cons, goes]
    exact goes_take p ms _ i m h
theorem outs_len (p : Part) : ∀ (ms : List Int) (w : W), (outs p w ms).length = ms.length
  | [], _ => rfl
  | m :: ms, w => by simp [outs, outs_len p ms]
theorem leaves_len (p : Part) (ms : List Int) : (leaves p ms).length = ms.length := by rw [leaves_eq, outs_len]
end Q

/-! Numbers, moments. -/
namespace Q
open PySem PySem.Spec L2 DY
section
variable {st : Store} {i : Int}
theorem is_number_int (n : Nat) : sem (n + 1) f_is_number [.int i] st = .ok (.bl (decide (0 ≤ i))) st := by
  rw [S_is_number]; simp [b_is_number, isiB]
theorem is_time_int (n : Nat) : sem (n + 2) f_is_time [.int i] st = .ok (.bl (decide (0 ≤ i) && decide (i ≤ 1000000000))) st := by
  rw [S_is_time]; simp [b_is_time, is_number_int]
theorem is_count_int (n : Nat) : sem (n + 2) f_is_count [.int i] st = .ok (.bl (decide (0 ≤ i) && (decide (1 ≤ i) && decide (i ≤ 12)))) st := by
  rw [S_is_count]; simp [b_is_count, is_number_int]
theorem need_count_ok (n : Nat) (h : 1 ≤ i ∧ i ≤ 12) : sem (n + 3) f_need_count [.int i] st = .ok .non st := by
  have h0 : 0 ≤ i := by omega
  rw [S_need_count]; simp [b_need_count, is_count_int, h, h0]
theorem need_time_ok (n : Nat) (h : 0 ≤ i ∧ i ≤ 1000000000) : sem (n + 3) f_need_time [.int i] st = .ok .non st := by
  rw [S_need_time]; simp [b_need_time, is_time_int, h]
end
end Q

/-! Lines. -/
namespace Q
open PySem PySem.Spec L2 DY
theorem inner_parts_ok (n : Nat) (p : Part) (st : Store) : sem (n + 1) f_inner_parts [p.d] st = .ok (.nd .lst (p.inner.map Part.d)) st := by
  rw [S_inner_parts]
  have inn : ∀ k : String, dIn (.str (Str.ofString k)) (.nd .tup [.str (Str.ofString "behind"), .str (Str.ofString "both")]) st = .ok (.bl (decide (k = "behind") || decide (k = "both"))) st := fun k => by
    rw [dIn_flat (v := V.str (Str.ofString k)) (vs := [V.str (Str.ofString "behind"), V.str (Str.ofString "both")]) rfl (by simp [fvs, DY.fv]) (by intro a h; cases h)]
    have e : ∀ a b : String, (Str.ofString a == Str.ofString b) = decide (b = a) := fun a b => by
      by_cases h : a = b
      · subst h; simp
      · simp [h, Ne.symm h]
    simp [inV, eqV, e]
  cases p <;> simp [b_inner_parts, Part.d, Part.inner, inn]
theorem tupI_add (q : List Int) (i : Int) (st : Store) (h : q.length ≤ 1000) : dAdd (tupI q) (.nd .tup [.int i]) st = .ok (tupI (q ++ [i])) st := by
  simp [tupI]; rw [dAddC_tt (by simp; omega)]
theorem paths_ok : ∀ (p : Part) (m : Nat) (q : List Int) (st : Store), p.size + 1 ≤ m → q.length + p.size ≤ 100 → sem m f_paths_of [p.d, tupI q] st = .ok (.nd .lst ((p.paths q).map tupI)) st
  | .belt t, m, q, st, hm, hq => by
    obtain ⟨m, rfl⟩ : ∃ k, m = k + 2 := ⟨m - 2, by simp [Part.size] at hm; omega⟩
    rw [S_paths_of]
    simp [b_paths_of, inner_parts_ok, Part.inner, Part.paths, forL_nil, forL_cons]
  | .gap _ _, m, q, st, hm, hq => by
    obtain ⟨m, rfl⟩ : ∃ k, m = k + 2 := ⟨m - 2, by simp [Part.size] at hm; omega⟩
    rw [S_paths_of]
    simp [b_paths_of, inner_parts_ok, Part.inner, Part.paths, forL_nil, forL_cons]
  | .hold _ _, m, q, st, hm, hq => by
    obtain ⟨m, rfl⟩ : ∃ k, m = k + 2 := ⟨m - 2, by simp [Part.size] at hm; omega⟩
    rw [S_paths_of]
    simp [b_paths_of, inner_parts_ok, Part.inner, Part.paths, forL_nil, forL_cons]
  | .sec c p, m, q, st, hm, hq => by
    obtain ⟨m, rfl⟩ : ∃ k, m = k + 2 := ⟨m - 2, by simp [Part.size] at hm; omega⟩
    simp [Part.size] at hm hq
    have e := paths_ok p (m + 1) (q ++ [0]) st (by omega) (by simp; omega)
    have l := Part.paths_len p (q ++ [0])
    rw [S_paths_of]
    simp [b_paths_of, inner_parts_ok, Part.inner, Part.paths, forL_nil, forL_cons, tupI_add q 0 st (by omega), e]
    rw [dAddC_ll (by simp; omega)]
    simp [forL_nil]
  | .beh a b, m, q, st, hm, hq => by
    obtain ⟨m, rfl⟩ : ∃ k, m = k + 2 := ⟨m - 2, by simp [Part.size] at hm; omega⟩
    simp [Part.size] at hm hq
    have e1 := paths_ok a (m + 1) (q ++ [0]) st (by omega) (by simp; omega)
    have e2 := paths_ok b (m + 1) (q ++ [1]) st (by omega) (by simp; omega)
    have l1 := Part.paths_len a (q ++ [0])
    have l2 := Part.paths_len b (q ++ [1])
    rw [S_paths_of]
    simp [b_paths_of, inner_parts_ok, Part.inner, Part.paths, forL_nil, forL_cons, tupI_add q 0 st (by omega), e1]
    rw [dAddC_ll (by simp; omega)]
    simp [tupI_add q 1 st (by omega), e2, forL_nil, forL_cons]
    rw [dAddC_ll (by simp; omega)]
    simp [forL_nil]
  | .both a b, m, q, st, hm, hq => by
    obtain ⟨m, rfl⟩ : ∃ k, m = k + 2 := ⟨m - 2, by simp [Part.size] at hm; omega⟩
    simp [Part.size] at hm hq
    have e1 := paths_ok a (m + 1) (q ++ [0]) st (by omega) (by simp; omega)
    have e2 := paths_ok b (m + 1) (q ++ [1]) st (by omega) (by simp; omega)
    have l1 := Part.paths_len a (q ++ [0])
    have l2 := Part.paths_len b (q ++ [1])
    rw [S_paths_of]
    simp [b_paths_of, inner_parts_ok, Part.inner, Part.paths, forL_nil, forL_cons, tupI_add q 0 st (by omega), e1]
    rw [dAddC_ll (by simp; omega)]
    simp [tupI_add q 1 st (by omega), e2, forL_nil, forL_cons]
    rw [dAddC_ll (by simp; omega)]
    simp [forL_nil]
/-- a line -/
def nLine : List Str := [Str.ofString "nested", Str.ofString "all_paths"]
def Part.line (p : Part) : D := .nd (.ins k_Line nLine) [p.d, .nd .lst ((p.paths []).map tupI)]
@[simp] theorem noH_line (p : Part) : noH p.line = true := by
  simp [Part.line, noHL_all]
theorem make_line (n : Nat) (p : Part) (st : Store) (h : p.size ≤ 12) : frzF (runInit k_Line (sem (n + 15) f_Line___init__)) [p.d] st = .ok p.line st := by
  have e : ∀ st, sem (n + 14) f_paths_of [p.d, .nd .tup []] st = .ok (.nd .lst ((p.paths []).map tupI)) st := fun st => paths_ok p (n + 14) [] st (by omega) (by simp; omega)
  have l := Part.paths_len p []
  have hl : ¬ (12 : Int) < p.size := by omega
  have hh : noHL ((p.paths []).map tupI) = true := noHL_map noH_tupI _
  simp [S_Line___init__, b_Line___init__, e, l, hl, hh, Part.line, nLine]
theorem line_belt (n : Nat) {t : Int} (st : Store) (h : 0 ≤ t ∧ t ≤ 1000000000) : sem (n + 16) f_Line_belt [.int t] st = .ok (Part.belt t).line st := by
  have m := make_line n (.belt t) st (by simp [Part.size])
  simp only [Part.d] at m
  rw [S_Line_belt]
  simp [b_Line_belt, need_time_ok (n + 12) h, m, -frzF_ev]
theorem line_gap (n : Nat) {c t : Int} (st : Store) (hc : 1 ≤ c ∧ c ≤ 12) (h : 0 ≤ t ∧ t ≤ 1000000000) : sem (n + 16) f_Line_gap [.int c, .int t] st = .ok (Part.gap c t).line st := by
  have m := make_line n (.gap c t) st (by simp [Part.size])
  simp only [Part.d] at m
  rw [S_Line_gap]
  simp [b_Line_gap, need_count_ok (n + 12) hc, need_time_ok (n + 12) h, m, -frzF_ev]
theorem line_hold (n : Nat) {c t : Int} (st : Store) (hc : 1 ≤ c ∧ c ≤ 12) (h : 0 ≤ t ∧ t ≤ 1000000000) : sem (n + 16) f_Line_hold [.int c, .int t] st = .ok (Part.hold c t).line st := by
  have m := make_line n (.hold c t) st (by simp [Part.size])
  simp only [Part.d] at m
  rw [S_Line_hold]
  simp [b_Line_hold, need_count_ok (n + 12) hc, need_time_ok (n + 12) h, m, -frzF_ev]
theorem line_limited (n : Nat) {c : Int} {p : Part} (st : Store) (hc : 1 ≤ c ∧ c ≤ 12) (h : p.size ≤ 11) : sem (n + 16) f_Line_limited [p.line, .int c] st = .ok (Part.sec c p).line st := by
  have m := make_line n (.sec c p) st (by simp [Part.size]; omega)
  simp only [Part.d] at m
  rw [S_Line_limited]
  simp [b_Line_limited, need_count_ok (n + 12) hc, m, -frzF_ev, Part.line, nLine]
theorem line_add (n : Nat) {p q : Part} (st : Store) (h : p.size + q.size ≤ 11) : sem (n + 16) f_Line___add__ [p.line, q.line] st = .ok (Part.beh p q).line st := by
  have m := make_line n (.beh p q) st (by simp [Part.size]; omega)
  simp only [Part.d] at m
  rw [S_Line___add__]
  simp [b_Line___add__, m, -frzF_ev, Part.line, nLine]
theorem line_and (n : Nat) {p q : Part} (st : Store) (h : p.size + q.size ≤ 11) : sem (n + 16) f_Line___and__ [p.line, q.line] st = .ok (Part.both p q).line st := by
  have m := make_line n (.both p q) st (by simp [Part.size]; omega)
  simp only [Part.d] at m
  rw [S_Line___and__]
  simp [b_Line___and__, m, -frzF_ev, Part.line, nLine]
theorem line_parts (n : Nat) (p : Part) (st : Store) : sem (n + 1) f_Line_parts [p.line] st = .ok p.d st := by
  rw [S_Line_parts]
  simp [b_Line_parts, Part.line, nLine]
/-- the law's lines -/
theorem law_line : ∀ (p : Part) (m : Nat) (st : Store), p.size + 20 ≤ m → p.size ≤ 12 → p.ok 12 → sem m f__law_line [p.d] st = .ok p.line st
  | .belt t, m, st, hm, hs, ho => by
    obtain ⟨m, rfl⟩ : ∃ k, m = k + 17 := ⟨m - 17, by omega⟩
    rw [S__law_line]
    simp [b__law_line, Part.d, line_belt m st ho]
  | .gap c t, m, st, hm, hs, ho => by
    obtain ⟨m, rfl⟩ : ∃ k, m = k + 17 := ⟨m - 17, by omega⟩
    rw [S__law_line]
    simp [b__law_line, Part.d, line_gap m st ho.1 ho.2]
  | .hold c t, m, st, hm, hs, ho => by
    obtain ⟨m, rfl⟩ : ∃ k, m = k + 17 := ⟨m - 17, by omega⟩
    rw [S__law_line]
    simp [b__law_line, Part.d, line_hold m st ho.1 ho.2]
  | .sec c p, m, st, hm, hs, ho => by
    obtain ⟨m, rfl⟩ : ∃ k, m = k + 17 := ⟨m - 17, by omega⟩
    simp [Part.size] at hm hs
    have e := law_line p (m + 16) st (by omega) (by omega) ho.2
    have l := line_limited m (p := p) st ho.1 (by omega)
    have z : seen st p.line = some (.ins k_Line nLine, [p.d, .nd .lst ((p.paths []).map tupI)]) := rfl
    rw [S__law_line]
    simp [b__law_line, Part.d, e, l, z, nLine]
  | .beh p q, m, st, hm, hs, ho => by
    obtain ⟨m, rfl⟩ : ∃ k, m = k + 17 := ⟨m - 17, by omega⟩
    simp [Part.size] at hm hs
    have e1 := law_line p (m + 16) st (by omega) (by omega) ho.1
    have e2 := law_line q (m + 16) st (by omega) (by omega) ho.2
    have l := line_add m (p := p) (q := q) st (by omega)
    rw [S__law_line]
    simp [b__law_line, Part.d, e1, e2, dOwn_ok (t := .ins k_Line nLine) rfl rfl l]
    rfl
  | .both p q, m, st, hm, hs, ho => by
    obtain ⟨m, rfl⟩ : ∃ k, m = k + 17 := ⟨m - 17, by omega⟩
    simp [Part.size] at hm hs
    have e1 := law_line p (m + 16) st (by omega) (by omega) ho.1
    have e2 := law_line q (m + 16) st (by omega) (by omega) ho.2
    have l := line_and m (p := p) (q := q) st (by omega)
    rw [S__law_line]
    simp [b__law_line, Part.d, e1, e2, dOwn_ok (t := .ins k_Line nLine) rfl rfl l]
    rfl
end Q

/-! Walks of items, as the program keeps them. -/
namespace Q
open PySem PySem.Spec L2 DY
def nWalk : List Str := [Str.ofString "path", Str.ofString "piece", Str.ofString "entries", Str.ofString "leavings", Str.ofString "inner"]
def wCell (p : Part) (q : List Int) (k : Nat) (hs : List D) : D := .nd (.ins k_Walk nWalk) [tupI q, p.d, .h (k + 1), .h (k + 2), .nd .lst hs]
/-- the cells of a walk that begins at k -/
def seg : Part → List Int → Nat → W → Store
  | .sec c p, q, k, .nd e l [w] => wCell (.sec c p) q k [.h (k + 3)] :: lstI e :: lstI l :: seg p (q ++ [0]) (k + 3) w
  | .beh a b, q, k, .nd e l [u, v] => wCell (.beh a b) q k [.h (k + 3), .h (k + (3 * a.size + 3))] :: lstI e :: lstI l :: (seg a (q ++ [0]) (k + 3) u ++ seg b (q ++ [1]) (k + (3 * a.size + 3)) v)
  | .both a b, q, k, .nd e l [u, v] => wCell (.both a b) q k [.h (k + 3), .h (k + (3 * a.size + 3))] :: lstI e :: lstI l :: (seg a (q ++ [0]) (k + 3) u ++ seg b (q ++ [1]) (k + (3 * a.size + 3)) v)
  | p, q, k, .nd e l _ => [wCell p q k [], lstI e, lstI l]
theorem seg_len : ∀ (p : Part) (q : List Int) (k n : Nat) (w : W), Fit p n w → (seg p q k w).length = 3 * p.size
  | .belt _, q, k, n, .nd e l [], h => rfl
  | .gap _ _, q, k, n, .nd e l [], h => rfl
  | .hold _ _, q, k, n, .nd e l [], h => rfl
  | .sec c p, q, k, n, .nd e l [w], h => by simp [seg, Part.size, seg_len p _ _ n w h.2.2]; omega
  | .beh a b, q, k, n, .nd e l [u, v], h => by simp [seg, Part.size, seg_len a _ _ n u h.2.2.1, seg_len b _ _ n v h.2.2.2]; omega
  | .both a b, q, k, n, .nd e l [u, v], h => by simp [seg, Part.size, seg_len a _ _ n u h.2.2.1, seg_len b _ _ n v h.2.2.2]; omega
def hnd : Part → Nat → List D
  | .sec _ p, k => [.h (k + 3)]
  | .beh a b, k => [.h (k + 3), .h (k + (3 * a.size + 3))]
  | .both a b, k => [.h (k + 3), .h (k + (3 * a.size + 3))]
  | _, _ => []
theorem seg_get0 {q : List Int} {k : Nat} {post : Store} : ∀ {p : Part} {n : Nat} {w : W}, Fit p n w → (seg p q k w ++ post)[0]? = some (wCell p q k (hnd p k))
  | .belt _, n, .nd e l [], h => rfl
  | .gap _ _, n, .nd e l [], h => rfl
  | .hold _ _, n, .nd e l [], h => rfl
  | .sec c p, n, .nd e l [w], h => rfl
  | .beh a b, n, .nd e l [u, v], h => rfl
  | .both a b, n, .nd e l [u, v], h => rfl
theorem make_walk : ∀ (p : Part) (m : Nat) (q : List Int) (st : Store), p.size + 1 ≤ m → q.length + p.size ≤ 100 → runInit k_Walk (sem m f_Walk___init__) [p.d, tupI q] st = .ok (.h st.length) (st ++ seg p q st.length (W0 p))
  | .belt t, m, q, st, hm, hq => by
    obtain ⟨m, rfl⟩ : ∃ k, m = k + 2 := ⟨m - 2, by simp [Part.size] at hm; omega⟩
    simp [S_Walk___init__, b_Walk___init__, inner_parts_ok, Part.inner, compL_nil, W0, seg, wCell, nWalk, lstI]
  | .gap _ t, m, q, st, hm, hq => by
    obtain ⟨m, rfl⟩ : ∃ k, m = k + 2 := ⟨m - 2, by simp [Part.size] at hm; omega⟩
    simp [S_Walk___init__, b_Walk___init__, inner_parts_ok, Part.inner, compL_nil, W0, seg, wCell, nWalk, lstI]
  | .hold _ t, m, q, st, hm, hq => by
    obtain ⟨m, rfl⟩ : ∃ k, m = k + 2 := ⟨m - 2, by simp [Part.size] at hm; omega⟩
    simp [S_Walk___init__, b_Walk___init__, inner_parts_ok, Part.inner, compL_nil, W0, seg, wCell, nWalk, lstI]
  | .sec c p, m, q, st, hm, hq => by
    obtain ⟨m, rfl⟩ : ∃ k, m = k + 2 := ⟨m - 2, by simp [Part.size] at hm; omega⟩
    simp [Part.size] at hm hq
    have e := fun st => make_walk p (m + 1) (q ++ [0]) st (by omega) (by simp; omega)
    rw [runInit_ev]
    simp [S_Walk___init__, b_Walk___init__, inner_parts_ok, Part.inner, compL_nil, compL_cons, W0, seg, wCell, nWalk, lstI, -runInit_ev, tupI_add q 0 _ (by omega), e]
  | .beh a b, m, q, st, hm, hq => by
    obtain ⟨m, rfl⟩ : ∃ k, m = k + 2 := ⟨m - 2, by simp [Part.size] at hm; omega⟩
    simp [Part.size] at hm hq
    have e1 := fun st => make_walk a (m + 1) (q ++ [0]) st (by omega) (by simp; omega)
    have e2 := fun st => make_walk b (m + 1) (q ++ [1]) st (by omega) (by simp; omega)
    have l1 := fun k => seg_len a (q ++ [0]) k 0 (W0 a) (fit0 a)
    rw [runInit_ev]
    simp [S_Walk___init__, b_Walk___init__, inner_parts_ok, Part.inner, compL_nil, compL_cons, W0, seg, wCell, nWalk, lstI, -runInit_ev, tupI_add q 0 _ (by omega), tupI_add q 1 _ (by omega), e1, e2, l1]
  | .both a b, m, q, st, hm, hq => by
    obtain ⟨m, rfl⟩ : ∃ k, m = k + 2 := ⟨m - 2, by simp [Part.size] at hm; omega⟩
    simp [Part.size] at hm hq
    have e1 := fun st => make_walk a (m + 1) (q ++ [0]) st (by omega) (by simp; omega)
    have e2 := fun st => make_walk b (m + 1) (q ++ [1]) st (by omega) (by simp; omega)
    have l1 := fun k => seg_len a (q ++ [0]) k 0 (W0 a) (fit0 a)
    rw [runInit_ev]
    simp [S_Walk___init__, b_Walk___init__, inner_parts_ok, Part.inner, compL_nil, compL_cons, W0, seg, wCell, nWalk, lstI, -runInit_ev, tupI_add q 0 _ (by omega), tupI_add q 1 _ (by omega), e1, e2, l1]
theorem earlier_ok (n : Nat) {x l : D} {L : List Int} {c m : Int} {st : Store} (hl : seen st l = some (.lst, L.map D.int)) (hc : 1 ≤ c) :
    sem (n + 1) f_Walk_earlier [x, l, .int c, .int m] st = .ok (.int (ago L c 0 m)) st := by
  rw [S_Walk_earlier]
  have len : dLen [l] st = .ok (.int L.length) st := by
    cases l <;> simp at hl
    · simp [hl]
    · obtain ⟨rfl, rfl⟩ := hl; simp
  have ix : c ≤ (L.length : Int) → dIx l (.int (-c)) st = .ok (.int (L.getD (L.length - c.toNat) 0)) st := fun h => by
    have hj : L.length - c.toNat < L.length := by omega
    have e : atI (L.map D.int) (-c) = some (.int (L.getD (L.length - c.toNat) 0)) := by
      rw [atI_neg hc (by simpa using h)]
      simp [hj, List.getD]
    cases l <;> simp at hl
    · simp [hl, e]
    · obtain ⟨rfl, rfl⟩ := hl; simp [e]
  by_cases h : c ≤ (L.length : Int)
  · simp [b_Walk_earlier, len, h, ix h, ago]
  · simp [b_Walk_earlier, len, h, ago]
theorem ago_map {l : List Int} {c t m : Int} (hc : 1 ≤ c) : ago (l.map fun i => i + t) c 0 m = ago l c t m := by
  unfold ago
  by_cases h : c ≤ (l.length : Int)
  · have hj : l.length - c.toNat < l.length := by omega
    simp [h, List.getD, hj]
  · simp [h]
theorem go_ok : ∀ (p : Part) (m n : Nat) (q : List Int) (pre post : Store) (w : W) (t : Int), 2 * p.size + 4 ≤ m → p.ok 12 → Fit p n w → n < 1000 →
    sem m f_Walk_go [.h pre.length, .int t] (pre ++ (seg p q pre.length w ++ post)) = .ok (.int (go p w t).1) (pre ++ (seg p q pre.length (go p w t).2 ++ post))
  | .belt b, m, n, q, pre, post, .nd e l [], t, hm, ho, hf, hn => by
    obtain ⟨m, rfl⟩ : ∃ k, m = k + 4 := ⟨m - 4, by omega⟩
    have l1 : e.length < 1000 := by have := hf.1; omega
    have l2 : l.length < 1000 := by have := hf.2; omega
    have z1 : e.length < 16777216 := by omega
    have z2 : l.length < 16777216 := by omega
    simp [S_Walk_go, b_Walk_go, S_Walk_left, b_Walk_left, seg, wCell, nWalk, go, Part.d, lstI, z1, z2]
  | .gap c b, m, n, q, pre, post, .nd e l [], t, hm, ho, hf, hn => by
    obtain ⟨m, rfl⟩ : ∃ k, m = k + 4 := ⟨m - 4, by omega⟩
    have l1 : e.length < 1000 := by have := hf.1; omega
    have l2 : l.length < 1000 := by have := hf.2; omega
    have z1 : e.length < 16777216 := by omega
    have z2 : l.length < 16777216 := by omega
    have e1 := fun st => earlier_ok (m + 1) (x := .h pre.length) (l := .nd .lst (l.map fun i => D.int (i + b))) (L := l.map fun i => i + b) (c := c) (m := t) (st := st) (by simp [List.map_map]) ho.1.1
    rw [ago_map ho.1.1] at e1
    simp [S_Walk_go, b_Walk_go, S_Walk_left, b_Walk_left, seg, wCell, nWalk, go, Part.d, lstI, z1, z2]
    generalize hx : compL _ _ _ _ _ _ _ _ _ = x
    obtain rfl := compL_map hx (fun i : Int => .int (i + b)) (by simp) (by omega) (fun a ha => by simp)
    simp [e1, z1, z2]
  | .hold c b, m, n, q, pre, post, .nd e l [], t, hm, ho, hf, hn => by
    obtain ⟨m, rfl⟩ : ∃ k, m = k + 4 := ⟨m - 4, by omega⟩
    have l1 : e.length < 1000 := by have := hf.1; omega
    have l2 : l.length < 1000 := by have := hf.2; omega
    have z1 : e.length < 16777216 := by omega
    have z2 : l.length < 16777216 := by omega
    have e1 := fun st => earlier_ok (m + 1) (x := .h pre.length) (l := .nd .lst (e.map fun i => D.int (i + b))) (L := e.map fun i => i + b) (c := c) (m := t) (st := st) (by simp [List.map_map]) ho.1.1
    rw [ago_map ho.1.1] at e1
    simp [S_Walk_go, b_Walk_go, S_Walk_left, b_Walk_left, seg, wCell, nWalk, go, Part.d, lstI, z1, z2]
    generalize hx : compL _ _ _ _ _ _ _ _ _ = x
    obtain rfl := compL_map hx (fun i : Int => .int (i + b)) (by simp) (by omega) (fun a ha => by simp)
    simp [e1, z1, z2]
  | .sec c p, m, n, q, pre, post, .nd e l [w], t, hm, ho, hf, hn => by
    obtain ⟨m, rfl⟩ : ∃ k, m = k + 4 := ⟨m - 4, by omega⟩
    simp [Part.size] at hm
    have l1 : e.length < 1000 := by have := hf.1; omega
    have l2 : l.length < 1000 := by have := hf.2.1; omega
    have z1 : e.length < 16777216 := by omega
    have z2 : l.length < 16777216 := by omega
    have e1 := fun st h => earlier_ok (m + 1) (x := .h pre.length) (l := .h (pre.length + 2)) (L := l) (c := c) (m := t) (st := st) h ho.1.1
    have g0 := fun (post : Store) => seg_get0 (q := q ++ [0]) (k := pre.length + 3) (post := post) hf.2.2
    simp only [wCell, nWalk] at g0
    have ih := go_ok p (m + 2) n (q ++ [0]) (pre ++ [wCell (.sec c p) q pre.length [.h (pre.length + 3)], lstI e, lstI l]) post w (ago l c 0 t) (by omega) ho.2 hf.2.2 hn
    simp [seg, wCell, nWalk, lstI, Part.d] at ih
    simp [S_Walk_go, b_Walk_go, S_Walk_left, b_Walk_left, seg, wCell, nWalk, go, Part.d, lstI, z1, z2, e1, ih, g0]
  | .beh a b, m, n, q, pre, post, .nd e l [u, v], t, hm, ho, hf, hn => by
    obtain ⟨m, rfl⟩ : ∃ k, m = k + 4 := ⟨m - 4, by omega⟩
    simp [Part.size] at hm
    have l1 : e.length < 1000 := by have := hf.1; omega
    have l2 : l.length < 1000 := by have := hf.2.1; omega
    have z1 : e.length < 16777216 := by omega
    have z2 : l.length < 16777216 := by omega
    have sl := fun k => seg_len a (q ++ [0]) k _ _ (fit_go a n u t hf.2.2.1)
    have g1 := fun (post : Store) => seg_get0 (q := q ++ [0]) (k := pre.length + 3) (post := post) hf.2.2.1
    have g2 := fun (post : Store) => seg_get0 (q := q ++ [1]) (k := pre.length + (3 * a.size + 3)) (post := post) hf.2.2.2
    simp only [wCell, nWalk] at g1 g2
    have g3 : ∀ (l r : Store), l.length = 3 * a.size → (l ++ r)[3 * a.size]? = r[0]? := fun l r h => by simp [← h]
    have su := fun k => seg_len a (q ++ [0]) k _ _ hf.2.2.1
    have i1 := go_ok a (m + 2) n (q ++ [0]) (pre ++ [wCell (.beh a b) q pre.length [.h (pre.length + 3), .h (pre.length + (3 * a.size + 3))], lstI e, lstI l]) (seg b (q ++ [1]) (pre.length + (3 * a.size + 3)) v ++ post) u t (by omega) ho.1 hf.2.2.1 hn
    have i2 := go_ok b (m + 2) n (q ++ [1]) (pre ++ wCell (.beh a b) q pre.length [.h (pre.length + 3), .h (pre.length + (3 * a.size + 3))] :: lstI e :: lstI l :: seg a (q ++ [0]) (pre.length + 3) (go a u t).2) post v (go a u t).1 (by omega) ho.2 hf.2.2.2 hn
    simp [seg, wCell, nWalk, lstI, Part.d] at i1
    simp [seg, wCell, nWalk, lstI, Part.d, sl] at i2
    rw [show 3 * a.size + 1 + 1 + 1 = 3 * a.size + 3 from rfl] at i2
    simp [S_Walk_go, b_Walk_go, S_Walk_left, b_Walk_left, seg, wCell, nWalk, go, Part.d, lstI, z1, z2, i1, i2, g1, g2, g3, sl, su]
  | .both a b, m, n, q, pre, post, .nd e l [u, v], t, hm, ho, hf, hn => by
    obtain ⟨m, rfl⟩ : ∃ k, m = k + 4 := ⟨m - 4, by omega⟩
    simp [Part.size] at hm
    have l1 : e.length < 1000 := by have := hf.1; omega
    have l2 : l.length < 1000 := by have := hf.2.1; omega
    have z1 : e.length < 16777216 := by omega
    have z2 : l.length < 16777216 := by omega
    have sl := fun k => seg_len a (q ++ [0]) k _ _ (fit_go a n u t hf.2.2.1)
    have g1 := fun (post : Store) => seg_get0 (q := q ++ [0]) (k := pre.length + 3) (post := post) hf.2.2.1
    have g2 := fun (post : Store) => seg_get0 (q := q ++ [1]) (k := pre.length + (3 * a.size + 3)) (post := post) hf.2.2.2
    simp only [wCell, nWalk] at g1 g2
    have g3 : ∀ (l r : Store), l.length = 3 * a.size → (l ++ r)[3 * a.size]? = r[0]? := fun l r h => by simp [← h]
    have su := fun k => seg_len a (q ++ [0]) k _ _ hf.2.2.1
    have i1 := go_ok a (m + 2) n (q ++ [0]) (pre ++ [wCell (.both a b) q pre.length [.h (pre.length + 3), .h (pre.length + (3 * a.size + 3))], lstI e, lstI l]) (seg b (q ++ [1]) (pre.length + (3 * a.size + 3)) v ++ post) u t (by omega) ho.1 hf.2.2.1 hn
    have i2 := go_ok b (m + 2) n (q ++ [1]) (pre ++ wCell (.both a b) q pre.length [.h (pre.length + 3), .h (pre.length + (3 * a.size + 3))] :: lstI e :: lstI l :: seg a (q ++ [0]) (pre.length + 3) (go a u t).2) post v t (by omega) ho.2 hf.2.2.2 hn
    simp [seg, wCell, nWalk, lstI, Part.d] at i1
    simp [seg, wCell, nWalk, lstI, Part.d, sl] at i2
    rw [show 3 * a.size + 1 + 1 + 1 = 3 * a.size + 3 from rfl] at i2
    simp [S_Walk_go, b_Walk_go, S_Walk_left, b_Walk_left, seg, wCell, nWalk, go, Part.d, lstI, z1, z2, i1, i2, g1, g2, g3, sl, su, compL_cons, compL_nil, mxL]
end Q

/-! Moments. -/
namespace Q
open PySem PySem.Spec L2 DY
section
variable {st : Store} {i : Int}
theorem is_moment_int (n : Nat) : sem (n + 2) f_is_moment [.int i] st = .ok (.bl (decide (0 ≤ i) && decide (i ≤ 1000000000000000))) st := by
  rw [S_is_moment]; simp [b_is_moment, is_number_int]
end
/-- moments that may be walked -/
structure Asc (ms : List Int) : Prop where
  up : ms.Pairwise (· ≤ ·)
  bd : ∀ m ∈ ms, 0 ≤ m ∧ m ≤ 1000000000000000
theorem enu_get' {α : Type} {f : α → D} {xs : List α} {i : Nat} {d : D} (h : (enuFrom 0 (xs.map f))[i]? = some d) : ∃ a, xs[i]? = some a ∧ d = .nd .tup [.int (i : Nat), f a] := by
  rw [enu_get, List.getElem?_map] at h
  cases hi : xs[i]? with
  | none => rw [hi] at h; cases h
  | some a => rw [hi] at h; exact ⟨a, rfl, by simpa using h.symm⟩
theorem first_bad_ok (n : Nat) {st : Store} {x : D} {ms : List Int} (hx : seen st x = some (.lst, ms.map D.int)) (g : Asc ms) : sem (n + 3) f_first_bad [x] st = .ok .non st := by
  rw [S_first_bad]
  simp [b_first_bad, hx]
  generalize hy : forL _ _ _ _ _ _ = y
  obtain ⟨_, _, rfl, rfl, hI⟩ := forL_go hy (fun i env st' => st' = st ∧ ∃ l j2 j3, env = [some x, some (.int l), j2, j3] ∧ ∀ m ∈ ms.drop i, l ≤ m)
    ⟨rfl, 0, _, _, rfl, fun m hm => (g.bd m (List.mem_of_mem_drop hm)).1⟩ (by rintro _ _ _ ⟨rfl, _⟩; simp [hx]) (by
      rintro i d _ _ hi ⟨rfl, l, j2, j3, rfl, hl⟩
      obtain ⟨m, hm, rfl⟩ := enu_get' hi
      have hd := drop_cons hm
      have b := g.bd m (List.mem_of_getElem? hm)
      have lm : ¬ m < l := by have := hl m (by rw [hd]; exact List.mem_cons_self); omega
      have up := g.up
      rw [← List.take_append_drop i ms, hd] at up
      simp [is_moment_int, b, lm]
      exact fun y hy => (List.pairwise_cons.mp (List.pairwise_append.mp up).2.1).1 y hy)
  obtain ⟨l, j2, j3, rfl, _⟩ := hI
  simp
theorem need_arrivals_ok (n : Nat) {st : Store} {x : D} {ms : List Int} (hx : seen st x = some (.lst, ms.map D.int)) (ht : tyD st x = some "list") (g : Asc ms) : sem (n + 4) f_need_arrivals [x] st = .ok .non st := by
  rw [S_need_arrivals]
  simp [b_need_arrivals, dIsi1_of ht, isiB, first_bad_ok n hx g]
theorem tyD_h {st : Store} {k : Nat} {xs : List D} (h : st[k]? = some (.nd .lst xs)) : tyD st (.h k) = some "list" := by
  show (match seen st (.h k) with | some (.lst, _) => some "list" | some (.scr, _) => some "list" | some (.tup, _) => some "tuple" | some (.ktp, _) => some "tuple" | some (.dk _, _) => some "dict" | some (.dt _, _) => some "dict" | _ => none) = _
  rw [seen_h, h]; rfl
end Q

/-! Walks of all items. -/
namespace Q
open PySem PySem.Spec L2 DY
theorem seg_get2 {q : List Int} {k : Nat} {post : Store} : ∀ {p : Part} {n : Nat} {w : W}, Fit p n w → (seg p q k w ++ post)[2]? = some (lstI w.left)
  | .belt _, n, .nd e l [], h => rfl
  | .gap _ _, n, .nd e l [], h => rfl
  | .hold _ _, n, .nd e l [], h => rfl
  | .sec c p, n, .nd e l [w], h => rfl
  | .beh a b, n, .nd e l [u, v], h => rfl
  | .both a b, n, .nd e l [u, v], h => rfl
/-- a list that stands whatever comes behind -/
structure Stay (st : Store) (x : D) (xs : List D) : Prop where
  see : ∀ g : Store, seen (st ++ g) x = some (.lst, xs)
  ty : tyD st x = some "list"
theorem Stay.nd {st : Store} {xs : List D} : Stay st (.nd .lst xs) xs := ⟨fun _ => rfl, rfl⟩
theorem Stay.h {st : Store} {k : Nat} {xs : List D} (h : st[k]? = some (.nd .lst xs)) : Stay st (.h k) xs := by
  refine ⟨fun g => ?_, tyD_h h⟩
  have hk : k < st.length := (List.getElem?_eq_some_iff.mp h).1
  rw [seen_h, List.getElem?_append_left hk, h]; rfl
theorem Stay.see0 {st : Store} {x : D} {xs : List D} (h : Stay st x xs) : seen st x = some (.lst, xs) := by
  have := h.see []; rwa [List.append_nil] at this
theorem line_see (p : Part) (st : Store) : seen st p.line = some (.ins k_Line nLine, [p.d, .nd .lst ((p.paths []).map tupI)]) := rfl
theorem walk_of_ok (n : Nat) (p : Part) {x : D} {ms : List Int} {st : Store} (hx : Stay st x (ms.map D.int)) (ho : p.ok 12) (hs : p.size ≤ 12) (hm : ms.length < 1000) (g : Asc ms) :
    sem (n + 30) f_walk_of [p.line, x] st = .ok (.h st.length) (st ++ seg p [] st.length (goes p (W0 p) ms)) := by
  have e := make_walk p (n + 29) [] st (by omega) (by simp; omega)
  rw [show tupI [] = .nd .tup [] from rfl] at e
  have na := need_arrivals_ok (n + 25) hx.see0 hx.ty g
  rw [S_walk_of]
  simp [b_walk_of, na, line_see, nLine, line_parts, e, hx.see, -runInit_ev]
  generalize hy : forL _ _ _ _ _ _ = y
  obtain ⟨_, _, rfl, rfl, j, rfl⟩ := forL_go hy (fun i env st' => st' = st ++ seg p [] st.length (goes p (W0 p) (ms.take i)) ∧ ∃ j, env = [some p.line, some x, some (.h st.length), j])
    ⟨by simp [goes], none, rfl⟩ (by rintro i _ _ ⟨rfl, _⟩; simp [hx.see]) (by
      rintro i d _ _ hi ⟨rfl, j, rfl⟩
      obtain ⟨m, hm', rfl⟩ := get_map hi
      have hl : (ms.take i).length = i := by simp; have := (List.getElem?_eq_some_iff.mp hm').1; omega
      have hf := fit_goes p (ms.take i) 0 (W0 p) (fit0 p)
      have g := go_ok p (n + 29) _ [] st [] (goes p (W0 p) (ms.take i)) m (by omega) ho hf (by rw [hl]; have := (List.getElem?_eq_some_iff.mp hm').1; omega)
      have g0 := seg_get0 (q := []) (k := st.length) (post := []) hf
      simp [wCell, nWalk] at g0
      simp at g
      simp [g0, g, goes_take p ms _ i m hm'])
  simp
end Q

/-! Comprehensions over generators: evaluation. -/
namespace DY
open PySem Spec PyProof.Rows L2
section
variable {a b : SemGy} {f : SemS} {fe : SemE} {fi : SemI} {tg : DTg} {ys ys1 : List D} {env env1 : DEnv} {st st1 : Store} {n m : Nat} {ds : List D} {F : SemY} {fs : SemA} {C : Cy} {e : Ex} {d : D} {it : DIter} {tst : SemT} {elt : SemE} {own is : List Nat}
def GYr.seq (x : GYr) (C : Cy) (k : SemGy) : GYr := match x with
  | .nx n ys env st => k C n ys env st
  | .no => .no
def plY (n : Nat) (ys : List D) : SR → GYr
  | .nx env st => .nx n ys env st
  | _ => .no
def ylY2 (n : Nat) (env : DEnv) : Option (List D × Store) → GYr
  | some (ys, st) => .nx (n + 1) ys env st
  | none => .no
def ylY (C : Cy) (n : Nat) (ys : List D) (env : DEnv) : Res D → GYr
  | .ok y st => ylY2 n env (C ys y st)
  | _ => .no
noncomputable def foY (tg : DTg) (fb : SemGy) (C : Cy) (n : Nat) (ys : List D) (env : DEnv) : Res DIter → GYr
  | .ok it st => gForLY it.chk tg fb it.items C n ys env st
  | _ => .no
def fiY : GYr → Res D
  | .nx _ ys _ st => .ok (.nd .lst ys) st
  | .no => .no
@[simp] theorem gThenY_ev : gThenY a b C n ys env st = (a C n ys env st).seq C b := by
  unfold gThenY GYr.seq
  cases a C n ys env st <;> rfl
@[simp] theorem gyseq_nx : GYr.seq (.nx n ys env st) C b = b C n ys env st := (rfl)
@[simp] theorem gNilY_ev : gNilY C n ys env st = .nx n ys env st := (rfl)
@[simp] theorem gPlainY_ev : gPlainY f C n ys env st = plY n ys (f env st) := by
  unfold gPlainY plY
  cases f env st <;> rfl
@[simp] theorem plY_nx : plY n ys (.nx env st) = .nx n ys env st := (rfl)
@[simp] theorem gYieldY_ev : gYieldY fe C n ys env st = if n < szL then ylY C n ys env (fe env st) else .no := by
  unfold gYieldY ylY ylY2
  split
  · cases fe env st with
    | ok y st1 =>
      try dsimp only
      all_goals (cases C ys y st1 <;> rfl)
    | er _ _ => rfl
    | no => rfl
  · rfl
@[simp] theorem ylY_ok : ylY C n ys env (.ok d st) = ylY2 n env (C ys d st) := (rfl)
@[simp] theorem ylY2_some : ylY2 n env (some (ys, st)) = .nx (n + 1) ys env st := (rfl)
@[simp] theorem gForY_ev : gForY fi tg b C n ys env st = foY tg b C n ys env (fi env st) := by
  unfold gForY foY
  cases fi env st <;> rfl
@[simp] theorem foY_ok : foY tg b C n ys env (.ok it st) = gForLY it.chk tg b it.items C n ys env st := (rfl)
theorem runY_ev : runY n a C ds st = a C 0 [] (ds.map some ++ List.replicate (n - ds.length) none) st := (rfl)
theorem dLcY_ev : dLcY n F fs tg tst elt own env st = (fs env st).bind fun ds st1 => if ds.length = n then fiY (F (consC tg tst elt (wipeD env own)) ds st1) else .no := by
  unfold dLcY fiY
  congr 1
theorem dLcYK_ev : dLcYK n is m F fs tg tst elt own env st = (fs env st).bind fun ds st1 => if ds.length = m ∧ is.length = n ∧ (is.all fun i => decide (i < m)) = true then fiY (F (consC tg tst elt (wipeD env own)) (pmL is ds) st1) else .no := by
  unfold dLcYK fiY
  congr 1
@[simp] theorem fiY_nx : fiY (.nx n ys env st) = .ok (.nd .lst ys) st := (rfl)
end
theorem gForLY_go {chk : Store → Prop} {tg : DTg} {fb : SemGy} {C : Cy} : ∀ {xs ys : List D} {n : Nat} {env : DEnv} {st : Store} {x : GYr}, gForLY chk tg fb xs C n ys env st = x → ∀ (I : Nat → Nat → List D → DEnv → Store → Prop), I 0 n ys env st → (∀ i n ys e s, I i n ys e s → chk s) →
    (∀ i d n ys e s, xs[i]? = some d → I i n ys e s → ∃ e1 n2 ys2 e2 s2, tg d e s = some e1 ∧ fb C n ys e1 s = .nx n2 ys2 e2 s2 ∧ I (i + 1) n2 ys2 e2 s2) → ∃ n' ys' env' st', x = .nx n' ys' env' st' ∧ I xs.length n' ys' env' st' := by
  intro xs
  induction xs with
  | nil =>
    intro ys n env st x hx I h0 hc _
    refine ⟨n, ys, env, st, ?_, h0⟩
    rw [← hx, gForLY, if_pos (hc _ _ _ _ _ h0)]
  | cons d ds ih =>
    intro ys n env st x hx I h0 hc hs
    obtain ⟨e1, n2, ys2, e2, s2, h1, h2, h3⟩ := hs 0 d n ys env st rfl h0
    rw [gForLY, if_pos (hc _ _ _ _ _ h0), h1] at hx
    dsimp only at hx
    rw [h2] at hx
    obtain ⟨n', ys', env', st', e, hI⟩ := ih hx (fun i => I (i + 1)) h3 (fun i => hc (i + 1)) fun i d' n ys e s hd => hs (i + 1) d' n ys e s (by simpa using hd)
    exact ⟨n', ys', env', st', e, by simpa using hI⟩
end DY

/-! k05: what leavings hands out, whatever its consumer does between. -/
namespace Q
open PySem PySem.Spec L2 DY
theorem leavings_Y (n : Nat) (p : Part) {x : D} {ms : List Int} {st : Store} {C : Cy} (hx : Stay st x (ms.map D.int)) (ho : p.ok 12) (hs : p.size ≤ 12) (hm : ms.length < 1000) (g : Asc ms)
    (hC : ∀ i (post : Store) (w : W) (v : Int), ∃ q : Store, C ((leaves p (ms.take i)).map D.int) (.int v) (st ++ (seg p [] st.length w ++ post)) = some ((leaves p (ms.take i)).map D.int ++ [.int v], st ++ (seg p [] st.length w ++ (post ++ q)))) :
    ∃ k env post, y_leavings (sem (n + 30)) C [p.line, x] st = .nx k ((leaves p ms).map D.int) env (st ++ post) := by
  have e := make_walk p (n + 30) [] st (by omega) (by simp; omega)
  rw [show tupI [] = .nd .tup [] from rfl] at e
  have na := need_arrivals_ok (n + 26) hx.see0 hx.ty g
  unfold y_leavings
  rw [runY_ev]
  simp [gb_leavings, na, line_see, nLine, line_parts, e, hx.see, -runInit_ev]
  generalize hy : gForLY _ _ _ _ _ _ _ _ _ = y
  obtain ⟨_, _, _, _, rfl, rfl, rfl, post, rfl, j, rfl⟩ := gForLY_go hy (fun i k ys env st' => k = i ∧ ys = (leaves p (ms.take i)).map D.int ∧ ∃ post, st' = st ++ (seg p [] st.length (goes p (W0 p) (ms.take i)) ++ post) ∧ ∃ j, env = [some p.line, some x, some (.h st.length), j])
    ⟨rfl, by simp [leaves_eq, outs], [], by simp [goes], none, rfl⟩ (by rintro i _ _ _ _ ⟨_, _, post, rfl, _⟩; simp [hx.see]) (by
      rintro _ d i _ _ _ hi ⟨rfl, rfl, post, rfl, j, rfl⟩
      obtain ⟨m, hm', rfl⟩ := get_map hi
      have hi2 := (List.getElem?_eq_some_iff.mp hm').1
      have hl : (ms.take i).length = i := by simp; omega
      have hf := fit_goes p (ms.take i) 0 (W0 p) (fit0 p)
      have g := go_ok p (n + 30) _ [] st post (goes p (W0 p) (ms.take i)) m (by omega) ho hf (by rw [hl]; omega)
      have g0 := seg_get0 (q := []) (k := st.length) (post := post) hf
      simp [wCell, nWalk] at g0
      have nx : leaves p (ms.take (i + 1)) = leaves p (ms.take i) ++ [(go p (goes p (W0 p) (ms.take i)) m).1] := by
        rw [leaves_eq, leaves_eq, outs_take p ms _ i m hm']
      obtain ⟨q, hq⟩ := hC i post (goes p (W0 p) (ms.take (i + 1))) (go p (goes p (W0 p) (ms.take i)) m).1
      have lk : i < szL := by rw [show szL = 16777216 from sizeLine_eq]; omega
      rw [goes_take p ms _ i m hm'] at hq
      simp [g0, g, goes_take p ms _ i m hm', lk, nx, hq]
      exact ⟨_, _, _, _, ⟨rfl, rfl, rfl, rfl⟩, rfl, rfl, ⟨_, rfl⟩, _, rfl⟩)
  simp
end Q

/-! What the law draws. -/
namespace Q
open PySem PySem.Spec L2 DY
structure Dw where
  ws : List Int
  cs : List Int
  rest : Int
  turn : Int
def c0 (w : Dw) : D := .nd .lst (w.ws.map D.int)
def kDw : List Key := [.inr (Str.ofString kwD), .inr (Str.ofString "cells"), .inr (Str.ofString "rest"), .inr (Str.ofString "turn")]
def c1 (w : Dw) : D := .nd (.dk kDw) [.h 0, .nd .lst (w.cs.map D.int), .int w.rest, .int w.turn]
/-- the store: what is drawn from, and R -/
def drs (w : Dw) (R : Store) : Store := c0 w :: c1 w :: R
/-- t draws of new numbers at most -/
structure Dw.ok (w : Dw) (t : Nat) : Prop where
  ws : ∀ x ∈ w.ws, 0 ≤ x
  cs : ∀ x ∈ w.cs, 0 ≤ x
  rest : 0 ≤ w.rest
  t0 : 0 ≤ w.turn
  t1 : w.turn ≤ t
theorem Dw.ok.mono {w : Dw} {s t : Nat} (h : w.ok s) (hs : s ≤ t) : w.ok t := ⟨h.ws, h.cs, h.rest, h.t0, by have := h.t1; omega⟩
section
variable {w : Dw} {R g : Store} {i : Nat} {x : D}
@[simp] theorem drs_len : (drs w R).length = R.length + 2 := rfl
@[simp high] theorem drs_0 : (drs w R)[0]? = some (c0 w) := rfl
@[simp high] theorem drs_1 : (drs w R)[1]? = some (c1 w) := rfl
@[simp high] theorem drs_get : (drs w R)[i + 2]? = R[i]? := rfl
@[simp] theorem drs_app : drs w R ++ g = drs w (R ++ g) := rfl
@[simp] theorem drs_set : (drs w R).set (i + 2) x = drs w (R.set i x) := rfl
theorem hdB_ints (n : Nat) : ∀ is : List Int, hdBL n (is.map D.int) = true
  | [] => rfl
  | i :: is => by simp [hdBL, hdB, hdB_ints n is]
theorem cells_drs {w w' : Dw} {R g : Store} : CellsOk (drs w R) (drs w' (R ++ g)) := by
  refine ⟨by simp, fun k d hk e => ?_⟩
  match k with
  | 0 => cases e; exact .inr (by simp [c0, hdB, hdB_ints])
  | 1 => cases e; exact .inr (by simp [c1, hdB, hdBL, hdB_ints])
  | k + 2 =>
    refine .inl ?_
    rw [drs_get] at e ⊢
    rw [List.getElem?_append_left (by simpa using hk)] at e
    exact e
theorem frzR_drs {w w' : Dw} {R g : Store} {d d' : D} (h : frz 5 (R.length + 2) (drs w' (R ++ g)) d = some d') : frzR (drs w R) (.ok d (drs w' (R ++ g))) = .ok d' (drs w' R) := by
  unfold frzR frzF
  dsimp only
  rw [if_pos cells_drs, drs_len, h]
  dsimp only
  congr 1
  show (drs w' (R ++ g)).take (R.length + 2) = _
  simp [drs]
@[simp] theorem frzR_drs_noH {w w' : Dw} {R g : Store} {d : D} (h : noH d = true) : frzR (drs w R) (.ok d (drs w' (R ++ g))) = .ok d (drs w' R) := frzR_drs (frz_noH h)
@[simp] theorem frzR_drs_same {w w' : Dw} {R : Store} {d : D} (h : noH d = true) : frzR (drs w R) (.ok d (drs w' R)) = .ok d (drs w' R) := by
  have := frzR_drs_noH (w := w) (w' := w') (R := R) (g := []) h
  simpa using this
@[simp] theorem frzR_drs_new {w w' : Dw} {R g : Store} {t : Hd} {xs : List D} (h : noHL xs = true) : frzR (drs w R) (.ok (.h (R.length + 2)) (drs w' (R ++ (.nd t xs :: g)))) = .ok (.nd t xs) (drs w' R) :=
  frzR_drs (by
    have := frz_new (st := drs w' R) (g := .nd t xs :: g) (t := t) (xs := xs) (k := R.length + 2) (by simp) (by simp) h
    simpa using this)
end
/-! ### the beginning -/
theorem begun (n : Nat) {ns : List Int} (hl : ns.length ≤ 63) : ∃ w : Dw, sem (n + 1) f__law_begun [scrD ns] [] = .ok (.h 1) (drs w []) ∧ w.ok 0 := by
  rw [S__law_begun]
  simp [b__law_begun, scrD]
  generalize hx : compL _ _ _ _ _ _ _ _ _ = x
  obtain rfl := compL_fm hx (fun i : Int => if 1000000000000000000 ≤ (if i < 0 then -i else i) then some (.int ((if i < 0 then -i else i) - 1000000000000000000)) else none) (by simp) (by omega) (fun a ha => by
    by_cases h : 1000000000000000000 ≤ (if a < 0 then -a else a) <;> simp [h])
  simp
  generalize hx : compL _ _ _ _ _ _ _ _ _ = x
  obtain rfl := compL_map hx (fun i : Int => .int ((if i < 0 then -i else i) % 2147483629)) (by simp) (by omega) (fun a ha => by simp)
  simp [dDictM1, keys?, key?]
  refine ⟨⟨ns.filterMap fun i : Int => if 1000000000000000000 ≤ (if i < 0 then -i else i) then some ((if i < 0 then -i else i) - 1000000000000000000) else none, ns.map fun i : Int => (if i < 0 then -i else i) % 2147483629, 0, 0⟩, ?_, ?_⟩
  · simp [drs, c0, c1, kDw, List.map_filterMap]
  · refine ⟨fun x hx => ?_, fun x hx => ?_, by simp, by simp, by simp⟩
    · simp only [List.mem_filterMap] at hx
      obtain ⟨i, _, h⟩ := hx
      by_cases hc : 1000000000000000000 ≤ (if i < 0 then -i else i)
      · simp [hc] at h; omega
      · simp [hc] at h
    · simp only [List.mem_map] at hx
      obtain ⟨i, _, rfl⟩ := hx
      omega
/-! ### new numbers -/
theorem mixed (n : Nat) {w : Dw} {R : Store} {t : Nat} (h : w.ok t) (ht : t < 1000000000000) :
    ∃ v, sem (n + 1) f__law_mixed [.h 1] (drs w R) = .ok (.int v) (drs ⟨w.ws, w.cs, w.rest, w.turn + 1⟩ R) ∧ 0 ≤ v := by
  have h0 := h.t0; have h1 := h.t1
  rw [S__law_mixed]
  have put : ∀ x : Int, putD 3 (.h 1) (.str (Str.ofString "turn")) (.int x) (drs w R) = some (drs ⟨w.ws, w.cs, w.rest, x⟩ R) := fun x => by
    simp [c1, kDw]
    simp [drs, c0, c1, kDw]
  simp [b__law_mixed, c1, kDw, put]
  generalize hx : forL _ _ _ _ _ _ = x
  obtain ⟨env', st', rfl, hI⟩ := forL_go hx (fun _ env st => st = drs ⟨w.ws, w.cs, w.rest, w.turn + 1⟩ R ∧ ∃ v j3 j4 j5, env = [some (.h 1), some (.int (w.turn + 1)), some (.int v), j3, j4, j5] ∧ 0 ≤ v)
    ⟨rfl, 0, none, none, none, rfl, by omega⟩ (fun _ _ _ _ => by simp) (by
      rintro i d _ _ hi ⟨rfl, v, j3, j4, j5, rfl, hv⟩
      have : ∃ p : Int, d = .int p ∧ 0 < p ∧ p < 2147483648 := by
        have := List.mem_of_getElem? hi
        simp at this
        rcases this with rfl | rfl | rfl | rfl <;> exact ⟨_, rfl, by omega, by omega⟩
      obtain ⟨p, rfl, p0, p1⟩ := this
      simp [dMul_l, dFdiv_n, c1, kDw]
      generalize hy : forL _ _ _ _ _ _ = y
      obtain ⟨env', st', rfl, rfl, b, j5, rfl, b0, b1⟩ := forL_go hy (fun _ env st => st = drs ⟨w.ws, w.cs, w.rest, w.turn + 1⟩ R ∧ ∃ b j5, env = [some (.h 1), some (.int (w.turn + 1)), some (.int v), some (.int p), some (.int b), j5] ∧ 0 ≤ b ∧ b < 18446744073709551616)
        ⟨rfl, _, j5, rfl, by omega, by omega⟩ (fun _ _ _ _ => by simp) (by
          rintro i d _ _ hi ⟨rfl, b, j5, rfl, b0, b1⟩
          obtain ⟨c, hc, rfl⟩ := get_map hi
          have c0 := h.cs c (List.mem_of_getElem? hc)
          simp [dMul_r, p0]
          exact ⟨Int.emod_nonneg _ (by omega), by have := Int.emod_lt_of_pos (b * 48271 + c + (w.turn + 1)) p0; omega⟩)
      have hp : CPow b 5 := ⟨by decide, by decide, by omega⟩
      simp [dMul_r, dPow_ev hp, p0]
      have := Int.emod_nonneg (b ^ 5) (show p ≠ 0 by omega)
      omega)
  obtain ⟨rfl, v, j3, j4, j5, rfl, hv⟩ := hI
  simp [hv]
/-- the draw -/
theorem take (n : Nat) {w : Dw} {R : Store} {t : Nat} {size : Int} (h : w.ok t) (ht : t < 1000000000000) (hs : 0 < size ∧ size < 2 ^ 200) :
    ∃ v w', sem (n + 2) f__law_take [.h 1, .int size] (drs w R) = .ok (.int v) (drs w' R) ∧ w'.ok (t + 1) ∧ 0 ≤ v ∧ v < size := by
  have put : ∀ (w : Dw) (x : Int), putD 2 (.h 1) (.str (Str.ofString "rest")) (.int x) (drs w R) = some (drs ⟨w.ws, w.cs, x, w.turn⟩ R) := fun w x => by
    simp [c1, kDw]
    simp [drs, c0, c1, kDw]
  have hz : size.natAbs.log2 < 9000 := by
    by_cases hc : 9000 ≤ size.natAbs.log2
    · have h1 := Nat.log2_self_le (n := size.natAbs) (by omega)
      have h2 : (2 : Nat) ^ 200 ≤ 2 ^ size.natAbs.log2 := Nat.pow_le_pow_right (by decide) (by omega)
      omega
    · omega
  have fin : ∀ w : Dw, w.ok (t + 1) → ∃ v w', finB (sCons (sSet 2 (dBin dMod (dCall dInt (dCons (dBin (dGet 2) (dVar 0) (dConst (.str "rest"))) (dNil))) (dVar 1)))
      (sCons (sDPut 2 (dVar 0) (dConst (.str "rest")) (dBin dFdiv (dBin (dGet 2) (dVar 0) (dConst (.str "rest"))) (dVar 1))) (sRet (dVar 2))) [some (.h 1), some (.int size), none] (drs w R)) = .ok (.int v) (drs w' R) ∧ w'.ok (t + 1) ∧ 0 ≤ v ∧ v < size := by
    intro w h
    refine ⟨w.rest % size, ⟨w.ws, w.cs, w.rest / size, w.turn⟩, ?_, ⟨h.ws, h.cs, Int.ediv_nonneg h.rest (by omega), h.t0, h.t1⟩, Int.emod_nonneg _ (by omega), Int.emod_lt_of_pos _ hs.1⟩
    simp [c1, kDw, put, hs.1, dFdiv_w ⟨hs.1, hz⟩, -putD_ev]
  rw [S__law_take]
  by_cases hr : w.rest = 0
  · cases hw : w.ws with
    | nil =>
      obtain ⟨v, e, v0⟩ := mixed n (R := R) h ht
      obtain ⟨v', w', e', h'⟩ := fin ⟨w.ws, w.cs, v, w.turn + 1⟩ ⟨h.ws, h.cs, v0, by have := h.t0; show 0 ≤ w.turn + 1; omega, by have := h.t1; show w.turn + 1 ≤ _; omega⟩
      refine ⟨v', w', ?_, h'⟩
      rw [← e']
      have ne := ne_nil (x := .h 0) (st := drs w R) (is := []) (.inr ⟨0, rfl, by simp [c0, hw]⟩)
      simp [b__law_take, c1, kDw, hr, put, -putD_ev, e, c0, hw, ne]
    | cons x ws =>
      obtain ⟨v', w', e', h'⟩ := fin ⟨ws, w.cs, x, w.turn⟩ ⟨fun y hy => h.ws y (by rw [hw]; exact List.mem_cons_of_mem _ hy), h.cs, h.ws x (by rw [hw]; exact List.mem_cons_self), h.t0, by have := h.t1; show w.turn ≤ _; omega⟩
      refine ⟨v', w', ?_, h'⟩
      rw [← e']
      have ne := ne_nil (x := .h 0) (st := drs w R) (is := x :: ws) (.inr ⟨0, rfl, by simp [c0, hw]⟩)
      have st : List.set (drs w R) 0 (.nd .lst (ws.map D.int)) = drs ⟨ws, w.cs, w.rest, w.turn⟩ R := by simp [drs, c0, c1]
      simp [b__law_take, c1, kDw, hr, put, -putD_ev, c0, hw, ne, st]
  · obtain ⟨v', w', e', h'⟩ := fin w (h.mono (by omega))
    refine ⟨v', w', ?_, h'⟩
    rw [← e']
    simp [b__law_take, c1, kDw, hr]
end Q

/-! The lines that a law draws. -/
namespace Q
open PySem PySem.Spec L2 DY
theorem pick (n : Nat) {w : Dw} {R : Store} {t : Nat} {xs : List D} (h : w.ok t) (ht : t < 1000000000000) (hx : xs ≠ [] ∧ xs.length ≤ 16777216) :
    ∃ d w', sem (n + 3) f__law_pick [.h 1, .nd .lst xs] (drs w R) = .ok d (drs w' R) ∧ w'.ok (t + 1) ∧ d ∈ xs := by
  have hl : 0 < xs.length := List.length_pos_iff.mpr hx.1
  obtain ⟨v, w', e, h', v0, v1⟩ := take n (R := R) (size := (xs.length : Int)) h ht ⟨by omega, by omega⟩
  have hv : v.toNat < xs.length := by omega
  refine ⟨xs[v.toNat], w', ?_, h', List.getElem_mem _⟩
  rw [S__law_pick]
  simp [b__law_pick, e, atI_int v0, hv]
theorem time (n : Nat) {w : Dw} {R : Store} {t : Nat} {k : Str} (h : w.ok t) (ht : t + 3 < 1000000000000) :
    ∃ v w', sem (n + 4) f__law_time [.h 1, .str k] (drs w R) = .ok (.int v) (drs w' R) ∧ w'.ok (t + 3) ∧ 0 ≤ v ∧ v ≤ 1000000000 := by
  rw [S__law_time]
  by_cases hk : k = Str.ofString "small"
  · obtain ⟨v, w', e, h', v0, v1⟩ := take (n + 1) (R := R) (size := 10) h (by omega) (by omega)
    exact ⟨v, w', by simp [b__law_time, hk, e], h'.mono (by omega), v0, by omega⟩
  · obtain ⟨v1, w1, e1, h1, a0, a1⟩ := take (n + 1) (R := R) (size := 100) h (by omega) (by omega)
    obtain ⟨v2, w2, e2, h2, c0, c1⟩ := take (n + 1) (R := R) (size := 1000000001) h1 (by omega) (by omega)
    obtain ⟨d, w', e3, h3, hd⟩ := pick n (R := R) (xs := [.int 0, .int 1, .int 2, .int 5, .int 7, .int 1000000000, .int 999999999, .int v1, .int v2]) h2 (by omega) (by simp)
    have : ∃ v : Int, d = .int v ∧ 0 ≤ v ∧ v ≤ 1000000000 := by
      simp at hd
      rcases hd with rfl | rfl | rfl | rfl | rfl | rfl | rfl | rfl | rfl <;> exact ⟨_, rfl, by omega, by omega⟩
    obtain ⟨v, rfl, v0, v3⟩ := this
    exact ⟨v, w', by simp [b__law_time, hk, e1, e2, e3], h3.mono (by omega), v0, v3⟩
/-- the sorts that a law draws from -/
def sorts (S : List String) : D := .nd .lst (S.map sS)
def Four (S : List String) : Prop := ∀ s ∈ S, s = "belt" ∨ s = "gap" ∨ s = "hold" ∨ s = "both"
theorem leaf (n : Nat) {w : Dw} {R : Store} {t : Nat} {k : Str} {top : Int} {S : List String} (h : w.ok t) (ht : t + 5 < 1000000000000) (h0 : 1 ≤ top ∧ top ≤ 100) (hS : S ≠ [] ∧ S.length ≤ 100) (h4 : ∀ s ∈ S, s = "belt" ∨ s = "gap" ∨ s = "hold") :
    ∃ p w', sem (n + 5) f__law_leaf [.h 1, .int top, .str k, sorts S] (drs w R) = .ok (Part.d p) (drs w' R) ∧ w'.ok (t + 5) ∧ p.size = 1 ∧ p.ok top ∧ p.within S := by
  obtain ⟨d, w1, e1, h1, hd⟩ := pick (n + 1) (R := R) (xs := S.map sS) h (by omega) ⟨by simpa using hS.1, by simp; omega⟩
  obtain ⟨s, hs, rfl⟩ := List.mem_map.mp hd
  rw [S__law_leaf]
  rcases h4 s hs with rfl | rfl | rfl
  · obtain ⟨v, w', e, h', v0, v1⟩ := time n (R := R) (k := k) h1 (by omega)
    exact ⟨.belt v, w', by simp [b__law_leaf, sorts, e1, sS, e, Part.d], h'.mono (by omega), rfl, ⟨v0, v1⟩, hs⟩
  · obtain ⟨c, w2, e2, h2, c0, c1⟩ := take (n + 2) (R := R) (size := top) h1 (by omega) (by omega)
    obtain ⟨v, w', e, h', v0, v1⟩ := time n (R := R) (k := k) h2 (by omega)
    exact ⟨.gap (1 + c) v, w', by simp [b__law_leaf, sorts, e1, sS, e, e2, Part.d], h'.mono (by omega), rfl, ⟨⟨by omega, by omega⟩, v0, v1⟩, hs⟩
  · obtain ⟨c, w2, e2, h2, c0, c1⟩ := take (n + 2) (R := R) (size := top) h1 (by omega) (by omega)
    obtain ⟨v, w', e, h', v0, v1⟩ := time n (R := R) (k := k) h2 (by omega)
    exact ⟨.hold (1 + c) v, w', by simp [b__law_leaf, sorts, e1, sS, e, e2, Part.d], h'.mono (by omega), rfl, ⟨⟨by omega, by omega⟩, v0, v1⟩, hs⟩
theorem Part.within.sub {S T : List String} (h : ∀ s, s ∈ S → s ∈ T) : ∀ {p : Part}, p.within S → p.within T
  | .belt _, q => h _ q
  | .gap _ _, q => h _ q
  | .hold _ _, q => h _ q
  | .sec _ p, q => Part.within.sub (p := p) h q
  | .beh a b, q => ⟨Part.within.sub (p := a) h q.1, Part.within.sub (p := b) h q.2⟩
  | .both a b, q => ⟨h _ q.1, Part.within.sub (p := a) h q.2.1, Part.within.sub (p := b) h q.2.2⟩
theorem inV_sorts {S : List String} : fvs (S.map sS) = some (S.map fun s => V.str (Str.ofString s)) := by
  induction S with
  | nil => rfl
  | cons s S ih => simp [fvs, DY.fv, sS, ih]
theorem dIn_sorts {s : String} {S : List String} {st : Store} : dIn (.str (Str.ofString s)) (sorts S) st = .ok (.bl (decide (s ∈ S))) st := by
  rw [dIn_flat (v := V.str (Str.ofString s)) (vs := S.map fun s => V.str (Str.ofString s)) rfl (by simp [sorts, inV_sorts]) (by intro a h; cases h)]
  congr 2
  induction S with
  | nil => rfl
  | cons a S ih =>
    have : inV (V.str (Str.ofString s)) ((a :: S).map fun s => V.str (Str.ofString s)) = (decide (a = s) || inV (V.str (Str.ofString s)) (S.map fun s => V.str (Str.ofString s))) := by
      have e : (Str.ofString a == Str.ofString s) = decide (a = s) := by
        by_cases h : a = s
        · subst h; simp
        · simp [h]
      rw [← e]; rfl
    rw [this, ih]
    by_cases h : a = s
    · subst h; simp
    · simp [h, Ne.symm h]
theorem tree : ∀ (r n : Nat) {w : Dw} {R : Store} {t : Nat} {k : Str} {top : Int} {S : List String}, w.ok t → 1 ≤ r → r ≤ 30 → t + 6 * r < 1000000000000 → (1 ≤ top ∧ top ≤ 100) → S.length ≤ 100 → S.filter (fun s => !decide (s = "both")) ≠ [] → Four S →
    ∃ p w', sem (n + r + 6) f__law_tree [.h 1, .int r, .int top, .str k, sorts S] (drs w R) = .ok (Part.d p) (drs w' R) ∧ w'.ok (t + 6 * r) ∧ p.size ≤ r ∧ p.ok top ∧ p.within S := by
  intro r
  induction r using Nat.strongRecOn with
  | ind r ih =>
    intro n w R t k top S h r1 r2 ht h0 hl hS h4
    obtain ⟨way, w1, e1, h1, a0, a1⟩ := take (n + r + 3) (R := R) (size := 8) h (by omega) (by omega)
    rw [show n + r + 6 = (n + r + 5) + 1 by omega, S__law_tree]
    by_cases hc : 3 ≤ r ∧ way < 5
    · have hr : 3 ≤ (r : Int) := by omega
      obtain ⟨f, w2, e2, h2, f0, f1⟩ := take (n + r + 3) (R := R) (size := (r : Int) - 2) h1 (by omega) (by omega)
      obtain ⟨g, rfl⟩ : ∃ g : Nat, f = g := ⟨f.toNat, by omega⟩
      have := ih (1 + g) (by omega) (n + r - 2 - g) (R := R) (k := k) h2 (by omega) (by omega) (by omega) h0 hl hS h4
      obtain ⟨p, w3, e3, h3, p1, p2, p3⟩ := this
      obtain ⟨q, w4, e4, h4', q1, q2, q3⟩ := ih (r - 1 - (1 + g)) (by omega) (n + 1 + g) (R := R) (k := k) h3 (by omega) (by omega) (by omega) h0 hl hS h4
      rw [show n + r - 2 - g + (1 + g) + 6 = n + r + 5 by omega] at e3
      rw [show n + 1 + g + (r - 1 - (1 + g)) + 6 = n + r + 5 by omega] at e4
      have c1 : ((1 + g : Nat) : Int) = 1 + (g : Int) := by omega
      have c2 : ((r - 1 - (1 + g) : Nat) : Int) = (r : Int) - 1 - (1 + (g : Int)) := by omega
      rw [c1] at e3
      rw [c2] at e4
      by_cases hb : "both" ∈ S ∧ way < 2
      · refine ⟨.both p q, w4, ?_, h4'.mono (by omega), by simp [Part.size]; omega, ⟨p2, q2⟩, hb.1, p3, q3⟩
        simp [b__law_tree, e1, hr, hc.2, e2, e3, e4, dIn_sorts, hb.1, hb.2, Part.d]
      · refine ⟨.beh p q, w4, ?_, h4'.mono (by omega), by simp [Part.size]; omega, ⟨p2, q2⟩, p3, q3⟩
        have hb' : ¬ (("both" ∈ S) ∧ way < 2) := hb
        by_cases hb1 : "both" ∈ S
        · have hb2 : ¬ way < 2 := fun z => hb ⟨hb1, z⟩
          simp [b__law_tree, e1, hr, hc.2, e2, e3, e4, dIn_sorts, hb1, hb2, Part.d]
        · simp [b__law_tree, e1, hr, hc.2, e2, e3, e4, dIn_sorts, hb1, Part.d]
    · have hc1 : 3 ≤ (r : Int) → ¬ way < 5 := fun a b => hc ⟨by omega, b⟩
      by_cases hs : 2 ≤ r ∧ way < 7
      · obtain ⟨c, w2, e2, h2, c0, c1⟩ := take (n + r + 3) (R := R) (size := top) h1 (by omega) (by omega)
        obtain ⟨p, w3, e3, h3, p1, p2, p3⟩ := ih (r - 1) (by omega) n (R := R) (k := k) h2 (by omega) (by omega) (by omega) h0 hl hS h4
        rw [show n + (r - 1) + 6 = n + r + 5 by omega] at e3
        have c2 : ((r - 1 : Nat) : Int) = (r : Int) - 1 := by omega
        rw [c2] at e3
        refine ⟨.sec (1 + c) p, w3, ?_, h3.mono (by omega), by simp [Part.size]; omega, ⟨⟨by omega, by omega⟩, p2⟩, p3⟩
        have h2' : (2 : Int) ≤ r := by omega
        by_cases h3' : 3 ≤ (r : Int)
        · simp [b__law_tree, e1, h3', hc1 h3', h2', hs.2, e2, e3, Part.d]
        · simp [b__law_tree, e1, h3', h2', hs.2, e2, e3, Part.d]
      · obtain ⟨p, w2, e2, h2, p1, p2, p3⟩ := leaf (n + r) (R := R) (k := k) (S := S.filter (fun s => !decide (s = "both"))) h1 (by omega) h0 ⟨hS, Nat.le_trans (List.length_filter_le _ _) hl⟩ (fun s hs => by
          simp at hs
          rcases h4 s hs.1 with a | a | a | a
          · exact .inl a
          · exact .inr (.inl a)
          · exact .inr (.inr a)
          · exact absurd a hs.2)
        refine ⟨p, w2, ?_, h2.mono (by omega), by omega, p2, p3.sub fun s hs => (List.mem_filter.mp hs).1⟩
        have hs1 : 2 ≤ (r : Int) → ¬ way < 7 := fun a b => hs ⟨by omega, b⟩
        by_cases h3' : 3 ≤ (r : Int)
        · have h2' : (2 : Int) ≤ r := by omega
          simp [b__law_tree, e1, h3', hc1 h3', h2', hs1 h2', sorts]
          generalize hx : compL _ _ _ _ _ _ _ _ _ = x
          obtain rfl := compL_filter hx (fun s => !decide (s = "both")) sS (by simp) (by omega) (fun a ha => by by_cases h : a = "both" <;> simp [sS, h])
          simp only [sorts] at e2
          simp [e2]
        · by_cases h2' : (2 : Int) ≤ r
          · simp [b__law_tree, e1, h3', h2', hs1 h2', sorts]
            generalize hx : compL _ _ _ _ _ _ _ _ _ = x
            obtain rfl := compL_filter hx (fun s => !decide (s = "both")) sS (by simp) (by omega) (fun a ha => by by_cases h : a = "both" <;> simp [sS, h])
            simp only [sorts] at e2
            simp [e2]
          · simp [b__law_tree, e1, h3', h2', sorts]
            generalize hx : compL _ _ _ _ _ _ _ _ _ = x
            obtain rfl := compL_filter hx (fun s => !decide (s = "both")) sS (by simp) (by omega) (fun a ha => by by_cases h : a = "both" <;> simp [sS, h])
            simp only [sorts] at e2
            simp [e2]
end Q

/-! Arrivals that a law draws. -/
namespace Q
open PySem PySem.Spec L2 DY
theorem arrivals (n : Nat) {w : Dw} {R : Store} {t many : Nat} (h : w.ok t) (ht : t + 2 + 2 * many < 1000000000000) (hm : many ≤ 1000) :
    ∃ ms w', sem (n + 4) f__law_arrivals [.h 1, .int many] (drs w R) = .ok (lstI ms) (drs w' R) ∧ w'.ok (t + 2 + 2 * many) ∧ ms.length = many ∧ ms.Pairwise (· ≤ ·) ∧ ∀ m ∈ ms, 0 ≤ m ∧ m ≤ 1000000000000 + 1000000000 * many := by
  obtain ⟨d1, w1, e1, h1, m1⟩ := pick n (R := R) (xs := [.int 0, .int 1, .int 2, .int 5, .int 20, .int 1000000000]) h (by omega) (by simp)
  have : ∃ a : Int, d1 = .int a ∧ 0 ≤ a ∧ a ≤ 1000000000 := by
    simp at m1
    rcases m1 with rfl | rfl | rfl | rfl | rfl | rfl <;> exact ⟨_, rfl, by omega, by omega⟩
  obtain ⟨a, rfl, a0, a1⟩ := this
  obtain ⟨d2, w2, e2, h2, m2⟩ := pick n (R := R ++ [.nd .lst []]) (xs := [.int 0, .int 0, .int 3, .int 1000000000000]) h1 (by omega) (by simp)
  have : ∃ b : Int, d2 = .int b ∧ 0 ≤ b ∧ b ≤ 1000000000000 := by
    simp at m2
    rcases m2 with rfl | rfl | rfl | rfl <;> exact ⟨_, rfl, by omega, by omega⟩
  obtain ⟨b, rfl, b0, b1⟩ := this
  rw [S__law_arrivals]
  simp [b__law_arrivals, e1, e2, iRange11_nat (show many < 4611686018427387904 by omega)]
  generalize hx : forL _ _ _ _ _ _ = x
  obtain ⟨_, _, rfl, ms, w', rfl, ⟨l, j5, rfl, _, _⟩, i1, i2, i3, i4⟩ := forL_go hx (fun i env st => ∃ ms w', st = drs w' (R ++ [lstI ms]) ∧ (∃ l j5, env = [some (.h 1), some (.int many), some (.int a), some (.h (R.length + 2)), some (.int l), j5] ∧ (l ≤ 1000000000000 + 1000000000 * i ∧ 0 ≤ l) ∧ ∀ m ∈ ms, m ≤ l) ∧ w'.ok (t + 2 + 2 * i) ∧ ms.length = i ∧ ms.Pairwise (· ≤ ·) ∧ ∀ m ∈ ms, 0 ≤ m ∧ m ≤ 1000000000000 + 1000000000 * i)
    ⟨[], w2, rfl, ⟨b, none, rfl, by omega, by simp⟩, h2.mono (by omega), rfl, .nil, by simp⟩ (fun _ _ _ _ => by simp) (by
      rintro i d _ _ hi ⟨ms, w', rfl, ⟨l, j5, rfl, hl, hl2⟩, i1, i2, i3, i4⟩
      obtain ⟨hi', rfl⟩ := rng_get hi
      obtain ⟨v3, w3, e3, h3, c0, c1⟩ := take (n + 1) (R := R ++ [lstI (ms ++ [l])]) (size := a + 1) i1 (by omega) (by omega)
      obtain ⟨d4, w4, e4, h4, m4⟩ := pick n (R := R ++ [lstI (ms ++ [l])]) (xs := [.int 0, .int 0, .int a, .int v3]) h3 (by omega) (by simp)
      have : ∃ c : Int, d4 = .int c ∧ 0 ≤ c ∧ c ≤ 1000000000 := by
        simp at m4
        rcases m4 with rfl | rfl | rfl | rfl <;> exact ⟨_, rfl, by omega, by omega⟩
      obtain ⟨c, rfl, c0, c1⟩ := this
      have z1 : ms.length < 16777216 := by omega
      simp [lstI] at e3 e4
      simp [lstI, z1, e3, e4]
      refine ⟨ms ++ [l], w4, by simp, ⟨⟨by omega, by omega⟩, fun m hm => ?_⟩, h4.mono (by omega), by simp [i2], ?_, fun m hm => ?_⟩
      · rcases List.mem_append.mp hm with hm | hm
        · have := hl2 m hm; omega
        · simp at hm; omega
      · exact List.pairwise_append.mpr ⟨i3, by simp, fun x hx y hy => by simp at hy; subst hy; exact hl2 x hx⟩
      · rcases List.mem_append.mp hm with hm | hm
        · have := i4 m hm; omega
        · simp at hm; omega)
  simp at i1 i2 i4
  exact ⟨ms, w', by simp [lstI], i1, i2, i3, i4⟩
end Q

/-! A line that is called. -/
namespace Q
open PySem PySem.Spec L2 DY
theorem call_ok (n : Nat) (p : Part) {x : D} {ms : List Int} {st : Store} (hx : Stay st x (ms.map D.int)) (ho : p.ok 12) (hs : p.size ≤ 12) (hm : ms.length < 1000) (g : Asc ms) :
    sem (n + 31) f_Line___call__ [p.line, x] st = .ok (.h st.length) (st ++ [lstI (leaves p ms)]) := by
  have w := walk_of_ok n p hx ho hs hm g
  have hf := fit_goes p ms 0 (W0 p) (fit0 p)
  have g0' := seg_get0 (q := []) (k := st.length) (post := []) hf
  have g2' := seg_get2 (q := []) (k := st.length) (post := []) hf
  simp [wCell, nWalk] at g0' g2'
  rw [S_Line___call__]
  simp [b_Line___call__, w, g0']
  exact frzN_at (j := 2) (by rw [g2']; rfl) (by simp)
end Q

/-! Arrivals in a tuple. -/
namespace Q
open PySem PySem.Spec L2 DY
theorem first_bad_tup (n : Nat) {st : Store} {x : D} {ms : List Int} (hx : seen st x = some (.tup, ms.map D.int)) (g : Asc ms) : sem (n + 3) f_first_bad [x] st = .ok .non st := by
  rw [S_first_bad]
  simp [b_first_bad, hx]
  generalize hy : forL _ _ _ _ _ _ = y
  obtain ⟨_, _, rfl, rfl, hI⟩ := forL_go hy (fun i env st' => st' = st ∧ ∃ l j2 j3, env = [some x, some (.int l), j2, j3] ∧ ∀ m ∈ ms.drop i, l ≤ m)
    ⟨rfl, 0, _, _, rfl, fun m hm => (g.bd m (List.mem_of_mem_drop hm)).1⟩ (by rintro _ _ _ ⟨rfl, _⟩; simp [hx]) (by
      rintro i d _ _ hi ⟨rfl, l, j2, j3, rfl, hl⟩
      obtain ⟨m, hm, rfl⟩ := enu_get' hi
      have hd := drop_cons hm
      have b := g.bd m (List.mem_of_getElem? hm)
      have lm : ¬ m < l := by have := hl m (by rw [hd]; exact List.mem_cons_self); omega
      have up := g.up
      rw [← List.take_append_drop i ms, hd] at up
      simp [is_moment_int, b, lm]
      exact fun y hy => (List.pairwise_cons.mp (List.pairwise_append.mp up).2.1).1 y hy)
  obtain ⟨l, j2, j3, rfl, _⟩ := hI
  simp
theorem need_arrivals_tup (n : Nat) {st : Store} {x : D} {ms : List Int} (hx : seen st x = some (.tup, ms.map D.int)) (ht : tyD st x = some "tuple") (g : Asc ms) : sem (n + 4) f_need_arrivals [x] st = .ok .non st := by
  rw [S_need_arrivals]
  simp [b_need_arrivals, dIsi1_of ht, isiB, first_bad_tup n hx g]
theorem walk_of_tup (n : Nat) (p : Part) {ms : List Int} {st : Store} (ho : p.ok 12) (hs : p.size ≤ 12) (hm : ms.length < 1000) (g : Asc ms) :
    sem (n + 30) f_walk_of [p.line, tupI ms] st = .ok (.h st.length) (st ++ seg p [] st.length (goes p (W0 p) ms)) := by
  have e := make_walk p (n + 29) [] st (by omega) (by simp; omega)
  rw [show tupI [] = .nd .tup [] from rfl] at e
  have na := need_arrivals_tup (n + 25) (st := st) (x := .nd .tup (ms.map D.int)) rfl rfl g
  rw [S_walk_of]
  simp [b_walk_of, na, line_see, nLine, line_parts, e, tupI, -runInit_ev]
  generalize hy : forL _ _ _ _ _ _ = y
  obtain ⟨_, _, rfl, rfl, j, rfl⟩ := forL_go hy (fun i env st' => st' = st ++ seg p [] st.length (goes p (W0 p) (ms.take i)) ∧ ∃ j, env = [some p.line, some (.nd .tup (ms.map D.int)), some (.h st.length), j])
    ⟨by simp [goes], none, rfl⟩ (by rintro i _ _ ⟨rfl, _⟩; simp [tupI]) (by
      rintro i d _ _ hi ⟨rfl, j, rfl⟩
      obtain ⟨m, hm', rfl⟩ := get_map hi
      have hl : (ms.take i).length = i := by simp; have := (List.getElem?_eq_some_iff.mp hm').1; omega
      have hf := fit_goes p (ms.take i) 0 (W0 p) (fit0 p)
      have g := go_ok p (n + 29) _ [] st [] (goes p (W0 p) (ms.take i)) m (by omega) ho hf (by rw [hl]; have := (List.getElem?_eq_some_iff.mp hm').1; omega)
      have g0 := seg_get0 (q := []) (k := st.length) (post := []) hf
      simp [wCell, nWalk] at g0
      simp at g
      simp [g0, g, goes_take p ms _ i m hm'])
  simp
theorem call_tup (n : Nat) (p : Part) {ms : List Int} {st : Store} (ho : p.ok 12) (hs : p.size ≤ 12) (hm : ms.length < 1000) (g : Asc ms) :
    sem (n + 31) f_Line___call__ [p.line, tupI ms] st = .ok (.h st.length) (st ++ [lstI (leaves p ms)]) := by
  have w := walk_of_tup n p (st := st) ho hs hm g
  have hf := fit_goes p ms 0 (W0 p) (fit0 p)
  have g0' := seg_get0 (q := []) (k := st.length) (post := []) hf
  have g2' := seg_get2 (q := []) (k := st.length) (post := []) hf
  simp [wCell, nWalk] at g0' g2'
  rw [S_Line___call__]
  simp [tupI] at w
  simp [b_Line___call__, tupI, w, g0']
  exact frzN_at (j := 2) (by rw [g2']; rfl) (by simp)
end Q

/-! The rows of a walk. -/
namespace Q
open PySem PySem.Spec L2 DY
def rowH (q : List Int) (k : Nat) : D := .nd .tup [tupI q, .nd .tup [.h (k + 1), .h (k + 2)]]
def rowsH : Part → List Int → Nat → List D
  | .sec _ p, q, k => rowH q k :: rowsH p (q ++ [0]) (k + 3)
  | .beh a b, q, k => rowH q k :: (rowsH a (q ++ [0]) (k + 3) ++ rowsH b (q ++ [1]) (k + (3 * a.size + 3)))
  | .both a b, q, k => rowH q k :: (rowsH a (q ++ [0]) (k + 3) ++ rowsH b (q ++ [1]) (k + (3 * a.size + 3)))
  | _, q, k => [rowH q k]
theorem rowsH_len : ∀ (p : Part) (q : List Int) (k : Nat), (rowsH p q k).length = p.size
  | .belt _, _, _ => rfl
  | .gap _ _, _, _ => rfl
  | .hold _ _, _, _ => rfl
  | .sec _ p, q, k => by simp [rowsH, Part.size, rowsH_len p]
  | .beh a b, q, k => by simp [rowsH, Part.size, rowsH_len a, rowsH_len b]
  | .both a b, q, k => by simp [rowsH, Part.size, rowsH_len a, rowsH_len b]
/-- a row of plain data -/
abbrev Row := List Int × List Int × List Int
def rowD' (r : Row) : D := .nd .tup [tupI r.1, .nd .tup [lstI r.2.1, lstI r.2.2]]
def rowsW : Part → List Int → W → List Row
  | .sec _ p, q, .nd e l [w] => (q, e, l) :: rowsW p (q ++ [0]) w
  | .beh a b, q, .nd e l [u, v] => (q, e, l) :: (rowsW a (q ++ [0]) u ++ rowsW b (q ++ [1]) v)
  | .both a b, q, .nd e l [u, v] => (q, e, l) :: (rowsW a (q ++ [0]) u ++ rowsW b (q ++ [1]) v)
  | _, q, .nd e l _ => [(q, e, l)]
theorem rows_paths : ∀ (p : Part) (n : Nat) (q : List Int) (w : W), Fit p n w → (rowsW p q w).map (·.1) = p.paths q
  | .belt _, n, q, .nd e l [], h => rfl
  | .gap _ _, n, q, .nd e l [], h => rfl
  | .hold _ _, n, q, .nd e l [], h => rfl
  | .sec c p, n, q, .nd e l [w], h => by simp [rowsW, Part.paths, rows_paths p n _ w h.2.2]
  | .beh a b, n, q, .nd e l [u, v], h => by simp [rowsW, Part.paths, rows_paths a n _ u h.2.2.1, rows_paths b n _ v h.2.2.2]
  | .both a b, n, q, .nd e l [u, v], h => by simp [rowsW, Part.paths, rows_paths a n _ u h.2.2.1, rows_paths b n _ v h.2.2.2]
theorem rows_ok : ∀ (p : Part) (m n : Nat) (q : List Int) (pre post : Store) (w : W), p.size + 2 ≤ m → p.size ≤ 100 → Fit p n w →
    sem m f_Walk_rows [.h pre.length] (pre ++ (seg p q pre.length w ++ post)) = .ok (.nd .lst (rowsH p q pre.length)) (pre ++ (seg p q pre.length w ++ post))
  | .belt b, m, n, q, pre, post, .nd e l [], hm, hs, hf => by
    obtain ⟨m, rfl⟩ : ∃ k, m = k + 1 := ⟨m - 1, by omega⟩
    simp [S_Walk_rows, b_Walk_rows, seg, wCell, nWalk, rowsH, rowH, forL_nil]
  | .gap c b, m, n, q, pre, post, .nd e l [], hm, hs, hf => by
    obtain ⟨m, rfl⟩ : ∃ k, m = k + 1 := ⟨m - 1, by omega⟩
    simp [S_Walk_rows, b_Walk_rows, seg, wCell, nWalk, rowsH, rowH, forL_nil]
  | .hold c b, m, n, q, pre, post, .nd e l [], hm, hs, hf => by
    obtain ⟨m, rfl⟩ : ∃ k, m = k + 1 := ⟨m - 1, by omega⟩
    simp [S_Walk_rows, b_Walk_rows, seg, wCell, nWalk, rowsH, rowH, forL_nil]
  | .sec c p, m, n, q, pre, post, .nd e l [w], hm, hs, hf => by
    obtain ⟨m, rfl⟩ : ∃ k, m = k + 1 := ⟨m - 1, by omega⟩
    simp [Part.size] at hm hs
    have g0 := fun (post : Store) => seg_get0 (q := q ++ [0]) (k := pre.length + 3) (post := post) hf.2.2
    simp only [wCell, nWalk] at g0
    have ih := rows_ok p m n (q ++ [0]) (pre ++ [wCell (.sec c p) q pre.length [.h (pre.length + 3)], lstI e, lstI l]) post w (by omega) (by omega) hf.2.2
    have hl := rowsH_len p (q ++ [0]) (pre.length + 3)
    have hl2 : 1 + (rowsH p (q ++ [0]) (pre.length + 3)).length ≤ 16777216 := by omega
    simp [seg, wCell, nWalk, lstI, Part.d] at ih
    simp [S_Walk_rows, b_Walk_rows, seg, wCell, nWalk, rowsH, rowH, lstI, Part.d, forL_cons, forL_nil, g0, ih, hl2]
  | .beh a b, m, n, q, pre, post, .nd e l [u, v], hm, hs, hf => by
    obtain ⟨m, rfl⟩ : ∃ k, m = k + 1 := ⟨m - 1, by omega⟩
    simp [Part.size] at hm hs
    have su := fun k => seg_len a (q ++ [0]) k _ _ hf.2.2.1
    have g1 := fun (post : Store) => seg_get0 (q := q ++ [0]) (k := pre.length + 3) (post := post) hf.2.2.1
    have g2 := fun (post : Store) => seg_get0 (q := q ++ [1]) (k := pre.length + (3 * a.size + 3)) (post := post) hf.2.2.2
    simp only [wCell, nWalk] at g1 g2
    have g3 : ∀ (l r : Store), l.length = 3 * a.size → (l ++ r)[3 * a.size]? = r[0]? := fun l r h => by simp [← h]
    have i1 := rows_ok a m n (q ++ [0]) (pre ++ [wCell (.beh a b) q pre.length [.h (pre.length + 3), .h (pre.length + (3 * a.size + 3))], lstI e, lstI l]) (seg b (q ++ [1]) (pre.length + (3 * a.size + 3)) v ++ post) u (by omega) (by omega) hf.2.2.1
    have i2 := rows_ok b m n (q ++ [1]) (pre ++ wCell (.beh a b) q pre.length [.h (pre.length + 3), .h (pre.length + (3 * a.size + 3))] :: lstI e :: lstI l :: seg a (q ++ [0]) (pre.length + 3) u) post v (by omega) (by omega) hf.2.2.2
    have h1 := rowsH_len a (q ++ [0]) (pre.length + 3)
    have h2 := rowsH_len b (q ++ [1]) (pre.length + (3 * a.size + 3))
    have hl1 : 1 + (rowsH a (q ++ [0]) (pre.length + 3)).length ≤ 16777216 := by omega
    have hl2 : (rowsH a (q ++ [0]) (pre.length + 3)).length + 1 + (rowsH b (q ++ [1]) (pre.length + (3 * a.size + 3))).length ≤ 16777216 := by omega
    simp [seg, wCell, nWalk, lstI, Part.d] at i1
    simp [seg, wCell, nWalk, lstI, Part.d, su] at i2
    rw [show 3 * a.size + 1 + 1 + 1 = 3 * a.size + 3 from rfl] at i2
    simp [S_Walk_rows, b_Walk_rows, seg, wCell, nWalk, rowsH, rowH, lstI, Part.d, forL_cons, forL_nil, g1, g2, g3, su, i1, i2, hl1, hl2]
  | .both a b, m, n, q, pre, post, .nd e l [u, v], hm, hs, hf => by
    obtain ⟨m, rfl⟩ : ∃ k, m = k + 1 := ⟨m - 1, by omega⟩
    simp [Part.size] at hm hs
    have su := fun k => seg_len a (q ++ [0]) k _ _ hf.2.2.1
    have g1 := fun (post : Store) => seg_get0 (q := q ++ [0]) (k := pre.length + 3) (post := post) hf.2.2.1
    have g2 := fun (post : Store) => seg_get0 (q := q ++ [1]) (k := pre.length + (3 * a.size + 3)) (post := post) hf.2.2.2
    simp only [wCell, nWalk] at g1 g2
    have g3 : ∀ (l r : Store), l.length = 3 * a.size → (l ++ r)[3 * a.size]? = r[0]? := fun l r h => by simp [← h]
    have i1 := rows_ok a m n (q ++ [0]) (pre ++ [wCell (.both a b) q pre.length [.h (pre.length + 3), .h (pre.length + (3 * a.size + 3))], lstI e, lstI l]) (seg b (q ++ [1]) (pre.length + (3 * a.size + 3)) v ++ post) u (by omega) (by omega) hf.2.2.1
    have i2 := rows_ok b m n (q ++ [1]) (pre ++ wCell (.both a b) q pre.length [.h (pre.length + 3), .h (pre.length + (3 * a.size + 3))] :: lstI e :: lstI l :: seg a (q ++ [0]) (pre.length + 3) u) post v (by omega) (by omega) hf.2.2.2
    have h1 := rowsH_len a (q ++ [0]) (pre.length + 3)
    have h2 := rowsH_len b (q ++ [1]) (pre.length + (3 * a.size + 3))
    have hl1 : 1 + (rowsH a (q ++ [0]) (pre.length + 3)).length ≤ 16777216 := by omega
    have hl2 : (rowsH a (q ++ [0]) (pre.length + 3)).length + 1 + (rowsH b (q ++ [1]) (pre.length + (3 * a.size + 3))).length ≤ 16777216 := by omega
    simp [seg, wCell, nWalk, lstI, Part.d] at i1
    simp [seg, wCell, nWalk, lstI, Part.d, su] at i2
    rw [show 3 * a.size + 1 + 1 + 1 = 3 * a.size + 3 from rfl] at i2
    simp [S_Walk_rows, b_Walk_rows, seg, wCell, nWalk, rowsH, rowH, lstI, Part.d, forL_cons, forL_nil, g1, g2, g3, su, i1, i2, hl1, hl2]
end Q

/-! What walks of items do: bounds, the first item. -/
namespace Q
open PySem PySem.Spec L2 DY
/-- all that is kept is within bounds -/
def Bd (B : Int) : Part → W → Prop
  | .sec _ p, .nd c l [w] => (∀ x ∈ c, 0 ≤ x ∧ x ≤ B) ∧ (∀ x ∈ l, 0 ≤ x ∧ x ≤ B) ∧ Bd B p w
  | .beh a b, .nd c l [u, v] => (∀ x ∈ c, 0 ≤ x ∧ x ≤ B) ∧ (∀ x ∈ l, 0 ≤ x ∧ x ≤ B) ∧ Bd B a u ∧ Bd B b v
  | .both a b, .nd c l [u, v] => (∀ x ∈ c, 0 ≤ x ∧ x ≤ B) ∧ (∀ x ∈ l, 0 ≤ x ∧ x ≤ B) ∧ Bd B a u ∧ Bd B b v
  | _, .nd c l _ => (∀ x ∈ c, 0 ≤ x ∧ x ≤ B) ∧ ∀ x ∈ l, 0 ≤ x ∧ x ≤ B
theorem bd_up {B C : Int} (h : B ≤ C) {l : List Int} (q : ∀ x ∈ l, 0 ≤ x ∧ x ≤ B) : ∀ x ∈ l, 0 ≤ x ∧ x ≤ C := fun x m => ⟨(q x m).1, Int.le_trans (q x m).2 h⟩
theorem bd_app {C m : Int} (hm : 0 ≤ m ∧ m ≤ C) {l : List Int} (q : ∀ x ∈ l, 0 ≤ x ∧ x ≤ C) : ∀ x ∈ l ++ [m], 0 ≤ x ∧ x ≤ C := fun x h => by
  rcases List.mem_append.mp h with h | h
  · exact q x h
  · simp at h; subst h; exact hm
theorem Bd.mono {B C : Int} (h : B ≤ C) : ∀ {p : Part} {n : Nat} {w : W}, Fit p n w → Bd B p w → Bd C p w
  | .belt _, n, .nd c l [], _, q => ⟨bd_up h q.1, bd_up h q.2⟩
  | .gap _ _, n, .nd c l [], _, q => ⟨bd_up h q.1, bd_up h q.2⟩
  | .hold _ _, n, .nd c l [], _, q => ⟨bd_up h q.1, bd_up h q.2⟩
  | .sec _ p, n, .nd c l [w], f, q => ⟨bd_up h q.1, bd_up h q.2.1, Bd.mono h f.2.2 q.2.2⟩
  | .beh a b, n, .nd c l [u, v], f, q => ⟨bd_up h q.1, bd_up h q.2.1, Bd.mono h f.2.2.1 q.2.2.1, Bd.mono h f.2.2.2 q.2.2.2⟩
  | .both a b, n, .nd c l [u, v], f, q => ⟨bd_up h q.1, bd_up h q.2.1, Bd.mono h f.2.2.1 q.2.2.1, Bd.mono h f.2.2.2 q.2.2.2⟩
theorem ago_bd {l : List Int} {c t m B : Int} (hc : 1 ≤ c) (hl : ∀ x ∈ l, 0 ≤ x ∧ x ≤ B) (hm : 0 ≤ m ∧ m ≤ B) (ht : 0 ≤ t ∧ t ≤ 1000000000) : (0 ≤ ago l c t m ∧ ago l c t m ≤ B + t) ∧ m ≤ ago l c t m := by
  unfold ago
  by_cases h : c ≤ (l.length : Int)
  · rw [if_pos h]
    have hj : l.length - c.toNat < l.length := by omega
    have := hl _ (List.getElem_mem hj)
    have e : l.getD (l.length - c.toNat) 0 = l[l.length - c.toNat] := by simp [List.getD, hj]
    rw [e]; omega
  · rw [if_neg h]; omega
theorem go_bd : ∀ (p : Part) (n : Nat) (w : W) (m B : Int), Fit p n w → p.ok 12 → Bd B p w → 0 ≤ m ∧ m ≤ B → (m ≤ (go p w m).1 ∧ (go p w m).1 ≤ B + 1000000000 * p.size) ∧ Bd (B + 1000000000 * p.size) p (go p w m).2
  | .belt t, n, .nd c l [], m, B, f, o, q, h => by
    have ho : 0 ≤ t ∧ t ≤ 1000000000 := o
    simp only [go, Part.size]
    refine ⟨⟨by omega, by omega⟩, bd_app (by omega) (bd_up (by omega) q.1), bd_app (by omega) (bd_up (by omega) q.2)⟩
  | .gap k t, n, .nd c l [], m, B, f, o, q, h => by
    have a := ago_bd o.1.1 q.2 h o.2
    have ho := o.2
    simp only [go, Part.size]
    refine ⟨⟨by omega, by omega⟩, bd_app (by omega) (bd_up (by omega) q.1), bd_app (by omega) (bd_up (by omega) q.2)⟩
  | .hold k t, n, .nd c l [], m, B, f, o, q, h => by
    have a := ago_bd o.1.1 q.1 h o.2
    have ho := o.2
    simp only [go, Part.size]
    refine ⟨⟨by omega, by omega⟩, bd_app (by omega) (bd_up (by omega) q.1), bd_app (by omega) (bd_up (by omega) q.2)⟩
  | .sec k p, n, .nd c l [w], m, B, f, o, q, h => by
    have a := ago_bd (t := 0) o.1.1 q.2.1 h (by omega)
    have i := go_bd p n w (ago l k 0 m) B f.2.2 o.2 q.2.2 (by omega)
    have f2 := fit_go p n w (ago l k 0 m) f.2.2
    simp only [go, Part.size]
    refine ⟨⟨by omega, by omega⟩, bd_app (by omega) (bd_up (by omega) q.1), bd_app (by omega) (bd_up (by omega) q.2.1), Bd.mono (by omega) f2 i.2⟩
  | .beh a b, n, .nd c l [u, v], m, B, f, o, q, h => by
    have i := go_bd a n u m B f.2.2.1 o.1 q.2.2.1 h
    have j := go_bd b n v (go a u m).1 (B + 1000000000 * a.size) f.2.2.2 o.2 (Bd.mono (by omega) f.2.2.2 q.2.2.2) (by omega)
    have f1 := fit_go a n u m f.2.2.1
    have f2 := fit_go b n v (go a u m).1 f.2.2.2
    simp only [go, Part.size]
    refine ⟨⟨by omega, by omega⟩, bd_app (by omega) (bd_up (by omega) q.1), bd_app (by omega) (bd_up (by omega) q.2.1), Bd.mono (by omega) f1 i.2, Bd.mono (by omega) f2 j.2⟩
  | .both a b, n, .nd c l [u, v], m, B, f, o, q, h => by
    have i := go_bd a n u m B f.2.2.1 o.1 q.2.2.1 h
    have j := go_bd b n v m B f.2.2.2 o.2 q.2.2.2 h
    have f1 := fit_go a n u m f.2.2.1
    have f2 := fit_go b n v m f.2.2.2
    simp only [go, Part.size]
    refine ⟨⟨by omega, by omega⟩, bd_app (by omega) (bd_up (by omega) q.1), bd_app (by omega) (bd_up (by omega) q.2.1), Bd.mono (by omega) f1 i.2, Bd.mono (by omega) f2 j.2⟩
theorem bd0 (B : Int) : ∀ p : Part, Bd B p (W0 p)
  | .belt _ => ⟨by simp, by simp⟩
  | .gap _ _ => ⟨by simp, by simp⟩
  | .hold _ _ => ⟨by simp, by simp⟩
  | .sec _ p => ⟨by simp, by simp, bd0 B p⟩
  | .beh a b => ⟨by simp, by simp, bd0 B a, bd0 B b⟩
  | .both a b => ⟨by simp, by simp, bd0 B a, bd0 B b⟩
theorem outs_bd (p : Part) (ho : p.ok 12) : ∀ (ms : List Int) (n : Nat) (w : W) (B : Int), Fit p n w → Bd B p w → (∀ m ∈ ms, 0 ≤ m ∧ m ≤ B) → ∀ x ∈ outs p w ms, 0 ≤ x ∧ x ≤ B + 1000000000 * p.size * ms.length
  | [], _, _, _, _, _, _, x, hx => by simp [outs] at hx
  | m :: ms, n, w, B, f, b, hm, x, hx => by
    have i := go_bd p n w m B f ho b (hm m List.mem_cons_self)
    have m0 := hm m List.mem_cons_self
    simp only [outs, List.mem_cons] at hx
    have e : (1000000000 * (p.size : Int)) * ((m :: ms).length : Int) = 1000000000 * p.size + 1000000000 * p.size * (ms.length : Int) := by
      simp only [List.length_cons]; push_cast; rw [Int.mul_add]; omega
    have nn : 0 ≤ 1000000000 * (p.size : Int) * (ms.length : Int) := Int.mul_nonneg (by omega) (by omega)
    rw [e]
    rcases hx with rfl | hx
    · omega
    · have := outs_bd p ho ms (n + 1) _ (B + 1000000000 * p.size) (fit_go p n w m f) i.2 (fun y hy => by have := hm y (List.mem_cons_of_mem _ hy); omega) x hx
      omega
theorem leaves_bd {p : Part} (ho : p.ok 12) {ms : List Int} {B : Int} (hm : ∀ m ∈ ms, 0 ≤ m ∧ m ≤ B) : ∀ x ∈ leaves p ms, 0 ≤ x ∧ x ≤ B + 1000000000 * p.size * ms.length := by
  rw [leaves_eq]; exact outs_bd p ho ms 0 _ B (fit0 p) (bd0 B p) hm
end Q

/-! Walks compared: later items, moved items, parts behind one another. -/
namespace Q
open PySem PySem.Spec L2 DY
/-- from the end on, not later -/
def BackLe (l l' : List Int) : Prop := ∀ c : Nat, 1 ≤ c → c ≤ l.length → c ≤ l'.length ∧ l.getD (l.length - c) 0 ≤ l'.getD (l'.length - c) 0
theorem BackLe.nil (l : List Int) : BackLe [] l := fun c h1 h2 => by simp at h2; omega
def WLe : Part → W → W → Prop
  | .sec _ p, .nd c l [w], .nd c' l' [w'] => BackLe c c' ∧ BackLe l l' ∧ WLe p w w'
  | .beh a b, .nd c l [u, v], .nd c' l' [u', v'] => BackLe c c' ∧ BackLe l l' ∧ WLe a u u' ∧ WLe b v v'
  | .both a b, .nd c l [u, v], .nd c' l' [u', v'] => BackLe c c' ∧ BackLe l l' ∧ WLe a u u' ∧ WLe b v v'
  | .belt _, .nd c l [], .nd c' l' [] => BackLe c c' ∧ BackLe l l'
  | .gap _ _, .nd c l [], .nd c' l' [] => BackLe c c' ∧ BackLe l l'
  | .hold _ _, .nd c l [], .nd c' l' [] => BackLe c c' ∧ BackLe l l'
  | _, _, _ => False
theorem WLe.zero : ∀ (p : Part) (n : Nat) (w : W), Fit p n w → WLe p (W0 p) w
  | .belt _, n, .nd e l [], h => ⟨.nil _, .nil _⟩
  | .gap _ _, n, .nd e l [], h => ⟨.nil _, .nil _⟩
  | .hold _ _, n, .nd e l [], h => ⟨.nil _, .nil _⟩
  | .sec c p, n, .nd e l [w], h => ⟨.nil _, .nil _, WLe.zero p n w h.2.2⟩
  | .beh a b, n, .nd e l [u, v], h => ⟨.nil _, .nil _, WLe.zero a n u h.2.2.1, WLe.zero b n v h.2.2.2⟩
  | .both a b, n, .nd e l [u, v], h => ⟨.nil _, .nil _, WLe.zero a n u h.2.2.1, WLe.zero b n v h.2.2.2⟩
/-! ### moved -/
def WSh (d : Int) : Part → W → W → Prop
  | .sec _ p, .nd c l [w], .nd c' l' [w'] => c' = c.map (· + d) ∧ l' = l.map (· + d) ∧ WSh d p w w'
  | .beh a b, .nd c l [u, v], .nd c' l' [u', v'] => c' = c.map (· + d) ∧ l' = l.map (· + d) ∧ WSh d a u u' ∧ WSh d b v v'
  | .both a b, .nd c l [u, v], .nd c' l' [u', v'] => c' = c.map (· + d) ∧ l' = l.map (· + d) ∧ WSh d a u u' ∧ WSh d b v v'
  | .belt _, .nd c l [], .nd c' l' [] => c' = c.map (· + d) ∧ l' = l.map (· + d)
  | .gap _ _, .nd c l [], .nd c' l' [] => c' = c.map (· + d) ∧ l' = l.map (· + d)
  | .hold _ _, .nd c l [], .nd c' l' [] => c' = c.map (· + d) ∧ l' = l.map (· + d)
  | _, _, _ => False
theorem WSh.zero (d : Int) : ∀ p : Part, WSh d p (W0 p) (W0 p)
  | .belt _ => ⟨rfl, rfl⟩
  | .gap _ _ => ⟨rfl, rfl⟩
  | .hold _ _ => ⟨rfl, rfl⟩
  | .sec _ p => ⟨rfl, rfl, WSh.zero d p⟩
  | .beh a b => ⟨rfl, rfl, WSh.zero d a, WSh.zero d b⟩
  | .both a b => ⟨rfl, rfl, WSh.zero d a, WSh.zero d b⟩
/-! ### two lines -/
end Q

/-! What comes to the inner parts: plain Lean. -/
namespace Q
open PySem PySem.Spec L2 DY
theorem goes_came {p : Part} : ∀ (ms : List Int) (n : Nat) (w : W), Fit p n w → (goes p w ms).came = w.came ++ ms
  | [], _, w, _ => by simp [goes]
  | m :: ms, n, w, h => by
    simp only [goes]
    rw [goes_came ms (n + 1) _ (fit_go p n w m h), (go_left h).2]
    simp
end Q

/-! walked: the rows as a dict. -/
namespace Q
open PySem PySem.Spec L2 DY
/-! ### frozen -/
theorem frzGL_app {n0 : Nat} {dr : Nat → Option D} : ∀ {xs ys as bs : List D}, frzGL n0 dr xs = some as → frzGL n0 dr ys = some bs → frzGL n0 dr (xs ++ ys) = some (as ++ bs)
  | [], ys, as, bs, h1, h2 => by simp [frzGL] at h1; subst h1; simpa using h2
  | x :: xs, ys, as, bs, h1, h2 => by
    simp only [frzGL] at h1
    split at h1
    · rename_i e es e1 e2
      cases h1
      have := frzGL_app e2 h2
      simp [frzGL, e1, this]
    · cases h1
theorem frz_row {n0 k : Nat} {dr : Nat → Option D} {q e l : List Int} (hk : n0 ≤ k) (h1 : dr (k + 1) = some (lstI e)) (h2 : dr (k + 2) = some (lstI l)) : frzG n0 dr (rowH q k) = some (rowD' (q, e, l)) := by
  have a1 : ¬ k + 1 < n0 := by omega
  have a2 : ¬ k + 2 < n0 := by omega
  have a3 : frzG n0 dr (tupI q) = some (tupI q) := frzG_noH _ (by simp)
  simp [rowH, frzG, frzGL, a1, a2, h1, h2, a3, rowD']
theorem frz_rows {n0 : Nat} {dr : Nat → Option D} : ∀ (p : Part) (n : Nat) (q : List Int) (k : Nat) (w : W), Fit p n w → n0 ≤ k → (∀ j is, (seg p q k w)[j]? = some (lstI is) → dr (k + j) = some (lstI is)) → frzGL n0 dr (rowsH p q k) = some ((rowsW p q w).map rowD')
  | .belt _, n, q, k, .nd e l [], h, hk, hd => by simp [rowsH, rowsW, frzGL, frz_row hk (hd 1 e rfl) (hd 2 l rfl)]
  | .gap _ _, n, q, k, .nd e l [], h, hk, hd => by simp [rowsH, rowsW, frzGL, frz_row hk (hd 1 e rfl) (hd 2 l rfl)]
  | .hold _ _, n, q, k, .nd e l [], h, hk, hd => by simp [rowsH, rowsW, frzGL, frz_row hk (hd 1 e rfl) (hd 2 l rfl)]
  | .sec c p, n, q, k, .nd e l [w], h, hk, hd => by
    have ih := frz_rows (n0 := n0) p n (q ++ [0]) (k + 3) w h.2.2 (by omega) (fun j is hj => by
      have := hd (j + 3) is hj
      rwa [show k + (j + 3) = k + 3 + j by omega] at this)
    simp [rowsH, rowsW, frzGL, frz_row hk (hd 1 e rfl) (hd 2 l rfl), ih]
  | .beh a b, n, q, k, .nd e l [u, v], h, hk, hd => by
    have sl := seg_len a (q ++ [0]) (k + 3) _ _ h.2.2.1
    have i1 := frz_rows (n0 := n0) a n (q ++ [0]) (k + 3) u h.2.2.1 (by omega) (fun j is hj => by
      have lj := (List.getElem?_eq_some_iff.mp hj).1
      have := hd (j + 3) is (show (seg a (q ++ [0]) (k + 3) u ++ _)[j]? = _ by rw [List.getElem?_append_left lj]; exact hj)
      rwa [show k + (j + 3) = k + 3 + j by omega] at this)
    have i2 := frz_rows (n0 := n0) b n (q ++ [1]) (k + (3 * a.size + 3)) v h.2.2.2 (by omega) (fun j is hj => by
      have := hd (3 * a.size + j + 3) is (show (seg a (q ++ [0]) (k + 3) u ++ _)[3 * a.size + j]? = _ by rw [List.getElem?_append_right (by rw [sl]; omega), sl, Nat.add_sub_cancel_left]; exact hj)
      rwa [show k + (3 * a.size + j + 3) = k + (3 * a.size + 3) + j by omega] at this)
    simp [rowsH, rowsW, frzGL, frz_row hk (hd 1 e rfl) (hd 2 l rfl), frzGL_app i1 i2]
  | .both a b, n, q, k, .nd e l [u, v], h, hk, hd => by
    have sl := seg_len a (q ++ [0]) (k + 3) _ _ h.2.2.1
    have i1 := frz_rows (n0 := n0) a n (q ++ [0]) (k + 3) u h.2.2.1 (by omega) (fun j is hj => by
      have lj := (List.getElem?_eq_some_iff.mp hj).1
      have := hd (j + 3) is (show (seg a (q ++ [0]) (k + 3) u ++ _)[j]? = _ by rw [List.getElem?_append_left lj]; exact hj)
      rwa [show k + (j + 3) = k + 3 + j by omega] at this)
    have i2 := frz_rows (n0 := n0) b n (q ++ [1]) (k + (3 * a.size + 3)) v h.2.2.2 (by omega) (fun j is hj => by
      have := hd (3 * a.size + j + 3) is (show (seg a (q ++ [0]) (k + 3) u ++ _)[3 * a.size + j]? = _ by rw [List.getElem?_append_right (by rw [sl]; omega), sl, Nat.add_sub_cancel_left]; exact hj)
      rwa [show k + (3 * a.size + j + 3) = k + (3 * a.size + 3) + j by omega] at this)
    simp [rowsH, rowsW, frzGL, frz_row hk (hd 1 e rfl) (hd 2 l rfl), frzGL_app i1 i2]
/-! ### rising paths -/
theorem lexB_pre : ∀ (q a b : List Int), lexB (q ++ a) (q ++ b) = lexB a b
  | [], _, _ => rfl
  | x :: q, a, b => by simp [lexB, lexB_pre q a b]
theorem lexB_irr : ∀ a : List Int, lexB a a = false
  | [] => rfl
  | x :: a => by simp [lexB, lexB_irr a]
theorem path_pre : ∀ (p : Part) (q x : List Int), x ∈ p.paths q → ∃ s, x = q ++ s
  | .belt _, q, x, h => ⟨[], by simpa [Part.paths] using h⟩
  | .gap _ _, q, x, h => ⟨[], by simpa [Part.paths] using h⟩
  | .hold _ _, q, x, h => ⟨[], by simpa [Part.paths] using h⟩
  | .sec _ p, q, x, h => by
    simp only [Part.paths, List.mem_cons] at h
    rcases h with rfl | h
    · exact ⟨[], by simp⟩
    · obtain ⟨s, rfl⟩ := path_pre p _ x h; exact ⟨0 :: s, by simp⟩
  | .beh a b, q, x, h => by
    simp only [Part.paths, List.mem_cons, List.mem_append] at h
    rcases h with rfl | h | h
    · exact ⟨[], by simp⟩
    · obtain ⟨s, rfl⟩ := path_pre a _ x h; exact ⟨0 :: s, by simp⟩
    · obtain ⟨s, rfl⟩ := path_pre b _ x h; exact ⟨1 :: s, by simp⟩
  | .both a b, q, x, h => by
    simp only [Part.paths, List.mem_cons, List.mem_append] at h
    rcases h with rfl | h | h
    · exact ⟨[], by simp⟩
    · obtain ⟨s, rfl⟩ := path_pre a _ x h; exact ⟨0 :: s, by simp⟩
    · obtain ⟨s, rfl⟩ := path_pre b _ x h; exact ⟨1 :: s, by simp⟩
theorem lexB_more (q s : List Int) (x : Int) : lexB q (q ++ x :: s) = true := by
  have := lexB_pre q [] (x :: s)
  rw [List.append_nil] at this
  rw [this]; rfl
theorem paths_two (a b : Part) (q : List Int) (ha : (a.paths (q ++ [0])).Pairwise fun x y => lexB x y = true) (hb : (b.paths (q ++ [1])).Pairwise fun x y => lexB x y = true) :
    (q :: (a.paths (q ++ [0]) ++ b.paths (q ++ [1]))).Pairwise fun x y => lexB x y = true := by
  refine List.pairwise_cons.mpr ⟨fun y hy => ?_, List.pairwise_append.mpr ⟨ha, hb, fun x hx y hy => ?_⟩⟩
  · rcases List.mem_append.mp hy with h | h
    · obtain ⟨s, rfl⟩ := path_pre a _ y h; simpa using lexB_more q s 0
    · obtain ⟨s, rfl⟩ := path_pre b _ y h; simpa using lexB_more q s 1
  · obtain ⟨s, rfl⟩ := path_pre a _ x hx
    obtain ⟨t, rfl⟩ := path_pre b _ y hy
    rw [List.append_assoc, List.append_assoc, lexB_pre]; rfl
theorem paths_rise : ∀ (p : Part) (q : List Int), (p.paths q).Pairwise fun x y => lexB x y = true
  | .belt _, q => by simp [Part.paths]
  | .gap _ _, q => by simp [Part.paths]
  | .hold _ _, q => by simp [Part.paths]
  | .sec _ p, q => by
    refine List.pairwise_cons.mpr ⟨fun y hy => ?_, paths_rise p _⟩
    obtain ⟨s, rfl⟩ := path_pre p _ y hy; simpa using lexB_more q s 0
  | .beh a b, q => paths_two a b q (paths_rise a _) (paths_rise b _)
  | .both a b, q => paths_two a b q (paths_rise a _) (paths_rise b _)
/-! ### sorted already -/
def rowP (r : Row) : PyData := .tuple [.tuple (r.1.map .int), .tuple [.list (r.2.1.map .int), .list (r.2.2.map .int)]]
theorem row_toP (st : Store) (r : Row) : toP deepP st (rowD' r) = some (rowP r) := by
  show toPg _ _ = _
  simp [rowD', tupI, lstI, toPg, toPgL, toPg_ints, rowP]
theorem row_enc (st : Store) (r : Row) : encD st (rowD' r) = rowP r := by unfold encD; rw [row_toP]; rfl
theorem row_alike (a b : Row) : PySem.W.alike (rowP a) (rowP b) = true := by
  simp [rowP, PySem.W.alike, PySem.W.alikeAll, PySem.W.alike_ints]
open PyProof.Rows in
theorem toks_rise : ∀ {p q : List Int}, lexB p q = true → ∀ l m : List (Int ⊕ List Nat), PyProof.Rows.lexLt itemOrd (PySem.W.keyToksAll (q.map .int) ++ l) (PySem.W.keyToksAll (p.map .int) ++ m) = false
  | [], [], h, _, _ => by cases h
  | [], y :: q, _, l, m => by
    rw [List.map_cons, List.map_nil, PySem.W.toks_all_cons]
    simp only [PySem.W.keyToksAll, List.cons_append]
    rw [lex_diff (O := itemOrd) (by simp)]; rfl
  | _ :: _, [], h, _, _ => by cases h
  | x :: p, y :: q, h, l, m => by
    simp only [lexB, Bool.or_eq_true, decide_eq_true_eq, Bool.and_eq_true] at h
    rw [List.map_cons, List.map_cons, PySem.W.toks_all_cons, PySem.W.toks_all_cons]
    simp only [PySem.W.keyToks, List.cons_append, List.nil_append]
    rw [lex_self (O := itemOrd)]
    rcases h with h | ⟨rfl, h⟩
    · rw [lex_diff (O := itemOrd) (by simp; omega)]
      show decide (y < x) = false
      simp; omega
    · rw [lex_self (O := itemOrd)]
      exact toks_rise h l m
theorem row_le {st : Store} {a b : Row} (h : lexB a.1 b.1 = true) : PySem.W.dataLe false (encD st) (rowD' a) (rowD' b) = true := by
  show (!PyProof.Rows.lexLt PyProof.Rows.itemOrd (PySem.W.keyToks (encD st (rowD' b))) (PySem.W.keyToks (encD st (rowD' a)))) = true
  rw [row_enc, row_enc]
  simp only [rowP, PySem.W.keyToks]
  rw [PySem.W.toks_all_cons (.tuple (b.1.map .int)), PySem.W.toks_all_cons (.tuple (a.1.map .int)), PyProof.Rows.lex_self (O := PyProof.Rows.itemOrd)]
  simp only [PySem.W.keyToks]
  rw [toks_rise h]; rfl
theorem rows_sorted {st : Store} {p : Part} {n : Nat} {w : W} (hf : Fit p n w) : sortOk st ((rowsW p [] w).map rowD') ∧ sortD st ((rowsW p [] w).map rowD') = (rowsW p [] w).map rowD' := by
  have em : ((rowsW p [] w).map rowD').map (encD st) = (rowsW p [] w).map rowP := by
    rw [List.map_map]; exact List.map_congr_left fun r _ => row_enc st r
  refine ⟨⟨fun d hd => ?_, ?_, ?_⟩, List.mergeSort_of_pairwise ?_⟩
  · obtain ⟨r, _, rfl⟩ := List.mem_map.mp hd
    refine ⟨⟨_, row_toP st r⟩, ?_⟩
    rw [row_enc]
    simp [rowP, PyData.depth, PyData.depthAll, PySem.W.depth_ints]
  · rw [em]; exact PySem.W.AllAlike.of row_alike
  · rw [em]; exact PySem.W.Sortable.tuples fun r => ⟨_, _, rfl⟩
  · have h := paths_rise p []
    rw [← rows_paths p n [] w hf, List.pairwise_map] at h
    rw [List.pairwise_map]
    exact h.imp fun h => row_le h
def rowV (r : Row) : D := .nd .tup [lstI r.2.1, lstI r.2.2]
def kInl (q : List Int) : List Key := q.map Sum.inl
theorem kInl_inj {a b : List Int} (h : kInl a = kInl b) : a = b := by
  unfold kInl at h
  exact List.map_inj_right (f := fun i : Int => (Sum.inl i : Key)) (by intro x y e; cases e; rfl) |>.mp h
theorem keys_ints : ∀ q : List Int, keys? (q.map D.int) = some (kInl q)
  | [] => rfl
  | x :: q => by simp [keys?, key?, keys_ints q, kInl]
def walkedD (p : Part) (ms : List Int) : D := .nd (.dt ((rowsW p [] (goes p (W0 p) ms)).map fun r => kInl r.1)) ((rowsW p [] (goes p (W0 p) ms)).map rowV)
theorem walked_of (n : Nat) (p : Part) {x : D} {ms : List Int} {st : Store} (ho : p.ok 12) (hs : p.size ≤ 12) (w : sem (n + 30) f_walk_of [p.line, x] st = .ok (.h st.length) (st ++ seg p [] st.length (goes p (W0 p) ms))) :
    sem (n + 31) f_walked [p.line, x] st = .ok (walkedD p ms) st := by
  have hf := fit_goes p ms 0 (W0 p) (fit0 p)
  have g0' := seg_get0 (q := []) (k := st.length) (post := []) hf
  simp [wCell, nWalk] at g0'
  have rw1 := rows_ok p (n + 30) _ [] st [] (goes p (W0 p) ms) (by omega) (by omega) hf
  simp at rw1
  have fz : frzR st (.ok (.nd .lst (rowsH p [] st.length)) (st ++ seg p [] st.length (goes p (W0 p) ms))) = .ok (.nd .lst ((rowsW p [] (goes p (W0 p) ms)).map rowD')) st := frzR_of (by
    show frzG _ _ _ = _
    simp only [frzG]
    rw [frz_rows p _ [] st.length _ hf (Nat.le_refl _) (fun j is hj => by
      have : (st ++ seg p [] st.length (goes p (W0 p) ms))[st.length + j]? = some (lstI is) := by rw [get_end]; exact hj
      rw [this]
      exact frz_noH (by simp))])
  obtain ⟨so, sd⟩ := rows_sorted (st := st) hf
  have ds : dSorted [.nd .lst ((rowsW p [] (goes p (W0 p) ms)).map rowD')] st = .ok (.nd .lst ((rowsW p [] (goes p (W0 p) ms)).map rowD')) st := by
    unfold dSorted
    simp only [lst_ev, seen_nd, lstC_lst]
    rw [if_pos so, sd]
  have nd : ((rowsW p [] (goes p (W0 p) ms)).map fun r => kInl r.1).Nodup := by
    have h := paths_rise p []
    rw [← rows_paths p _ [] _ hf, List.pairwise_map] at h
    rw [List.Nodup, List.pairwise_map]
    exact h.imp fun {a b} h e => by rw [kInl_inj e, lexB_irr] at h; cases h
  have ln : (rowsW p [] (goes p (W0 p) ms)).length ≤ 16777216 := by
    have := congrArg List.length (rows_paths p _ [] _ hf)
    rw [List.length_map, Part.paths_len] at this
    omega
  rw [S_walked]
  simp [b_walked, w, g0', rw1, fz, ds]
  generalize hy : dcL _ _ _ _ _ _ _ _ _ _ = y
  obtain rfl := dcL_map hy (fun r => kInl r.1) (fun r => tupI r.1) rowV (by simp) nd ln (fun r hr => by
    refine ⟨?_, ?_⟩
    · simp [rowD', rowV]
    · simp [tupI, tkey?, keys_ints])
  simp [walkedD]
theorem walked_ok (n : Nat) (p : Part) {x : D} {ms : List Int} {st : Store} (hx : Stay st x (ms.map D.int)) (ho : p.ok 12) (hs : p.size ≤ 12) (hm : ms.length < 1000) (g : Asc ms) :
    sem (n + 31) f_walked [p.line, x] st = .ok (walkedD p ms) st := walked_of n p ho hs (walk_of_ok n p hx ho hs hm g)
theorem rows_head {p : Part} {n : Nat} {q : List Int} {w : W} (h : Fit p n w) : ∃ rs, rowsW p q w = (q, w.came, w.left) :: rs := by
  cases p <;> obtain ⟨c, l, s⟩ := w <;> rcases s with _ | ⟨u, _ | ⟨v, _ | ⟨x, s⟩⟩⟩ <;> simp [Fit] at h <;> exact ⟨_, rfl⟩
/-- the whole line's own row -/
theorem walked_at (p : Part) (ms : List Int) (st : Store) (hint : Nat) : dGet hint (walkedD p ms) (.nd .tup []) st = .ok (.nd .tup [lstI ms, lstI (leaves p ms)]) st := by
  have hf := fit_goes p ms 0 (W0 p) (fit0 p)
  obtain ⟨rs, e⟩ := rows_head (q := []) hf
  have c := goes_came ms 0 (W0 p) (fit0 p)
  rw [(W0_left p).2] at c
  have hn : ((rowsW p [] (goes p (W0 p) ms)).map fun r => kInl r.1)[0]? = some [] := by rw [e]; rfl
  have hi : ∃ i, kAt hint ((rowsW p [] (goes p (W0 p) ms)).map fun r => kInl r.1) [] = some i ∧ i = 0 := by
    have z : kIx ((rowsW p [] (goes p (W0 p) ms)).map fun r => kInl r.1) [] = some 0 := by rw [e]; rfl
    unfold kAt
    split
    · rename_i h
      refine ⟨hint, rfl, ?_⟩
      have nd : ((rowsW p [] (goes p (W0 p) ms)).map fun r => kInl r.1).Nodup := by
        have h := paths_rise p []
        rw [← rows_paths p _ [] _ hf, List.pairwise_map] at h
        rw [List.Nodup, List.pairwise_map]
        exact h.imp fun {a b} h e => by rw [kInl_inj e, lexB_irr] at h; cases h
      obtain ⟨l1, e1⟩ := List.getElem?_eq_some_iff.mp h
      obtain ⟨l2, e2⟩ := List.getElem?_eq_some_iff.mp hn
      exact (List.getElem_inj nd).mp (by rw [e1, e2])
    · exact ⟨0, z, rfl⟩
  obtain ⟨_, hi, rfl⟩ := hi
  refine dGet_dt (i := 0) rfl rfl hi ?_
  rw [e]
  simp [rowV, c]; rfl
end Q

/-! Walks of items, as the laws keep them. -/
namespace Q
open PySem PySem.Spec L2 DY
theorem law_inner_ok (n : Nat) (p : Part) (st : Store) : sem (n + 1) f__law_inner [p.d] st = .ok (.nd .lst (p.inner.map Part.d)) st := by
  rw [S__law_inner]
  have inn : ∀ k : String, dIn (.str (Str.ofString k)) (.nd .tup [.str (Str.ofString "behind"), .str (Str.ofString "both")]) st = .ok (.bl (decide (k = "behind") || decide (k = "both"))) st := fun k => by
    rw [dIn_flat (v := V.str (Str.ofString k)) (vs := [V.str (Str.ofString "behind"), V.str (Str.ofString "both")]) rfl (by simp [fvs, DY.fv]) (by intro a h; cases h)]
    have e : ∀ a b : String, (Str.ofString a == Str.ofString b) = decide (b = a) := fun a b => by
      by_cases h : a = b
      · subst h; simp
      · simp [h, Ne.symm h]
    simp [inV, eqV, e]
  cases p <;> simp [b__law_inner, Part.d, Part.inner, inn]
def kWalk : List Key := [.inr (Str.ofString "told"), .inr (Str.ofString "came"), .inr (Str.ofString "left"), .inr (Str.ofString "inner")]
/-- the cells, in the order in which they are made -/
def lseg : Part → W → Store
  | .sec _ p, .nd e l [w] => lseg p w ++ [lstI e, lstI l]
  | .beh a b, .nd e l [u, v] => lseg a u ++ (lseg b v ++ [lstI e, lstI l])
  | .both a b, .nd e l [u, v] => lseg a u ++ (lseg b v ++ [lstI e, lstI l])
  | _, .nd e l _ => [lstI e, lstI l]
def lwk (p : Part) (k : Nat) (xs : List D) : D := .nd (.dk kWalk) [p.d, .h k, .h (k + 1), .nd .lst xs]
def ldict : Part → Nat → D
  | .sec c p, k => lwk (.sec c p) (k + 2 * p.size) [ldict p k]
  | .beh a b, k => lwk (.beh a b) (k + (2 * a.size + 2 * b.size)) [ldict a k, ldict b (k + 2 * a.size)]
  | .both a b, k => lwk (.both a b) (k + (2 * a.size + 2 * b.size)) [ldict a k, ldict b (k + 2 * a.size)]
  | p, k => lwk p k []
theorem lseg_len : ∀ (p : Part) (n : Nat) (w : W), Fit p n w → (lseg p w).length = 2 * p.size
  | .belt _, n, .nd e l [], h => rfl
  | .gap _ _, n, .nd e l [], h => rfl
  | .hold _ _, n, .nd e l [], h => rfl
  | .sec c p, n, .nd e l [w], h => by simp [lseg, Part.size, lseg_len p n w h.2.2]; omega
  | .beh a b, n, .nd e l [u, v], h => by simp [lseg, Part.size, lseg_len a n u h.2.2.1, lseg_len b n v h.2.2.2]; omega
  | .both a b, n, .nd e l [u, v], h => by simp [lseg, Part.size, lseg_len a n u h.2.2.1, lseg_len b n v h.2.2.2]; omega
theorem law_walk_ok : ∀ (p : Part) (m : Nat) (st : Store), p.size + 1 ≤ m → sem m f__law_walk [p.d] st = .ok (ldict p st.length) (st ++ lseg p (W0 p))
  | .belt t, m, st, hm => by
    obtain ⟨m, rfl⟩ : ∃ k, m = k + 2 := ⟨m - 2, by simp [Part.size] at hm; omega⟩
    simp [S__law_walk, b__law_walk, law_inner_ok, Part.inner, compL_nil, W0, lseg, ldict, lwk, kWalk, lstI, dDict1, keys?, key?]
  | .gap _ t, m, st, hm => by
    obtain ⟨m, rfl⟩ : ∃ k, m = k + 2 := ⟨m - 2, by simp [Part.size] at hm; omega⟩
    simp [S__law_walk, b__law_walk, law_inner_ok, Part.inner, compL_nil, W0, lseg, ldict, lwk, kWalk, lstI, dDict1, keys?, key?]
  | .hold _ t, m, st, hm => by
    obtain ⟨m, rfl⟩ : ∃ k, m = k + 2 := ⟨m - 2, by simp [Part.size] at hm; omega⟩
    simp [S__law_walk, b__law_walk, law_inner_ok, Part.inner, compL_nil, W0, lseg, ldict, lwk, kWalk, lstI, dDict1, keys?, key?]
  | .sec c p, m, st, hm => by
    obtain ⟨m, rfl⟩ : ∃ k, m = k + 2 := ⟨m - 2, by simp [Part.size] at hm; omega⟩
    simp [Part.size] at hm
    have e := fun st => law_walk_ok p (m + 1) st (by omega)
    have l := lseg_len p 0 (W0 p) (fit0 p)
    simp [S__law_walk, b__law_walk, law_inner_ok, Part.inner, compL_nil, compL_cons, W0, lseg, ldict, lwk, kWalk, lstI, dDict1, keys?, key?, e, l, Nat.add_assoc]
  | .beh a b, m, st, hm => by
    obtain ⟨m, rfl⟩ : ∃ k, m = k + 2 := ⟨m - 2, by simp [Part.size] at hm; omega⟩
    simp [Part.size] at hm
    have e1 := fun st => law_walk_ok a (m + 1) st (by omega)
    have e2 := fun st => law_walk_ok b (m + 1) st (by omega)
    have l1 := lseg_len a 0 (W0 a) (fit0 a)
    have l2 := lseg_len b 0 (W0 b) (fit0 b)
    simp [S__law_walk, b__law_walk, law_inner_ok, Part.inner, compL_nil, compL_cons, W0, lseg, ldict, lwk, kWalk, lstI, dDict1, keys?, key?, e1, e2, l1, l2, Nat.add_assoc]
  | .both a b, m, st, hm => by
    obtain ⟨m, rfl⟩ : ∃ k, m = k + 2 := ⟨m - 2, by simp [Part.size] at hm; omega⟩
    simp [Part.size] at hm
    have e1 := fun st => law_walk_ok a (m + 1) st (by omega)
    have e2 := fun st => law_walk_ok b (m + 1) st (by omega)
    have l1 := lseg_len a 0 (W0 a) (fit0 a)
    have l2 := lseg_len b 0 (W0 b) (fit0 b)
    simp [S__law_walk, b__law_walk, law_inner_ok, Part.inner, compL_nil, compL_cons, W0, lseg, ldict, lwk, kWalk, lstI, dDict1, keys?, key?, e1, e2, l1, l2, Nat.add_assoc]
theorem law_behind_ok (n : Nat) {l : D} {L : List Int} {c m t : Int} {st : Store} (hl : seen st l = some (.lst, L.map D.int)) (hc : 1 ≤ c) :
    sem (n + 1) f__law_behind [.int m, l, .int c, .int t] st = .ok (.int (ago L c t m)) st := by
  rw [S__law_behind]
  have len : dLen [l] st = .ok (.int L.length) st := by
    cases l <;> simp at hl
    · simp [hl]
    · obtain ⟨rfl, rfl⟩ := hl; simp
  have ix : c ≤ (L.length : Int) → dIx l (.int (-c)) st = .ok (.int (L.getD (L.length - c.toNat) 0)) st := fun h => by
    have hj : L.length - c.toNat < L.length := by omega
    have e : atI (L.map D.int) (-c) = some (.int (L.getD (L.length - c.toNat) 0)) := by
      rw [atI_neg hc (by simpa using h)]
      simp [hj, List.getD]
    cases l <;> simp at hl
    · simp [hl, e]
    · obtain ⟨rfl, rfl⟩ := hl; simp [e]
  by_cases h : c ≤ (L.length : Int)
  · simp [b__law_behind, len, h, ix h, ago]
  · simp [b__law_behind, len, h, ago]
theorem law_go_ok : ∀ (p : Part) (m n : Nat) (pre post : Store) (w : W) (t : Int), p.size + 2 ≤ m → p.ok 12 → Fit p n w → n < 100000 →
    sem m f__law_go [ldict p pre.length, .int t] (pre ++ (lseg p w ++ post)) = .ok (.int (go p w t).1) (pre ++ (lseg p (go p w t).2 ++ post))
  | .belt b, m, n, pre, post, .nd e l [], t, hm, ho, hf, hn => by
    obtain ⟨m, rfl⟩ : ∃ k, m = k + 3 := ⟨m - 3, by simp [Part.size] at hm; omega⟩
    have l1 : e.length < 100000 := by have := hf.1; omega
    have l2 : l.length < 100000 := by have := hf.2; omega
    have z1 : e.length < 16777216 := by omega
    have z2 : l.length < 16777216 := by omega
    simp [S__law_go, b__law_go, ldict, lwk, kWalk, lseg, go, Part.d, lstI, z1, z2]
  | .gap c b, m, n, pre, post, .nd e l [], t, hm, ho, hf, hn => by
    obtain ⟨m, rfl⟩ : ∃ k, m = k + 3 := ⟨m - 3, by simp [Part.size] at hm; omega⟩
    have l1 : e.length < 100000 := by have := hf.1; omega
    have l2 : l.length < 100000 := by have := hf.2; omega
    have z1 : e.length < 16777216 := by omega
    have z2 : l.length < 16777216 := by omega
    have e1 := fun st h => law_behind_ok (m + 1) (l := .h (pre.length + 1)) (L := l) (c := c) (m := t) (t := b) (st := st) h ho.1.1
    simp [S__law_go, b__law_go, ldict, lwk, kWalk, lseg, go, Part.d, lstI, z1, z2, e1]
  | .hold c b, m, n, pre, post, .nd e l [], t, hm, ho, hf, hn => by
    obtain ⟨m, rfl⟩ : ∃ k, m = k + 3 := ⟨m - 3, by simp [Part.size] at hm; omega⟩
    have l1 : e.length < 100000 := by have := hf.1; omega
    have l2 : l.length < 100000 := by have := hf.2; omega
    have z1 : e.length < 16777216 := by omega
    have z2 : l.length < 16777216 := by omega
    have e1 := fun st h => law_behind_ok (m + 1) (l := .h pre.length) (L := e) (c := c) (m := t) (t := b) (st := st) h ho.1.1
    simp [S__law_go, b__law_go, ldict, lwk, kWalk, lseg, go, Part.d, lstI, z1, z2, e1]
  | .sec c p, m, n, pre, post, .nd e l [w], t, hm, ho, hf, hn => by
    obtain ⟨m, rfl⟩ : ∃ k, m = k + 3 := ⟨m - 3, by simp [Part.size] at hm; omega⟩
    simp [Part.size] at hm
    have l1 : e.length < 100000 := by have := hf.1; omega
    have l2 : l.length < 100000 := by have := hf.2.1; omega
    have z1 : e.length < 16777216 := by omega
    have z2 : l.length < 16777216 := by omega
    have e1 := fun st h => law_behind_ok (m + 1) (l := .h (pre.length + 2 * p.size + 1)) (L := l) (c := c) (m := t) (t := 0) (st := st) h ho.1.1
    have sl := lseg_len p n w hf.2.2
    have sl2 := lseg_len p (n + 1) _ (fit_go p n w (ago l c 0 t) hf.2.2)
    have g3 : ∀ (l r : Store), l.length = 2 * p.size → ∀ j, (pre ++ (l ++ r))[pre.length + 2 * p.size + j]? = r[j]? := fun l r h j => by rw [← h, Nat.add_assoc]; simp
    have g4 : ∀ (l r : Store), l.length = 2 * p.size → ∀ j x, (pre ++ (l ++ r)).set (pre.length + 2 * p.size + j) x = pre ++ (l ++ r.set j x) := fun l r h j x => by rw [← h, Nat.add_assoc]; simp
    have g5 : ∀ (l r : Store), l.length = 2 * p.size → (pre ++ (l ++ r))[pre.length + 2 * p.size]? = r[0]? := fun l r h => g3 l r h 0
    have g6 : ∀ (l r : Store), l.length = 2 * p.size → ∀ x, (pre ++ (l ++ r)).set (pre.length + 2 * p.size) x = pre ++ (l ++ r.set 0 x) := fun l r h x => g4 l r h 0 x
    have ih := law_go_ok p (m + 2) n pre ([lstI e, lstI l] ++ post) w (ago l c 0 t) (by omega) ho.2 hf.2.2 hn
    simp [lstI] at ih
    simp [S__law_go, b__law_go, ldict, lwk, kWalk, lseg, go, Part.d, lstI, z1, z2, e1, ih, g3, g4, g5, g6, sl, sl2]
  | .beh a b, m, n, pre, post, .nd e l [u, v], t, hm, ho, hf, hn => by
    obtain ⟨m, rfl⟩ : ∃ k, m = k + 3 := ⟨m - 3, by simp [Part.size] at hm; omega⟩
    simp [Part.size] at hm
    have l1 : e.length < 100000 := by have := hf.1; omega
    have l2 : l.length < 100000 := by have := hf.2.1; omega
    have z1 : e.length < 16777216 := by omega
    have z2 : l.length < 16777216 := by omega
    have sl := lseg_len a (n + 1) _ (fit_go a n u t hf.2.2.1)
    have sl2 := lseg_len b (n + 1) _ (fit_go b n v (go a u t).1 hf.2.2.2)
    have g3 : ∀ (l r s : Store), l.length = 2 * a.size → s.length = 2 * b.size → ∀ j, (pre ++ (l ++ (s ++ r)))[pre.length + (2 * a.size + 2 * b.size) + j]? = r[j]? := fun l r s h h2 j => by rw [← h, ← h2, Nat.add_assoc, Nat.add_assoc]; simp
    have g4 : ∀ (l r s : Store), l.length = 2 * a.size → s.length = 2 * b.size → ∀ j x, (pre ++ (l ++ (s ++ r))).set (pre.length + (2 * a.size + 2 * b.size) + j) x = pre ++ (l ++ (s ++ r.set j x)) := fun l r s h h2 j x => by rw [← h, ← h2, Nat.add_assoc, Nat.add_assoc]; simp
    have g5 : ∀ (l r s : Store), l.length = 2 * a.size → s.length = 2 * b.size → (pre ++ (l ++ (s ++ r)))[pre.length + (2 * a.size + 2 * b.size)]? = r[0]? := fun l r s h h2 => g3 l r s h h2 0
    have g6 : ∀ (l r s : Store), l.length = 2 * a.size → s.length = 2 * b.size → ∀ x, (pre ++ (l ++ (s ++ r))).set (pre.length + (2 * a.size + 2 * b.size)) x = pre ++ (l ++ (s ++ r.set 0 x)) := fun l r s h h2 x => g4 l r s h h2 0 x
    have i1 := law_go_ok a (m + 2) n pre (lseg b v ++ ([lstI e, lstI l] ++ post)) u t (by omega) ho.1 hf.2.2.1 hn
    have i2 := law_go_ok b (m + 2) n (pre ++ lseg a (go a u t).2) ([lstI e, lstI l] ++ post) v (go a u t).1 (by omega) ho.2 hf.2.2.2 hn
    simp [lstI] at i1
    simp [lstI, sl] at i2
    simp [S__law_go, b__law_go, ldict, lwk, kWalk, lseg, go, Part.d, lstI, z1, z2, i1, i2, g3, g4, g5, g6, sl, sl2]
  | .both a b, m, n, pre, post, .nd e l [u, v], t, hm, ho, hf, hn => by
    obtain ⟨m, rfl⟩ : ∃ k, m = k + 3 := ⟨m - 3, by simp [Part.size] at hm; omega⟩
    simp [Part.size] at hm
    have l1 : e.length < 100000 := by have := hf.1; omega
    have l2 : l.length < 100000 := by have := hf.2.1; omega
    have z1 : e.length < 16777216 := by omega
    have z2 : l.length < 16777216 := by omega
    have sl := lseg_len a (n + 1) _ (fit_go a n u t hf.2.2.1)
    have sl2 := lseg_len b (n + 1) _ (fit_go b n v t hf.2.2.2)
    have g3 : ∀ (l r s : Store), l.length = 2 * a.size → s.length = 2 * b.size → ∀ j, (pre ++ (l ++ (s ++ r)))[pre.length + (2 * a.size + 2 * b.size) + j]? = r[j]? := fun l r s h h2 j => by rw [← h, ← h2, Nat.add_assoc, Nat.add_assoc]; simp
    have g4 : ∀ (l r s : Store), l.length = 2 * a.size → s.length = 2 * b.size → ∀ j x, (pre ++ (l ++ (s ++ r))).set (pre.length + (2 * a.size + 2 * b.size) + j) x = pre ++ (l ++ (s ++ r.set j x)) := fun l r s h h2 j x => by rw [← h, ← h2, Nat.add_assoc, Nat.add_assoc]; simp
    have g5 : ∀ (l r s : Store), l.length = 2 * a.size → s.length = 2 * b.size → (pre ++ (l ++ (s ++ r)))[pre.length + (2 * a.size + 2 * b.size)]? = r[0]? := fun l r s h h2 => g3 l r s h h2 0
    have g6 : ∀ (l r s : Store), l.length = 2 * a.size → s.length = 2 * b.size → ∀ x, (pre ++ (l ++ (s ++ r))).set (pre.length + (2 * a.size + 2 * b.size)) x = pre ++ (l ++ (s ++ r.set 0 x)) := fun l r s h h2 x => g4 l r s h h2 0 x
    have i1 := law_go_ok a (m + 2) n pre (lseg b v ++ ([lstI e, lstI l] ++ post)) u t (by omega) ho.1 hf.2.2.1 hn
    have i2 := law_go_ok b (m + 2) n (pre ++ lseg a (go a u t).2) ([lstI e, lstI l] ++ post) v t (by omega) ho.2 hf.2.2.2 hn
    simp [lstI] at i1
    simp [lstI, sl] at i2
    simp [S__law_go, b__law_go, ldict, lwk, kWalk, lseg, go, Part.d, lstI, z1, z2, i1, i2, g3, g4, g5, g6, sl, sl2]
/-- all items, as a law lets them go -/
theorem law_left_ok (n : Nat) (p : Part) {x : D} {ms : List Int} {st : Store} (hx : ∀ g : Store, seen (st ++ g) x = some (.lst, ms.map D.int)) (ho : p.ok 12) (hs : p.size ≤ 12) (hm : ms.length < 100000) :
    sem (n + 20) f__law_left [p.d, x] st = .ok (lstI (leaves p ms)) st := by
  have e := law_walk_ok p (n + 19) st (by omega)
  have h0 := hx []
  rw [S__law_left]
  simp [b__law_left, e, hx]
  generalize hy : compL _ _ _ _ _ _ _ _ _ = y
  have h := compL_all hy (fun i ys st' => st' = st ++ lseg p (goes p (W0 p) (ms.take i)) ∧ ys = (outs p (W0 p) (ms.take i)).map D.int) ⟨by simp [goes], by simp [outs]⟩ (by rintro i ys _ ⟨rfl, _⟩; simp [hx]) (by simp; omega) (by
    rintro i m ys _ hi ⟨rfl, rfl⟩
    have hl : (ms.take i).length = i := by simp; have := (List.getElem?_eq_some_iff.mp hi).1; omega
    have hf := fit_goes p (ms.take i) 0 (W0 p) (fit0 p)
    have g := law_go_ok p (n + 19) _ st [] (goes p (W0 p) (ms.take i)) m (by omega) ho hf (by rw [hl]; have := (List.getElem?_eq_some_iff.mp hi).1; omega)
    simp at g
    simp [g, goes_take p ms _ i m hi, outs_take p ms _ i m hi])
  obtain ⟨ys, st', rfl, rfl, rfl⟩ := h.get
  simp [leaves_eq, lstI]
end Q

/-! Lists of whole numbers shown and compared. -/
namespace Q
open PySem PySem.Spec L2 DY
theorem is_of {st : Store} {x : D} {xs : List D} (h : seen st x = some (.lst, xs)) : Is st x xs := by
  cases x with
  | nd t ys => simp at h; obtain ⟨rfl, rfl⟩ := h; exact .inl rfl
  | h k =>
    refine .inr ⟨k, rfl, ?_⟩
    rw [seen_h] at h
    unfold seenC at h
    split at h
    · rename_i t ys e; cases h; exact e
    · cases h
  | _ => simp at h
/-- what a list of whole numbers is shown as -/
def shownI (is : List Int) : Str := (PyData.list (is.map PyData.int)).shown
theorem repr_int {st : Store} {x : D} {is : List Int} (h : seen st x = some (.lst, is.map D.int)) (hl : is.length ≤ 1000) (hb : ∀ i ∈ is, i.natAbs < 2 ^ 1900) : dRepr [x] st = .ok (.str (shownI is)) st := by
  have hx := is_of h
  refine repr_list hx (hx.toPd fun dr => toPg_ints dr is) (show_ints fun i m => ?_) (shp_ints is) (by rw [shw_ints]; omega)
  have := hb i m
  by_cases h0 : i.natAbs = 0
  · rw [h0]; decide
  · have h2 := Nat.log2_self_le h0
    by_cases h3 : i.natAbs.log2 < 1920
    · exact h3
    · have h4 : (2 : Nat) ^ 1900 ≤ 2 ^ i.natAbs.log2 := Nat.pow_le_pow_right (by decide) (by omega)
      omega
theorem eq_int {st : Store} {x y : D} {is js : List Int} (hx : seen st x = some (.lst, is.map D.int)) (hy : seen st y = some (.lst, js.map D.int)) : dEq x y st = .ok (.bl (decide (is = js))) st := eq_ints (is_of hx) (is_of hy)
theorem ne_int {st : Store} {x y : D} {is js : List Int} (hx : seen st x = some (.lst, is.map D.int)) (hy : seen st y = some (.lst, js.map D.int)) : dNe x y st = .ok (.bl (!decide (is = js))) st := ne_ints (is_of hx) (is_of hy)
theorem small_abs {i B : Int} (h : 0 ≤ i ∧ i ≤ B) (hB : B < 2 ^ 63) : i.natAbs < 2 ^ 1900 := by
  have : (2 : Nat) ^ 63 ≤ 2 ^ 1900 := Nat.pow_le_pow_right (by decide) (by decide)
  have e : (2 : Int) ^ 63 = 9223372036854775808 := by decide
  have e2 : (2 : Nat) ^ 63 = 9223372036854775808 := by decide
  generalize (2 : Nat) ^ 1900 = M at *
  omega
end Q

/-! k05: the law itself. -/
namespace Q
open PySem PySem.Spec L2 DY
theorem sn5 (p : Part) (st : Store) : seen st p.line = some (.ins k_Line nLine, [p.d, .nd .lst ((p.paths []).map tupI)]) := rfl
theorem leaves_szL {p : Part} {ms : List Int} (hm : ms.length < 1000) (i : Nat) : (leaves p (ms.take i)).length < szL := by
  rw [leaves_len, show szL = 16777216 from sizeLine_eq, List.length_take]; omega
/-- the items as they come -/
theorem outs_A (n : Nat) (p : Part) {x : D} {ms : List Int} {st : Store} {env : DEnv} {v : Nat} (hv : v < env.length) (hx : Stay st x (ms.map D.int)) (ho : p.ok 12) (hs : p.size ≤ 12) (hm : ms.length < 1000) (g : Asc ms) :
    ∃ k e1 post, y_leavings (sem (n + 30)) (consC (gN v) tYesD (dVar v) env) [p.line, x] st = .nx k ((leaves p ms).map D.int) e1 (st ++ post) := by
  refine leavings_Y n p hx ho hs hm g fun i post w d => ⟨[], ?_⟩
  have l := leaves_szL (p := p) hm i
  unfold consC
  simp [gN, hv, l]
/-- the same, the line being called between -/
theorem outs_B (n : Nat) (p : Part) {x : D} {ms : List Int} {st : Store} {env : DEnv} (he : 8 < env.length) (e2 : env[2]? = some (some p.line)) (e3 : env[3]? = some (some x)) (e6 : env[6]? = some (some (lstI (leaves p ms)))) (hx : Stay st x (ms.map D.int)) (hx' : ∀ q : Store, Stay (st ++ q) x (ms.map D.int)) (ho : p.ok 12) (hs : p.size ≤ 12) (hm : ms.length < 1000) (g : Asc ms) :
    ∃ k e1 post, y_leavings (sem (n + 31)) (consC (gN 8) (dBool (dBin dEq (dCallI k_Line (sem (n + 31) f_Line___call__) (dVar 2) (dCons (dVar 3) (dNil))) (dVar 6))) (dVar 8) env) [p.line, x] st = .nx k ((leaves p ms).map D.int) e1 (st ++ post) := by
  refine leavings_Y (n + 1) p hx ho hs hm g fun i post w d => ⟨[lstI (leaves p ms)], ?_⟩
  have l := leaves_szL (p := p) hm i
  have c := call_ok n p (hx' (seg p [] st.length w ++ post)) ho hs hm g
  have q : dEq (.h (st ++ (seg p [] st.length w ++ post)).length) (lstI (leaves p ms)) (st ++ (seg p [] st.length w ++ post) ++ [lstI (leaves p ms)]) = .ok (.bl true) (st ++ (seg p [] st.length w ++ post) ++ [lstI (leaves p ms)]) := by
    rw [eq_int (is := leaves p ms) (js := leaves p ms) (by simp [lstI]) rfl]; simp
  unfold consC
  have g2 : (env.set 8 (some (.int d)))[2]? = some (some p.line) := by rw [List.getElem?_set_ne (by decide)]; exact e2
  have g3 : (env.set 8 (some (.int d)))[3]? = some (some x) := by rw [List.getElem?_set_ne (by decide)]; exact e3
  have g6 : (env.set 8 (some (.int d)))[6]? = some (some (lstI (leaves p ms))) := by rw [List.getElem?_set_ne (by decide)]; exact e6
  simp only [List.length_append, List.append_assoc] at q
  simp [gN, he, dVar, g2, g3, g6, nLine, sn5, c, q, l]
theorem rd (is : List Int) (st : Store) (x : D) (h : seen st x = some (.lst, is.map D.int)) : dNe x (.nd .lst (is.map D.int)) st = .ok (.bl false) st := by
  rw [ne_int h rfl]; simp
theorem re (is : List Int) (st : Store) (x : D) (h : seen st x = some (.lst, is.map D.int)) : dEq x (.nd .lst (is.map D.int)) st = .ok (.bl true) st := by
  rw [eq_int h rfl]; simp
theorem twice_ok {w : Dw} {R : Store} {t : Nat} (hw : w.ok t) (ht : t < 100000) : ∃ w' R', sem 59 f__law_twice_right [.h 1] (drs w R) = .ok (.bl true) (drs w' R') ∧ w'.ok (t + 100) := by
  obtain ⟨p, w1, e1, h1, p1, p2, p3⟩ := tree 3 49 (R := R) (k := Str.ofString "small") (top := 5) (S := ["belt", "gap", "hold", "both"]) hw (by omega) (by omega) (by omega) (by omega) (by simp) (by decide) (by intro s hs; simpa using hs)
  have ho : p.ok 12 := p2.mono (by decide)
  obtain ⟨u, w2, e2, h2, u0, u30⟩ := take 56 (R := R) (size := 30) h1 (by omega) (by omega)
  obtain ⟨m, hu, m1, m30⟩ : ∃ m' : Nat, 1 + u = m' ∧ 1 ≤ m' ∧ m' ≤ 30 := ⟨(1 + u).toNat, by omega, by omega, by omega⟩
  obtain ⟨ms, w3, e3, h3, ml, mu, mb⟩ := arrivals 54 (R := R) (many := m) h2 (by omega) (by omega)
  have am : Asc ms := ⟨mu, fun x hx => by have := mb x hx; omega⟩
  simp [sorts, sS] at e1
  have line := fun st => law_line p 58 st (by omega) (by omega) ho
  have oa : ∀ st, dOwn k_Line (sem 58 f_Line___add__) p.line p.line st = .ok (Part.beh p p).line st := fun st => dOwn_ok (sn5 _ st) (sn5 _ st) (line_add 42 (p := p) (q := p) st (by omega))
  have ob : ∀ st, dOwn k_Line (sem 58 f_Line___and__) p.line p.line st = .ok (Part.both p p).line st := fun st => dOwn_ok (sn5 _ st) (sn5 _ st) (line_and 42 (p := p) (q := p) st (by omega))
  have lim : ∀ st, sem 58 f_Line_limited [p.line, .int 2] st = .ok (Part.sec 2 p).line st := fun st => line_limited 42 (p := p) (c := 2) st (by omega) (by omega)
  have z1 : (Part.sec 2 p).size ≤ 4 := by simp only [Part.size]; omega
  have z2 : (Part.beh p (Part.sec 2 p)).size ≤ 8 := by simp only [Part.size]; omega
  have oc : ∀ st, dOwn k_Line (sem 58 f_Line___add__) p.line (Part.sec 2 p).line st = .ok (Part.beh p (.sec 2 p)).line st := fun st => dOwn_ok (sn5 _ st) (sn5 _ st) (line_add 42 (p := p) (q := .sec 2 p) st (by omega))
  have od : ∀ st, dOwn k_Line (sem 58 f_Line___and__) (Part.beh p (Part.sec 2 p)).line p.line st = .ok (Part.both (.beh p (.sec 2 p)) p).line st := fun st => dOwn_ok (sn5 _ st) (sn5 _ st) (line_and 42 (p := .beh p (.sec 2 p)) (q := p) st (by omega))
  have ca : ∀ (q : Part) (st : Store), q.ok 12 → q.size ≤ 12 → sem 58 f_Line___call__ [q.line, .nd .lst (ms.map D.int)] st = .ok (.h st.length) (st ++ [lstI (leaves q ms)]) := fun q st ho hs => call_ok 27 q Stay.nd ho hs (by omega) am
  have lf : ∀ (q : Part) (st : Store), q.ok 12 → q.size ≤ 12 → sem 58 f__law_left [q.d, .nd .lst (ms.map D.int)] st = .ok (lstI (leaves q ms)) st := fun q st ho hs => law_left_ok 38 q (fun _ => rfl) ho hs (by omega)
  have wk : ∀ (q : Part) (st : Store), q.ok 12 → q.size ≤ 12 → sem 58 f_walked [q.line, .nd .lst (ms.map D.int)] st = .ok (walkedD q ms) st := fun q st ho hs => walked_ok 27 q Stay.nd ho hs (by omega) am
  rw [S__law_twice_right]
  simp [b__law_twice_right, e1, e2, hu, e3, line, oa, ob]
  generalize hx : forL _ _ _ _ _ _ = x
  obtain ⟨_, _, rfl, R1, j4, j5, j6, rfl, rfl⟩ := forL_go hx (fun i env st => ∃ R1 j4 j5 j6, env = [some (.h 1), some p.d, some p.line, some (lstI ms), j4, j5, j6, none, none] ∧ st = drs w3 R1)
    ⟨R, none, none, none, rfl, rfl⟩ (fun _ _ _ _ => by simp) (by
      rintro i d _ _ hi ⟨R1, j4, j5, j6, rfl, rfl⟩
      obtain ⟨q, s, rfl, qd, qo, qs⟩ : ∃ (q : Part) (s : String), d = .nd .tup [.str (Str.ofString s), q.line] ∧ q.d = .nd .tup [.str (Str.ofString s), p.d, p.d] ∧ q.ok 12 ∧ q.size ≤ 12 := by
        match i, hi with
        | 0, hi => exact ⟨.beh p p, "behind", by simpa using hi.symm, rfl, ⟨ho, ho⟩, by simp only [Part.size]; omega⟩
        | 1, hi => exact ⟨.both p p, "both", by simpa using hi.symm, rfl, ⟨ho, ho⟩, by simp only [Part.size]; omega⟩
        | k + 2, hi => simp at hi
      have l1 := fun st => lf q st qo qs
      rw [qd] at l1
      have c1 := fun st => ca q st qo qs
      have k1 := fun st => wk q st qo qs
      have wa := fun st => walked_at q ms st 0
      simp [lstI] at l1 c1 k1 wa ⊢
      simp [l1, c1, k1, wa, rd, nLine, sn5]
      exact ⟨_, rfl⟩)
  have l1 := fun st => lf p st ho (by omega)
  have c1 := fun st => ca p st ho (by omega)
  have l2 := fun st => lf (.both (.beh p (.sec 2 p)) p) st ⟨⟨ho, by omega, ho⟩, ho⟩ (by simp only [Part.size] at z2 ⊢; omega)
  have c2 := fun st => ca (.both (.beh p (.sec 2 p)) p) st ⟨⟨ho, by omega, ho⟩, ho⟩ (by simp only [Part.size] at z2 ⊢; omega)
  rw [show (Part.both (.beh p (.sec 2 p)) p).d = .nd .tup [.str (Str.ofString "both"), .nd .tup [.str (Str.ofString "behind"), p.d, .nd .tup [.str (Str.ofString "section"), .int 2, p.d]], p.d] from rfl] at l2
  have ob := fun st (env : DEnv) h1 h2 h3 h4 => outs_B 27 p (x := .nd .lst (ms.map D.int)) (ms := ms) (st := st) (env := env) h1 h2 h3 h4 Stay.nd (fun _ => Stay.nd) ho (by omega) (by omega) am
  clear hx
  simp only [lstI] at l1 c1 l2 c2 ob ⊢
  simp [l1, c1, l2, c2, oc, od, lim, rd, re, nLine, sn5, dLcYK_ev, pmL]
  obtain ⟨k, ev, post, e5⟩ := ob (drs w3 (R1 ++ [.nd .lst ((leaves (.both (.beh p (.sec 2 p)) p) ms).map D.int)])) [some (.h 1), some p.d, some p.line, some (.nd .lst (ms.map D.int)), j4, some (Part.both (.beh p (.sec 2 p)) p).line, some (.nd .lst ((leaves p ms).map D.int)), none, none] (by simp) rfl rfl rfl
  rw [e5]
  have sl : (leaves p ms).length < 16777216 := by rw [leaves_len]; omega
  simp [c1, re, nLine, sn5, sl]
  exact ⟨w3, ⟨_, rfl⟩, h3.mono (by omega)⟩
theorem shown {st : Store} {x : D} {is : List Int} (h : seen st x = some (.lst, is.map D.int)) (hl : is.length ≤ 1000) (hb : ∀ i ∈ is, 0 ≤ i ∧ i ≤ 1000000000000000) : dReprX [x] st = .ok (.str (shownI is)) st := by
  rw [← repr_int h hl (fun i hi => small_abs (hb i hi) (by decide))]
  rcases is_of h with rfl | ⟨k, rfl, _⟩ <;> rfl
theorem law_ok : ∀ ns : List Int, ns.length ≤ 63 → ∃ st, sem 60 f_law [scrD ns] [] = .ok (.bl true) st := by
  intro ns hl
  obtain ⟨w, e0, h0⟩ := begun 58 hl
  have ln : dLen [scrD ns] (drs w []) = .ok (.int (ns.length : Int)) (drs w []) := by simp [scrD]
  rw [S_law]
  simp [b_law, e0, ln]
  have rg : (3 : Int) + min (ns.length : Int) 10 = ((3 + min ns.length 10 : Nat) : Int) := by omega
  rw [rg, iRange11_nat (by omega)]
  simp
  generalize hx : forL _ _ _ _ _ _ = x
  obtain ⟨_, _, rfl, w, R, j2, j3, j4, j5, j6, j7, j8, j9, j10, j11, rfl, rfl, hw⟩ := forL_go hx (fun i env st => ∃ w R j2 j3 j4 j5 j6 j7 j8 j9 j10 j11, env = [some (scrD ns), some (.h 1), j2, j3, j4, j5, j6, j7, j8, j9, j10, j11] ∧ st = drs w R ∧ Dw.ok w (1000 * i))
    ⟨w, [], none, none, none, none, none, none, none, none, none, none, rfl, rfl, h0⟩ (fun _ _ _ _ => by simp) (by
      rintro i d _ _ hi ⟨w, R, j2, j3, j4, j5, j6, j7, j8, j9, j10, j11, rfl, rfl, hw⟩
      obtain ⟨hi', rfl⟩ := rng_get hi
      have hb : 1000 * i < 20000 := by omega
      obtain ⟨w1, R1, e1, h1⟩ := twice_ok (R := R) hw (by omega)
      obtain ⟨k, w2, e2, h2, m2⟩ := pick 56 (R := R1) (xs := [.str (Str.ofString "small"), .str (Str.ofString "small"), .str (Str.ofString "any")]) h1 (by omega) (by simp)
      have : ∃ s : String, k = .str (Str.ofString s) := by
        simp at m2
        rcases m2 with rfl | rfl <;> exact ⟨_, rfl⟩
      obtain ⟨kk, rfl⟩ := this
      obtain ⟨r, w3, e3, h3, m3⟩ := pick 56 (R := R1) (xs := [.int 1, .int 3, .int 6, .int 9]) h2 (by omega) (by simp)
      have : ∃ r' : Nat, r = .int r' ∧ 1 ≤ r' ∧ r' ≤ 9 := by
        simp at m3
        rcases m3 with rfl | rfl | rfl | rfl
        · exact ⟨1, rfl, by omega, by omega⟩
        · exact ⟨3, rfl, by omega, by omega⟩
        · exact ⟨6, rfl, by omega, by omega⟩
        · exact ⟨9, rfl, by omega, by omega⟩
      obtain ⟨room, rfl, r1, r9⟩ := this
      obtain ⟨p, w4, e4, h4, p1, p2, p3⟩ := tree room (59 - room - 6) (R := R1) (k := Str.ofString kk) (top := 5) (S := ["belt", "gap", "hold", "both"]) h3 r1 (by omega) (by omega) (by omega) (by simp) (by decide) (by intro s hs; simpa using hs)
      rw [show 59 - room - 6 + room + 6 = 59 by omega] at e4
      have ho : p.ok 12 := p2.mono (by decide)
      have hs : p.size ≤ 12 := by omega
      simp [sorts, sS] at e4
      have line := fun st => law_line p 59 st (by omega) hs ho
      have rg3 : ∀ st, iRange11 [.int 3] st = .ok ⟨rng 0 3, anyS⟩ st := fun st => iRange11_nat (k := 3) (by omega)
      simp [b_law, e1, e2, e3, e4, line, rg3]
      generalize hy : forL _ _ _ _ _ _ = y
      obtain ⟨_, _, rfl, w5, R2, j6, j7, j8, j9, j10, j11, rfl, rfl, hw5⟩ := forL_go hy (fun u env st => ∃ w R j6 j7 j8 j9 j10 j11, env = [some (scrD ns), some (.h 1), some (.int (i : Int)), some (.str (Str.ofString kk)), some p.d, some p.line, j6, j7, j8, j9, j10, j11] ∧ st = drs w R ∧ Dw.ok w (1000 * i + 200 + 100 * u))
        ⟨w4, R1, j6, j7, j8, j9, j10, j11, rfl, rfl, h4.mono (by omega)⟩ (fun _ _ _ _ => by simp) (by
          rintro u d _ _ hu ⟨w, R, j6, j7, j8, j9, j10, j11, rfl, rfl, hw⟩
          obtain ⟨hu', rfl⟩ := rng_get hu
          obtain ⟨q, w1, e1, h1, m1⟩ := pick 56 (R := R) (xs := [.int 0, .int 1, .int 8, .int 40]) hw (by omega) (by simp)
          have : ∃ r' : Nat, q = .int r' ∧ r' ≤ 40 := by
            simp at m1
            rcases m1 with rfl | rfl | rfl | rfl
            · exact ⟨0, rfl, by omega⟩
            · exact ⟨1, rfl, by omega⟩
            · exact ⟨8, rfl, by omega⟩
            · exact ⟨40, rfl, by omega⟩
          obtain ⟨m, rfl, m40⟩ := this
          obtain ⟨ms, w2, e2, h2, ml, mu, mb⟩ := arrivals 55 (R := R) (many := m) h1 (by omega) (by omega)
          have am : Asc ms := ⟨mu, fun x hx => by have := mb x hx; omega⟩
          have lf : ∀ st, sem 59 f__law_left [p.d, .nd .lst (ms.map D.int)] st = .ok (lstI (leaves p ms)) st := fun st => law_left_ok 39 p (fun _ => rfl) ho hs (by omega)
          have ca : ∀ st, sem 59 f_Line___call__ [p.line, .nd .lst (ms.map D.int)] st = .ok (.h st.length) (st ++ [lstI (leaves p ms)]) := fun st => call_ok 28 p Stay.nd ho hs (by omega) am
          have ct : ∀ st, sem 59 f_Line___call__ [p.line, tupI ms] st = .ok (.h st.length) (st ++ [lstI (leaves p ms)]) := fun st => call_tup 28 p ho hs (by omega) am
          have oa := fun st (env : DEnv) hv => outs_A 29 p (x := .nd .lst (ms.map D.int)) (ms := ms) (st := st) (env := env) (v := 11) hv Stay.nd ho hs (by omega) am
          have bm : ∀ i ∈ ms, 0 ≤ i ∧ i ≤ 1000000000000000 := fun x hx => by have := mb x hx; omega
          have bl : ∀ i ∈ leaves p ms, 0 ≤ i ∧ i ≤ 1000000000000000 := fun x hx => by
            have b := leaves_bd ho (B := 2000000000000) (ms := ms) (fun x hx => by have := mb x hx; omega) x hx
            have h1 : 1000000000 * (p.size : Int) ≤ 12000000000 := by omega
            have h2 := Int.mul_le_mul h1 (show (ms.length : Int) ≤ 40 by omega) (by omega) (by omega)
            omega
          have sl : (leaves p ms).length < 16777216 := by rw [leaves_len]; omega
          have s1 := fun (x : D) (st : Store) h => shown (x := x) (st := st) h (by omega) bm
          have s2 := fun (x : D) (st : Store) h => shown (x := x) (st := st) h (by rw [leaves_len]; omega) bl
          have kw : ∀ x st, kwF1 1 2 [0] (sem 59 f_Line___call__) [p.line, x] st = sem 59 f_Line___call__ [p.line, x] st := fun x st => rfl
          simp only [lstI, tupI] at e2 lf ca ct
          simp [e1, e2, lf, ca, ct, s1, s2, kw, sl, rd, nLine, sn5, dLcY_ev, line]
          obtain ⟨k, ev, post, e5⟩ := oa (drs w2 (R ++ [.nd .lst ((leaves p ms).map D.int ++ [.non]), .nd .lst ((leaves p ms).map D.int)])) [some (scrD ns), some (.h 1), some (.int (i : Int)), some (.str (Str.ofString kk)), some p.d, some p.line, some (.int (u : Int)), some (.nd .lst (ms.map D.int)), some (.nd .lst ((leaves p ms).map D.int)), some (.str (shownI ms)), some (.h (R.length + 2)), none] (by simp)
          rw [e5]
          simp [ca, line, rd, nLine, sn5]
          exact ⟨w2, ⟨_, rfl⟩, h2.mono (by omega)⟩)
      simp
      exact ⟨w5, ⟨_, rfl⟩, hw5.mono (by simp; omega)⟩)
  simp
end Q

namespace Q
open PySem PySem.Spec PyProof.Rows L2 DY
theorem all_mk {l : PySem.W.OpenLaw} {w : World} {K : PySem.W.Frag} {h : Heap} {mg : Str → Option Value} {q0 : Addr} (X : K.In h) (G : h.Ns mainGlobals mg) (hfa : mg "law" = some (.ref q0))
    {f0 f1 f2 f3 f4 f5 f6 f7 f8 f9 f10 f11 f12 f13 f14 f15 f16 f17 f18 f19 f20 f21 f22 f23 f24 f25 f26 f27 f28 f29 f30 f31 f32 f33 f34 f35 f36 f37 f38 f39 f40 f41 fG0 C0 C1 : Addr} {od0 an0 od1 an1 od2 an2 od3 an3 od4 an4 od5 an5 od6 an6 od7 an7 od8 an8 od9 an9 od10 an10 od11 an11 od12 an12 od13 an13 od14 an14 od15 an15 od16 an16 od17 an17 od18 an18 od19 an19 od20 an20 od21 an21 od22 an22 od23 an23 od24 an24 od25 an25 od26 an26 od27 an27 od28 an28 od29 an29 od30 an30 od31 an31 od32 an32 od33 an33 od34 an34 od35 an35 od36 an36 od37 an37 od38 an38 od39 an39 od40 an40 od41 an41 odG0 anG0 : Option Addr} {sl0 sl1 sl2 sl3 sl4 sl5 sl6 sl7 sl8 sl9 sl10 sl11 sl12 sl13 sl14 sl15 sl16 sl17 sl18 sl19 sl20 sl21 sl22 sl23 sl24 sl25 sl26 sl27 sl28 sl29 sl30 sl31 sl32 sl33 sl34 sl35 sl36 sl37 sl38 sl39 sl40 sl41 slG0 : Array (Option Value)}
    {oc0 kV0 dc0 pm0 cd0 ct0 oc1 kV1 dc1 pm1 cd1 ct1 oc2 kV2 dc2 pm2 cd2 ct2 oc3 kV3 dc3 pm3 cd3 ct3 oc4 kV4 dc4 pm4 cd4 ct4 oc5 kV5 dc5 pm5 cd5 ct5 oc6 kV6 dc6 pm6 cd6 ct6 oc7 kV7 dc7 pm7 cd7 ct7 oc8 kV8 dc8 pm8 cd8 ct8 oc9 kV9 dc9 pm9 cd9 ct9 oc10 kV10 dc10 pm10 cd10 ct10 oc11 kV11 dc11 pm11 cd11 ct11 oc12 kV12 dc12 pm12 cd12 ct12 oc13 kV13 dc13 pm13 cd13 ct13 oc14 kV14 dc14 pm14 cd14 ct14 oc15 kV15 dc15 pm15 cd15 ct15 oc16 kV16 dc16 pm16 cd16 ct16 oc17 kV17 dc17 pm17 cd17 ct17 oc18 kV18 dc18 pm18 cd18 ct18 oc19 kV19 dc19 pm19 cd19 ct19 oc20 kV20 dc20 pm20 cd20 ct20 oc21 kV21 dc21 pm21 cd21 ct21 oc22 kV22 dc22 pm22 cd22 ct22 oc23 kV23 dc23 pm23 cd23 ct23 oc24 kV24 dc24 pm24 cd24 ct24 oc25 kV25 dc25 pm25 cd25 ct25 oc26 kV26 dc26 pm26 cd26 ct26 oc27 kV27 dc27 pm27 cd27 ct27 oc28 kV28 dc28 pm28 cd28 ct28 oc29 kV29 dc29 pm29 cd29 ct29 oc30 kV30 dc30 pm30 cd30 ct30 oc31 kV31 dc31 pm31 cd31 ct31 oc32 kV32 dc32 pm32 cd32 ct32 oc33 kV33 dc33 pm33 cd33 ct33 oc34 kV34 dc34 pm34 cd34 ct34 oc35 kV35 dc35 pm35 cd35 ct35 oc36 kV36 dc36 pm36 cd36 ct36 oc37 kV37 dc37 pm37 cd37 ct37 oc38 kV38 dc38 pm38 cd38 ct38 oc39 kV39 dc39 pm39 cd39 ct39 oc40 kV40 dc40 pm40 cd40 ct40 oc41 kV41 dc41 pm41 cd41 ct41 ocG0 kVG0 dcG0 pmG0 cdG0 ctG0 : Value} {t_GREATEST_MOMENT t_GREATEST_TIME t_MOST_COUNT t_MOST_PARTS : Tok}
    {ob18 ob19 ob20 : Value} {q18 q19 q20 : Addr} {rs18 rs19 rs20 : List Value}
    (C_Walk : PySem.W.nsIn K mainGlobals "Walk" = some (some (.ref C0)))
    (pg_Walk : PySem.W.plainGet K C0 Str.empty = true)
    (hd_Walk : PySem.W.hasDictIn K C0 = true)
    (po_Walk : PySem.W.plainOver K C0 = true)
    (sa_Walk : PySem.W.findIn K (.ref C0) "__setattr__" = some (some (.builtin "object.__setattr__")))
    (n_Walk_entries : PySem.W.findIn K (.ref C0) "entries" = some none)
    (n_Walk_inner : PySem.W.findIn K (.ref C0) "inner" = some none)
    (n_Walk_leavings : PySem.W.findIn K (.ref C0) "leavings" = some none)
    (n_Walk_path : PySem.W.findIn K (.ref C0) "path" = some none)
    (n_Walk_piece : PySem.W.findIn K (.ref C0) "piece" = some none)
    (mk_Walk : PySem.W.makesIn K C0 = true)
    (kc_Walk : PySem.W.keepIn K (.ref C0) = true)
    (C_Line : PySem.W.nsIn K mainGlobals "Line" = some (some (.ref C1)))
    (pg_Line : PySem.W.plainGet K C1 Str.empty = true)
    (hd_Line : PySem.W.hasDictIn K C1 = true)
    (po_Line : PySem.W.plainOver K C1 = true)
    (sa_Line : PySem.W.findIn K (.ref C1) "__setattr__" = some (some (.builtin "object.__setattr__")))
    (n_Line_all_paths : PySem.W.findIn K (.ref C1) "all_paths" = some none)
    (n_Line_nested : PySem.W.findIn K (.ref C1) "nested" = some none)
    (mk_Line : PySem.W.makesIn K C1 = true)
    (kc_Line : PySem.W.keepIn K (.ref C1) = true)
    (sf_Line : PySem.W.selfFirst K C1 = true)
    (ga_Line : PySem.W.specialIn K (.ref C1) "__getattribute__" = some (some (.builtin "type.__getattribute__")))
    (a0 : PySem.W.nsIn K mainGlobals "is_number" = some (some (.ref f0)))
    (l0 : K.lookup f0 = some ⟨oc0, od0, .func (PySem.W.fnOf "is_number" "is_number" (defArgs s0) (defBody s0) (defScope s0) .none kV0 dc0 pm0 an0 cd0 ct0), sl0⟩)
    (c0 : PySem.W.codeIn K cd0 "is_number" = true)
    (k0 : PySem.W.keepIn K (.ref f0) = true)
    (a1 : PySem.W.nsIn K mainGlobals "is_moment" = some (some (.ref f1)))
    (l1 : K.lookup f1 = some ⟨oc1, od1, .func (PySem.W.fnOf "is_moment" "is_moment" (defArgs s1) (defBody s1) (defScope s1) .none kV1 dc1 pm1 an1 cd1 ct1), sl1⟩)
    (c1 : PySem.W.codeIn K cd1 "is_moment" = true)
    (k1 : PySem.W.keepIn K (.ref f1) = true)
    (a2 : PySem.W.nsIn K mainGlobals "first_bad" = some (some (.ref f2)))
    (l2 : K.lookup f2 = some ⟨oc2, od2, .func (PySem.W.fnOf "first_bad" "first_bad" (defArgs s2) (defBody s2) (defScope s2) .none kV2 dc2 pm2 an2 cd2 ct2), sl2⟩)
    (c2 : PySem.W.codeIn K cd2 "first_bad" = true)
    (k2 : PySem.W.keepIn K (.ref f2) = true)
    (a3 : PySem.W.nsIn K mainGlobals "need_arrivals" = some (some (.ref f3)))
    (l3 : K.lookup f3 = some ⟨oc3, od3, .func (PySem.W.fnOf "need_arrivals" "need_arrivals" (defArgs s3) (defBody s3) (defScope s3) .none kV3 dc3 pm3 an3 cd3 ct3), sl3⟩)
    (c3 : PySem.W.codeIn K cd3 "need_arrivals" = true)
    (k3 : PySem.W.keepIn K (.ref f3) = true)
    (a4 : PySem.W.findIn K (.ref C0) "__init__" = some (some (.ref f4)))
    (i4 : PySem.W.isFn K (.ref f4) = true)
    (l4 : K.lookup f4 = some ⟨oc4, od4, .func (PySem.W.fnOf "__init__" "Walk.__init__" (defArgs s4) (defBody s4) (defScope s4) .none kV4 dc4 pm4 an4 cd4 ct4), sl4⟩)
    (c4 : PySem.W.codeIn K cd4 "Walk.__init__" = true)
    (k4 : PySem.W.keepIn K (.ref f4) = true)
    (a5 : PySem.W.findIn K (.ref C0) "earlier" = some (some (.ref f5)))
    (i5 : PySem.W.isFn K (.ref f5) = true)
    (l5 : K.lookup f5 = some ⟨oc5, od5, .func (PySem.W.fnOf "earlier" "Walk.earlier" (defArgs s5) (defBody s5) (defScope s5) .none kV5 dc5 pm5 an5 cd5 ct5), sl5⟩)
    (c5 : PySem.W.codeIn K cd5 "Walk.earlier" = true)
    (k5 : PySem.W.keepIn K (.ref f5) = true)
    (a6 : PySem.W.findIn K (.ref C0) "left" = some (some (.ref f6)))
    (i6 : PySem.W.isFn K (.ref f6) = true)
    (l6 : K.lookup f6 = some ⟨oc6, od6, .func (PySem.W.fnOf "left" "Walk.left" (defArgs s6) (defBody s6) (defScope s6) .none kV6 dc6 pm6 an6 cd6 ct6), sl6⟩)
    (c6 : PySem.W.codeIn K cd6 "Walk.left" = true)
    (k6 : PySem.W.keepIn K (.ref f6) = true)
    (a7 : PySem.W.findIn K (.ref C0) "go" = some (some (.ref f7)))
    (i7 : PySem.W.isFn K (.ref f7) = true)
    (l7 : K.lookup f7 = some ⟨oc7, od7, .func (PySem.W.fnOf "go" "Walk.go" (defArgs s7) (defBody s7) (defScope s7) .none kV7 dc7 pm7 an7 cd7 ct7), sl7⟩)
    (c7 : PySem.W.codeIn K cd7 "Walk.go" = true)
    (k7 : PySem.W.keepIn K (.ref f7) = true)
    (a8 : PySem.W.findIn K (.ref C0) "rows" = some (some (.ref f8)))
    (i8 : PySem.W.isFn K (.ref f8) = true)
    (l8 : K.lookup f8 = some ⟨oc8, od8, .func (PySem.W.fnOf "rows" "Walk.rows" (defArgs s8) (defBody s8) (defScope s8) .none kV8 dc8 pm8 an8 cd8 ct8), sl8⟩)
    (c8 : PySem.W.codeIn K cd8 "Walk.rows" = true)
    (k8 : PySem.W.keepIn K (.ref f8) = true)
    (a9 : PySem.W.nsIn K mainGlobals "inner_parts" = some (some (.ref f9)))
    (l9 : K.lookup f9 = some ⟨oc9, od9, .func (PySem.W.fnOf "inner_parts" "inner_parts" (defArgs s9) (defBody s9) (defScope s9) .none kV9 dc9 pm9 an9 cd9 ct9), sl9⟩)
    (c9 : PySem.W.codeIn K cd9 "inner_parts" = true)
    (k9 : PySem.W.keepIn K (.ref f9) = true)
    (a10 : PySem.W.nsIn K mainGlobals "walk_of" = some (some (.ref f10)))
    (l10 : K.lookup f10 = some ⟨oc10, od10, .func (PySem.W.fnOf "walk_of" "walk_of" (defArgs s10) (defBody s10) (defScope s10) .none kV10 dc10 pm10 an10 cd10 ct10), sl10⟩)
    (c10 : PySem.W.codeIn K cd10 "walk_of" = true)
    (k10 : PySem.W.keepIn K (.ref f10) = true)
    (a11 : PySem.W.nsIn K mainGlobals "walked" = some (some (.ref f11)))
    (l11 : K.lookup f11 = some ⟨oc11, od11, .func (PySem.W.fnOf "walked" "walked" (defArgs s11) (defBody s11) (defScope s11) .none kV11 dc11 pm11 an11 cd11 ct11), sl11⟩)
    (c11 : PySem.W.codeIn K cd11 "walked" = true)
    (k11 : PySem.W.keepIn K (.ref f11) = true)
    (a12 : PySem.W.nsIn K mainGlobals "is_time" = some (some (.ref f12)))
    (l12 : K.lookup f12 = some ⟨oc12, od12, .func (PySem.W.fnOf "is_time" "is_time" (defArgs s12) (defBody s12) (defScope s12) .none kV12 dc12 pm12 an12 cd12 ct12), sl12⟩)
    (c12 : PySem.W.codeIn K cd12 "is_time" = true)
    (k12 : PySem.W.keepIn K (.ref f12) = true)
    (a13 : PySem.W.nsIn K mainGlobals "is_count" = some (some (.ref f13)))
    (l13 : K.lookup f13 = some ⟨oc13, od13, .func (PySem.W.fnOf "is_count" "is_count" (defArgs s13) (defBody s13) (defScope s13) .none kV13 dc13 pm13 an13 cd13 ct13), sl13⟩)
    (c13 : PySem.W.codeIn K cd13 "is_count" = true)
    (k13 : PySem.W.keepIn K (.ref f13) = true)
    (a14 : PySem.W.nsIn K mainGlobals "need_count" = some (some (.ref f14)))
    (l14 : K.lookup f14 = some ⟨oc14, od14, .func (PySem.W.fnOf "need_count" "need_count" (defArgs s14) (defBody s14) (defScope s14) .none kV14 dc14 pm14 an14 cd14 ct14), sl14⟩)
    (c14 : PySem.W.codeIn K cd14 "need_count" = true)
    (k14 : PySem.W.keepIn K (.ref f14) = true)
    (a15 : PySem.W.nsIn K mainGlobals "need_time" = some (some (.ref f15)))
    (l15 : K.lookup f15 = some ⟨oc15, od15, .func (PySem.W.fnOf "need_time" "need_time" (defArgs s15) (defBody s15) (defScope s15) .none kV15 dc15 pm15 an15 cd15 ct15), sl15⟩)
    (c15 : PySem.W.codeIn K cd15 "need_time" = true)
    (k15 : PySem.W.keepIn K (.ref f15) = true)
    (a16 : PySem.W.nsIn K mainGlobals "paths_of" = some (some (.ref f16)))
    (l16 : K.lookup f16 = some ⟨oc16, od16, .func (PySem.W.fnOf "paths_of" "paths_of" (defArgs s16) (defBody s16) (defScope s16) .none kV16 dc16 pm16 an16 cd16 ct16), sl16⟩)
    (c16 : PySem.W.codeIn K cd16 "paths_of" = true)
    (k16 : PySem.W.keepIn K (.ref f16) = true)
    (a17 : PySem.W.findIn K (.ref C1) "__init__" = some (some (.ref f17)))
    (i17 : PySem.W.isFn K (.ref f17) = true)
    (l17 : K.lookup f17 = some ⟨oc17, od17, .func (PySem.W.fnOf "__init__" "Line.__init__" (defArgs s17) (defBody s17) (defScope s17) .none kV17 dc17 pm17 an17 cd17 ct17), sl17⟩)
    (c17 : PySem.W.codeIn K cd17 "Line.__init__" = true)
    (k17 : PySem.W.keepIn K (.ref f17) = true)
    (a18 : PySem.W.findCls K (.ref C1) (.type "type") "belt" = some (.get (.builtin "staticmethod.__get__") (.ref q18) ob18 (.ref C1)))
    (r18 : PySem.W.readsIn K C1 (.type "type") = true)
    (v18 : PySem.W.recIn K q18 "staticmethod" = some (.ref f18 :: rs18))
    (l18 : K.lookup f18 = some ⟨oc18, od18, .func (PySem.W.fnOf "belt" "Line.belt" (defArgs s18) (defBody s18) (defScope s18) .none kV18 dc18 pm18 an18 cd18 ct18), sl18⟩)
    (c18 : PySem.W.codeIn K cd18 "Line.belt" = true)
    (k18 : PySem.W.keepIn K (.ref f18) = true)
    (a19 : PySem.W.findCls K (.ref C1) (.type "type") "gap" = some (.get (.builtin "staticmethod.__get__") (.ref q19) ob19 (.ref C1)))
    (r19 : PySem.W.readsIn K C1 (.type "type") = true)
    (v19 : PySem.W.recIn K q19 "staticmethod" = some (.ref f19 :: rs19))
    (l19 : K.lookup f19 = some ⟨oc19, od19, .func (PySem.W.fnOf "gap" "Line.gap" (defArgs s19) (defBody s19) (defScope s19) .none kV19 dc19 pm19 an19 cd19 ct19), sl19⟩)
    (c19 : PySem.W.codeIn K cd19 "Line.gap" = true)
    (k19 : PySem.W.keepIn K (.ref f19) = true)
    (a20 : PySem.W.findCls K (.ref C1) (.type "type") "hold" = some (.get (.builtin "staticmethod.__get__") (.ref q20) ob20 (.ref C1)))
    (r20 : PySem.W.readsIn K C1 (.type "type") = true)
    (v20 : PySem.W.recIn K q20 "staticmethod" = some (.ref f20 :: rs20))
    (l20 : K.lookup f20 = some ⟨oc20, od20, .func (PySem.W.fnOf "hold" "Line.hold" (defArgs s20) (defBody s20) (defScope s20) .none kV20 dc20 pm20 an20 cd20 ct20), sl20⟩)
    (c20 : PySem.W.codeIn K cd20 "Line.hold" = true)
    (k20 : PySem.W.keepIn K (.ref f20) = true)
    (a21 : PySem.W.findIn K (.ref C1) "limited" = some (some (.ref f21)))
    (i21 : PySem.W.isFn K (.ref f21) = true)
    (l21 : K.lookup f21 = some ⟨oc21, od21, .func (PySem.W.fnOf "limited" "Line.limited" (defArgs s21) (defBody s21) (defScope s21) .none kV21 dc21 pm21 an21 cd21 ct21), sl21⟩)
    (c21 : PySem.W.codeIn K cd21 "Line.limited" = true)
    (k21 : PySem.W.keepIn K (.ref f21) = true)
    (a22 : PySem.W.findIn K (.ref C1) "__add__" = some (some (.ref f22)))
    (i22 : PySem.W.isFn K (.ref f22) = true)
    (l22 : K.lookup f22 = some ⟨oc22, od22, .func (PySem.W.fnOf "__add__" "Line.__add__" (defArgs s22) (defBody s22) (defScope s22) .none kV22 dc22 pm22 an22 cd22 ct22), sl22⟩)
    (c22 : PySem.W.codeIn K cd22 "Line.__add__" = true)
    (k22 : PySem.W.keepIn K (.ref f22) = true)
    (a23 : PySem.W.findIn K (.ref C1) "__and__" = some (some (.ref f23)))
    (i23 : PySem.W.isFn K (.ref f23) = true)
    (l23 : K.lookup f23 = some ⟨oc23, od23, .func (PySem.W.fnOf "__and__" "Line.__and__" (defArgs s23) (defBody s23) (defScope s23) .none kV23 dc23 pm23 an23 cd23 ct23), sl23⟩)
    (c23 : PySem.W.codeIn K cd23 "Line.__and__" = true)
    (k23 : PySem.W.keepIn K (.ref f23) = true)
    (a24 : PySem.W.findIn K (.ref C1) "__call__" = some (some (.ref f24)))
    (i24 : PySem.W.isFn K (.ref f24) = true)
    (l24 : K.lookup f24 = some ⟨oc24, od24, .func (PySem.W.fnOf "__call__" "Line.__call__" (defArgs s24) (defBody s24) (defScope s24) .none kV24 dc24 pm24 an24 cd24 ct24), sl24⟩)
    (c24 : PySem.W.codeIn K cd24 "Line.__call__" = true)
    (k24 : PySem.W.keepIn K (.ref f24) = true)
    (a25 : PySem.W.findIn K (.ref C1) "parts" = some (some (.ref f25)))
    (i25 : PySem.W.isFn K (.ref f25) = true)
    (l25 : K.lookup f25 = some ⟨oc25, od25, .func (PySem.W.fnOf "parts" "Line.parts" (defArgs s25) (defBody s25) (defScope s25) .none kV25 dc25 pm25 an25 cd25 ct25), sl25⟩)
    (c25 : PySem.W.codeIn K cd25 "Line.parts" = true)
    (k25 : PySem.W.keepIn K (.ref f25) = true)
    (a26 : PySem.W.nsIn K mainGlobals "_law_begun" = some (some (.ref f26)))
    (l26 : K.lookup f26 = some ⟨oc26, od26, .func (PySem.W.fnOf "_law_begun" "_law_begun" (defArgs s26) (defBody s26) (defScope s26) .none kV26 dc26 pm26 an26 cd26 ct26), sl26⟩)
    (c26 : PySem.W.codeIn K cd26 "_law_begun" = true)
    (k26 : PySem.W.keepIn K (.ref f26) = true)
    (a27 : PySem.W.nsIn K mainGlobals "_law_mixed" = some (some (.ref f27)))
    (l27 : K.lookup f27 = some ⟨oc27, od27, .func (PySem.W.fnOf "_law_mixed" "_law_mixed" (defArgs s27) (defBody s27) (defScope s27) .none kV27 dc27 pm27 an27 cd27 ct27), sl27⟩)
    (c27 : PySem.W.codeIn K cd27 "_law_mixed" = true)
    (k27 : PySem.W.keepIn K (.ref f27) = true)
    (a28 : PySem.W.nsIn K mainGlobals "_law_take" = some (some (.ref f28)))
    (l28 : K.lookup f28 = some ⟨oc28, od28, .func (PySem.W.fnOf "_law_take" "_law_take" (defArgs s28) (defBody s28) (defScope s28) .none kV28 dc28 pm28 an28 cd28 ct28), sl28⟩)
    (c28 : PySem.W.codeIn K cd28 "_law_take" = true)
    (k28 : PySem.W.keepIn K (.ref f28) = true)
    (a29 : PySem.W.nsIn K mainGlobals "_law_pick" = some (some (.ref f29)))
    (l29 : K.lookup f29 = some ⟨oc29, od29, .func (PySem.W.fnOf "_law_pick" "_law_pick" (defArgs s29) (defBody s29) (defScope s29) .none kV29 dc29 pm29 an29 cd29 ct29), sl29⟩)
    (c29 : PySem.W.codeIn K cd29 "_law_pick" = true)
    (k29 : PySem.W.keepIn K (.ref f29) = true)
    (a30 : PySem.W.nsIn K mainGlobals "_law_time" = some (some (.ref f30)))
    (l30 : K.lookup f30 = some ⟨oc30, od30, .func (PySem.W.fnOf "_law_time" "_law_time" (defArgs s30) (defBody s30) (defScope s30) .none kV30 dc30 pm30 an30 cd30 ct30), sl30⟩)
    (c30 : PySem.W.codeIn K cd30 "_law_time" = true)
    (k30 : PySem.W.keepIn K (.ref f30) = true)
    (a31 : PySem.W.nsIn K mainGlobals "_law_leaf" = some (some (.ref f31)))
    (l31 : K.lookup f31 = some ⟨oc31, od31, .func (PySem.W.fnOf "_law_leaf" "_law_leaf" (defArgs s31) (defBody s31) (defScope s31) .none kV31 dc31 pm31 an31 cd31 ct31), sl31⟩)
    (c31 : PySem.W.codeIn K cd31 "_law_leaf" = true)
    (k31 : PySem.W.keepIn K (.ref f31) = true)
    (a32 : PySem.W.nsIn K mainGlobals "_law_tree" = some (some (.ref f32)))
    (l32 : K.lookup f32 = some ⟨oc32, od32, .func (PySem.W.fnOf "_law_tree" "_law_tree" (defArgs s32) (defBody s32) (defScope s32) .none kV32 dc32 pm32 an32 cd32 ct32), sl32⟩)
    (c32 : PySem.W.codeIn K cd32 "_law_tree" = true)
    (k32 : PySem.W.keepIn K (.ref f32) = true)
    (a33 : PySem.W.nsIn K mainGlobals "_law_line" = some (some (.ref f33)))
    (l33 : K.lookup f33 = some ⟨oc33, od33, .func (PySem.W.fnOf "_law_line" "_law_line" (defArgs s33) (defBody s33) (defScope s33) .none kV33 dc33 pm33 an33 cd33 ct33), sl33⟩)
    (c33 : PySem.W.codeIn K cd33 "_law_line" = true)
    (k33 : PySem.W.keepIn K (.ref f33) = true)
    (a34 : PySem.W.nsIn K mainGlobals "_law_inner" = some (some (.ref f34)))
    (l34 : K.lookup f34 = some ⟨oc34, od34, .func (PySem.W.fnOf "_law_inner" "_law_inner" (defArgs s34) (defBody s34) (defScope s34) .none kV34 dc34 pm34 an34 cd34 ct34), sl34⟩)
    (c34 : PySem.W.codeIn K cd34 "_law_inner" = true)
    (k34 : PySem.W.keepIn K (.ref f34) = true)
    (a35 : PySem.W.nsIn K mainGlobals "_law_walk" = some (some (.ref f35)))
    (l35 : K.lookup f35 = some ⟨oc35, od35, .func (PySem.W.fnOf "_law_walk" "_law_walk" (defArgs s35) (defBody s35) (defScope s35) .none kV35 dc35 pm35 an35 cd35 ct35), sl35⟩)
    (c35 : PySem.W.codeIn K cd35 "_law_walk" = true)
    (k35 : PySem.W.keepIn K (.ref f35) = true)
    (a36 : PySem.W.nsIn K mainGlobals "_law_behind" = some (some (.ref f36)))
    (l36 : K.lookup f36 = some ⟨oc36, od36, .func (PySem.W.fnOf "_law_behind" "_law_behind" (defArgs s36) (defBody s36) (defScope s36) .none kV36 dc36 pm36 an36 cd36 ct36), sl36⟩)
    (c36 : PySem.W.codeIn K cd36 "_law_behind" = true)
    (k36 : PySem.W.keepIn K (.ref f36) = true)
    (a37 : PySem.W.nsIn K mainGlobals "_law_go" = some (some (.ref f37)))
    (l37 : K.lookup f37 = some ⟨oc37, od37, .func (PySem.W.fnOf "_law_go" "_law_go" (defArgs s37) (defBody s37) (defScope s37) .none kV37 dc37 pm37 an37 cd37 ct37), sl37⟩)
    (c37 : PySem.W.codeIn K cd37 "_law_go" = true)
    (k37 : PySem.W.keepIn K (.ref f37) = true)
    (a38 : PySem.W.nsIn K mainGlobals "_law_left" = some (some (.ref f38)))
    (l38 : K.lookup f38 = some ⟨oc38, od38, .func (PySem.W.fnOf "_law_left" "_law_left" (defArgs s38) (defBody s38) (defScope s38) .none kV38 dc38 pm38 an38 cd38 ct38), sl38⟩)
    (c38 : PySem.W.codeIn K cd38 "_law_left" = true)
    (k38 : PySem.W.keepIn K (.ref f38) = true)
    (a39 : PySem.W.nsIn K mainGlobals "_law_arrivals" = some (some (.ref f39)))
    (l39 : K.lookup f39 = some ⟨oc39, od39, .func (PySem.W.fnOf "_law_arrivals" "_law_arrivals" (defArgs s39) (defBody s39) (defScope s39) .none kV39 dc39 pm39 an39 cd39 ct39), sl39⟩)
    (c39 : PySem.W.codeIn K cd39 "_law_arrivals" = true)
    (k39 : PySem.W.keepIn K (.ref f39) = true)
    (a40 : PySem.W.nsIn K mainGlobals "_law_twice_right" = some (some (.ref f40)))
    (l40 : K.lookup f40 = some ⟨oc40, od40, .func (PySem.W.fnOf "_law_twice_right" "_law_twice_right" (defArgs s40) (defBody s40) (defScope s40) .none kV40 dc40 pm40 an40 cd40 ct40), sl40⟩)
    (c40 : PySem.W.codeIn K cd40 "_law_twice_right" = true)
    (k40 : PySem.W.keepIn K (.ref f40) = true)
    (a41 : PySem.W.nsIn K mainGlobals "law" = some (some (.ref f41)))
    (l41 : K.lookup f41 = some ⟨oc41, od41, .func (PySem.W.fnOf "law" "law" (defArgs s41) (defBody s41) (defScope s41) .none kV41 dc41 pm41 an41 cd41 ct41), sl41⟩)
    (c41 : PySem.W.codeIn K cd41 "law" = true)
    (k41 : PySem.W.keepIn K (.ref f41) = true)
    (aG0 : PySem.W.nsIn K mainGlobals "leavings" = some (some (.ref fG0)))
    (lG0 : K.lookup fG0 = some ⟨ocG0, odG0, .func (PySem.W.fnOf "leavings" "leavings" (defArgs sG0) (defBody sG0) (defScope sG0) .none kVG0 dcG0 pmG0 anG0 cdG0 ctG0), slG0⟩)
    (cG0 : PySem.W.codeIn K cdG0 "leavings" = true)
    (kG0 : PySem.W.keepIn K (.ref fG0) = true)
    (fi_Line : PySem.W.fnIn K f24 = true)
    (g_GREATEST_MOMENT : PySem.W.nsIn K mainGlobals "GREATEST_MOMENT" = some (some (.int 1000000000000000 t_GREATEST_MOMENT)))
    (g_GREATEST_TIME : PySem.W.nsIn K mainGlobals "GREATEST_TIME" = some (some (.int 1000000000 t_GREATEST_TIME)))
    (g_MOST_COUNT : PySem.W.nsIn K mainGlobals "MOST_COUNT" = some (some (.int 12 t_MOST_COUNT)))
    (g_MOST_PARTS : PySem.W.nsIn K mainGlobals "MOST_PARTS" = some (some (.int 12 t_MOST_PARTS)))
    (z_isinstance : PySem.W.nsIn K mainGlobals "isinstance" = some none)
    (z_int : PySem.W.nsIn K mainGlobals "int" = some none)
    (z_bool : PySem.W.nsIn K mainGlobals "bool" = some none)
    (z_enumerate : PySem.W.nsIn K mainGlobals "enumerate" = some none)
    (z_list : PySem.W.nsIn K mainGlobals "list" = some none)
    (z_tuple : PySem.W.nsIn K mainGlobals "tuple" = some none)
    (z_len : PySem.W.nsIn K mainGlobals "len" = some none)
    (z_max : PySem.W.nsIn K mainGlobals "max" = some none)
    (z_sorted : PySem.W.nsIn K mainGlobals "sorted" = some none)
    (z_abs : PySem.W.nsIn K mainGlobals "abs" = some none)
    (z_range : PySem.W.nsIn K mainGlobals "range" = some none)
    (z_min : PySem.W.nsIn K mainGlobals "min" = some none)
    (z_repr : PySem.W.nsIn K mainGlobals "repr" = some none)
    : ∃ (fd : FuncData) (cl : ClsT), cl.tb = [] ∧ (∀ (s : Shared) (u : Value), BindsTo s fd ⟨[u], []⟩ [("_law_script", u)]) ∧ ∀ base : Heap, K.In base → base.Ns mainGlobals mg → FnG l.prog w K mg base (2 * 60 + 2) q0 fd ["_law_script"] (spF ⟨K, cl⟩ 1 (sem 60 41)) := by
  cases hfa.symm.trans (PySem.W.mg_of X G a41)
  obtain ⟨d0, F0, b0⟩ : ∃ d, Fun K "is_number" "is_number" s0 f0 d ∧ Binds K d p0 [] := by
    have F := fun_mk (st := s0) l0 c0 k0
    exact ⟨_, F, F.binds (ps := p0) fun _ _ _ _ _ _ us hl => match us, hl with | [_], _ => rfl⟩
  obtain ⟨d1, F1, b1⟩ : ∃ d, Fun K "is_moment" "is_moment" s1 f1 d ∧ Binds K d p1 [] := by
    have F := fun_mk (st := s1) l1 c1 k1
    exact ⟨_, F, F.binds (ps := p1) fun _ _ _ _ _ _ us hl => match us, hl with | [_], _ => rfl⟩
  obtain ⟨d2, F2, b2⟩ : ∃ d, Fun K "first_bad" "first_bad" s2 f2 d ∧ Binds K d p2 [] := by
    have F := fun_mk (st := s2) l2 c2 k2
    exact ⟨_, F, F.binds (ps := p2) fun _ _ _ _ _ _ us hl => match us, hl with | [_], _ => rfl⟩
  obtain ⟨d3, F3, b3⟩ : ∃ d, Fun K "need_arrivals" "need_arrivals" s3 f3 d ∧ Binds K d p3 [] := by
    have F := fun_mk (st := s3) l3 c3 k3
    exact ⟨_, F, F.binds (ps := p3) fun _ _ _ _ _ _ us hl => match us, hl with | [_], _ => rfl⟩
  obtain ⟨d4, F4, b4⟩ : ∃ d, Fun K "__init__" "Walk.__init__" s4 f4 d ∧ Binds K d p4 [] := by
    have F := fun_mk (st := s4) l4 c4 k4
    exact ⟨_, F, F.binds (ps := p4) fun _ _ _ _ _ _ us hl => match us, hl with | [_, _, _], _ => rfl⟩
  obtain ⟨d5, F5, b5⟩ : ∃ d, Fun K "earlier" "Walk.earlier" s5 f5 d ∧ Binds K d p5 [] := by
    have F := fun_mk (st := s5) l5 c5 k5
    exact ⟨_, F, F.binds (ps := p5) fun _ _ _ _ _ _ us hl => match us, hl with | [_, _, _, _], _ => rfl⟩
  obtain ⟨d6, F6, b6⟩ : ∃ d, Fun K "left" "Walk.left" s6 f6 d ∧ Binds K d p6 [] := by
    have F := fun_mk (st := s6) l6 c6 k6
    exact ⟨_, F, F.binds (ps := p6) fun _ _ _ _ _ _ us hl => match us, hl with | [_, _], _ => rfl⟩
  obtain ⟨d7, F7, b7⟩ : ∃ d, Fun K "go" "Walk.go" s7 f7 d ∧ Binds K d p7 [] := by
    have F := fun_mk (st := s7) l7 c7 k7
    exact ⟨_, F, F.binds (ps := p7) fun _ _ _ _ _ _ us hl => match us, hl with | [_, _], _ => rfl⟩
  obtain ⟨d8, F8, b8⟩ : ∃ d, Fun K "rows" "Walk.rows" s8 f8 d ∧ Binds K d p8 [] := by
    have F := fun_mk (st := s8) l8 c8 k8
    exact ⟨_, F, F.binds (ps := p8) fun _ _ _ _ _ _ us hl => match us, hl with | [_], _ => rfl⟩
  obtain ⟨d9, F9, b9⟩ : ∃ d, Fun K "inner_parts" "inner_parts" s9 f9 d ∧ Binds K d p9 [] := by
    have F := fun_mk (st := s9) l9 c9 k9
    exact ⟨_, F, F.binds (ps := p9) fun _ _ _ _ _ _ us hl => match us, hl with | [_], _ => rfl⟩
  obtain ⟨d10, F10, b10⟩ : ∃ d, Fun K "walk_of" "walk_of" s10 f10 d ∧ Binds K d p10 [] := by
    have F := fun_mk (st := s10) l10 c10 k10
    exact ⟨_, F, F.binds (ps := p10) fun _ _ _ _ _ _ us hl => match us, hl with | [_, _], _ => rfl⟩
  obtain ⟨d11, F11, b11⟩ : ∃ d, Fun K "walked" "walked" s11 f11 d ∧ Binds K d p11 [] := by
    have F := fun_mk (st := s11) l11 c11 k11
    exact ⟨_, F, F.binds (ps := p11) fun _ _ _ _ _ _ us hl => match us, hl with | [_, _], _ => rfl⟩
  obtain ⟨d12, F12, b12⟩ : ∃ d, Fun K "is_time" "is_time" s12 f12 d ∧ Binds K d p12 [] := by
    have F := fun_mk (st := s12) l12 c12 k12
    exact ⟨_, F, F.binds (ps := p12) fun _ _ _ _ _ _ us hl => match us, hl with | [_], _ => rfl⟩
  obtain ⟨d13, F13, b13⟩ : ∃ d, Fun K "is_count" "is_count" s13 f13 d ∧ Binds K d p13 [] := by
    have F := fun_mk (st := s13) l13 c13 k13
    exact ⟨_, F, F.binds (ps := p13) fun _ _ _ _ _ _ us hl => match us, hl with | [_], _ => rfl⟩
  obtain ⟨d14, F14, b14⟩ : ∃ d, Fun K "need_count" "need_count" s14 f14 d ∧ Binds K d p14 [] := by
    have F := fun_mk (st := s14) l14 c14 k14
    exact ⟨_, F, F.binds (ps := p14) fun _ _ _ _ _ _ us hl => match us, hl with | [_], _ => rfl⟩
  obtain ⟨d15, F15, b15⟩ : ∃ d, Fun K "need_time" "need_time" s15 f15 d ∧ Binds K d p15 [] := by
    have F := fun_mk (st := s15) l15 c15 k15
    exact ⟨_, F, F.binds (ps := p15) fun _ _ _ _ _ _ us hl => match us, hl with | [_], _ => rfl⟩
  obtain ⟨d16, F16, b16⟩ : ∃ d, Fun K "paths_of" "paths_of" s16 f16 d ∧ Binds K d p16 [] := by
    have F := fun_mk (st := s16) l16 c16 k16
    exact ⟨_, F, F.binds (ps := p16) fun _ _ _ _ _ _ us hl => match us, hl with | [_, _], _ => rfl⟩
  obtain ⟨d17, F17, b17⟩ : ∃ d, Fun K "__init__" "Line.__init__" s17 f17 d ∧ Binds K d p17 [] := by
    have F := fun_mk (st := s17) l17 c17 k17
    exact ⟨_, F, F.binds (ps := p17) fun _ _ _ _ _ _ us hl => match us, hl with | [_, _], _ => rfl⟩
  obtain ⟨d18, F18, b18⟩ : ∃ d, Fun K "belt" "Line.belt" s18 f18 d ∧ Binds K d p18 [] := by
    have F := fun_mk (st := s18) l18 c18 k18
    exact ⟨_, F, F.binds (ps := p18) fun _ _ _ _ _ _ us hl => match us, hl with | [_], _ => rfl⟩
  obtain ⟨d19, F19, b19⟩ : ∃ d, Fun K "gap" "Line.gap" s19 f19 d ∧ Binds K d p19 [] := by
    have F := fun_mk (st := s19) l19 c19 k19
    exact ⟨_, F, F.binds (ps := p19) fun _ _ _ _ _ _ us hl => match us, hl with | [_, _], _ => rfl⟩
  obtain ⟨d20, F20, b20⟩ : ∃ d, Fun K "hold" "Line.hold" s20 f20 d ∧ Binds K d p20 [] := by
    have F := fun_mk (st := s20) l20 c20 k20
    exact ⟨_, F, F.binds (ps := p20) fun _ _ _ _ _ _ us hl => match us, hl with | [_, _], _ => rfl⟩
  obtain ⟨d21, F21, b21⟩ : ∃ d, Fun K "limited" "Line.limited" s21 f21 d ∧ Binds K d p21 [] := by
    have F := fun_mk (st := s21) l21 c21 k21
    exact ⟨_, F, F.binds (ps := p21) fun _ _ _ _ _ _ us hl => match us, hl with | [_, _], _ => rfl⟩
  obtain ⟨d22, F22, b22⟩ : ∃ d, Fun K "__add__" "Line.__add__" s22 f22 d ∧ Binds K d p22 [] := by
    have F := fun_mk (st := s22) l22 c22 k22
    exact ⟨_, F, F.binds (ps := p22) fun _ _ _ _ _ _ us hl => match us, hl with | [_, _], _ => rfl⟩
  obtain ⟨d23, F23, b23⟩ : ∃ d, Fun K "__and__" "Line.__and__" s23 f23 d ∧ Binds K d p23 [] := by
    have F := fun_mk (st := s23) l23 c23 k23
    exact ⟨_, F, F.binds (ps := p23) fun _ _ _ _ _ _ us hl => match us, hl with | [_, _], _ => rfl⟩
  obtain ⟨d24, F24, b24, kwm24_0⟩ : ∃ d, Fun K "__call__" "Line.__call__" s24 f24 d ∧ Binds K d p24 [] ∧ BindsK1 K d p24 ["arrivals"] [0] := by
    have F := fun_mk (st := s24) l24 c24 k24
    exact ⟨_, F, F.binds (ps := p24) fun _ _ _ _ _ _ us hl => match us, hl with | [_, _], _ => rfl, fun s u ws _ hl => match ws, hl with | [_], _ => .of_eq rfl⟩
  obtain ⟨d25, F25, b25⟩ : ∃ d, Fun K "parts" "Line.parts" s25 f25 d ∧ Binds K d p25 [] := by
    have F := fun_mk (st := s25) l25 c25 k25
    exact ⟨_, F, F.binds (ps := p25) fun _ _ _ _ _ _ us hl => match us, hl with | [_], _ => rfl⟩
  obtain ⟨d26, F26, b26⟩ : ∃ d, Fun K "_law_begun" "_law_begun" s26 f26 d ∧ Binds K d p26 [] := by
    have F := fun_mk (st := s26) l26 c26 k26
    exact ⟨_, F, F.binds (ps := p26) fun _ _ _ _ _ _ us hl => match us, hl with | [_], _ => rfl⟩
  obtain ⟨d27, F27, b27⟩ : ∃ d, Fun K "_law_mixed" "_law_mixed" s27 f27 d ∧ Binds K d p27 [] := by
    have F := fun_mk (st := s27) l27 c27 k27
    exact ⟨_, F, F.binds (ps := p27) fun _ _ _ _ _ _ us hl => match us, hl with | [_], _ => rfl⟩
  obtain ⟨d28, F28, b28⟩ : ∃ d, Fun K "_law_take" "_law_take" s28 f28 d ∧ Binds K d p28 [] := by
    have F := fun_mk (st := s28) l28 c28 k28
    exact ⟨_, F, F.binds (ps := p28) fun _ _ _ _ _ _ us hl => match us, hl with | [_, _], _ => rfl⟩
  obtain ⟨d29, F29, b29⟩ : ∃ d, Fun K "_law_pick" "_law_pick" s29 f29 d ∧ Binds K d p29 [] := by
    have F := fun_mk (st := s29) l29 c29 k29
    exact ⟨_, F, F.binds (ps := p29) fun _ _ _ _ _ _ us hl => match us, hl with | [_, _], _ => rfl⟩
  obtain ⟨d30, F30, b30⟩ : ∃ d, Fun K "_law_time" "_law_time" s30 f30 d ∧ Binds K d p30 [] := by
    have F := fun_mk (st := s30) l30 c30 k30
    exact ⟨_, F, F.binds (ps := p30) fun _ _ _ _ _ _ us hl => match us, hl with | [_, _], _ => rfl⟩
  obtain ⟨d31, F31, b31⟩ : ∃ d, Fun K "_law_leaf" "_law_leaf" s31 f31 d ∧ Binds K d p31 [] := by
    have F := fun_mk (st := s31) l31 c31 k31
    exact ⟨_, F, F.binds (ps := p31) fun _ _ _ _ _ _ us hl => match us, hl with | [_, _, _, _], _ => rfl⟩
  obtain ⟨d32, F32, b32⟩ : ∃ d, Fun K "_law_tree" "_law_tree" s32 f32 d ∧ Binds K d p32 [] := by
    have F := fun_mk (st := s32) l32 c32 k32
    exact ⟨_, F, F.binds (ps := p32) fun _ _ _ _ _ _ us hl => match us, hl with | [_, _, _, _, _], _ => rfl⟩
  obtain ⟨d33, F33, b33⟩ : ∃ d, Fun K "_law_line" "_law_line" s33 f33 d ∧ Binds K d p33 [] := by
    have F := fun_mk (st := s33) l33 c33 k33
    exact ⟨_, F, F.binds (ps := p33) fun _ _ _ _ _ _ us hl => match us, hl with | [_], _ => rfl⟩
  obtain ⟨d34, F34, b34⟩ : ∃ d, Fun K "_law_inner" "_law_inner" s34 f34 d ∧ Binds K d p34 [] := by
    have F := fun_mk (st := s34) l34 c34 k34
    exact ⟨_, F, F.binds (ps := p34) fun _ _ _ _ _ _ us hl => match us, hl with | [_], _ => rfl⟩
  obtain ⟨d35, F35, b35⟩ : ∃ d, Fun K "_law_walk" "_law_walk" s35 f35 d ∧ Binds K d p35 [] := by
    have F := fun_mk (st := s35) l35 c35 k35
    exact ⟨_, F, F.binds (ps := p35) fun _ _ _ _ _ _ us hl => match us, hl with | [_], _ => rfl⟩
  obtain ⟨d36, F36, b36⟩ : ∃ d, Fun K "_law_behind" "_law_behind" s36 f36 d ∧ Binds K d p36 [] := by
    have F := fun_mk (st := s36) l36 c36 k36
    exact ⟨_, F, F.binds (ps := p36) fun _ _ _ _ _ _ us hl => match us, hl with | [_, _, _, _], _ => rfl⟩
  obtain ⟨d37, F37, b37⟩ : ∃ d, Fun K "_law_go" "_law_go" s37 f37 d ∧ Binds K d p37 [] := by
    have F := fun_mk (st := s37) l37 c37 k37
    exact ⟨_, F, F.binds (ps := p37) fun _ _ _ _ _ _ us hl => match us, hl with | [_, _], _ => rfl⟩
  obtain ⟨d38, F38, b38⟩ : ∃ d, Fun K "_law_left" "_law_left" s38 f38 d ∧ Binds K d p38 [] := by
    have F := fun_mk (st := s38) l38 c38 k38
    exact ⟨_, F, F.binds (ps := p38) fun _ _ _ _ _ _ us hl => match us, hl with | [_, _], _ => rfl⟩
  obtain ⟨d39, F39, b39⟩ : ∃ d, Fun K "_law_arrivals" "_law_arrivals" s39 f39 d ∧ Binds K d p39 [] := by
    have F := fun_mk (st := s39) l39 c39 k39
    exact ⟨_, F, F.binds (ps := p39) fun _ _ _ _ _ _ us hl => match us, hl with | [_, _], _ => rfl⟩
  obtain ⟨d40, F40, b40⟩ : ∃ d, Fun K "_law_twice_right" "_law_twice_right" s40 f40 d ∧ Binds K d p40 [] := by
    have F := fun_mk (st := s40) l40 c40 k40
    exact ⟨_, F, F.binds (ps := p40) fun _ _ _ _ _ _ us hl => match us, hl with | [_], _ => rfl⟩
  obtain ⟨d41, F41, b41, lb⟩ : ∃ d, Fun K "law" "law" s41 q0 d ∧ Binds K d p41 [] ∧ (∀ (s : Shared) (u : Value), BindsTo s d ⟨[u], []⟩ [("_law_script", u)]) := by
    have F := fun_mk (st := s41) l41 c41 k41
    exact ⟨_, F, F.binds (ps := p41) fun _ _ _ _ _ _ us hl => match us, hl with | [_], _ => rfl, fun s u => .of_eq rfl⟩
  obtain ⟨dG0, FG0, bG0, kwG0_0⟩ : ∃ d, Fun K "leavings" "leavings" sG0 fG0 d ∧ Binds K d pG0 [] ∧ BindsK K d pG0 ["arrivals", "line"] [1, 0] := by
    have F := fun_mk (st := sG0) lG0 cG0 kG0
    exact ⟨_, F, F.binds (ps := pG0) fun _ _ _ _ _ _ us hl => match us, hl with | [_, _], _ => rfl, fun s ws _ hl => match ws, hl with | [_, _], _ => .of_eq rfl⟩
  let fa : Nat → Addr := fun i => [f0, f1, f2, f3, f4, f5, f6, f7, f8, f9, f10, f11, f12, f13, f14, f15, f16, f17, f18, f19, f20, f21, f22, f23, f24, f25, f26, f27, f28, f29, f30, f31, f32, f33, f34, f35, f36, f37, f38, f39, f40, q0, fG0].getD i 0
  let fd : Nat → FuncData := fun i => [d0, d1, d2, d3, d4, d5, d6, d7, d8, d9, d10, d11, d12, d13, d14, d15, d16, d17, d18, d19, d20, d21, d22, d23, d24, d25, d26, d27, d28, d29, d30, d31, d32, d33, d34, d35, d36, d37, d38, d39, d40, d41, dG0].getD i d0
  let cl : ClsT := ⟨fun i => ([C0, C1] : List Addr).getD i 0, []⟩
  have FXi : FX K fa fd := ⟨F0, F1, F2, F3, F4, F5, F6, F7, F8, F9, F10, F11, F12, F13, F14, F15, F16, F17, F18, F19, F20, F21, F22, F23, F24, F25, F26, F27, F28, F29, F30, F31, F32, F33, F34, F35, F36, F37, F38, F39, F40, F41, b0, b1, b2, b3, b4, b5, b6, b7, b8, b9, b10, b11, b12, b13, b14, b15, b16, b17, b18, b19, b20, b21, b22, b23, b24, b25, b26, b27, b28, b29, b30, b31, b32, b33, b34, b35, b36, b37, b38, b39, b40, b41, k0, k1, k2, k3, k4, k5, k6, k7, k8, k9, k10, k11, k12, k13, k14, k15, k16, k17, k18, k19, k20, k21, k22, k23, k24, k25, k26, k27, k28, k29, k30, k31, k32, k33, k34, k35, k36, k37, k38, k39, k40, k41⟩
  have LXi : LX K mg cl fa fd := ⟨PySem.W.mg_of X G a0, PySem.W.mg_of X G a1, PySem.W.mg_of X G a2, PySem.W.mg_of X G a3, PySem.W.mg_of X G a9, PySem.W.mg_of X G a10, PySem.W.mg_of X G a11, PySem.W.mg_of X G a12, PySem.W.mg_of X G a13, PySem.W.mg_of X G a14, PySem.W.mg_of X G a15, PySem.W.mg_of X G a16, PySem.W.mg_of X G a26, PySem.W.mg_of X G a27, PySem.W.mg_of X G a28, PySem.W.mg_of X G a29, PySem.W.mg_of X G a30, PySem.W.mg_of X G a31, PySem.W.mg_of X G a32, PySem.W.mg_of X G a33, PySem.W.mg_of X G a34, PySem.W.mg_of X G a35, PySem.W.mg_of X G a36, PySem.W.mg_of X G a37, PySem.W.mg_of X G a38, PySem.W.mg_of X G a39, PySem.W.mg_of X G a40, PySem.W.mg_of X G a41, PySem.W.mg_of X G aG0, FG0, bG0, PySem.W.mg_of X G C_Walk, ⟨pg_Walk, hd_Walk, po_Walk, sa_Walk⟩, n_Walk_entries, n_Walk_inner, n_Walk_leavings, n_Walk_path, n_Walk_piece, ⟨mk_Walk, a4, i4, kc_Walk⟩, ⟨a5, i5, k5⟩, ⟨a7, i7, k7⟩, ⟨a6, i6, k6⟩, ⟨a8, i8, k8⟩, PySem.W.mg_of X G C_Line, ⟨pg_Line, hd_Line, po_Line, sa_Line⟩, n_Line_all_paths, n_Line_nested, ⟨mk_Line, a17, i17, kc_Line⟩, ⟨a21, i21, k21⟩, ⟨a25, i25, k25⟩, ⟨sf_Line, a22, i22⟩, ⟨sf_Line, a23, i23⟩, ⟨ga_Line, ⟨.type "type", ob18, q18, rs18, r18, a18, v18⟩, k18⟩, ⟨ga_Line, ⟨.type "type", ob19, q19, rs19, r19, a19, v19⟩, k19⟩, ⟨ga_Line, ⟨.type "type", ob20, q20, rs20, r20, a20, v20⟩, k20⟩, ⟨a24, i24, fi_Line⟩, ⟨_, PySem.W.mg_of X G g_GREATEST_MOMENT⟩, ⟨_, PySem.W.mg_of X G g_GREATEST_TIME⟩, ⟨_, PySem.W.mg_of X G g_MOST_COUNT⟩, ⟨_, PySem.W.mg_of X G g_MOST_PARTS⟩, PySem.W.mg_none_of X G z_isinstance, PySem.W.mg_none_of X G z_int, PySem.W.mg_none_of X G z_bool, PySem.W.mg_none_of X G z_enumerate, PySem.W.mg_none_of X G z_list, PySem.W.mg_none_of X G z_tuple, PySem.W.mg_none_of X G z_len, PySem.W.mg_none_of X G z_max, PySem.W.mg_none_of X G z_sorted, PySem.W.mg_none_of X G z_abs, PySem.W.mg_none_of X G z_range, PySem.W.mg_none_of X G z_min, PySem.W.mg_none_of X G z_repr, kwG0_0, kwm24_0⟩
  exact ⟨fd 41, cl, rfl, lb, fun base _ _ => fn_all FXi LXi 60 41 (by decide)⟩
theorem all_of {l : PySem.W.OpenLaw} {w : World} {K : PySem.W.Frag} {h : Heap} {mg : Str → Option Value} {q0 : Addr} (c : HSays fa fn ts K h) (G : h.Ns mainGlobals mg) (hfa : mg "law" = some (.ref q0)) : ∃ (fd : FuncData) (cl : ClsT), cl.tb = [] ∧ (∀ (s : Shared) (u : Value), BindsTo s fd ⟨[u], []⟩ [("_law_script", u)]) ∧ ∀ base : Heap, K.In base → base.Ns mainGlobals mg → FnG l.prog w K mg base (2 * 60 + 2) q0 fd ["_law_script"] (spF ⟨K, cl⟩ 1 (sem 60 41)) := by
  have C_Walk : PySem.W.nsIn K mainGlobals "Walk" = some (some (.ref (aC0 K))) := of_decide_eq_true (c.f 0 rfl)
  have pg_Walk : PySem.W.plainGet K (aC0 K) Str.empty = true := c.f 1 rfl
  have hd_Walk : PySem.W.hasDictIn K (aC0 K) = true := c.f 2 rfl
  have po_Walk : PySem.W.plainOver K (aC0 K) = true := c.f 3 rfl
  have sa_Walk : PySem.W.findIn K (.ref (aC0 K)) "__setattr__" = some (some (.builtin "object.__setattr__")) := of_decide_eq_true (c.f 4 rfl)
  have n_Walk_entries : PySem.W.findIn K (.ref (aC0 K)) "entries" = some none := of_decide_eq_true (c.f 5 rfl)
  have n_Walk_inner : PySem.W.findIn K (.ref (aC0 K)) "inner" = some none := of_decide_eq_true (c.f 6 rfl)
  have n_Walk_leavings : PySem.W.findIn K (.ref (aC0 K)) "leavings" = some none := of_decide_eq_true (c.f 7 rfl)
  have n_Walk_path : PySem.W.findIn K (.ref (aC0 K)) "path" = some none := of_decide_eq_true (c.f 8 rfl)
  have n_Walk_piece : PySem.W.findIn K (.ref (aC0 K)) "piece" = some none := of_decide_eq_true (c.f 9 rfl)
  have mk_Walk : PySem.W.makesIn K (aC0 K) = true := c.f 10 rfl
  have kc_Walk : PySem.W.keepIn K (.ref (aC0 K)) = true := c.f 11 rfl
  have C_Line : PySem.W.nsIn K mainGlobals "Line" = some (some (.ref (aC1 K))) := of_decide_eq_true (c.f 12 rfl)
  have pg_Line : PySem.W.plainGet K (aC1 K) Str.empty = true := c.f 13 rfl
  have hd_Line : PySem.W.hasDictIn K (aC1 K) = true := c.f 14 rfl
  have po_Line : PySem.W.plainOver K (aC1 K) = true := c.f 15 rfl
  have sa_Line : PySem.W.findIn K (.ref (aC1 K)) "__setattr__" = some (some (.builtin "object.__setattr__")) := of_decide_eq_true (c.f 16 rfl)
  have n_Line_all_paths : PySem.W.findIn K (.ref (aC1 K)) "all_paths" = some none := of_decide_eq_true (c.f 17 rfl)
  have n_Line_nested : PySem.W.findIn K (.ref (aC1 K)) "nested" = some none := of_decide_eq_true (c.f 18 rfl)
  have mk_Line : PySem.W.makesIn K (aC1 K) = true := c.f 19 rfl
  have kc_Line : PySem.W.keepIn K (.ref (aC1 K)) = true := c.f 20 rfl
  have sf_Line : PySem.W.selfFirst K (aC1 K) = true := c.f 21 rfl
  have ga_Line : PySem.W.specialIn K (.ref (aC1 K)) "__getattribute__" = some (some (.builtin "type.__getattribute__")) := of_decide_eq_true (c.f 22 rfl)
  have a0 : PySem.W.nsIn K mainGlobals "is_number" = some (some (.ref (aF0 K))) := of_decide_eq_true (c.f 23 rfl)
  obtain ⟨oc0, od0, kV0, dc0, pm0, an0, cd0, ct0, sl0, l0, c0⟩ := hdef_ok (st := s0) (c.d 0 rfl) (c.f 24 rfl)
  have k0 : PySem.W.keepIn K (.ref (aF0 K)) = true := c.f 25 rfl
  have a1 : PySem.W.nsIn K mainGlobals "is_moment" = some (some (.ref (aF1 K))) := of_decide_eq_true (c.f 26 rfl)
  obtain ⟨oc1, od1, kV1, dc1, pm1, an1, cd1, ct1, sl1, l1, c1⟩ := hdef_ok (st := s1) (c.d 1 rfl) (c.f 27 rfl)
  have k1 : PySem.W.keepIn K (.ref (aF1 K)) = true := c.f 28 rfl
  have a2 : PySem.W.nsIn K mainGlobals "first_bad" = some (some (.ref (aF2 K))) := of_decide_eq_true (c.f 29 rfl)
  obtain ⟨oc2, od2, kV2, dc2, pm2, an2, cd2, ct2, sl2, l2, c2⟩ := hdef_ok (st := s2) (c.d 2 rfl) (c.f 30 rfl)
  have k2 : PySem.W.keepIn K (.ref (aF2 K)) = true := c.f 31 rfl
  have a3 : PySem.W.nsIn K mainGlobals "need_arrivals" = some (some (.ref (aF3 K))) := of_decide_eq_true (c.f 32 rfl)
  obtain ⟨oc3, od3, kV3, dc3, pm3, an3, cd3, ct3, sl3, l3, c3⟩ := hdef_ok (st := s3) (c.d 3 rfl) (c.f 33 rfl)
  have k3 : PySem.W.keepIn K (.ref (aF3 K)) = true := c.f 34 rfl
  have a4 : PySem.W.findIn K (.ref (aC0 K)) "__init__" = some (some (.ref (aF4 K))) := of_decide_eq_true (c.f 35 rfl)
  have i4 : PySem.W.isFn K (.ref (aF4 K)) = true := c.f 36 rfl
  obtain ⟨oc4, od4, kV4, dc4, pm4, an4, cd4, ct4, sl4, l4, c4⟩ := hdef_ok (st := s4) (c.d 4 rfl) (c.f 37 rfl)
  have k4 : PySem.W.keepIn K (.ref (aF4 K)) = true := c.f 38 rfl
  have a5 : PySem.W.findIn K (.ref (aC0 K)) "earlier" = some (some (.ref (aF5 K))) := of_decide_eq_true (c.f 39 rfl)
  have i5 : PySem.W.isFn K (.ref (aF5 K)) = true := c.f 40 rfl
  obtain ⟨oc5, od5, kV5, dc5, pm5, an5, cd5, ct5, sl5, l5, c5⟩ := hdef_ok (st := s5) (c.d 5 rfl) (c.f 41 rfl)
  have k5 : PySem.W.keepIn K (.ref (aF5 K)) = true := c.f 42 rfl
  have a6 : PySem.W.findIn K (.ref (aC0 K)) "left" = some (some (.ref (aF6 K))) := of_decide_eq_true (c.f 43 rfl)
  have i6 : PySem.W.isFn K (.ref (aF6 K)) = true := c.f 44 rfl
  obtain ⟨oc6, od6, kV6, dc6, pm6, an6, cd6, ct6, sl6, l6, c6⟩ := hdef_ok (st := s6) (c.d 6 rfl) (c.f 45 rfl)
  have k6 : PySem.W.keepIn K (.ref (aF6 K)) = true := c.f 46 rfl
  have a7 : PySem.W.findIn K (.ref (aC0 K)) "go" = some (some (.ref (aF7 K))) := of_decide_eq_true (c.f 47 rfl)
  have i7 : PySem.W.isFn K (.ref (aF7 K)) = true := c.f 48 rfl
  obtain ⟨oc7, od7, kV7, dc7, pm7, an7, cd7, ct7, sl7, l7, c7⟩ := hdef_ok (st := s7) (c.d 7 rfl) (c.f 49 rfl)
  have k7 : PySem.W.keepIn K (.ref (aF7 K)) = true := c.f 50 rfl
  have a8 : PySem.W.findIn K (.ref (aC0 K)) "rows" = some (some (.ref (aF8 K))) := of_decide_eq_true (c.f 51 rfl)
  have i8 : PySem.W.isFn K (.ref (aF8 K)) = true := c.f 52 rfl
  obtain ⟨oc8, od8, kV8, dc8, pm8, an8, cd8, ct8, sl8, l8, c8⟩ := hdef_ok (st := s8) (c.d 8 rfl) (c.f 53 rfl)
  have k8 : PySem.W.keepIn K (.ref (aF8 K)) = true := c.f 54 rfl
  have a9 : PySem.W.nsIn K mainGlobals "inner_parts" = some (some (.ref (aF9 K))) := of_decide_eq_true (c.f 55 rfl)
  obtain ⟨oc9, od9, kV9, dc9, pm9, an9, cd9, ct9, sl9, l9, c9⟩ := hdef_ok (st := s9) (c.d 9 rfl) (c.f 56 rfl)
  have k9 : PySem.W.keepIn K (.ref (aF9 K)) = true := c.f 57 rfl
  have a10 : PySem.W.nsIn K mainGlobals "walk_of" = some (some (.ref (aF10 K))) := of_decide_eq_true (c.f 58 rfl)
  obtain ⟨oc10, od10, kV10, dc10, pm10, an10, cd10, ct10, sl10, l10, c10⟩ := hdef_ok (st := s10) (c.d 10 rfl) (c.f 59 rfl)
  have k10 : PySem.W.keepIn K (.ref (aF10 K)) = true := c.f 60 rfl
  have a11 : PySem.W.nsIn K mainGlobals "walked" = some (some (.ref (aF11 K))) := of_decide_eq_true (c.f 61 rfl)
  obtain ⟨oc11, od11, kV11, dc11, pm11, an11, cd11, ct11, sl11, l11, c11⟩ := hdef_ok (st := s11) (c.d 11 rfl) (c.f 62 rfl)
  have k11 : PySem.W.keepIn K (.ref (aF11 K)) = true := c.f 63 rfl
  have a12 : PySem.W.nsIn K mainGlobals "is_time" = some (some (.ref (aF12 K))) := of_decide_eq_true (c.f 64 rfl)
  obtain ⟨oc12, od12, kV12, dc12, pm12, an12, cd12, ct12, sl12, l12, c12⟩ := hdef_ok (st := s12) (c.d 12 rfl) (c.f 65 rfl)
  have k12 : PySem.W.keepIn K (.ref (aF12 K)) = true := c.f 66 rfl
  have a13 : PySem.W.nsIn K mainGlobals "is_count" = some (some (.ref (aF13 K))) := of_decide_eq_true (c.f 67 rfl)
  obtain ⟨oc13, od13, kV13, dc13, pm13, an13, cd13, ct13, sl13, l13, c13⟩ := hdef_ok (st := s13) (c.d 13 rfl) (c.f 68 rfl)
  have k13 : PySem.W.keepIn K (.ref (aF13 K)) = true := c.f 69 rfl
  have a14 : PySem.W.nsIn K mainGlobals "need_count" = some (some (.ref (aF14 K))) := of_decide_eq_true (c.f 70 rfl)
  obtain ⟨oc14, od14, kV14, dc14, pm14, an14, cd14, ct14, sl14, l14, c14⟩ := hdef_ok (st := s14) (c.d 14 rfl) (c.f 71 rfl)
  have k14 : PySem.W.keepIn K (.ref (aF14 K)) = true := c.f 72 rfl
  have a15 : PySem.W.nsIn K mainGlobals "need_time" = some (some (.ref (aF15 K))) := of_decide_eq_true (c.f 73 rfl)
  obtain ⟨oc15, od15, kV15, dc15, pm15, an15, cd15, ct15, sl15, l15, c15⟩ := hdef_ok (st := s15) (c.d 15 rfl) (c.f 74 rfl)
  have k15 : PySem.W.keepIn K (.ref (aF15 K)) = true := c.f 75 rfl
  have a16 : PySem.W.nsIn K mainGlobals "paths_of" = some (some (.ref (aF16 K))) := of_decide_eq_true (c.f 76 rfl)
  obtain ⟨oc16, od16, kV16, dc16, pm16, an16, cd16, ct16, sl16, l16, c16⟩ := hdef_ok (st := s16) (c.d 16 rfl) (c.f 77 rfl)
  have k16 : PySem.W.keepIn K (.ref (aF16 K)) = true := c.f 78 rfl
  have a17 : PySem.W.findIn K (.ref (aC1 K)) "__init__" = some (some (.ref (aF17 K))) := of_decide_eq_true (c.f 79 rfl)
  have i17 : PySem.W.isFn K (.ref (aF17 K)) = true := c.f 80 rfl
  obtain ⟨oc17, od17, kV17, dc17, pm17, an17, cd17, ct17, sl17, l17, c17⟩ := hdef_ok (st := s17) (c.d 17 rfl) (c.f 81 rfl)
  have k17 : PySem.W.keepIn K (.ref (aF17 K)) = true := c.f 82 rfl
  obtain ⟨ob18, rs18, a18, v18⟩ := hStB_ok (c.f 83 rfl)
  have r18 : PySem.W.readsIn K (aC1 K) (.type "type") = true := c.f 84 rfl
  obtain ⟨oc18, od18, kV18, dc18, pm18, an18, cd18, ct18, sl18, l18, c18⟩ := hdef_ok (st := s18) (c.d 18 rfl) (c.f 85 rfl)
  have k18 : PySem.W.keepIn K (.ref (aF18 K)) = true := c.f 86 rfl
  obtain ⟨ob19, rs19, a19, v19⟩ := hStB_ok (c.f 87 rfl)
  have r19 : PySem.W.readsIn K (aC1 K) (.type "type") = true := c.f 88 rfl
  obtain ⟨oc19, od19, kV19, dc19, pm19, an19, cd19, ct19, sl19, l19, c19⟩ := hdef_ok (st := s19) (c.d 19 rfl) (c.f 89 rfl)
  have k19 : PySem.W.keepIn K (.ref (aF19 K)) = true := c.f 90 rfl
  obtain ⟨ob20, rs20, a20, v20⟩ := hStB_ok (c.f 91 rfl)
  have r20 : PySem.W.readsIn K (aC1 K) (.type "type") = true := c.f 92 rfl
  obtain ⟨oc20, od20, kV20, dc20, pm20, an20, cd20, ct20, sl20, l20, c20⟩ := hdef_ok (st := s20) (c.d 20 rfl) (c.f 93 rfl)
  have k20 : PySem.W.keepIn K (.ref (aF20 K)) = true := c.f 94 rfl
  have a21 : PySem.W.findIn K (.ref (aC1 K)) "limited" = some (some (.ref (aF21 K))) := of_decide_eq_true (c.f 95 rfl)
  have i21 : PySem.W.isFn K (.ref (aF21 K)) = true := c.f 96 rfl
  obtain ⟨oc21, od21, kV21, dc21, pm21, an21, cd21, ct21, sl21, l21, c21⟩ := hdef_ok (st := s21) (c.d 21 rfl) (c.f 97 rfl)
  have k21 : PySem.W.keepIn K (.ref (aF21 K)) = true := c.f 98 rfl
  have a22 : PySem.W.findIn K (.ref (aC1 K)) "__add__" = some (some (.ref (aF22 K))) := of_decide_eq_true (c.f 99 rfl)
  have i22 : PySem.W.isFn K (.ref (aF22 K)) = true := c.f 100 rfl
  obtain ⟨oc22, od22, kV22, dc22, pm22, an22, cd22, ct22, sl22, l22, c22⟩ := hdef_ok (st := s22) (c.d 22 rfl) (c.f 101 rfl)
  have k22 : PySem.W.keepIn K (.ref (aF22 K)) = true := c.f 102 rfl
  have a23 : PySem.W.findIn K (.ref (aC1 K)) "__and__" = some (some (.ref (aF23 K))) := of_decide_eq_true (c.f 103 rfl)
  have i23 : PySem.W.isFn K (.ref (aF23 K)) = true := c.f 104 rfl
  obtain ⟨oc23, od23, kV23, dc23, pm23, an23, cd23, ct23, sl23, l23, c23⟩ := hdef_ok (st := s23) (c.d 23 rfl) (c.f 105 rfl)
  have k23 : PySem.W.keepIn K (.ref (aF23 K)) = true := c.f 106 rfl
  have a24 : PySem.W.findIn K (.ref (aC1 K)) "__call__" = some (some (.ref (aF24 K))) := of_decide_eq_true (c.f 107 rfl)
  have i24 : PySem.W.isFn K (.ref (aF24 K)) = true := c.f 108 rfl
  obtain ⟨oc24, od24, kV24, dc24, pm24, an24, cd24, ct24, sl24, l24, c24⟩ := hdef_ok (st := s24) (c.d 24 rfl) (c.f 109 rfl)
  have k24 : PySem.W.keepIn K (.ref (aF24 K)) = true := c.f 110 rfl
  have a25 : PySem.W.findIn K (.ref (aC1 K)) "parts" = some (some (.ref (aF25 K))) := of_decide_eq_true (c.f 111 rfl)
  have i25 : PySem.W.isFn K (.ref (aF25 K)) = true := c.f 112 rfl
  obtain ⟨oc25, od25, kV25, dc25, pm25, an25, cd25, ct25, sl25, l25, c25⟩ := hdef_ok (st := s25) (c.d 25 rfl) (c.f 113 rfl)
  have k25 : PySem.W.keepIn K (.ref (aF25 K)) = true := c.f 114 rfl
  have a26 : PySem.W.nsIn K mainGlobals "_law_begun" = some (some (.ref (aF26 K))) := of_decide_eq_true (c.f 115 rfl)
  obtain ⟨oc26, od26, kV26, dc26, pm26, an26, cd26, ct26, sl26, l26, c26⟩ := hdef_ok (st := s26) (c.d 26 rfl) (c.f 116 rfl)
  have k26 : PySem.W.keepIn K (.ref (aF26 K)) = true := c.f 117 rfl
  have a27 : PySem.W.nsIn K mainGlobals "_law_mixed" = some (some (.ref (aF27 K))) := of_decide_eq_true (c.f 118 rfl)
  obtain ⟨oc27, od27, kV27, dc27, pm27, an27, cd27, ct27, sl27, l27, c27⟩ := hdef_ok (st := s27) (c.d 27 rfl) (c.f 119 rfl)
  have k27 : PySem.W.keepIn K (.ref (aF27 K)) = true := c.f 120 rfl
  have a28 : PySem.W.nsIn K mainGlobals "_law_take" = some (some (.ref (aF28 K))) := of_decide_eq_true (c.f 121 rfl)
  obtain ⟨oc28, od28, kV28, dc28, pm28, an28, cd28, ct28, sl28, l28, c28⟩ := hdef_ok (st := s28) (c.d 28 rfl) (c.f 122 rfl)
  have k28 : PySem.W.keepIn K (.ref (aF28 K)) = true := c.f 123 rfl
  have a29 : PySem.W.nsIn K mainGlobals "_law_pick" = some (some (.ref (aF29 K))) := of_decide_eq_true (c.f 124 rfl)
  obtain ⟨oc29, od29, kV29, dc29, pm29, an29, cd29, ct29, sl29, l29, c29⟩ := hdef_ok (st := s29) (c.d 29 rfl) (c.f 125 rfl)
  have k29 : PySem.W.keepIn K (.ref (aF29 K)) = true := c.f 126 rfl
  have a30 : PySem.W.nsIn K mainGlobals "_law_time" = some (some (.ref (aF30 K))) := of_decide_eq_true (c.f 127 rfl)
  obtain ⟨oc30, od30, kV30, dc30, pm30, an30, cd30, ct30, sl30, l30, c30⟩ := hdef_ok (st := s30) (c.d 30 rfl) (c.f 128 rfl)
  have k30 : PySem.W.keepIn K (.ref (aF30 K)) = true := c.f 129 rfl
  have a31 : PySem.W.nsIn K mainGlobals "_law_leaf" = some (some (.ref (aF31 K))) := of_decide_eq_true (c.f 130 rfl)
  obtain ⟨oc31, od31, kV31, dc31, pm31, an31, cd31, ct31, sl31, l31, c31⟩ := hdef_ok (st := s31) (c.d 31 rfl) (c.f 131 rfl)
  have k31 : PySem.W.keepIn K (.ref (aF31 K)) = true := c.f 132 rfl
  have a32 : PySem.W.nsIn K mainGlobals "_law_tree" = some (some (.ref (aF32 K))) := of_decide_eq_true (c.f 133 rfl)
  obtain ⟨oc32, od32, kV32, dc32, pm32, an32, cd32, ct32, sl32, l32, c32⟩ := hdef_ok (st := s32) (c.d 32 rfl) (c.f 134 rfl)
  have k32 : PySem.W.keepIn K (.ref (aF32 K)) = true := c.f 135 rfl
  have a33 : PySem.W.nsIn K mainGlobals "_law_line" = some (some (.ref (aF33 K))) := of_decide_eq_true (c.f 136 rfl)
  obtain ⟨oc33, od33, kV33, dc33, pm33, an33, cd33, ct33, sl33, l33, c33⟩ := hdef_ok (st := s33) (c.d 33 rfl) (c.f 137 rfl)
  have k33 : PySem.W.keepIn K (.ref (aF33 K)) = true := c.f 138 rfl
  have a34 : PySem.W.nsIn K mainGlobals "_law_inner" = some (some (.ref (aF34 K))) := of_decide_eq_true (c.f 139 rfl)
  obtain ⟨oc34, od34, kV34, dc34, pm34, an34, cd34, ct34, sl34, l34, c34⟩ := hdef_ok (st := s34) (c.d 34 rfl) (c.f 140 rfl)
  have k34 : PySem.W.keepIn K (.ref (aF34 K)) = true := c.f 141 rfl
  have a35 : PySem.W.nsIn K mainGlobals "_law_walk" = some (some (.ref (aF35 K))) := of_decide_eq_true (c.f 142 rfl)
  obtain ⟨oc35, od35, kV35, dc35, pm35, an35, cd35, ct35, sl35, l35, c35⟩ := hdef_ok (st := s35) (c.d 35 rfl) (c.f 143 rfl)
  have k35 : PySem.W.keepIn K (.ref (aF35 K)) = true := c.f 144 rfl
  have a36 : PySem.W.nsIn K mainGlobals "_law_behind" = some (some (.ref (aF36 K))) := of_decide_eq_true (c.f 145 rfl)
  obtain ⟨oc36, od36, kV36, dc36, pm36, an36, cd36, ct36, sl36, l36, c36⟩ := hdef_ok (st := s36) (c.d 36 rfl) (c.f 146 rfl)
  have k36 : PySem.W.keepIn K (.ref (aF36 K)) = true := c.f 147 rfl
  have a37 : PySem.W.nsIn K mainGlobals "_law_go" = some (some (.ref (aF37 K))) := of_decide_eq_true (c.f 148 rfl)
  obtain ⟨oc37, od37, kV37, dc37, pm37, an37, cd37, ct37, sl37, l37, c37⟩ := hdef_ok (st := s37) (c.d 37 rfl) (c.f 149 rfl)
  have k37 : PySem.W.keepIn K (.ref (aF37 K)) = true := c.f 150 rfl
  have a38 : PySem.W.nsIn K mainGlobals "_law_left" = some (some (.ref (aF38 K))) := of_decide_eq_true (c.f 151 rfl)
  obtain ⟨oc38, od38, kV38, dc38, pm38, an38, cd38, ct38, sl38, l38, c38⟩ := hdef_ok (st := s38) (c.d 38 rfl) (c.f 152 rfl)
  have k38 : PySem.W.keepIn K (.ref (aF38 K)) = true := c.f 153 rfl
  have a39 : PySem.W.nsIn K mainGlobals "_law_arrivals" = some (some (.ref (aF39 K))) := of_decide_eq_true (c.f 154 rfl)
  obtain ⟨oc39, od39, kV39, dc39, pm39, an39, cd39, ct39, sl39, l39, c39⟩ := hdef_ok (st := s39) (c.d 39 rfl) (c.f 155 rfl)
  have k39 : PySem.W.keepIn K (.ref (aF39 K)) = true := c.f 156 rfl
  have a40 : PySem.W.nsIn K mainGlobals "_law_twice_right" = some (some (.ref (aF40 K))) := of_decide_eq_true (c.f 157 rfl)
  obtain ⟨oc40, od40, kV40, dc40, pm40, an40, cd40, ct40, sl40, l40, c40⟩ := hdef_ok (st := s40) (c.d 40 rfl) (c.f 158 rfl)
  have k40 : PySem.W.keepIn K (.ref (aF40 K)) = true := c.f 159 rfl
  have a41 : PySem.W.nsIn K mainGlobals "law" = some (some (.ref (aF41 K))) := of_decide_eq_true (c.f 160 rfl)
  obtain ⟨oc41, od41, kV41, dc41, pm41, an41, cd41, ct41, sl41, l41, c41⟩ := hdef_ok (st := s41) (c.d 41 rfl) (c.f 161 rfl)
  have k41 : PySem.W.keepIn K (.ref (aF41 K)) = true := c.f 162 rfl
  have aG0 : PySem.W.nsIn K mainGlobals "leavings" = some (some (.ref (aFG0 K))) := of_decide_eq_true (c.f 163 rfl)
  obtain ⟨ocG0, odG0, kVG0, dcG0, pmG0, anG0, cdG0, ctG0, slG0, lG0, cG0⟩ := hdef_ok (st := sG0) (c.d 42 rfl) (c.f 164 rfl)
  have kG0 : PySem.W.keepIn K (.ref (aFG0 K)) = true := c.f 165 rfl
  have fi_Line : PySem.W.fnIn K (aF24 K) = true := c.f 166 rfl
  obtain ⟨t_GREATEST_MOMENT, g_GREATEST_MOMENT⟩ := hInt_ok (c.f 167 rfl)
  obtain ⟨t_GREATEST_TIME, g_GREATEST_TIME⟩ := hInt_ok (c.f 168 rfl)
  obtain ⟨t_MOST_COUNT, g_MOST_COUNT⟩ := hInt_ok (c.f 169 rfl)
  obtain ⟨t_MOST_PARTS, g_MOST_PARTS⟩ := hInt_ok (c.f 170 rfl)
  have z_isinstance : PySem.W.nsIn K mainGlobals "isinstance" = some none := of_decide_eq_true (c.f 171 rfl)
  have z_int : PySem.W.nsIn K mainGlobals "int" = some none := of_decide_eq_true (c.f 172 rfl)
  have z_bool : PySem.W.nsIn K mainGlobals "bool" = some none := of_decide_eq_true (c.f 173 rfl)
  have z_enumerate : PySem.W.nsIn K mainGlobals "enumerate" = some none := of_decide_eq_true (c.f 174 rfl)
  have z_list : PySem.W.nsIn K mainGlobals "list" = some none := of_decide_eq_true (c.f 175 rfl)
  have z_tuple : PySem.W.nsIn K mainGlobals "tuple" = some none := of_decide_eq_true (c.f 176 rfl)
  have z_len : PySem.W.nsIn K mainGlobals "len" = some none := of_decide_eq_true (c.f 177 rfl)
  have z_max : PySem.W.nsIn K mainGlobals "max" = some none := of_decide_eq_true (c.f 178 rfl)
  have z_sorted : PySem.W.nsIn K mainGlobals "sorted" = some none := of_decide_eq_true (c.f 179 rfl)
  have z_abs : PySem.W.nsIn K mainGlobals "abs" = some none := of_decide_eq_true (c.f 180 rfl)
  have z_range : PySem.W.nsIn K mainGlobals "range" = some none := of_decide_eq_true (c.f 181 rfl)
  have z_min : PySem.W.nsIn K mainGlobals "min" = some none := of_decide_eq_true (c.f 182 rfl)
  have z_repr : PySem.W.nsIn K mainGlobals "repr" = some none := of_decide_eq_true (c.f 183 rfl)
  exact all_mk c.inH G hfa C_Walk pg_Walk hd_Walk po_Walk sa_Walk n_Walk_entries n_Walk_inner n_Walk_leavings n_Walk_path n_Walk_piece mk_Walk kc_Walk C_Line pg_Line hd_Line po_Line sa_Line n_Line_all_paths n_Line_nested mk_Line kc_Line sf_Line ga_Line a0 l0 c0 k0 a1 l1 c1 k1 a2 l2 c2 k2 a3 l3 c3 k3 a4 i4 l4 c4 k4 a5 i5 l5 c5 k5 a6 i6 l6 c6 k6 a7 i7 l7 c7 k7 a8 i8 l8 c8 k8 a9 l9 c9 k9 a10 l10 c10 k10 a11 l11 c11 k11 a12 l12 c12 k12 a13 l13 c13 k13 a14 l14 c14 k14 a15 l15 c15 k15 a16 l16 c16 k16 a17 i17 l17 c17 k17 a18 r18 v18 l18 c18 k18 a19 r19 v19 l19 c19 k19 a20 r20 v20 l20 c20 k20 a21 i21 l21 c21 k21 a22 i22 l22 c22 k22 a23 i23 l23 c23 k23 a24 i24 l24 c24 k24 a25 i25 l25 c25 k25 a26 l26 c26 k26 a27 l27 c27 k27 a28 l28 c28 k28 a29 l29 c29 k29 a30 l30 c30 k30 a31 l31 c31 k31 a32 l32 c32 k32 a33 l33 c33 k33 a34 l34 c34 k34 a35 l35 c35 k35 a36 l36 c36 k36 a37 l37 c37 k37 a38 l38 c38 k38 a39 l39 c39 k39 a40 l40 c40 k40 a41 l41 c41 k41 aG0 lG0 cG0 kG0 fi_Line g_GREATEST_MOMENT g_GREATEST_TIME g_MOST_COUNT g_MOST_PARTS z_isinstance z_int z_bool z_enumerate z_list z_tuple z_len z_max z_sorted z_abs z_range z_min z_repr
end Q
open PySem PySem.W PyProof.Rows
theorem PySem.Challenge.cw_onceburst_k05_moments_at_which_items_lea_holds : PySem.Challenge.rw_onceburst_k05_moments_at_which_items_lea.Holds := by
  w_on; o_law
  refine HandSHeadRun.head_any (r := OpenLaw.row PySem.Challenge.rw_onceburst_k05_moments_at_which_items_lea) (q := view (OpenLaw.row PySem.Challenge.rw_onceburst_k05_moments_at_which_items_lea).prog [62]) (H := Q.hk) (ob := Q.ob) (M := 20000) (loose := Q.loose) (d := HandSHeadRun.topDef (OpenLaw.row PySem.Challenge.rw_onceburst_k05_moments_at_which_items_lea).prog 62) (kwd := []) Q.ob_eq
    (by kernel_rfl) (fun s => by kernel_rfl) Q.run (by kernel_rfl) (by kernel_rfl) (by kernel_rfl) (by rfl) (by first | assumption | decide +kernel) (by decide +kernel) ⟨rfl, rfl, rfl, rfl, rfl, by decide +kernel⟩ ?hw ?hc
  case hw => w_witness2
  case hc =>
  refine DY.law_walksK (l := PySem.Challenge.rw_onceburst_k05_moments_at_which_items_lea) (m := 63) (k := 122) (x := "_law_script") (G := Q.sem 60 41) rfl (by decide) (by kernel_rfl) ⟨rfl, by decide, by decide⟩ ?F Q.law_ok
  case F =>
  intro w mg fa h Y G hmg0
  obtain ⟨K, c⟩ := Y
  have hmg : mg ("law" : PySem.Str) = some (.ref fa) := by
    have e : (HandSHeadRun.topDef (OpenLaw.row PySem.Challenge.rw_onceburst_k05_moments_at_which_items_lea).prog 62).name = ("law" : PySem.Str) := by kernel_rfl
    rw [← e]
    exact hmg0
  exact ⟨K, c.inH, Q.all_of c G hmg⟩
