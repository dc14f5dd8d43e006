import PyProof.Rows.All
import Wide.All
import OpenK.AllK
import Wide.FinOn
import KE.KStateDown
import HandS.ExcInit
import HandS.Lambda
import HandS.Words
import HandS.Head0
import HandS.Head1
import HandS.Head2
import HandS.HeadHook1
import HandS.HeadHook2
import HandS.More
import HandS.ForMost
import HandS.Exc
import HandS.WordsExc
import HandS.Wide
import HandS.TupAny
import HandS.IsInst
import HandS.Flow
import HandS.Style
import HandS.SortInts
import HandS.Star
import HandS.ClsMeth
import KE.DataEq
import KE.SortData
import KE.GoesEnum
import HandS.Zip
import HandS.RaiseMore
import HandS.TupSets
import HandS.Defaults
import PyProof.ReprRoads
import HandS.Sort
import PyProof.FitsInt
import HandS.DictComp
import KE.DatumOrd
import KE.KDictZip
import HandS.FStr
import KE.KeyNested
import HandS.Set
import KE.KUnpack
import KE.DataFind
import OpenK.KMeth
import HandS.ExcIs
import HandS.ExcField
import HandS.TryOnly
import KE.KExcIs
import HandS.Dict
import KE.DatumMoreOrd
import PyProof.StrLawsRepr
import PySem.Challenge.RW_onceburst_k10_terms_listed
set_option Elab.async false
set_option linter.all false
set_option maxRecDepth 100000
set_option maxHeartbeats 4000000
/-! A head that is run in the kernel: the top is not written out, its facts are read by a Hook. -/
namespace DY
open PySem PySem.Spec PyProof.Rows L2
/-! ### where things stand -/
def hCode (K : PySem.W.Frag) (f : Addr) : Addr := match K.lookup f with
  | some ⟨_, _, .func fd, _⟩ => (match fd.code with
    | .ref c => c
    | _ => 0)
  | _ => 0
def hTab (K : PySem.W.Frag) (c : Addr) : Addr := match K.lookup c with
  | some ⟨_, _, .fields vs, _⟩ => (match (vs[11]? : Option Value) with
    | some (.ref p) => p
    | _ => 0)
  | _ => 0
/-- the object of a static method, and what it gives -/
def hStq (K : PySem.W.Frag) (C : Addr) (m : Str) : Addr := match PySem.W.findCls K (.ref C) (.type "type") m with
  | some (.get _ (.ref q) _ _) => q
  | _ => 0
def hStf (K : PySem.W.Frag) (q : Addr) : Addr := match PySem.W.recIn K q "staticmethod" with
  | some (.ref f :: _) => f
  | _ => 0
def hStB (K : PySem.W.Frag) (C : Addr) (m : Str) : Bool := match PySem.W.findCls K (.ref C) (.type "type") m with
  | some (.get (.builtin n) (.ref q) _ (.ref C')) => (n == "staticmethod.__get__") && ((C' == C) && (match PySem.W.recIn K q "staticmethod" with
    | some (.ref _ :: _) => true
    | _ => false))
  | _ => false
theorem hStB_ok {K : PySem.W.Frag} {C : Addr} {m : Str} (h : hStB K C m = true) : ∃ ob rs, PySem.W.findCls K (.ref C) (.type "type") m = some (.get (.builtin "staticmethod.__get__") (.ref (hStq K C m)) ob (.ref C)) ∧
    PySem.W.recIn K (hStq K C m) "staticmethod" = some (.ref (hStf K (hStq K C m)) :: rs) := by
  unfold hStB at h
  cases e : PySem.W.findCls K (.ref C) (.type "type") m with
  | none => rw [e] at h; cases h
  | some r =>
    rw [e] at h
    cases r with
    | val v => cases h
    | get v1 v2 v3 v4 =>
      cases v1 with
      | builtin n =>
        cases v2 with
        | ref q =>
          cases v4 with
          | ref C' =>
            have h1 : ((n == "staticmethod.__get__") && ((C' == C) && (match PySem.W.recIn K q "staticmethod" with
              | some (.ref _ :: _) => true
              | _ => false))) = true := h
            obtain ⟨hn, h2⟩ := Bool.and_eq_true_iff.mp h1
            obtain ⟨hC, h3⟩ := Bool.and_eq_true_iff.mp h2
            obtain rfl : n = "staticmethod.__get__" := eq_of_beq hn
            obtain rfl : C' = C := eq_of_beq hC
            have eq : hStq K C' m = q := by unfold hStq; rw [e]
            rw [eq]
            cases e2 : PySem.W.recIn K q "staticmethod" with
            | none => rw [e2] at h3; cases h3
            | some l =>
              rw [e2] at h3
              cases l with
              | nil => cases h3
              | cons v rs =>
                cases v with
                | ref f =>
                  have ef : hStf K q = f := by unfold hStf; rw [e2]
                  rw [ef]
                  exact ⟨v3, rs, rfl, rfl⟩
                | _ => cases h3
          | _ => cases h
        | _ => cases h
      | _ => cases h
def hInt (K : PySem.W.Frag) (x : Str) (i : Int) : Bool := match PySem.W.nsIn K mainGlobals x with
  | some (some (.int j _)) => decide (j = i)
  | _ => false
theorem hInt_ok {K : PySem.W.Frag} {x : Str} {i : Int} (h : hInt K x i = true) : ∃ t, PySem.W.nsIn K mainGlobals x = some (some (.int i t)) := by
  unfold hInt at h
  cases e : PySem.W.nsIn K mainGlobals x with
  | none => rw [e] at h; cases h
  | some o =>
    rw [e] at h
    cases o with
    | none => cases h
    | some v =>
      cases v with
      | int j t => obtain rfl : j = i := of_decide_eq_true h; exact ⟨t, rfl⟩
      | _ => cases h
def hExc (K : PySem.W.Frag) (C : Addr) : Bool := match K.lookup C with
  | some ⟨.type n0, _, .cls cd, sl⟩ => (match cd.mro, sl.toList with
    | .ref C' :: bm, [_, _, _, _, some (.builtin n), _] => (n0 == "type") && ((C' == C) && ((n == "ValueError.__new__") && ((!cd.hasDel) && (cd.hasDict && HandSPX.refsVE bm))))
    | _, _ => false)
  | _ => false
theorem hExc_ok {K : PySem.W.Frag} {C : Addr} (h : hExc K C = true) : ∃ nm q N bs bm sn sub ab col dd k0 k1 k2 k3 k5, K.lookup C = some (PySem.excClassObj nm q C N bs bm true sn sub ab col dd k0 k1 k2 k3 k5 "ValueError.__new__") ∧ HandSPX.refsVE bm = true := by
  unfold hExc at h
  split at h
  · rename_i n0 dd cd sl ho
    split at h
    · rename_i C' bm k0 k1 k2 k3 n k5 hm hs
      simp only [Bool.and_eq_true, beq_iff_eq, Bool.not_eq_true'] at h
      obtain ⟨rfl, rfl, rfl, hdel, hd, hv⟩ := h
      obtain ⟨nm, bs, mro, ns, qn, hdct, sn, sub, ab, col, del⟩ := cd
      dsimp only at hm hdel hd
      subst hm hdel hd
      have hsl : sl = #[k0, k1, k2, k3, some (.builtin "ValueError.__new__"), k5] := by
        obtain ⟨l⟩ := sl
        simp only at hs
        rw [hs]
      subst hsl
      exact ⟨nm, qn, ns, bs, bm, sn, sub, ab, col, dd, k0, k1, k2, k3, k5, ho, hv⟩
    · cases h
  · cases h
/-! ### defs -/
structure HDef where
  adr : PySem.W.Frag → Addr
  name : Str
  qual : Str
  st : Stmt
def HDef.val (d : HDef) : He.FnV := some (d.name, d.qual, defArgs d.st, .stmts (defBody d.st), defScope d.st, mainGlobals, [], .none, builtinsNs)
def fnAt (K : PySem.W.Frag) (a : Addr) : He.FnV := match K.lookup a with
  | some ⟨_, _, .func fd, _⟩ => some (fd.name, fd.qualname, fd.params, fd.body, fd.scope, fd.globals, fd.closure, fd.defaults, fd.builtins)
  | _ => none
def hCd (K : PySem.W.Frag) (a : Addr) (q : Str) : Bool := match K.lookup a with
  | some ⟨_, _, .func fd, _⟩ => PySem.W.codeIn K fd.code q
  | _ => false
theorem hdef_ok {K : PySem.W.Frag} {a : Addr} {name qual : Str} {st : Stmt} (e : fnAt K a = some (name, qual, defArgs st, .stmts (defBody st), defScope st, mainGlobals, [], .none, builtinsNs)) (c : hCd K a qual = true) :
    ∃ oc od kV dc pm an cd ct sl, K.lookup a = some ⟨oc, od, .func (PySem.W.fnOf name qual (defArgs st) (defBody st) (defScope st) .none kV dc pm an cd ct), sl⟩ ∧ PySem.W.codeIn K cd qual = true := by
  unfold hCd at c
  unfold fnAt at e
  cases q : K.lookup a with
  | none => rw [q] at c; cases c
  | some o =>
    obtain ⟨oc, od, dt, osl⟩ := o
    rw [q] at c e
    cases dt with
    | func fd =>
      obtain ⟨n1, n2, n3, n4, n5, n6, n7, n8, n9, n10, n11, n12, n13, n14, n15⟩ := fd
      have e2 : (some (n1, n2, n3, n4, n5, n6, n7, n8, n15) : He.FnV) = some (name, qual, defArgs st, .stmts (defBody st), defScope st, mainGlobals, [], .none, builtinsNs) := e
      simp only [Option.some.injEq, Prod.mk.injEq] at e2
      obtain ⟨h1, h2, h3, h4, h5, h6, h7, h8, h9⟩ := e2
      subst h1 h2 h3 h4 h5 h6 h7 h8 h9
      exact ⟨oc, od, n9, n10, n11, n12, n13, n14, osl, rfl, c⟩
    | _ => cases c
/-- a def with lambdas in it: its code and the code's table -/
def hLam (K : PySem.W.Frag) (a : Addr) : Bool := match K.lookup a with
  | some ⟨_, _, .func fd, _⟩ => (match fd.code with
    | .ref c => (match K.lookup c with
      | some ⟨_, _, .fields vs, _⟩ => (match (vs[11]? : Option Value) with
        | some (.ref _) => true
        | _ => false)
      | _ => false)
    | _ => false)
  | _ => false
theorem hLam_ok {K : PySem.W.Frag} {a : Addr} {name qual : Str} {st : Stmt} (e : fnAt K a = some (name, qual, defArgs st, .stmts (defBody st), defScope st, mainGlobals, [], .none, builtinsNs)) (c : hCd K a qual = true) (l : hLam K a = true) :
    ∃ oc od kV dc pm an ct sl, K.lookup a = some ⟨oc, od, .func (PySem.W.fnOf name qual (defArgs st) (defBody st) (defScope st) .none kV dc pm an (.ref (hCode K a)) ct), sl⟩ ∧ PySem.W.codeIn K (.ref (hCode K a)) qual = true ∧
      ∃ oP odP vP slP, K.lookup (hCode K a) = some ⟨oP, odP, .fields vP, slP⟩ ∧ vP[11]? = some (.ref (hTab K (hCode K a))) := by
  obtain ⟨oc, od, kV, dc, pm, an, cd, ct, sl, h1, h2⟩ := hdef_ok e c
  unfold hLam at l
  rw [h1] at l
  cases cd with
  | ref c =>
    have ec : hCode K a = c := by unfold hCode; rw [h1]
    rw [ec]
    refine ⟨oc, od, kV, dc, pm, an, ct, sl, h1, h2, ?_⟩
    have l1 : (match K.lookup c with
      | some ⟨_, _, .fields vs, _⟩ => (match (vs[11]? : Option Value) with
        | some (.ref _) => true
        | _ => false)
      | _ => false) = true := l
    cases e3 : K.lookup c with
    | none => rw [e3] at l1; cases l1
    | some o =>
      obtain ⟨oP, odP, dt, slP⟩ := o
      rw [e3] at l1
      cases dt with
      | fields vs =>
        have l2 : (match (vs[11]? : Option Value) with
          | some (.ref _) => true
          | _ => false) = true := l1
        cases e4 : vs[11]? with
        | none => rw [e4] at l2; cases l2
        | some v =>
          rw [e4] at l2
          cases v with
          | ref p =>
            have ep : hTab K c = p := by unfold hTab; rw [e3]; dsimp only; rw [e4]
            rw [ep]
            exact ⟨oP, odP, vs, slP, rfl, e4⟩
          | _ => cases l2
      | _ => cases l1
  | _ => cases l
/-! ### the Hook -/
/-- what is looked at of an object -/
def refsH (o : Obj) : List Addr := match o.data with
  | .dict es _ => es.toList.flatMap fun e => He.refV e.val
  | .func fd => He.refV fd.code
  | .cls cd => [cd.ns]
  | .fields vs => (match o.cls with
    | .type n => (match (n == "staticmethod" || n == "property") with
      | true => vs.toList.flatMap He.refV
      | false => [])
    | _ => [])
  | _ => []
def nextH (g : Addr → Option Obj) (as : List Addr) : List Addr := as.flatMap fun a => match g a with
  | some o => refsH o
  | none => []
/-- level by level from what stands at hand: functions, classes; codes, names of classes; methods; their codes -/
def lvlsH (g : Addr → Option Obj) : Nat → List Addr → List Addr
  | 0, as => as
  | n + 1, as => as ++ lvlsH g n (nextH g as)
def frL {α : Type} : PySem.W.Frag → (PySem.W.Frag → α) → α
  | [], k => k []
  | (a, ⟨c, d, dt, sl⟩) :: r, k => HandSHeadRun.frNat a fun a => frL r fun r => k ((a, ⟨c, d, dt, sl⟩) :: r)
theorem frL_eq {α : Type} : ∀ (K : PySem.W.Frag) (k : PySem.W.Frag → α), frL K k = k K
  | [], _ => rfl
  | (a, ⟨c, d, dt, sl⟩) :: r, k => by
    show (HandSHeadRun.frNat a fun a => frL r fun r => k ((a, ⟨c, d, dt, sl⟩) :: r)) = _
    rw [HandSHeadRun.frNat_eq, frL_eq]
def frK (n : Nat) (g : Addr → Option Obj) : PySem.W.Frag := He.frG g (sysModules :: cStatics :: lvlsH g n [mainGlobals])
abbrev HAl : Type := Bool × List He.FnV × List (Option Obj)
section
variable (n : Nat) (fa : List (PySem.W.Frag → Bool)) (fn : List HDef) (ts : List (PySem.W.Frag → Addr))
def hObsK (g : Addr → Option Obj) (K : PySem.W.Frag) : HAl := (fa.all fun f => f K, fn.map fun d => fnAt K (d.adr K), ts.map fun t => g (t K))
def hObs (g : Addr → Option Obj) : HAl := frL (frK n g) fun K => hObsK fa fn ts g K
def hVal : HAl := (true, fn.map HDef.val, ts.map fun _ => some (PySem.W.tabObj #[]))
/-- what the end leans on -/
structure HSays (K : PySem.W.Frag) (h : Heap) : Prop where
  inH : K.In h
  fact : fa.all (fun f => f K) = true
  defs : fn.map (fun d => fnAt K (d.adr K)) = fn.map HDef.val
  tabs : ∀ t ∈ ts, h.get? (t K) = some (PySem.W.tabObj #[])
def hHook : PySem.W.Hook where
  α := HAl
  obs := fun s => hObs n fa fn ts s.heap.get?
  val := fun _ => hVal fn ts
  says := fun _ h => ∃ K : PySem.W.Frag, HSays fa fn ts K h
  of := fun _ s e => by
    unfold hObs at e
    rw [frL_eq] at e
    have e1 : (fa.all fun f => f (frK n s.heap.get?)) = true := congrArg (fun z : HAl => z.1) e
    have e2 := congrArg (fun z : HAl => z.2.1) e
    have e3 : ts.map (fun t => s.heap.get? (t (frK n s.heap.get?))) = ts.map fun _ => some (PySem.W.tabObj #[]) := congrArg (fun z : HAl => z.2.2) e
    exact ⟨_, He.frG_in, e1, e2, List.map_inj_left.mp e3⟩
  keeps := fun _ _ _ ⟨K, a, b, c, d⟩ k => ⟨K, PySem.W.Frag.In.keeps a k, b, c, fun t ht => k _ _ (d t ht)⟩
def hOb (s : PySem.W.SharedT) : HAl := hObs n fa fn ts (HandSHeadRun.getT s)
theorem hOb_eq (s : PySem.W.SharedT) : hOb n fa fn ts s = (hHook n fa fn ts).obs s.abs := by
  have e : HandSHeadRun.getT s = s.abs.heap.get? := funext (HandSHeadRun.getT_eq s)
  show hObs n fa fn ts (HandSHeadRun.getT s) = hObs n fa fn ts s.abs.heap.get?
  rw [e]
end
theorem HSays.f {fa : List (PySem.W.Frag → Bool)} {fn : List HDef} {ts : List (PySem.W.Frag → Addr)} {K : PySem.W.Frag} {h : Heap} (c : HSays fa fn ts K h) (i : Nat) {f : PySem.W.Frag → Bool} (e : fa[i]? = some f) : f K = true :=
  List.all_eq_true.mp c.fact f (List.mem_of_getElem? e)
theorem HSays.p {fa : List (PySem.W.Frag → Bool)} {fn : List HDef} {ts : List (PySem.W.Frag → Addr)} {K : PySem.W.Frag} {h : Heap} (c : HSays fa fn ts K h) (i : Nat) {p : PySem.W.Frag → Prop} {dp : ∀ K, Decidable (p K)} (e : fa[i]? = some fun K => @decide (p K) (dp K)) : p K :=
  @of_decide_eq_true _ (dp K) (c.f i e)
theorem HSays.d {fa : List (PySem.W.Frag → Bool)} {fn : List HDef} {ts : List (PySem.W.Frag → Addr)} {K : PySem.W.Frag} {h : Heap} (c : HSays fa fn ts K h) (i : Nat) {d : HDef} (e : fn[i]? = some d) : fnAt K (d.adr K) = d.val := by
  have e2 : (fn.map fun d => fnAt K (d.adr K))[i]? = (fn.map HDef.val)[i]? := by rw [c.defs]
  rw [List.getElem?_map, List.getElem?_map, e] at e2
  exact Option.some.inj e2
theorem HSays.t {fa : List (PySem.W.Frag → Bool)} {fn : List HDef} {ts : List (PySem.W.Frag → Addr)} {K : PySem.W.Frag} {h : Heap} (c : HSays fa fn ts K h) (i : Nat) {t : PySem.W.Frag → Addr} (e : ts[i]? = some t) : h.get? (t K) = some (PySem.W.tabObj #[]) := c.tabs t (List.mem_of_getElem? e)
end DY

/-! Tuples of texts among a module's names: what is looked at. -/
namespace DY
open PySem PySem.Spec PyProof.Rows L2
end DY

/-! A head that asks whether a special method's binding may raise: both answers are run. -/
namespace DY
open PySem PySem.Spec PyProof.Rows L2
/-! ### dicts of texts, and texts, under a module's name -/
abbrev DcRow : Type := Str × Int × Str
def dcRows : List DictEntry → Option (List DcRow)
  | [] => some []
  | ⟨h, .str k _, .str v _⟩ :: r => (match dcRows r with
    | some l => some ((k, h, v) :: l)
    | none => none)
  | _ => none
def dcAt (K : PySem.W.Frag) (x : Str) : Option (List DcRow) := match PySem.W.nsIn K mainGlobals x with
  | some (some (.ref a)) => (match K.lookup a with
    | some ⟨.type n0, none, .dict es _, sl⟩ => (match (n0 == "dict") && ((!(a == sysModules)) && (sl.size == 0)) with
      | true => dcRows es.toList
      | false => none)
    | _ => none)
  | _ => none
def dcVal (w : World) (ps : List (Str × Str)) : Option (List DcRow) := some (ps.map fun p => (p.1, PyData.keyHash w.params p.1, p.2))
theorem dcRows_ok {w : World} : ∀ {es : List DictEntry} {ps : List (Str × Str)}, dcRows es = some (ps.map fun p => (p.1, PyData.keyHash w.params p.1, p.2)) → PySem.W.KeysLit w.params es ∧ es.any (·.refKey) = false ∧ ∀ z, (match ps.lookup z with
    | some v => ∃ e t, es.find? (·.key.isStr z) = some e ∧ e.val = .str v t
    | none => es.find? (·.key.isStr z) = none)
  | [], [], _ => ⟨trivial, rfl, fun z => rfl⟩
  | [], _ :: _, h => by simp [dcRows] at h
  | ⟨hh, k, v⟩ :: r, ps, h => by
    cases k with
    | str k tk =>
      cases v with
      | str v tv =>
        cases e : dcRows r with
        | none => simp [dcRows, e] at h
        | some l =>
          simp only [dcRows, e, Option.some.injEq] at h
          cases ps with
          | nil => simp at h
          | cons p ps =>
            obtain ⟨p1, p2⟩ := p
            simp only [List.map_cons, List.cons.injEq, Prod.mk.injEq] at h
            obtain ⟨⟨rfl, rfl, rfl⟩, rfl⟩ := h
            obtain ⟨i1, i2, i3⟩ := dcRows_ok e
            refine ⟨⟨⟨k, tk, rfl, rfl⟩, i1⟩, ?_, fun z => ?_⟩
            · rw [List.any_cons, i2]; rfl
            · by_cases hz : z = k
              · subst hz
                have l1 : ((z, v) :: ps).lookup z = some v := by simp [List.lookup]
                rw [l1]
                refine ⟨⟨PyData.keyHash w.params z, .str z tk, .str v tv⟩, tv, ?_, rfl⟩
                rw [List.find?_cons]
                simp [Value.isStr]
              · have l1 : ((k, v) :: ps).lookup z = ps.lookup z := by
                  have : (z == k) = false := by simpa using hz
                  simp [List.lookup, this]
                rw [l1]
                have f1 : (⟨PyData.keyHash w.params k, .str k tk, .str v tv⟩ :: r : List DictEntry).find? (·.key.isStr z) = r.find? (·.key.isStr z) := by
                  rw [List.find?_cons]
                  have : (Value.isStr (Value.str k tk) z) = false := by
                    simp [Value.isStr]
                    exact fun h => hz h.symm
                  simp only [this]
                rw [f1]
                exact i3 z
      | _ => simp [dcRows] at h
    | _ => simp [dcRows] at h
def GDic0 (K : PySem.W.Frag) (w : World) (x : Str) (ps : List (Str × Str)) : Prop := ∃ d es n, PySem.W.nsIn K mainGlobals x = some (some (.ref d)) ∧ KDict K w d es n ∧ ∀ z, ∃ r, PySem.W.nsIn K d z = some r ∧ (match ps.lookup z with
  | some v => ∃ t, r = some (.str v t)
  | none => r = none)
theorem dcAt_ok {K : PySem.W.Frag} {w : World} {x : Str} {ps : List (Str × Str)} (h : dcAt K x = dcVal w ps) : GDic0 K w x ps := by
  unfold dcAt dcVal at h
  split at h
  · rename_i a ha
    split at h
    · rename_i n0 es n sl ho
      split at h
      · rename_i hc
        simp only [Bool.and_eq_true, beq_iff_eq, Bool.not_eq_true'] at hc
        obtain ⟨rfl, h2, h3⟩ := hc
        obtain ⟨i1, i2, i3⟩ := dcRows_ok h
        have hsl : sl = #[] := Array.eq_empty_of_size_eq_zero h3
        subst hsl
        refine ⟨a, es, n, ha, ⟨ho, i1, h2⟩, fun z => ?_⟩
        have i3 := i3 z
        unfold PySem.W.nsIn
        rw [ho]
        dsimp only
        cases e : ps.lookup z with
        | none =>
          rw [e] at i3
          have i3 : es.toList.find? (·.key.isStr z) = none := i3
          rw [i3, i2]
          exact ⟨_, rfl, rfl⟩
        | some v =>
          rw [e] at i3
          obtain ⟨en, t, q1, q2⟩ := i3
          rw [q1]
          exact ⟨_, rfl, t, by rw [q2]⟩
      · cases h
    · cases h
  · cases h
section
variable (n : Nat) (fa : List (PySem.W.Frag → Bool)) (fn : List HDef) (ts : List (PySem.W.Frag → Addr)) (ds : List (Str × List (Str × Str)))
structure HSaysD (w : World) (K : PySem.W.Frag) (h : Heap) : Prop extends HSays fa fn ts K h where
  dics : (ds.map fun d => dcAt K d.1) = ds.map fun d => dcVal w d.2
end
theorem HSaysD.g {fa : List (PySem.W.Frag → Bool)} {fn : List HDef} {ts : List (PySem.W.Frag → Addr)} {ds : List (Str × List (Str × Str))} {w : World} {K : PySem.W.Frag} {h : Heap} (c : HSaysD fa fn ts ds w K h) (i : Nat) {d : Str × List (Str × Str)} (e : ds[i]? = some d) : GDic0 K w d.1 d.2 := by
  have e2 : (ds.map fun d => dcAt K d.1)[i]? = (ds.map fun d => dcVal w d.2)[i]? := by rw [c.dics]
  rw [List.getElem?_map, List.getElem?_map, e] at e2
  exact dcAt_ok (Option.some.inj e2)
end DY

/-! The run of the program's head, looked at piece by piece: each piece is a check of its own, so that less is held at once. -/
namespace DY
open PySem PySem.Spec PySem.W PyProof.Rows L2 HandSHeadRun
noncomputable section
def fL (r : OpenRow) (w : World) : SharedT → Bool := fun s => looksF r.prog (boot_heap w.params) s.abs
section
variable (n : Nat)
end
end
end DY

namespace Q
open PySem PySem.Spec PyProof.Rows L2 DY
def top (i : Nat) : Stmt := PySem.Challenge.pw_onceburst_k10_terms_listed.main.body.getD i (.Pass ⟨0, 0, 0, 0⟩)
/-- is_number -/
abbrev s0 : Stmt := (top 22)
/-- sorted_pairs -/
abbrev s1 : Stmt := (top 24)
/-- joined -/
abbrev s2 : Stmt := (top 25)
/-- listed -/
abbrev s3 : Stmt := (top 26)
/-- repeated -/
abbrev s4 : Stmt := (top 27)
/-- section_terms -/
abbrev s5 : Stmt := (top 28)
/-- terms_of -/
abbrev s6 : Stmt := (top 29)
/-- terms -/
abbrev s7 : Stmt := (top 30)
/-- inner_parts -/
abbrev s8 : Stmt := (top 43)
/-- is_time -/
abbrev s9 : Stmt := (top 49)
/-- is_count -/
abbrev s10 : Stmt := (top 50)
/-- need_count -/
abbrev s11 : Stmt := (top 51)
/-- need_time -/
abbrev s12 : Stmt := (top 52)
/-- paths_of -/
abbrev s13 : Stmt := (top 53)
/-- Line.__init__ -/
abbrev s14 : Stmt := (inClass (top 54) 0)
/-- Line.belt -/
abbrev s15 : Stmt := (inClass (top 54) 1)
/-- Line.gap -/
abbrev s16 : Stmt := (inClass (top 54) 2)
/-- Line.hold -/
abbrev s17 : Stmt := (inClass (top 54) 3)
/-- Line.limited -/
abbrev s18 : Stmt := (inClass (top 54) 4)
/-- Line.__add__ -/
abbrev s19 : Stmt := (inClass (top 54) 5)
/-- Line.__and__ -/
abbrev s20 : Stmt := (inClass (top 54) 6)
/-- Line.parts -/
abbrev s21 : Stmt := (inClass (top 54) 12)
/-- _law_begun -/
abbrev s22 : Stmt := (top 56)
/-- _law_mixed -/
abbrev s23 : Stmt := (top 57)
/-- _law_take -/
abbrev s24 : Stmt := (top 58)
/-- _law_pick -/
abbrev s25 : Stmt := (top 59)
/-- _law_time -/
abbrev s26 : Stmt := (top 60)
/-- _law_leaf -/
abbrev s27 : Stmt := (top 61)
/-- _law_tree -/
abbrev s28 : Stmt := (top 62)
/-- _law_line -/
abbrev s29 : Stmt := (top 63)
/-- _law_inner -/
abbrev s30 : Stmt := (top 64)
/-- _law_joined -/
abbrev s31 : Stmt := (top 65)
/-- _law_section_terms -/
abbrev s32 : Stmt := (top 66)
/-- _law_terms -/
abbrev s33 : Stmt := (top 67)
/-- _law_caught -/
abbrev sL0 : Stmt := (top 68)
/-- _law_marks -/
abbrev s34 : Stmt := (top 69)
/-- _law_kept -/
abbrev s35 : Stmt := (top 70)
/-- _law_refusal -/
abbrev sL1 : Stmt := (top 71)
/-- _law_is -/
abbrev sL2 : Stmt := (top 72)
/-- _law_terms_or_none -/
abbrev s36 : Stmt := (top 73)
/-- law -/
abbrev s37 : Stmt := (top 74)
abbrev sX_TooMany : Stmt := inClass (top 8) 0
abbrev RR : PySem.W.OpenRow := PySem.W.OpenLaw.row PySem.Challenge.rw_onceburst_k10_terms_listed
def aC0 (K : PySem.W.Frag) : Addr := He.ga K "TooMany"
def aC1 (K : PySem.W.Frag) : Addr := He.ga K "Line"
def aC2 (K : PySem.W.Frag) : Addr := He.ga K "LineError"
def aC3 (K : PySem.W.Frag) : Addr := He.ga K "BadMoments"
def aC4 (K : PySem.W.Frag) : Addr := He.ga K "BadCount"
def aC5 (K : PySem.W.Frag) : Addr := He.ga K "BadTime"
def aC6 (K : PySem.W.Frag) : Addr := He.ga K "BadPath"
def aC7 (K : PySem.W.Frag) : Addr := He.ga K "BadNumber"
def aC8 (K : PySem.W.Frag) : Addr := He.ga K "TooLate"
def aC9 (K : PySem.W.Frag) : Addr := He.ga K "BadSight"
def aC10 (K : PySem.W.Frag) : Addr := He.ga K "BadRule"
def aC11 (K : PySem.W.Frag) : Addr := He.ga K "BadMoment"
def aC12 (K : PySem.W.Frag) : Addr := He.ga K "Differs"
def aC13 (K : PySem.W.Frag) : Addr := He.ga K "Branched"
def aC14 (K : PySem.W.Frag) : Addr := He.ga K "BadText"
def aC15 (K : PySem.W.Frag) : Addr := He.ga K "BadLog"
def aC16 (K : PySem.W.Frag) : Addr := He.ga K "NothingLeft"
def aF0 (K : PySem.W.Frag) : Addr := He.ga K "is_number"
def aF1 (K : PySem.W.Frag) : Addr := He.ga K "sorted_pairs"
def aF2 (K : PySem.W.Frag) : Addr := He.ga K "joined"
def aF3 (K : PySem.W.Frag) : Addr := He.ga K "listed"
def aF4 (K : PySem.W.Frag) : Addr := He.ga K "repeated"
def aF5 (K : PySem.W.Frag) : Addr := He.ga K "section_terms"
def aF6 (K : PySem.W.Frag) : Addr := He.ga K "terms_of"
def aF7 (K : PySem.W.Frag) : Addr := He.ga K "terms"
def aF8 (K : PySem.W.Frag) : Addr := He.ga K "inner_parts"
def aF9 (K : PySem.W.Frag) : Addr := He.ga K "is_time"
def aF10 (K : PySem.W.Frag) : Addr := He.ga K "is_count"
def aF11 (K : PySem.W.Frag) : Addr := He.ga K "need_count"
def aF12 (K : PySem.W.Frag) : Addr := He.ga K "need_time"
def aF13 (K : PySem.W.Frag) : Addr := He.ga K "paths_of"
def aF14 (K : PySem.W.Frag) : Addr := He.ma K (aC1 K) "__init__"
def aF15 (K : PySem.W.Frag) : Addr := hStf K (hStq K (aC1 K) "belt")
def aF16 (K : PySem.W.Frag) : Addr := hStf K (hStq K (aC1 K) "gap")
def aF17 (K : PySem.W.Frag) : Addr := hStf K (hStq K (aC1 K) "hold")
def aF18 (K : PySem.W.Frag) : Addr := He.ma K (aC1 K) "limited"
def aF19 (K : PySem.W.Frag) : Addr := He.ma K (aC1 K) "__add__"
def aF20 (K : PySem.W.Frag) : Addr := He.ma K (aC1 K) "__and__"
def aF21 (K : PySem.W.Frag) : Addr := He.ma K (aC1 K) "parts"
def aF22 (K : PySem.W.Frag) : Addr := He.ga K "_law_begun"
def aF23 (K : PySem.W.Frag) : Addr := He.ga K "_law_mixed"
def aF24 (K : PySem.W.Frag) : Addr := He.ga K "_law_take"
def aF25 (K : PySem.W.Frag) : Addr := He.ga K "_law_pick"
def aF26 (K : PySem.W.Frag) : Addr := He.ga K "_law_time"
def aF27 (K : PySem.W.Frag) : Addr := He.ga K "_law_leaf"
def aF28 (K : PySem.W.Frag) : Addr := He.ga K "_law_tree"
def aF29 (K : PySem.W.Frag) : Addr := He.ga K "_law_line"
def aF30 (K : PySem.W.Frag) : Addr := He.ga K "_law_inner"
def aF31 (K : PySem.W.Frag) : Addr := He.ga K "_law_joined"
def aF32 (K : PySem.W.Frag) : Addr := He.ga K "_law_section_terms"
def aF33 (K : PySem.W.Frag) : Addr := He.ga K "_law_terms"
def aF34 (K : PySem.W.Frag) : Addr := He.ga K "_law_marks"
def aF35 (K : PySem.W.Frag) : Addr := He.ga K "_law_kept"
def aF36 (K : PySem.W.Frag) : Addr := He.ga K "_law_terms_or_none"
def aF37 (K : PySem.W.Frag) : Addr := He.ga K "law"
def aFL0 (K : PySem.W.Frag) : Addr := He.ga K "_law_caught"
def aFL1 (K : PySem.W.Frag) : Addr := He.ga K "_law_refusal"
def aFL2 (K : PySem.W.Frag) : Addr := He.ga K "_law_is"
def aX_TooMany (K : PySem.W.Frag) : Addr := He.ma K (aC0 K) "__init__"
def aK37 (K : PySem.W.Frag) : Addr := hCode K (aF37 K)
def aP37 (K : PySem.W.Frag) : Addr := hTab K (aK37 K)
def fa_0 : List (PySem.W.Frag → Bool) := [fun K => decide (PySem.W.nsIn K mainGlobals "Line" = some (some (.ref (aC1 K)))),
  fun K => PySem.W.plainGet K (aC1 K) Str.empty,
  fun K => PySem.W.hasDictIn K (aC1 K),
  fun K => PySem.W.plainOver K (aC1 K),
  fun K => decide (PySem.W.findIn K (.ref (aC1 K)) "__setattr__" = some (some (.builtin "object.__setattr__"))),
  fun K => decide (PySem.W.findIn K (.ref (aC1 K)) "all_paths" = some none),
  fun K => decide (PySem.W.findIn K (.ref (aC1 K)) "nested" = some none),
  fun K => PySem.W.makesIn K (aC1 K),
  fun K => PySem.W.keepIn K (.ref (aC1 K)),
  fun K => PySem.W.selfFirst K (aC1 K),
  fun K => decide (PySem.W.specialIn K (.ref (aC1 K)) "__getattribute__" = some (some (.builtin "type.__getattribute__"))),
  fun K => decide (PySem.W.nsIn K mainGlobals "TooMany" = some (some (.ref (aC0 K)))),
  fun K => hExc K (aC0 K),
  fun K => decide (PySem.W.findIn K (.ref (aC0 K)) "__setattr__" = some (some (.builtin "object.__setattr__"))),
  fun K => decide (PySem.W.subIn K (.ref (aC0 K)) (.type "BaseException") = some true),
  fun K => decide (PySem.W.typeIn K (.ref (aC0 K)) = some (.type "type")),
  fun K => PySem.W.keepIn K (.ref (aC0 K)),
  fun K => decide (PySem.W.findIn K (.ref (aC0 K)) "__init__" = some (some (.ref (aX_TooMany K)))),
  fun K => decide (PySem.W.typeIn K (.ref (aX_TooMany K)) = some (.type "function")),
  fun K => hCd K (aX_TooMany K) "TooMany.__init__",
  fun K => PySem.W.keepIn K (.ref (aX_TooMany K)),
  fun K => decide (PySem.W.findIn K (.ref (aC0 K)) "limit" = some none),
  fun K => (PySem.W.clsIn K (aC0 K)).isSome,
  fun K => decide (PySem.W.findIn K (.ref (aC0 K)) "__getattribute__" = some (some (.builtin "BaseException.__getattribute__"))),
  fun K => decide (PySem.W.findIn K (.ref (aC0 K)) "__getattr__" = some none)]
def fa_1 : List (PySem.W.Frag → Bool) := [fun K => decide (PySem.W.subIn K (.ref (aC0 K)) (.type "BaseException") = some true),
  fun K => decide (PySem.W.findIn K (.ref (aC0 K)) "__class__" = some (some (.builtin "object.__class__"))),
  fun K => decide (PySem.W.specialIn K (.builtin "object.__class__") "__get__" = some (some (.builtin "getset_descriptor.__get__"))),
  fun K => decide (PySem.W.takesIn K (.builtin "object.__class__") = some true),
  fun K => decide (PySem.W.mroIn K (aC0 K) (.type "object") = some true),
  fun K => PySem.W.hasDictIn K (aC0 K),
  fun K => decide (PySem.W.nsIn K mainGlobals "LineError" = some (some (.ref (aC2 K)))),
  fun K => decide (PySem.W.nsIn K mainGlobals "BadMoments" = some (some (.ref (aC3 K)))),
  fun K => decide (PySem.W.nsIn K mainGlobals "BadCount" = some (some (.ref (aC4 K)))),
  fun K => decide (PySem.W.nsIn K mainGlobals "BadTime" = some (some (.ref (aC5 K)))),
  fun K => decide (PySem.W.nsIn K mainGlobals "BadPath" = some (some (.ref (aC6 K)))),
  fun K => decide (PySem.W.nsIn K mainGlobals "BadNumber" = some (some (.ref (aC7 K)))),
  fun K => decide (PySem.W.nsIn K mainGlobals "TooLate" = some (some (.ref (aC8 K)))),
  fun K => decide (PySem.W.nsIn K mainGlobals "BadSight" = some (some (.ref (aC9 K)))),
  fun K => decide (PySem.W.nsIn K mainGlobals "BadRule" = some (some (.ref (aC10 K)))),
  fun K => decide (PySem.W.nsIn K mainGlobals "BadMoment" = some (some (.ref (aC11 K)))),
  fun K => decide (PySem.W.nsIn K mainGlobals "Differs" = some (some (.ref (aC12 K)))),
  fun K => decide (PySem.W.nsIn K mainGlobals "Branched" = some (some (.ref (aC13 K)))),
  fun K => decide (PySem.W.nsIn K mainGlobals "BadText" = some (some (.ref (aC14 K)))),
  fun K => decide (PySem.W.nsIn K mainGlobals "BadLog" = some (some (.ref (aC15 K)))),
  fun K => decide (PySem.W.nsIn K mainGlobals "NothingLeft" = some (some (.ref (aC16 K)))),
  fun K => decide (PySem.W.exmOne K (.ref (aC0 K)) (.ref (aC2 K)) = some true),
  fun K => decide (PySem.W.kitOne K (.ref (aC0 K)) (.type "ValueError") = some true),
  fun K => decide (PySem.W.kitOne K (.ref (aC0 K)) (.ref (aC4 K)) = some false),
  fun K => decide (PySem.W.kitOne K (.ref (aC0 K)) (.ref (aC15 K)) = some false)]
def fa_2 : List (PySem.W.Frag → Bool) := [fun K => decide (PySem.W.kitOne K (.ref (aC0 K)) (.ref (aC11 K)) = some false),
  fun K => decide (PySem.W.kitOne K (.ref (aC0 K)) (.ref (aC3 K)) = some false),
  fun K => decide (PySem.W.kitOne K (.ref (aC0 K)) (.ref (aC7 K)) = some false),
  fun K => decide (PySem.W.kitOne K (.ref (aC0 K)) (.ref (aC6 K)) = some false),
  fun K => decide (PySem.W.kitOne K (.ref (aC0 K)) (.ref (aC10 K)) = some false),
  fun K => decide (PySem.W.kitOne K (.ref (aC0 K)) (.ref (aC9 K)) = some false),
  fun K => decide (PySem.W.kitOne K (.ref (aC0 K)) (.ref (aC14 K)) = some false),
  fun K => decide (PySem.W.kitOne K (.ref (aC0 K)) (.ref (aC5 K)) = some false),
  fun K => decide (PySem.W.kitOne K (.ref (aC0 K)) (.ref (aC13 K)) = some false),
  fun K => decide (PySem.W.kitOne K (.ref (aC0 K)) (.ref (aC12 K)) = some false),
  fun K => decide (PySem.W.kitOne K (.ref (aC0 K)) (.ref (aC16 K)) = some false),
  fun K => decide (PySem.W.kitOne K (.ref (aC0 K)) (.ref (aC8 K)) = some false),
  fun K => decide (PySem.W.kitOne K (.ref (aC0 K)) (.ref (aC0 K)) = some true),
  fun K => decide (PySem.W.nsIn K mainGlobals "is_number" = some (some (.ref (aF0 K)))),
  fun K => hCd K (aF0 K) "is_number",
  fun K => PySem.W.keepIn K (.ref (aF0 K)),
  fun K => decide (PySem.W.nsIn K mainGlobals "sorted_pairs" = some (some (.ref (aF1 K)))),
  fun K => hCd K (aF1 K) "sorted_pairs",
  fun K => PySem.W.keepIn K (.ref (aF1 K)),
  fun K => decide (PySem.W.nsIn K mainGlobals "joined" = some (some (.ref (aF2 K)))),
  fun K => hCd K (aF2 K) "joined",
  fun K => PySem.W.keepIn K (.ref (aF2 K)),
  fun K => decide (PySem.W.nsIn K mainGlobals "listed" = some (some (.ref (aF3 K)))),
  fun K => hCd K (aF3 K) "listed",
  fun K => PySem.W.keepIn K (.ref (aF3 K))]
def fa_3 : List (PySem.W.Frag → Bool) := [fun K => decide (PySem.W.nsIn K mainGlobals "repeated" = some (some (.ref (aF4 K)))),
  fun K => hCd K (aF4 K) "repeated",
  fun K => PySem.W.keepIn K (.ref (aF4 K)),
  fun K => decide (PySem.W.nsIn K mainGlobals "section_terms" = some (some (.ref (aF5 K)))),
  fun K => hCd K (aF5 K) "section_terms",
  fun K => PySem.W.keepIn K (.ref (aF5 K)),
  fun K => decide (PySem.W.nsIn K mainGlobals "terms_of" = some (some (.ref (aF6 K)))),
  fun K => hCd K (aF6 K) "terms_of",
  fun K => PySem.W.keepIn K (.ref (aF6 K)),
  fun K => decide (PySem.W.nsIn K mainGlobals "terms" = some (some (.ref (aF7 K)))),
  fun K => hCd K (aF7 K) "terms",
  fun K => PySem.W.keepIn K (.ref (aF7 K)),
  fun K => decide (PySem.W.nsIn K mainGlobals "inner_parts" = some (some (.ref (aF8 K)))),
  fun K => hCd K (aF8 K) "inner_parts",
  fun K => PySem.W.keepIn K (.ref (aF8 K)),
  fun K => decide (PySem.W.nsIn K mainGlobals "is_time" = some (some (.ref (aF9 K)))),
  fun K => hCd K (aF9 K) "is_time",
  fun K => PySem.W.keepIn K (.ref (aF9 K)),
  fun K => decide (PySem.W.nsIn K mainGlobals "is_count" = some (some (.ref (aF10 K)))),
  fun K => hCd K (aF10 K) "is_count",
  fun K => PySem.W.keepIn K (.ref (aF10 K)),
  fun K => decide (PySem.W.nsIn K mainGlobals "need_count" = some (some (.ref (aF11 K)))),
  fun K => hCd K (aF11 K) "need_count",
  fun K => PySem.W.keepIn K (.ref (aF11 K)),
  fun K => decide (PySem.W.nsIn K mainGlobals "need_time" = some (some (.ref (aF12 K))))]
def fa_4 : List (PySem.W.Frag → Bool) := [fun K => hCd K (aF12 K) "need_time",
  fun K => PySem.W.keepIn K (.ref (aF12 K)),
  fun K => decide (PySem.W.nsIn K mainGlobals "paths_of" = some (some (.ref (aF13 K)))),
  fun K => hCd K (aF13 K) "paths_of",
  fun K => PySem.W.keepIn K (.ref (aF13 K)),
  fun K => decide (PySem.W.findIn K (.ref (aC1 K)) "__init__" = some (some (.ref (aF14 K)))),
  fun K => PySem.W.isFn K (.ref (aF14 K)),
  fun K => hCd K (aF14 K) "Line.__init__",
  fun K => PySem.W.keepIn K (.ref (aF14 K)),
  fun K => hStB K (aC1 K) "belt",
  fun K => PySem.W.readsIn K (aC1 K) (.type "type"),
  fun K => hCd K (aF15 K) "Line.belt",
  fun K => PySem.W.keepIn K (.ref (aF15 K)),
  fun K => hStB K (aC1 K) "gap",
  fun K => PySem.W.readsIn K (aC1 K) (.type "type"),
  fun K => hCd K (aF16 K) "Line.gap",
  fun K => PySem.W.keepIn K (.ref (aF16 K)),
  fun K => hStB K (aC1 K) "hold",
  fun K => PySem.W.readsIn K (aC1 K) (.type "type"),
  fun K => hCd K (aF17 K) "Line.hold",
  fun K => PySem.W.keepIn K (.ref (aF17 K)),
  fun K => decide (PySem.W.findIn K (.ref (aC1 K)) "limited" = some (some (.ref (aF18 K)))),
  fun K => PySem.W.isFn K (.ref (aF18 K)),
  fun K => hCd K (aF18 K) "Line.limited",
  fun K => PySem.W.keepIn K (.ref (aF18 K))]
def fa_5 : List (PySem.W.Frag → Bool) := [fun K => decide (PySem.W.findIn K (.ref (aC1 K)) "__add__" = some (some (.ref (aF19 K)))),
  fun K => PySem.W.isFn K (.ref (aF19 K)),
  fun K => hCd K (aF19 K) "Line.__add__",
  fun K => PySem.W.keepIn K (.ref (aF19 K)),
  fun K => decide (PySem.W.findIn K (.ref (aC1 K)) "__and__" = some (some (.ref (aF20 K)))),
  fun K => PySem.W.isFn K (.ref (aF20 K)),
  fun K => hCd K (aF20 K) "Line.__and__",
  fun K => PySem.W.keepIn K (.ref (aF20 K)),
  fun K => decide (PySem.W.findIn K (.ref (aC1 K)) "parts" = some (some (.ref (aF21 K)))),
  fun K => PySem.W.isFn K (.ref (aF21 K)),
  fun K => hCd K (aF21 K) "Line.parts",
  fun K => PySem.W.keepIn K (.ref (aF21 K)),
  fun K => decide (PySem.W.nsIn K mainGlobals "_law_begun" = some (some (.ref (aF22 K)))),
  fun K => hCd K (aF22 K) "_law_begun",
  fun K => PySem.W.keepIn K (.ref (aF22 K)),
  fun K => decide (PySem.W.nsIn K mainGlobals "_law_mixed" = some (some (.ref (aF23 K)))),
  fun K => hCd K (aF23 K) "_law_mixed",
  fun K => PySem.W.keepIn K (.ref (aF23 K)),
  fun K => decide (PySem.W.nsIn K mainGlobals "_law_take" = some (some (.ref (aF24 K)))),
  fun K => hCd K (aF24 K) "_law_take",
  fun K => PySem.W.keepIn K (.ref (aF24 K)),
  fun K => decide (PySem.W.nsIn K mainGlobals "_law_pick" = some (some (.ref (aF25 K)))),
  fun K => hCd K (aF25 K) "_law_pick",
  fun K => PySem.W.keepIn K (.ref (aF25 K)),
  fun K => decide (PySem.W.nsIn K mainGlobals "_law_time" = some (some (.ref (aF26 K))))]
def fa_6 : List (PySem.W.Frag → Bool) := [fun K => hCd K (aF26 K) "_law_time",
  fun K => PySem.W.keepIn K (.ref (aF26 K)),
  fun K => decide (PySem.W.nsIn K mainGlobals "_law_leaf" = some (some (.ref (aF27 K)))),
  fun K => hCd K (aF27 K) "_law_leaf",
  fun K => PySem.W.keepIn K (.ref (aF27 K)),
  fun K => decide (PySem.W.nsIn K mainGlobals "_law_tree" = some (some (.ref (aF28 K)))),
  fun K => hCd K (aF28 K) "_law_tree",
  fun K => PySem.W.keepIn K (.ref (aF28 K)),
  fun K => decide (PySem.W.nsIn K mainGlobals "_law_line" = some (some (.ref (aF29 K)))),
  fun K => hCd K (aF29 K) "_law_line",
  fun K => PySem.W.keepIn K (.ref (aF29 K)),
  fun K => decide (PySem.W.nsIn K mainGlobals "_law_inner" = some (some (.ref (aF30 K)))),
  fun K => hCd K (aF30 K) "_law_inner",
  fun K => PySem.W.keepIn K (.ref (aF30 K)),
  fun K => decide (PySem.W.nsIn K mainGlobals "_law_joined" = some (some (.ref (aF31 K)))),
  fun K => hCd K (aF31 K) "_law_joined",
  fun K => PySem.W.keepIn K (.ref (aF31 K)),
  fun K => decide (PySem.W.nsIn K mainGlobals "_law_section_terms" = some (some (.ref (aF32 K)))),
  fun K => hCd K (aF32 K) "_law_section_terms",
  fun K => PySem.W.keepIn K (.ref (aF32 K)),
  fun K => decide (PySem.W.nsIn K mainGlobals "_law_terms" = some (some (.ref (aF33 K)))),
  fun K => hCd K (aF33 K) "_law_terms",
  fun K => PySem.W.keepIn K (.ref (aF33 K)),
  fun K => decide (PySem.W.nsIn K mainGlobals "_law_marks" = some (some (.ref (aF34 K)))),
  fun K => hCd K (aF34 K) "_law_marks"]
def fa_7 : List (PySem.W.Frag → Bool) := [fun K => PySem.W.keepIn K (.ref (aF34 K)),
  fun K => decide (PySem.W.nsIn K mainGlobals "_law_kept" = some (some (.ref (aF35 K)))),
  fun K => hCd K (aF35 K) "_law_kept",
  fun K => PySem.W.keepIn K (.ref (aF35 K)),
  fun K => decide (PySem.W.nsIn K mainGlobals "_law_terms_or_none" = some (some (.ref (aF36 K)))),
  fun K => hCd K (aF36 K) "_law_terms_or_none",
  fun K => PySem.W.keepIn K (.ref (aF36 K)),
  fun K => decide (PySem.W.nsIn K mainGlobals "law" = some (some (.ref (aF37 K)))),
  fun K => hCd K (aF37 K) "law",
  fun K => hLam K (aF37 K),
  fun K => PySem.W.keepIn K (.ref (aF37 K)),
  fun K => (K.lookup (aP37 K)).isNone,
  fun K => PySem.W.codeHdIn K (aK37 K) (aP37 K),
  fun K => decide (PySem.W.nsIn K mainGlobals "_law_caught" = some (some (.ref (aFL0 K)))),
  fun K => hCd K (aFL0 K) "_law_caught",
  fun K => PySem.W.keepIn K (.ref (aFL0 K)),
  fun K => decide (PySem.W.nsIn K mainGlobals "_law_refusal" = some (some (.ref (aFL1 K)))),
  fun K => hCd K (aFL1 K) "_law_refusal",
  fun K => PySem.W.keepIn K (.ref (aFL1 K)),
  fun K => decide (PySem.W.nsIn K mainGlobals "_law_is" = some (some (.ref (aFL2 K)))),
  fun K => hCd K (aFL2 K) "_law_is",
  fun K => PySem.W.keepIn K (.ref (aFL2 K)),
  fun K => hInt K "MOST_TERMS" 100,
  fun K => hInt K "MOST_INNER" 6,
  fun K => hInt K "GREATEST_TIME" 1000000000]
def fa_8 : List (PySem.W.Frag → Bool) := [fun K => hInt K "MOST_COUNT" 12,
  fun K => hInt K "MOST_PARTS" 12,
  fun K => decide (PySem.W.nsIn K mainGlobals "isinstance" = some none),
  fun K => decide (PySem.W.nsIn K mainGlobals "int" = some none),
  fun K => decide (PySem.W.nsIn K mainGlobals "bool" = some none),
  fun K => decide (PySem.W.nsIn K mainGlobals "sorted" = some none),
  fun K => decide (PySem.W.nsIn K mainGlobals "set" = some none),
  fun K => decide (PySem.W.nsIn K mainGlobals "tuple" = some none),
  fun K => decide (PySem.W.nsIn K mainGlobals "len" = some none),
  fun K => decide (PySem.W.nsIn K mainGlobals "enumerate" = some none),
  fun K => decide (PySem.W.nsIn K mainGlobals "abs" = some none),
  fun K => decide (PySem.W.nsIn K mainGlobals "ValueError" = some none),
  fun K => decide (PySem.W.nsIn K mainGlobals "repr" = some none),
  fun K => decide (PySem.W.nsIn K mainGlobals "min" = some none),
  fun K => decide (PySem.W.nsIn K mainGlobals "range" = some none)]
def fa : List (PySem.W.Frag → Bool) := fa_0 ++ (fa_1 ++ (fa_2 ++ (fa_3 ++ (fa_4 ++ (fa_5 ++ (fa_6 ++ (fa_7 ++ (fa_8))))))))
def fn_0 : List HDef := [⟨aF0, "is_number", "is_number", s0⟩,
  ⟨aF1, "sorted_pairs", "sorted_pairs", s1⟩,
  ⟨aF2, "joined", "joined", s2⟩,
  ⟨aF3, "listed", "listed", s3⟩,
  ⟨aF4, "repeated", "repeated", s4⟩,
  ⟨aF5, "section_terms", "section_terms", s5⟩,
  ⟨aF6, "terms_of", "terms_of", s6⟩,
  ⟨aF7, "terms", "terms", s7⟩,
  ⟨aF8, "inner_parts", "inner_parts", s8⟩,
  ⟨aF9, "is_time", "is_time", s9⟩,
  ⟨aF10, "is_count", "is_count", s10⟩,
  ⟨aF11, "need_count", "need_count", s11⟩,
  ⟨aF12, "need_time", "need_time", s12⟩,
  ⟨aF13, "paths_of", "paths_of", s13⟩,
  ⟨aF14, "__init__", "Line.__init__", s14⟩,
  ⟨aF15, "belt", "Line.belt", s15⟩,
  ⟨aF16, "gap", "Line.gap", s16⟩,
  ⟨aF17, "hold", "Line.hold", s17⟩,
  ⟨aF18, "limited", "Line.limited", s18⟩,
  ⟨aF19, "__add__", "Line.__add__", s19⟩,
  ⟨aF20, "__and__", "Line.__and__", s20⟩,
  ⟨aF21, "parts", "Line.parts", s21⟩,
  ⟨aF22, "_law_begun", "_law_begun", s22⟩,
  ⟨aF23, "_law_mixed", "_law_mixed", s23⟩,
  ⟨aF24, "_law_take", "_law_take", s24⟩]
def fn_1 : List HDef := [⟨aF25, "_law_pick", "_law_pick", s25⟩,
  ⟨aF26, "_law_time", "_law_time", s26⟩,
  ⟨aF27, "_law_leaf", "_law_leaf", s27⟩,
  ⟨aF28, "_law_tree", "_law_tree", s28⟩,
  ⟨aF29, "_law_line", "_law_line", s29⟩,
  ⟨aF30, "_law_inner", "_law_inner", s30⟩,
  ⟨aF31, "_law_joined", "_law_joined", s31⟩,
  ⟨aF32, "_law_section_terms", "_law_section_terms", s32⟩,
  ⟨aF33, "_law_terms", "_law_terms", s33⟩,
  ⟨aF34, "_law_marks", "_law_marks", s34⟩,
  ⟨aF35, "_law_kept", "_law_kept", s35⟩,
  ⟨aF36, "_law_terms_or_none", "_law_terms_or_none", s36⟩,
  ⟨aF37, "law", "law", s37⟩,
  ⟨aFL0, "_law_caught", "_law_caught", sL0⟩,
  ⟨aFL1, "_law_refusal", "_law_refusal", sL1⟩,
  ⟨aFL2, "_law_is", "_law_is", sL2⟩,
  ⟨aX_TooMany, "__init__", "TooMany.__init__", sX_TooMany⟩]
def fn : List HDef := fn_0 ++ (fn_1)
def ts : List (PySem.W.Frag → Addr) := [aP37]
def loose_0 : List PySem.Str := ["_wall",
  "LineError",
  "BadTime",
  "BadCount",
  "BadMoments",
  "BadNumber",
  "BadPath",
  "TooMany",
  "BadRule",
  "BadSight",
  "TooLate",
  "Branched",
  "Differs",
  "BadMoment",
  "NothingLeft",
  "BadLog",
  "BadText",
  "MOST_TERMS",
  "MOST_INNER",
  "GREATEST",
  "is_number",
  "need_number",
  "sorted_pairs",
  "joined",
  "listed"]
def loose_1 : List PySem.Str := ["repeated",
  "section_terms",
  "terms_of",
  "terms",
  "best_pair",
  "bound_of",
  "made_table",
  "made_of",
  "value",
  "function_value",
  "GREATEST_MOMENT",
  "is_moment",
  "first_bad",
  "need_arrivals",
  "Walk",
  "inner_parts",
  "walk_of",
  "GREATEST_TIME",
  "MOST_COUNT",
  "MOST_PARTS",
  "is_time",
  "is_count",
  "need_count",
  "need_time",
  "paths_of"]
def loose_2 : List PySem.Str := ["Line",
  "_law_begun",
  "_law_mixed",
  "_law_take",
  "_law_pick",
  "_law_time",
  "_law_leaf",
  "_law_tree",
  "_law_line",
  "_law_inner",
  "_law_joined",
  "_law_section_terms",
  "_law_terms",
  "_law_caught",
  "_law_marks",
  "_law_kept",
  "_law_refusal",
  "_law_is",
  "_law_terms_or_none"]
def loose : List PySem.Str := loose_0 ++ (loose_1 ++ (loose_2))
abbrev hk : PySem.W.Hook := hHook 5 fa fn ts
def ob (s : PySem.W.SharedT) : HAl := hOb 5 fa fn ts s
theorem ob_eq (s : PySem.W.SharedT) : ob s = hk.obs s.abs := hOb_eq 5 fa fn ts s
theorem run (w : World) : HandSHeadRun.RunEq RR (PySem.W.view RR.prog [74]) hk ob 20000 loose w := by
  intro os
  kernel_rfl
end Q

/-! Values as trees over a store of mutable things, and how the abstract heap bears them. -/
namespace DY
open PySem PySem.Spec PyProof.Rows L2

/-- what a node is -/
inductive Hd where
  | lst | tup | scr | ktp
  | dk (ks : List Key) | dt (ks : List (List Key))
  | ins (c : Nat) (ns : List Str)
  | exc (c : Nat) (ns : List Str)
  | fn (f c : Addr) (q : Str) (caps : List V)
  deriving DecidableEq

/-- data: h k is the k-th thing of the store -/
inductive D where
  | non | bl (b : Bool) | int (i : Int) | str (s : Str) | h (k : Nat) | nd (t : Hd) (xs : List D)

abbrev Store := List D
abbrev DEnv := List (Option D)
/-- an exception: its class, its attributes -/
structure Ex where
  c : Nat
  ns : List Str
  xs : List D

inductive Res (A : Type) where
  | ok (a : A) (st : Store)
  | er (e : Ex) (st : Store)
  | no

def Res.bind {A B : Type} (r : Res A) (k : A → Store → Res B) : Res B :=
  match r with
  | .ok a s => k a s
  | .er e s => .er e s
  | .no => .no

/-- where the classes stand; the tables of code objects, with the names that these bear -/
structure ClsT where
  at_ : Nat → Addr
  tb : List (Addr × Str)
instance : CoeFun ClsT (fun _ => Nat → Addr) := ⟨ClsT.at_⟩
/-- what is fixed: the written part, where the classes stand -/
structure Gd where
  K : PySem.W.Frag
  cls : ClsT
/-- no table, no object told by a wish of its own -/
def NX (o : HO) : Prop := (∀ ps, o ≠ .tbl ps) ∧ ∀ φ, o ≠ .ext φ
theorem nx_lst {vs : List V} : NX (.lst vs) := ⟨fun _ z => (by cases z), fun _ z => (by cases z)⟩
theorem nx_tup {vs : List V} : NX (.tup vs) := ⟨fun _ z => (by cases z), fun _ z => (by cases z)⟩
theorem nx_frz {o : Obj} {u : HO} : NX (.frz o u) := ⟨fun _ z => (by cases z), fun _ z => (by cases z)⟩
theorem nx_dK {kvs : List (Key × V)} : NX (.dK kvs) := ⟨fun _ z => (by cases z), fun _ z => (by cases z)⟩
theorem nx_dT {kvs : List (List Key × V)} : NX (.dT kvs) := ⟨fun _ z => (by cases z), fun _ z => (by cases z)⟩
theorem nx_ins {c dx : Addr} {fs : List (Str × V)} : NX (.ins c dx fs) := ⟨fun _ z => (by cases z), fun _ z => (by cases z)⟩
/-- an exception object, behind its flight -/
def ExK (cls : Value) (d : Option Addr) (a : Addr) : HO := .ext fun h => ∃ (oe : Obj) (fv : Array Value), h.get? a = some oe ∧ Zc cls d oe ∧ oe.data = .fields fv

def KLs (K : PySem.W.Frag) (a : Addr) (xs : List V) : Prop :=
  ∃ (o : Obj) (its : Array Value) (n : Nat), K.lookup a = some o ∧ o.cls = .type "list" ∧ o.dict = none ∧ o.data = .seq its n ∧ its.size ≤ sizeLine ∧ Vals xs its.toList
def KTs (K : PySem.W.Frag) (a : Addr) (xs : List V) : Prop :=
  ∃ (o : Obj) (its : Array Value) (n : Nat), K.lookup a = some o ∧ o.cls = .type "tuple" ∧ o.data = .seq its n ∧ its.size ≤ sizeLine ∧ Vals xs its.toList

/-- the address is no mutable thing -/
def Nin (Z r : List Addr) (a : Addr) : Prop := a ∉ Z ∧ a ∉ r

/-- what stands at a frozen node -/
def Hat (g : Gd) (Z r : List Addr) (H : Hp) (a : Addr) (t : Hd) (vs : List V) : Prop :=
  match t with
  | .lst => Nin Z r a ∧ H a = some (.lst vs)
  | .tup => Nin Z r a ∧ H a = some (.tup vs)
  | .ktp => (Nin Z r a ∧ Rd H a (.tup vs)) ∨ KTs g.K a vs
  | .scr => (Nin Z r a ∧ Rd H a (.lst vs)) ∨ KLs g.K a vs
  | .dk ks => Nin Z r a ∧ (ks.length = vs.length ∧ ks.Nodup) ∧ H a = some (.dK (ks.zip vs))
  | .dt ks => Nin Z r a ∧ (ks.length = vs.length ∧ ks.Nodup) ∧ H a = some (.dT (ks.zip vs))
  | .ins c ns => Nin Z r a ∧ (ns.length = vs.length ∧ ns.Nodup) ∧ ∃ dx, H a = some (.ins (g.cls c) dx (ns.zip vs))
  | .exc c ns => Nin Z r a ∧ ∃ d, H a = some (ExK (.ref (g.cls c)) d a) ∧ ((d = none ∧ ns = [] ∧ vs = []) ∨ ∃ dx, d = some dx ∧ ns.length = vs.length ∧ Nin Z r dx ∧ H dx = some (.xd (ns.zip vs)))
  | .fn f c q caps => a = f ∧ vs = caps ∧ Nin Z r c ∧ H c = some (LamX.CodeO c q)

/-- what stands at a mutable thing -/
def HatM (g : Gd) (H : Hp) (a : Addr) (t : Hd) (vs : List V) : Prop :=
  match t with
  | .lst => H a = some (.lst vs)
  | .tup => False
  | .scr => False
  | .ktp => False
  | .dk ks => (ks.length = vs.length ∧ ks.Nodup) ∧ H a = some (.dK (ks.zip vs))
  | .dt ks => (ks.length = vs.length ∧ ks.Nodup) ∧ H a = some (.dT (ks.zip vs))
  | .ins c ns => (ns.length = vs.length ∧ ns.Nodup) ∧ ∃ dx, H a = some (.ins (g.cls c) dx (ns.zip vs))
  | .exc _ _ => False
  | .fn _ _ _ _ => False

section
variable (g : Gd) (Z r : List Addr) (H : Hp)
mutual
def Rep : D → V → Prop
  | .non, v => v = .non
  | .bl b, v => v = .bl b
  | .int i, v => v = .int i
  | .str s, v => v = .str s
  | .h k, v => ∃ a, v = .ref a ∧ r[k]? = some a
  | .nd t xs, v => ∃ a vs, v = .ref a ∧ Hat g Z r H a t vs ∧ RepL xs vs
def RepL : List D → List V → Prop
  | [], vs => vs = []
  | d :: ds, vs => ∃ v q, vs = v :: q ∧ Rep d v ∧ RepL ds q
end
def Cell (d : D) (a : Addr) : Prop := ∃ t xs vs, d = .nd t xs ∧ HatM g H a t vs ∧ RepL g Z r H xs vs
/-- the store is borne -/
structure Rl (st : Store) : Prop where
  len : r.length = st.length
  nd : r.Nodup
  z : ∀ a ∈ Z, a ∉ r ∧ ∃ o, H a = some o ∧ NX o
  tb : LamX.Tabs g.cls.tb H
  cell : ∀ (k : Nat) (d : D), st[k]? = some d → ∃ a, r[k]? = some a ∧ Cell g Z r H d a
end

/-- the store may have grown and turned, all else stands -/
structure Ext (r : List Addr) (H : Hp) (r' : List Addr) (H' : Hp) : Prop where
  pre : ∃ q, r' = r ++ q
  keep : ∀ a o, H a = some o → (∀ ps, o ≠ .tbl ps) → a ∉ r → H' a = some o ∧ a ∉ r'

theorem Ext.refl (r : List Addr) (H : Hp) : Ext r H r H := ⟨⟨[], by simp⟩, fun a o h _ n => ⟨h, n⟩⟩
theorem Ext.trans {r r1 r2 : List Addr} {H H1 H2 : Hp} (a : Ext r H r1 H1) (b : Ext r1 H1 r2 H2) : Ext r H r2 H2 := by
  obtain ⟨q1, e1⟩ := a.pre
  obtain ⟨q2, e2⟩ := b.pre
  refine ⟨⟨q1 ++ q2, by rw [e2, e1, List.append_assoc]⟩, fun x o h t n => ?_⟩
  obtain ⟨h1, n1⟩ := a.keep x o h t n
  exact b.keep x o h1 t n1
theorem Ext.get {r r1 : List Addr} {H H1 : Hp} (a : Ext r H r1 H1) {k : Nat} {x : Addr} (h : r[k]? = some x) : r1[k]? = some x := by
  obtain ⟨q, e⟩ := a.pre
  have hk : k < r.length := (List.getElem?_eq_some_iff.mp h).1
  rw [e, List.getElem?_append_left hk]; exact h
theorem Rd.some {H : Hp} {a : Addr} {u : HO} (h : Rd H a u) : ∃ o, H a = some o := by
  rcases h with h | ⟨o, h⟩
  · exact ⟨_, h⟩
  · exact ⟨_, h⟩
theorem Ext.rd {r r1 : List Addr} {H H1 : Hp} (e : Ext r H r1 H1) {Z : List Addr} {a : Addr} {u : HO} (t : NX u) (n : Nin Z r a) (h : Rd H a u) : Nin Z r1 a ∧ Rd H1 a u := by
  rcases h with h | ⟨o, h⟩
  · obtain ⟨h1, n1⟩ := e.keep a _ h t.1 n.2
    exact ⟨⟨n.1, n1⟩, .inl h1⟩
  · obtain ⟨h1, n1⟩ := e.keep a _ h nx_frz.1 n.2
    exact ⟨⟨n.1, n1⟩, .inr ⟨o, h1⟩⟩
theorem Ext.at' {r r1 : List Addr} {H H1 : Hp} (e : Ext r H r1 H1) {Z : List Addr} {a : Addr} {u : HO} (t : ∀ ps, u ≠ .tbl ps) (n : Nin Z r a) (h : H a = some u) : Nin Z r1 a ∧ H1 a = some u := by
  obtain ⟨h1, n1⟩ := e.keep a _ h t n.2
  exact ⟨⟨n.1, n1⟩, h1⟩
theorem Hat.ext {g : Gd} {Z r r1 : List Addr} {H H1 : Hp} (e : Ext r H r1 H1) {a : Addr} {t : Hd} {vs : List V} (h : Hat g Z r H a t vs) : Hat g Z r1 H1 a t vs := by
  cases t with
  | lst => exact e.at' nx_lst.1 h.1 h.2
  | scr => rcases h with ⟨n, h⟩ | h
           · exact .inl (e.rd nx_lst n h)
           · exact .inr h
  | tup => exact e.at' nx_tup.1 h.1 h.2
  | ktp => rcases h with ⟨n, h⟩ | h
           · exact .inl (e.rd nx_tup n h)
           · exact .inr h
  | dk ks => obtain ⟨n, l, h⟩ := h; obtain ⟨n1, h1⟩ := e.at' nx_dK.1 n h; exact ⟨n1, l, h1⟩
  | dt ks => obtain ⟨n, l, h⟩ := h; obtain ⟨n1, h1⟩ := e.at' nx_dT.1 n h; exact ⟨n1, l, h1⟩
  | ins c ns => obtain ⟨n, l, dx, h⟩ := h; obtain ⟨n1, h1⟩ := e.at' nx_ins.1 n h; exact ⟨n1, l, dx, h1⟩
  | exc c ns =>
    obtain ⟨n, d, h, q⟩ := h
    obtain ⟨n1, h1⟩ := e.at' (fun _ z => by cases z) n h
    refine ⟨n1, d, h1, ?_⟩
    rcases q with q | ⟨dx, e1, l, nd, hd⟩
    · exact .inl q
    · obtain ⟨n2, h2⟩ := e.at' (fun _ z => by cases z) nd hd
      exact .inr ⟨dx, e1, l, n2, h2⟩
  | fn f c q caps =>
    obtain ⟨e1, e2, n, h⟩ := h
    obtain ⟨n1, h1⟩ := e.at' (fun _ z => by cases z) n h
    exact ⟨e1, e2, n1, h1⟩
mutual
theorem Rep.ext {g : Gd} {Z r r1 : List Addr} {H H1 : Hp} (e : Ext r H r1 H1) : ∀ (d : D) {v : V}, Rep g Z r H d v → Rep g Z r1 H1 d v
  | .non, _, h => h
  | .bl _, _, h => h
  | .int _, _, h => h
  | .str _, _, h => h
  | .h k, _, h => by obtain ⟨a, e1, e2⟩ := h; exact ⟨a, e1, e.get e2⟩
  | .nd t xs, _, h => by obtain ⟨a, vs, e1, h1, h2⟩ := h; exact ⟨a, vs, e1, h1.ext e, RepL.ext e xs h2⟩
theorem RepL.ext {g : Gd} {Z r r1 : List Addr} {H H1 : Hp} (e : Ext r H r1 H1) : ∀ (ds : List D) {vs : List V}, RepL g Z r H ds vs → RepL g Z r1 H1 ds vs
  | [], _, h => h
  | d :: ds, _, h => by obtain ⟨v, q, e1, h1, h2⟩ := h; exact ⟨v, q, e1, Rep.ext e d h1, RepL.ext e ds h2⟩
end

section
variable {g : Gd} {Z r : List Addr} {H : Hp}
theorem RepL.length : ∀ {ds : List D} {vs : List V}, RepL g Z r H ds vs → ds.length = vs.length
  | [], _, h => by cases h; rfl
  | d :: ds, _, h => by obtain ⟨v, q, e1, h1, h2⟩ := h; subst e1; simp [RepL.length h2]
theorem RepL.get : ∀ {ds : List D} {vs : List V} {i : Nat} {d : D}, RepL g Z r H ds vs → ds[i]? = some d → ∃ v, vs[i]? = some v ∧ Rep g Z r H d v
  | [], _, _, _, h, e => by simp at e
  | d :: ds, _, 0, _, h, e => by
    obtain ⟨v, q, e1, h1, h2⟩ := h; subst e1
    simp at e; subst e; exact ⟨v, by simp, h1⟩
  | d :: ds, _, i + 1, _, h, e => by
    obtain ⟨v, q, e1, h1, h2⟩ := h; subst e1
    simp at e
    obtain ⟨w, a, b⟩ := RepL.get h2 e
    exact ⟨w, by simpa using a, b⟩
theorem RepL.append : ∀ {ds es : List D} {vs ws : List V}, RepL g Z r H ds vs → RepL g Z r H es ws → RepL g Z r H (ds ++ es) (vs ++ ws)
  | [], _, _, _, h, h' => by cases h; simpa using h'
  | d :: ds, _, _, _, h, h' => by
    obtain ⟨v, q, e1, h1, h2⟩ := h; subst e1
    exact ⟨v, q ++ _, rfl, h1, RepL.append h2 h'⟩
theorem RepL.take : ∀ {ds : List D} {vs : List V} (n : Nat), RepL g Z r H ds vs → RepL g Z r H (ds.take n) (vs.take n)
  | _, _, 0, _ => by simp [RepL]
  | [], _, n + 1, h => by cases h; simp [RepL]
  | d :: ds, _, n + 1, h => by
    obtain ⟨v, q, e1, h1, h2⟩ := h; subst e1
    exact ⟨v, _, by simp, h1, RepL.take n h2⟩
theorem RepL.drop : ∀ {ds : List D} {vs : List V} (n : Nat), RepL g Z r H ds vs → RepL g Z r H (ds.drop n) (vs.drop n)
  | _, _, 0, h => by simpa using h
  | [], _, n + 1, h => by cases h; simp [RepL]
  | d :: ds, _, n + 1, h => by
    obtain ⟨v, q, e1, h1, h2⟩ := h; subst e1
    simpa using RepL.drop n h2
theorem RepL.set {d : D} {v : V} (hd : Rep g Z r H d v) : ∀ {ds : List D} {vs : List V} (n : Nat), RepL g Z r H ds vs → RepL g Z r H (ds.set n d) (vs.set n v)
  | [], _, _, h => by cases h; simp [RepL]
  | e :: ds, _, 0, h => by
    obtain ⟨w, q, e1, h1, h2⟩ := h; subst e1
    exact ⟨v, q, rfl, hd, h2⟩
  | e :: ds, _, n + 1, h => by
    obtain ⟨w, q, e1, h1, h2⟩ := h; subst e1
    exact ⟨w, _, rfl, h1, RepL.set hd n h2⟩
theorem RepL.one {d : D} {v : V} (h : Rep g Z r H d v) : RepL g Z r H [d] [v] := ⟨v, [], rfl, h, rfl⟩
theorem RepL.erase : ∀ {ds : List D} {vs : List V} (n : Nat), RepL g Z r H ds vs → RepL g Z r H (ds.eraseIdx n) (vs.eraseIdx n)
  | [], _, _, h => by cases h; simp [RepL]
  | d :: ds, _, 0, h => by obtain ⟨v, q, e1, h1, h2⟩ := h; subst e1; simpa using h2
  | d :: ds, _, n + 1, h => by
    obtain ⟨v, q, e1, h1, h2⟩ := h; subst e1
    exact ⟨v, _, by simp, h1, RepL.erase n h2⟩
theorem RepL.ints : ∀ (ns : List Int), RepL g Z r H (ns.map D.int) (ns.map V.int)
  | [] => rfl
  | n :: ns => ⟨_, _, rfl, rfl, RepL.ints ns⟩
theorem RepL.replicate {d : D} {v : V} (h : Rep g Z r H d v) : ∀ n : Nat, RepL g Z r H (List.replicate n d) (List.replicate n v)
  | 0 => rfl
  | n + 1 => ⟨v, _, rfl, h, RepL.replicate h n⟩

/-- frozen lists and tuples may be read -/
theorem Hat.lst {a : Addr} {vs : List V} (h : Hat g Z r H a .lst vs) : SqL g.K H a vs := .inl (.inl h.2)
theorem Hat.scr {a : Addr} {vs : List V} (h : Hat g Z r H a .scr vs) : SqL g.K H a vs := by
  rcases h with ⟨_, h⟩ | h
  · exact .inl h
  · exact .inr h
theorem Hat.tup {a : Addr} {vs : List V} (h : Hat g Z r H a .tup vs) : SqT g.K H a vs := .inl (.inl h.2)
theorem Hat.ktp {a : Addr} {vs : List V} (h : Hat g Z r H a .ktp vs) : SqT g.K H a vs := by
  rcases h with ⟨_, h⟩ | h
  · exact .inl h
  · exact .inr h

theorem Rl.free {st : Store} (R : Rl g Z r H st) {p : Addr} (h : H p = none) : p ∉ Z ∧ p ∉ r := by
  refine ⟨fun m => ?_, fun m => ?_⟩
  · obtain ⟨_, o, e, _⟩ := R.z p m; rw [h] at e; cases e
  · obtain ⟨k, hk, e⟩ := List.getElem_of_mem m
    have hk' : k < st.length := by rw [← R.len]; exact hk
    obtain ⟨a, ea, t, xs, vs, _, hm, _⟩ := R.cell k st[k] (List.getElem?_eq_getElem hk')
    have : r[k]? = some p := by rw [List.getElem?_eq_getElem hk, e]
    rw [this] at ea; cases ea
    cases t with
    | lst => rw [show H p = some (.lst vs) from hm] at h; cases h
    | tup => exact hm
    | scr => exact hm
    | ktp => exact hm
    | dk ks => obtain ⟨_, q⟩ := hm; rw [q] at h; cases h
    | dt ks => obtain ⟨_, q⟩ := hm; rw [q] at h; cases h
    | ins c ns => obtain ⟨_, _, q⟩ := hm; rw [q] at h; cases h
    | exc c ns => exact hm
    | fn f c q caps => exact hm
end

/-- a change at an address that is not tracked as frozen and is no cell: Rep stands -/
theorem Hat.off {g : Gd} {Z r : List Addr} {H : Hp} {p : Addr} {o : HO} {a : Addr} {t : Hd} {vs : List V} (hp : ¬ Nin Z r p) (h : Hat g Z r H a t vs) : Hat g Z r (upd H p o) a t vs := by
  have ne : ∀ {b : Addr}, Nin Z r b → b ≠ p := fun n e => hp (e ▸ n)
  have rd : ∀ {b : Addr} {u : HO}, Nin Z r b → Rd H b u → Rd (upd H p o) b u := fun n q => by
    rcases q with q | ⟨x, q⟩
    · exact .inl (by rw [upd_ne (ne n)]; exact q)
    · exact .inr ⟨x, by rw [upd_ne (ne n)]; exact q⟩
  cases t with
  | lst => obtain ⟨n, h⟩ := h; exact ⟨n, by rw [upd_ne (ne n)]; exact h⟩
  | scr => rcases h with ⟨n, h⟩ | h
           · exact .inl ⟨n, rd n h⟩
           · exact .inr h
  | tup => obtain ⟨n, h⟩ := h; exact ⟨n, by rw [upd_ne (ne n)]; exact h⟩
  | ktp => rcases h with ⟨n, h⟩ | h
           · exact .inl ⟨n, rd n h⟩
           · exact .inr h
  | dk ks => obtain ⟨n, l, h⟩ := h; exact ⟨n, l, by rw [upd_ne (ne n)]; exact h⟩
  | dt ks => obtain ⟨n, l, h⟩ := h; exact ⟨n, l, by rw [upd_ne (ne n)]; exact h⟩
  | ins c ns => obtain ⟨n, l, dx, h⟩ := h; exact ⟨n, l, dx, by rw [upd_ne (ne n)]; exact h⟩
  | exc c ns =>
    obtain ⟨n, d, h, q⟩ := h
    refine ⟨n, d, by rw [upd_ne (ne n)]; exact h, ?_⟩
    rcases q with q | ⟨dx, e1, l, nd, hd⟩
    · exact .inl q
    · exact .inr ⟨dx, e1, l, nd, by rw [upd_ne (ne nd)]; exact hd⟩
  | fn f c q caps => obtain ⟨e1, e2, n, h⟩ := h; exact ⟨e1, e2, n, by rw [upd_ne (ne n)]; exact h⟩
mutual
theorem Rep.off {g : Gd} {Z r : List Addr} {H : Hp} {p : Addr} {o : HO} (hp : ¬ Nin Z r p) : ∀ (d : D) {v : V}, Rep g Z r H d v → Rep g Z r (upd H p o) d v
  | .non, _, h => h
  | .bl _, _, h => h
  | .int _, _, h => h
  | .str _, _, h => h
  | .h k, _, h => h
  | .nd t xs, _, h => by obtain ⟨a, vs, e1, h1, h2⟩ := h; exact ⟨a, vs, e1, h1.off hp, RepL.off hp xs h2⟩
theorem RepL.off {g : Gd} {Z r : List Addr} {H : Hp} {p : Addr} {o : HO} (hp : ¬ Nin Z r p) : ∀ (ds : List D) {vs : List V}, RepL g Z r H ds vs → RepL g Z r (upd H p o) ds vs
  | [], _, h => h
  | d :: ds, _, h => by obtain ⟨v, q, e1, h1, h2⟩ := h; exact ⟨v, q, e1, Rep.off hp d h1, RepL.off hp ds h2⟩
end
/-- another list of forbidden addresses, another store -/
theorem Hat.turn {g : Gd} {Z r Z' r' : List Addr} {H : Hp} (f : ∀ a, Nin Z r a → (∃ o, H a = some o) → Nin Z' r' a) {a : Addr} {t : Hd} {vs : List V} (h : Hat g Z r H a t vs) : Hat g Z' r' H a t vs := by
  cases t with
  | lst => obtain ⟨n, h⟩ := h; exact ⟨f a n ⟨_, h⟩, h⟩
  | scr => rcases h with ⟨n, h⟩ | h
           · exact .inl ⟨f a n (Rd.some h), h⟩
           · exact .inr h
  | tup => obtain ⟨n, h⟩ := h; exact ⟨f a n ⟨_, h⟩, h⟩
  | ktp => rcases h with ⟨n, h⟩ | h
           · exact .inl ⟨f a n (Rd.some h), h⟩
           · exact .inr h
  | dk ks => obtain ⟨n, l, h⟩ := h; exact ⟨f a n ⟨_, h⟩, l, h⟩
  | dt ks => obtain ⟨n, l, h⟩ := h; exact ⟨f a n ⟨_, h⟩, l, h⟩
  | ins c ns => obtain ⟨n, l, dx, h⟩ := h; exact ⟨f a n ⟨_, h⟩, l, dx, h⟩
  | exc c ns =>
    obtain ⟨n, d, h, q⟩ := h
    refine ⟨f a n ⟨_, h⟩, d, h, ?_⟩
    rcases q with q | ⟨dx, e1, l, nd, hd⟩
    · exact .inl q
    · exact .inr ⟨dx, e1, l, f dx nd ⟨_, hd⟩, hd⟩
  | fn f' c q caps => obtain ⟨e1, e2, n, h⟩ := h; exact ⟨e1, e2, f c n ⟨_, h⟩, h⟩
mutual
theorem Rep.turn {g : Gd} {Z r Z' r' : List Addr} {H : Hp} (f : ∀ a, Nin Z r a → (∃ o, H a = some o) → Nin Z' r' a) (hr : ∀ (k : Nat) a, r[k]? = some a → r'[k]? = some a) : ∀ (d : D) {v : V}, Rep g Z r H d v → Rep g Z' r' H d v
  | .non, _, h => h
  | .bl _, _, h => h
  | .int _, _, h => h
  | .str _, _, h => h
  | .h k, _, h => by obtain ⟨a, e1, e2⟩ := h; exact ⟨a, e1, hr k a e2⟩
  | .nd t xs, _, h => by obtain ⟨a, vs, e1, h1, h2⟩ := h; exact ⟨a, vs, e1, h1.turn f, RepL.turn f hr xs h2⟩
theorem RepL.turn {g : Gd} {Z r Z' r' : List Addr} {H : Hp} (f : ∀ a, Nin Z r a → (∃ o, H a = some o) → Nin Z' r' a) (hr : ∀ (k : Nat) a, r[k]? = some a → r'[k]? = some a) : ∀ (ds : List D) {vs : List V}, RepL g Z r H ds vs → RepL g Z' r' H ds vs
  | [], _, h => h
  | d :: ds, _, h => by obtain ⟨v, q, e1, h1, h2⟩ := h; exact ⟨v, q, e1, Rep.turn f hr d h1, RepL.turn f hr ds h2⟩
end

section
variable {g : Gd} {Z r : List Addr} {H : Hp} {st : Store}
/-- a new thing at p that nobody knows -/
theorem Ext.new {p : Addr} {o : HO} (h : H p = none) : Ext r H r (upd H p o) :=
  ⟨⟨[], by simp⟩, fun a u e _ n => ⟨by rw [upd_ne (ne_of_none e h)]; exact e, n⟩⟩
theorem tabs_upd {T : List (Addr × Str)} {a : Addr} {o : HO} (ha : ∀ u, H a = some u → NX u) (h : LamX.Tabs T H) : LamX.Tabs T (upd H a o) := fun p hp => by
  obtain ⟨ps, h1, h2, h3⟩ := h p hp
  have n1 : p.1 ≠ a := fun z => (ha (.tbl ps) (by rw [← z]; exact h1)).1 ps rfl
  refine ⟨ps, by rw [upd_ne n1]; exact h1, h2, fun pos cv hc => ?_⟩
  obtain ⟨c, e1, e2⟩ := h3 pos cv hc
  have n2 : c ≠ a := fun z => (ha (LamX.CodeO c p.2) (by rw [← z]; exact e2)).2 _ rfl
  exact ⟨c, e1, by rw [upd_ne n2]; exact e2⟩
theorem HatM.nx {a : Addr} {t : Hd} {vs : List V} (h : HatM g H a t vs) : ∀ u, H a = some u → NX u := fun u e => by
  cases t with
  | lst => rw [show H a = some (.lst vs) from h] at e; cases e; exact nx_lst
  | tup => exact h.elim
  | scr => exact h.elim
  | ktp => exact h.elim
  | dk ks => rw [h.2] at e; cases e; exact nx_dK
  | dt ks => rw [h.2] at e; cases e; exact nx_dT
  | ins c ns => obtain ⟨_, dx, h⟩ := h; rw [h] at e; cases e; exact nx_ins
  | exc c ns => exact h.elim
  | fn f c q caps => exact h.elim
theorem HatM.some {a : Addr} {t : Hd} {vs : List V} (h : HatM g H a t vs) : ∃ o, H a = some o := by
  cases t with
  | lst => exact ⟨_, h⟩
  | tup => exact h.elim
  | scr => exact h.elim
  | ktp => exact h.elim
  | dk ks => exact ⟨_, h.2⟩
  | dt ks => exact ⟨_, h.2⟩
  | ins c ns => obtain ⟨_, dx, h⟩ := h; exact ⟨_, h⟩
  | exc c ns => exact h.elim
  | fn f c q caps => exact h.elim
theorem HatM.keep {H' : Hp} {a : Addr} {t : Hd} {vs : List V} (e : H' a = H a) (h : HatM g H a t vs) : HatM g H' a t vs := by
  cases t with
  | lst => exact e.trans h
  | tup => exact h.elim
  | scr => exact h.elim
  | ktp => exact h.elim
  | dk ks => exact ⟨h.1, e.trans h.2⟩
  | dt ks => exact ⟨h.1, e.trans h.2⟩
  | ins c ns => obtain ⟨l, dx, h⟩ := h; exact ⟨l, dx, e.trans h⟩
  | exc c ns => exact h.elim
  | fn f c q caps => exact h.elim
theorem Rl.new {p : Addr} {o : HO} (R : Rl g Z r H st) (h : H p = none) : Rl g Z r (upd H p o) st := by
  refine ⟨R.len, R.nd, fun a m => ?_, tabs_upd (fun u z => by rw [h] at z; cases z) R.tb, fun k d e => ?_⟩
  · obtain ⟨n, u, e, x⟩ := R.z a m
    exact ⟨n, u, by rw [upd_ne (ne_of_none e h)]; exact e, x⟩
  · obtain ⟨a, ea, t, xs, vs, ed, hm, hx⟩ := R.cell k d e
    obtain ⟨u, eu⟩ := hm.some
    exact ⟨a, ea, t, xs, vs, ed, hm.keep (upd_ne (ne_of_none eu h)), RepL.ext (Ext.new h) xs hx⟩
/-- a new thing that is kept in the store -/
theorem Ext.grow {p : Addr} {o : HO} (h : H p = none) : Ext r H (r ++ [p]) (upd H p o) :=
  ⟨⟨[p], rfl⟩, fun a u e _ n => by
    have ne := ne_of_none e h
    exact ⟨by rw [upd_ne ne]; exact e, by simp [n, ne]⟩⟩
theorem Rl.grow {p : Addr} {o : HO} {t : Hd} {xs : List D} {vs : List V} (R : Rl g Z r H st) (h : H p = none) (hm : HatM g (upd H p o) p t vs) (hx : RepL g Z r H xs vs) :
    Rl g Z (r ++ [p]) (upd H p o) (st ++ [.nd t xs]) := by
  have fr := R.free h
  refine ⟨by simp [R.len], ?_, fun a m => ?_, tabs_upd (fun u z => by rw [h] at z; cases z) R.tb, fun k d e => ?_⟩
  · refine List.nodup_append.mpr ⟨R.nd, by simp, ?_⟩
    intro a ha b hb; simp at hb; subst hb; intro e; subst e; exact fr.2 ha
  · obtain ⟨n, u, e, x⟩ := R.z a m
    have ne := ne_of_none e h
    exact ⟨by simp [n, ne], u, by rw [upd_ne ne]; exact e, x⟩
  · by_cases hk : k < st.length
    · rw [List.getElem?_append_left hk] at e
      obtain ⟨a, ea, t', xs', vs', ed, hm', hx'⟩ := R.cell k d e
      obtain ⟨u, eu⟩ := hm'.some
      have hk' : k < r.length := by rw [R.len]; exact hk
      exact ⟨a, by rw [List.getElem?_append_left hk']; exact ea, t', xs', vs', ed, hm'.keep (upd_ne (ne_of_none eu h)), RepL.ext (Ext.grow h) xs' hx'⟩
    · have hk2 : k = st.length := by
        have := (List.getElem?_eq_some_iff.mp e).1
        simp at this; omega
      subst hk2
      simp at e; subst e
      exact ⟨p, by rw [← R.len]; simp, t, xs, vs, rfl, hm, RepL.ext (Ext.grow h) xs hx⟩
/-- a thing of the store is written -/
theorem Ext.write {k : Nat} {a : Addr} {o : HO} (h : r[k]? = some a) : Ext r H r (upd H a o) :=
  ⟨⟨[], by simp⟩, fun b u e _ n => ⟨by rw [upd_ne (show b ≠ a from fun z => n (by rw [z]; exact List.mem_of_getElem? h))]; exact e, n⟩⟩
theorem Rl.write {k : Nat} {a : Addr} {o : HO} {t : Hd} {xs : List D} {vs : List V} (R : Rl g Z r H st) (h : r[k]? = some a) (hm : HatM g (upd H a o) a t vs) (hx : RepL g Z r H xs vs) :
    Rl g Z r (upd H a o) (st.set k (.nd t xs)) := by
  have hna : ¬ Nin Z r a := fun n => n.2 (List.mem_of_getElem? h)
  have hat : ∀ u, H a = some u → NX u := fun u e => by
    obtain ⟨hk, _⟩ := List.getElem?_eq_some_iff.mp h
    have hk' : k < st.length := by rw [← R.len]; exact hk
    obtain ⟨b, eb, t', xs', vs', ed, hm', hx'⟩ := R.cell k _ (List.getElem?_eq_getElem hk')
    rw [h] at eb; cases eb
    exact hm'.nx u e
  refine ⟨by simp [R.len], R.nd, fun b m => ?_, tabs_upd hat R.tb, fun j d e => ?_⟩
  · obtain ⟨n, u, e, x⟩ := R.z b m
    exact ⟨n, u, by rw [upd_ne (show b ≠ a from fun z => n (by rw [z]; exact List.mem_of_getElem? h))]; exact e, x⟩
  · by_cases hj : j = k
    · subst hj
      have hk' : j < st.length := by rw [← R.len]; exact (List.getElem?_eq_some_iff.mp h).1
      rw [List.getElem?_set_self hk'] at e
      cases e
      exact ⟨a, h, t, xs, vs, rfl, hm, RepL.off hna xs hx⟩
    · rw [List.getElem?_set_ne (Ne.symm hj)] at e
      obtain ⟨b, eb, t', xs', vs', ed, hm', hx'⟩ := R.cell j d e
      have ne : b ≠ a := fun z => by
        subst z
        obtain ⟨h1, e1⟩ := List.getElem?_eq_some_iff.mp eb
        obtain ⟨h2, e2⟩ := List.getElem?_eq_some_iff.mp h
        exact hj ((List.getElem_inj R.nd).mp (e1.trans e2.symm))
      exact ⟨b, eb, t', xs', vs', ed, hm'.keep (upd_ne ne), RepL.off hna xs' hx'⟩
end

/-- the names' values -/
structure EnvR (g : Gd) (Z r : List Addr) (H : Hp) (env : DEnv) (sg : L2.St) : Prop where
  len : env.length = sg.length
  at_ : ∀ (i : Nat) (d : D), env[i]? = some (some d) → ∃ v, sg[i]? = some (some v) ∧ Rep g Z r H d v
theorem EnvR.ext {g : Gd} {Z r r1 : List Addr} {H H1 : Hp} {env : DEnv} {sg : L2.St} (E : EnvR g Z r H env sg) (e : Ext r H r1 H1) : EnvR g Z r1 H1 env sg :=
  ⟨E.len, fun i d h => let ⟨v, a, b⟩ := E.at_ i d h; ⟨v, a, Rep.ext e d b⟩⟩
theorem EnvR.set {g : Gd} {Z r : List Addr} {H : Hp} {env : DEnv} {sg : L2.St} (E : EnvR g Z r H env sg) (i : Nat) {d : D} {v : V} (h : Rep g Z r H d v) : EnvR g Z r H (env.set i (some d)) (sg.set i (some v)) := by
  refine ⟨by simp [E.len], fun j e hj => ?_⟩
  by_cases hij : j = i
  · subst hij
    have hl : j < env.length := by
      have := (List.getElem?_eq_some_iff.mp hj).1
      simpa using this
    rw [List.getElem?_set_self hl] at hj
    cases hj
    exact ⟨v, by rw [List.getElem?_set_self (by rw [← E.len]; exact hl)], h⟩
  · rw [List.getElem?_set_ne (Ne.symm hij)] at hj ⊢
    exact E.at_ j e hj
end DY

/-! Expressions by what they compute on data. -/
namespace DY
open PySem PySem.Spec PyProof.Rows L2

/-- an exception of e's class with its attributes -/
def RepX (g : Gd) (Z r : List Addr) (H : Hp) (e : Ex) (cls : Value) (d : Option Addr) : Prop :=
  cls = .ref (g.cls e.c) ∧ ((d = none ∧ e.ns = [] ∧ e.xs = []) ∨ ∃ dx vs, d = some dx ∧ e.ns.length = vs.length ∧ Nin Z r dx ∧ H dx = some (.xd (e.ns.zip vs)) ∧ RepL g Z r H e.xs vs)

/-- the result stands as it is told, whatever addresses it takes -/
def Post {A B : Type} (g : Gd) (Z r : List Addr) (H : Hp) (RA : List Addr → Hp → A → B → Prop) (x : Res A) (Q : B → Hp → Prop) (W : Value → Option Addr → Hp → Prop) : Prop :=
  match x with
  | .ok a st => ∀ r' H' b, Ext r H r' H' → Rl g Z r' H' st → RA r' H' a b → Q b H'
  | .er e st => ∀ r' H' cls d, Ext r H r' H' → Rl g Z r' H' st → RepX g Z r' H' e cls d → W cls d H'
  | .no => False
theorem Post.ext {A B : Type} {g : Gd} {Z r r1 : List Addr} {H H1 : Hp} {RA : List Addr → Hp → A → B → Prop} {x : Res A} {Q : B → Hp → Prop} {W : Value → Option Addr → Hp → Prop}
    (e : Ext r H r1 H1) (h : Post g Z r H RA x Q W) : Post g Z r1 H1 RA x Q W := by
  cases x with
  | ok a st => exact fun r' H' b e' R q => h r' H' b (e.trans e') R q
  | er x st => exact fun r' H' c d e' R q => h r' H' c d (e.trans e') R q
  | no => exact h
theorem Post.bind {A B C F : Type} {g : Gd} {Z r : List Addr} {H : Hp} {RA : List Addr → Hp → A → B → Prop} {RC : List Addr → Hp → C → F → Prop} {x : Res A} {k : A → Store → Res C} {Q : B → Hp → Prop} {QC : F → Hp → Prop} {W : Value → Option Addr → Hp → Prop}
    (h : Post g Z r H RC (x.bind k) QC W)
    (hk : ∀ a st r' H' b, x = .ok a st → Ext r H r' H' → Rl g Z r' H' st → RA r' H' a b → Post g Z r' H' RC (k a st) QC W → Q b H') : Post g Z r H RA x Q W := by
  cases x with
  | ok a st => exact fun r' H' b e R q => hk a st r' H' b rfl e R q (Post.ext e h)
  | er x st => exact h
  | no => exact h
theorem Post.imp {A B : Type} {g : Gd} {Z r : List Addr} {H : Hp} {RA : List Addr → Hp → A → B → Prop} {x : Res A} {Q Q' : B → Hp → Prop} {W : Value → Option Addr → Hp → Prop}
    (h : Post g Z r H RA x Q W) (f : ∀ b H', Q b H' → Q' b H') : Post g Z r H RA x Q' W := by
  cases x with
  | ok a st => exact fun r' H' b e R q => f b H' (h r' H' b e R q)
  | er x st => exact h
  | no => exact h

abbrev RV (g : Gd) (Z : List Addr) : List Addr → Hp → D → V → Prop := fun r H => Rep g Z r H
abbrev RVs (g : Gd) (Z : List Addr) : List Addr → Hp → List D → List V → Prop := fun r H => RepL g Z r H
abbrev RB : List Addr → Hp → Bool → Bool → Prop := fun _ _ a b => a = b

abbrev SemE := DEnv → Store → Res D
abbrev SemA := DEnv → Store → Res (List D)
abbrev SemT := DEnv → Store → Res Bool

def rdE (g : Gd) (W : WX) (f : SemE) : TE := fun sg H Q => ∃ Z r env st, EnvR g Z r H env sg ∧ Rl g Z r H st ∧ Post g Z r H (RV g Z) (f env st) Q (fun c d H' => W c d sg H')
def rdA (g : Gd) (W : WX) (f : SemA) : TA := fun sg H Q => ∃ Z r env st, EnvR g Z r H env sg ∧ Rl g Z r H st ∧ Post g Z r H (RVs g Z) (f env st) Q (fun c d H' => W c d sg H')
def rdT (g : Gd) (W : WX) (f : SemT) : TT := fun sg H Q => ∃ Z r env st, EnvR g Z r H env sg ∧ Rl g Z r H st ∧ Post g Z r H RB (f env st) Q (fun c d H' => W c d sg H')

/-- e computes f -/
structure SE (X : Cx) (cl : ClsT) (W : WX) (e : Expr) (f : SemE) : Prop where
  run : PE X e (rdE ⟨X.K, cl⟩ W f)
structure SA (X : Cx) (cl : ClsT) (W : WX) (es : List Expr) (f : SemA) : Prop where
  run : PA X es (rdA ⟨X.K, cl⟩ W f)
structure ST (X : Cx) (cl : ClsT) (W : WX) (e : Expr) (f : SemT) : Prop where
  run : PT X e (rdT ⟨X.K, cl⟩ W f)
/-- a part of a conjunction -/
structure SW (X : Cx) (cl : ClsT) (W : WX) (e : Expr) (f : SemT) : Prop where
  run : PW X e (rdT ⟨X.K, cl⟩ W f)

theorem _root_.L2.PE.imp {X : Cx} {e : Expr} {t t' : TE} (h : PE X e t) (f : ∀ sg H Q, t' sg H Q → t sg H Q) : PE X e t' := ⟨fun pins s sg H Q I q => h.run pins s sg H Q I (f sg H Q q)⟩
theorem _root_.L2.PA.imp {X : Cx} {e : List Expr} {t t' : TA} (h : PA X e t) (f : ∀ sg H Q, t' sg H Q → t sg H Q) : PA X e t' := ⟨fun pos pins s sg H Q I q => h.run pos pins s sg H Q I (f sg H Q q)⟩
theorem _root_.L2.PT.imp {X : Cx} {e : Expr} {t t' : TT} (h : PT X e t) (f : ∀ sg H Q, t' sg H Q → t sg H Q) : PT X e t' := ⟨fun pins s sg H Q I q => h.run pins s sg H Q I (f sg H Q q)⟩
theorem _root_.L2.PW.imp {X : Cx} {e : Expr} {t t' : TT} (h : PW X e t) (f : ∀ sg H Q, t' sg H Q → t sg H Q) : PW X e t' := ⟨fun wh pins s sg H Q I q => h.run wh pins s sg H Q I (f sg H Q q)⟩

/-! ### the store read -/
/-- what stands at a datum -/
def seen (st : Store) : D → Option (Hd × List D)
  | .nd t xs => some (t, xs)
  | .h k => match st[k]? with
    | some (.nd t xs) => some (t, xs)
    | _ => none
  | _ => none
/-- a list's items -/
def lst? (st : Store) (d : D) : Option (List D) := match seen st d with
  | some (.lst, xs) => some xs
  | some (.scr, xs) => some xs
  | _ => none
/-- of a list that may be joined with another one -/
def lstX? (st : Store) (d : D) : Option (List D) := match seen st d with
  | some (.lst, xs) => some xs
  | _ => none
def tup? (st : Store) (d : D) : Option (List D) := match seen st d with
  | some (.tup, xs) => some xs
  | some (.ktp, xs) => some xs
  | _ => none
def tupX? (st : Store) (d : D) : Option (List D) := match seen st d with
  | some (.tup, xs) => some xs
  | _ => none

section
variable {g : Gd} {Z r : List Addr} {H : Hp} {st : Store} {d : D} {v : V} {xs : List D}
/-- what is read stands there -/
theorem seen_ok (R : Rl g Z r H st) (h : Rep g Z r H d v) {t : Hd} (e : seen st d = some (t, xs)) : ∃ a vs, v = .ref a ∧ RepL g Z r H xs vs ∧ (Hat g Z r H a t vs ∨ HatM g H a t vs) := by
  cases d with
  | nd t' ys =>
    cases e
    obtain ⟨a, vs, e1, h1, h2⟩ := h
    exact ⟨a, vs, e1, h2, .inl h1⟩
  | h k =>
    obtain ⟨a, e1, e2⟩ := h
    have e' : (match st[k]? with | some (.nd t xs) => some (t, xs) | _ => none) = some (t, xs) := e
    cases hk : st[k]? with
    | none => rw [hk] at e'; cases e'
    | some c =>
      rw [hk] at e'
      cases c with
      | nd t' ys =>
        cases e'
        obtain ⟨b, eb, t2, ys2, vs, ed, hm, hx⟩ := R.cell k _ hk
        cases ed
        rw [e2] at eb; cases eb
        exact ⟨a, vs, e1, hx, .inr hm⟩
      | non => cases e'
      | bl b => cases e'
      | int i => cases e'
      | str s => cases e'
      | h j => cases e'
  | non => cases e
  | bl b => cases e
  | int i => cases e
  | str s => cases e
theorem lst_ok (R : Rl g Z r H st) (h : Rep g Z r H d v) (e : lst? st d = some xs) : ∃ a vs, v = .ref a ∧ RepL g Z r H xs vs ∧ SqL g.K H a vs := by
  unfold lst? at e
  split at e
  · rename_i ys es
    cases e
    obtain ⟨a, vs, e1, h2, h3⟩ := seen_ok R h es
    refine ⟨a, vs, e1, h2, ?_⟩
    rcases h3 with h3 | h3
    · exact Hat.lst h3
    · exact SqL.of h3
  · rename_i ys es
    cases e
    obtain ⟨a, vs, e1, h2, h3⟩ := seen_ok R h es
    refine ⟨a, vs, e1, h2, ?_⟩
    rcases h3 with h3 | h3
    · exact Hat.scr h3
    · exact h3.elim
  · cases e
theorem lstX_ok (R : Rl g Z r H st) (h : Rep g Z r H d v) (e : lstX? st d = some xs) : ∃ a vs, v = .ref a ∧ RepL g Z r H xs vs ∧ H a = some (.lst vs) := by
  unfold lstX? at e
  split at e
  · rename_i ys es
    cases e
    obtain ⟨a, vs, e1, h2, h3⟩ := seen_ok R h es
    refine ⟨a, vs, e1, h2, ?_⟩
    rcases h3 with h3 | h3
    · exact h3.2
    · exact h3
  · cases e
theorem tup_ok (R : Rl g Z r H st) (h : Rep g Z r H d v) (e : tup? st d = some xs) : ∃ a vs, v = .ref a ∧ RepL g Z r H xs vs ∧ SqT g.K H a vs := by
  unfold tup? at e
  split at e
  · rename_i ys es
    cases e
    obtain ⟨a, vs, e1, h2, h3⟩ := seen_ok R h es
    refine ⟨a, vs, e1, h2, ?_⟩
    rcases h3 with h3 | h3
    · exact Hat.tup h3
    · exact h3.elim
  · rename_i ys es
    cases e
    obtain ⟨a, vs, e1, h2, h3⟩ := seen_ok R h es
    refine ⟨a, vs, e1, h2, ?_⟩
    rcases h3 with h3 | h3
    · exact Hat.ktp h3
    · exact h3.elim
  · cases e
theorem tupX_ok (R : Rl g Z r H st) (h : Rep g Z r H d v) (e : tupX? st d = some xs) : ∃ a vs, v = .ref a ∧ RepL g Z r H xs vs ∧ H a = some (.tup vs) := by
  unfold tupX? at e
  split at e
  · rename_i ys es
    cases e
    obtain ⟨a, vs, e1, h2, h3⟩ := seen_ok R h es
    refine ⟨a, vs, e1, h2, ?_⟩
    rcases h3 with h3 | h3
    · exact h3.2
    · exact h3.elim
  · cases e
end

/-! ### leaves -/
section
variable {X : Cx} {cl : ClsT} {W : WX}
def dConst (d : D) : SemE := fun _ st => .ok d st
def dVar (i : Nat) : SemE := fun env st => match env[i]? with
  | some (some d) => .ok d st
  | _ => .no
theorem post_ok {A B : Type} {g : Gd} {Z r : List Addr} {H : Hp} {RA : List Addr → Hp → A → B → Prop} {a : A} {st : Store} {Q : B → Hp → Prop} {W' : Value → Option Addr → Hp → Prop} {b : B}
    (h : Post g Z r H RA (.ok a st) Q W') (R : Rl g Z r H st) (q : RA r H a b) : Q b H := h r H b (Ext.refl r H) R q
theorem se_int {i : Int} {j : Nat} {pos : Pos} : SE X cl W (.Constant (.int i) j pos) (dConst (.int i)) := ⟨pe_int.imp fun sg H Q ⟨Z, r, env, st, E, R, h⟩ => post_ok h R rfl⟩
theorem se_bl {b : Bool} {j : Nat} {pos : Pos} : SE X cl W (.Constant (.bool b) j pos) (dConst (.bl b)) := ⟨pe_bl.imp fun sg H Q ⟨Z, r, env, st, E, R, h⟩ => post_ok h R rfl⟩
theorem se_non {j : Nat} {pos : Pos} : SE X cl W (.Constant .none j pos) (dConst .non) := ⟨pe_non.imp fun sg H Q ⟨Z, r, env, st, E, R, h⟩ => post_ok h R rfl⟩
theorem se_str {x : Str} {j : Nat} {pos : Pos} : SE X cl W (.Constant (.str x) j pos) (dConst (.str x)) := ⟨pe_str.imp fun sg H Q ⟨Z, r, env, st, E, R, h⟩ => post_ok h R rfl⟩
theorem se_var (i : Nat) {x : Str} {pos : Pos} (hN : X.N[i]? = some x := by rfl) (hv : Vis X.env.scope x := by first | exact Or.inl rfl | exact Or.inr (Or.inl rfl) | exact Or.inr (Or.inr rfl))
    (hd : (x == ("__debug__" : Str)) = false := by decide +kernel) (hcd : (x == ("__classdict__" : Str)) = false := by decide +kernel) : SE X cl W (.Name x pos) (dVar i) := by
  refine ⟨(pe_var hN hv hd hcd).imp fun sg H Q ⟨Z, r, env, st, E, R, h⟩ => ?_⟩
  unfold dVar at h
  cases he : env[i]? with
  | none => rw [he] at h; exact h.elim
  | some o =>
    cases o with
    | none => rw [he] at h; exact h.elim
    | some d =>
      rw [he] at h
      obtain ⟨v, e1, q⟩ := E.at_ i d he
      exact ⟨v, e1, post_ok h R q⟩
/-- a module's constant -/
theorem se_glob {x : Str} {v : V} {u : Value} {d : D} {pos : Pos} (hg : Gl X x) (hm : X.mg x = some u) (rv : RelV v u) (hd : ∀ Z r H, Rep ⟨X.K, cl⟩ Z r H d v) (hdb : (x == ("__debug__" : Str)) = false := by decide +kernel) : SE X cl W (.Name x pos) (dConst d) :=
  ⟨(pe_glob hg hm rv hdb).imp fun sg H Q ⟨Z, r, env, st, E, R, h⟩ => post_ok h R (hd Z r H)⟩

/-! ### operators -/
def dBin (op : D → D → Store → Res D) (fa fb : SemE) : SemE := fun env st => (fa env st).bind fun x st1 => (fb env st1).bind fun y st2 => op x y st2
/-- what an operator does on values is what op does on data -/
structure OpS (X : Cx) (cl : ClsT) (f : Value → Value → Sem Value) (op : D → D → Store → Res D) : Prop where
  ex : ∃ rr : R2, OpR X f rr ∧ ∀ {Z r : List Addr} {H : Hp} {st : Store} {x y : D} {v u : V} {Q : VK} {W' : Value → Option Addr → Hp → Prop}, Rl ⟨X.K, cl⟩ Z r H st → Rep ⟨X.K, cl⟩ Z r H x v → Rep ⟨X.K, cl⟩ Z r H y u →
    Post ⟨X.K, cl⟩ Z r H (RV ⟨X.K, cl⟩ Z) (op x y st) Q W' → rr v u H Q
theorem rd_bin {rr : R2} {op : D → D → Store → Res D} {fa fb : SemE} {W : WX} (hop : ∀ {Z r : List Addr} {H : Hp} {st : Store} {x y : D} {v u : V} {Q : VK} {W' : Value → Option Addr → Hp → Prop}, Rl ⟨X.K, cl⟩ Z r H st → Rep ⟨X.K, cl⟩ Z r H x v → Rep ⟨X.K, cl⟩ Z r H y u →
    Post ⟨X.K, cl⟩ Z r H (RV ⟨X.K, cl⟩ Z) (op x y st) Q W' → rr v u H Q) (sg : L2.St) (H : Hp) (Q : VK) (h : rdE ⟨X.K, cl⟩ W (dBin op fa fb) sg H Q) : tOp rr (rdE ⟨X.K, cl⟩ W fa) (rdE ⟨X.K, cl⟩ W fb) sg H Q := by
  obtain ⟨Z, r, env, st, E, R, h⟩ := h
  refine ⟨Z, r, env, st, E, R, Post.bind h fun x st1 r1 H1 v _ e1 R1 q1 h1 => ?_⟩
  refine ⟨Z, r1, env, st1, E.ext e1, R1, Post.bind h1 fun y st2 r2 H2 u _ e2 R2 q2 h2 => ?_⟩
  exact hop R2 (Rep.ext e2 x q1) q2 h2
theorem se_bin {op : Operator} {o : D → D → Store → Res D} (ho : OpS X cl (binaryOp op) o) {a b : Expr} {fa fb : SemE} {pos : Pos} (ha : SE X cl W a fa) (hb : SE X cl W b fb) : SE X cl W (.BinOp a op b pos) (dBin o fa fb) := by
  obtain ⟨rr, hr, hop⟩ := ho.ex
  exact ⟨(pe_op hr ha.run hb.run).imp (rd_bin hop)⟩
theorem se_cmp {op : CmpOp} {o : D → D → Store → Res D} (ho : OpS X cl (compareOp op) o) {a b : Expr} {fa fb : SemE} {pos : Pos} (ha : SE X cl W a fa) (hb : SE X cl W b fb) (hm : behindInMarks op b = false := by rfl) : SE X cl W (.Compare a [op] [b] pos) (dBin o fa fb) := by
  obtain ⟨rr, hr, hop⟩ := ho.ex
  exact ⟨(pe_cmpR hr ha.run hb.run hm).imp (rd_bin hop)⟩
/-- a value's bool -/
def dBool (f : SemE) : SemT := fun env st => (f env st).bind fun x st1 => match x with
  | .bl b => .ok b st1
  | _ => .no
theorem rd_bool {g : Gd} {f : SemE} {W : WX} {t : TE} (ht : ∀ sg H Q, rdE g W f sg H Q → t sg H Q) (sg : L2.St) (H : Hp) (Q : Bool → Hp → Prop) (h : rdT g W (dBool f) sg H Q) : tTest t sg H Q := by
  obtain ⟨Z, r, env, st, E, R, h⟩ := h
  refine ht sg H _ ⟨Z, r, env, st, E, R, Post.bind h fun x st1 r1 H1 v _ e1 R1 q1 h1 => ?_⟩
  cases x with
  | bl b => exact ⟨b, q1, post_ok h1 R1 rfl⟩
  | non => exact h1.elim
  | int i => exact h1.elim
  | str s => exact h1.elim
  | h k => exact h1.elim
  | nd t xs => exact h1.elim
theorem st_cmp {op : CmpOp} {o : D → D → Store → Res D} (ho : OpS X cl (compareOp op) o) {a b : Expr} {fa fb : SemE} {pos : Pos} (ha : SE X cl W a fa) (hb : SE X cl W b fb) (hm : behindInMarks op b = false := by rfl) : ST X cl W (.Compare a [op] [b] pos) (dBool (dBin o fa fb)) := by
  obtain ⟨rr, hr, hop⟩ := ho.ex
  exact ⟨(pt_cmpR hr ha.run hb.run hm).imp (rd_bool (rd_bin hop))⟩
/-- any expression whose value is a bool -/
theorem st_val {e : Expr} {f : SemE} (h : SE X cl W e f) (he : ∀ whole, isTrue e X.env whole = (do let v ← whole; standAt e.pos; holding [v] (truthy v)) := by intro _; rfl) : ST X cl W e (dBool f) :=
  ⟨(pt_val h.run he).imp (rd_bool fun _ _ _ q => q)⟩
/-- a op1 b op2 c -/
def dChain (o o' : D → D → Store → Res D) (fa fb fc : SemE) : SemE := fun env st => (fa env st).bind fun x st1 => (fb env st1).bind fun y st2 => (o x y st2).bind fun z st3 => match z with
  | .bl true => (fc env st3).bind fun w st4 => o' y w st4
  | .bl false => .ok (.bl false) st3
  | _ => .no
theorem rd_chain {rr rr' : R2} {o o' : D → D → Store → Res D} {fa fb fc : SemE} {W : WX} (hop : ∀ {Z r : List Addr} {H : Hp} {st : Store} {x y : D} {v u : V} {Q : VK} {W' : Value → Option Addr → Hp → Prop}, Rl ⟨X.K, cl⟩ Z r H st → Rep ⟨X.K, cl⟩ Z r H x v → Rep ⟨X.K, cl⟩ Z r H y u →
    Post ⟨X.K, cl⟩ Z r H (RV ⟨X.K, cl⟩ Z) (o x y st) Q W' → rr v u H Q) (hop' : ∀ {Z r : List Addr} {H : Hp} {st : Store} {x y : D} {v u : V} {Q : VK} {W' : Value → Option Addr → Hp → Prop}, Rl ⟨X.K, cl⟩ Z r H st → Rep ⟨X.K, cl⟩ Z r H x v → Rep ⟨X.K, cl⟩ Z r H y u →
    Post ⟨X.K, cl⟩ Z r H (RV ⟨X.K, cl⟩ Z) (o' x y st) Q W' → rr' v u H Q) (sg : L2.St) (H : Hp) (Q : VK) (h : rdE ⟨X.K, cl⟩ W (dChain o o' fa fb fc) sg H Q) : tChain rr rr' (rdE ⟨X.K, cl⟩ W fa) (rdE ⟨X.K, cl⟩ W fb) (rdE ⟨X.K, cl⟩ W fc) sg H Q := by
  obtain ⟨Z, r, env, st, E, R, h⟩ := h
  refine ⟨Z, r, env, st, E, R, Post.bind h fun x st1 r1 H1 v _ e1 R1 q1 h1 => ?_⟩
  refine ⟨Z, r1, env, st1, E.ext e1, R1, Post.bind h1 fun y st2 r2 H2 u _ e2 R2 q2 h2 => ?_⟩
  refine hop R2 (Rep.ext e2 x q1) q2 (Post.bind h2 fun z st3 r3 H3 zv _ e3 R3 q3 h3 => ?_)
  cases z with
  | bl b =>
    refine ⟨b, q3, ?_⟩
    cases b with
    | true =>
      rw [if_pos rfl]
      refine ⟨Z, r3, env, st3, E.ext ((e1.trans e2).trans e3), R3, Post.bind h3 fun w st4 r4 H4 wv _ e4 R4 q4 h4 => ?_⟩
      exact hop' R4 (Rep.ext (e3.trans e4) y q2) q4 h4
    | false =>
      rw [if_neg (by decide)]
      exact post_ok h3 R3 rfl
  | non => exact h3.elim
  | int i => exact h3.elim
  | str s => exact h3.elim
  | h k => exact h3.elim
  | nd t xs => exact h3.elim
theorem se_chain {op op' : CmpOp} {o o' : D → D → Store → Res D} (ho : OpS X cl (compareOp op) o) (ho' : OpS X cl (compareOp op') o') {a b c : Expr} {fa fb fc : SemE} {pos : Pos} (ha : SE X cl W a fa) (hb : SE X cl W b fb) (hc : SE X cl W c fc)
    (hm : lastMarks [op, op'] [b, c] = false := by with_unfolding_all rfl) : SE X cl W (.Compare a [op, op'] [b, c] pos) (dChain o o' fa fb fc) := by
  obtain ⟨rr, hr, hop⟩ := ho.ex
  obtain ⟨rr', hr', hop'⟩ := ho'.ex
  exact ⟨(pe_chain hr hr' ha.run hb.run hc.run hm).imp (rd_chain hop hop')⟩
/-! ### and, or, not, if else -/
def dAnd (fa fb : SemT) : SemT := fun env st => (fa env st).bind fun x st1 => if x = true then fb env st1 else .ok false st1
def dOr (fa fb : SemT) : SemT := fun env st => (fa env st).bind fun x st1 => if x = true then .ok true st1 else fb env st1
def dNot (fa : SemT) : SemT := fun env st => (fa env st).bind fun x st1 => .ok (!x) st1
theorem rd_and {g : Gd} {fa fb : SemT} (sg : L2.St) (H : Hp) (Q : Bool → Hp → Prop) (h : rdT g W (dAnd fa fb) sg H Q) : tAnd (rdT g W fa) (rdT g W fb) sg H Q := by
  obtain ⟨Z, r, env, st, E, R, h⟩ := h
  refine ⟨Z, r, env, st, E, R, Post.bind h fun x st1 r1 H1 v _ e1 R1 q1 h1 => ?_⟩
  cases q1
  cases x with
  | true => rw [if_pos rfl] at h1 ⊢; exact ⟨Z, r1, env, st1, E.ext e1, R1, h1⟩
  | false => rw [if_neg (by decide)] at h1 ⊢; exact post_ok h1 R1 rfl
theorem rd_or {g : Gd} {fa fb : SemT} (sg : L2.St) (H : Hp) (Q : Bool → Hp → Prop) (h : rdT g W (dOr fa fb) sg H Q) : tOr (rdT g W fa) (rdT g W fb) sg H Q := by
  obtain ⟨Z, r, env, st, E, R, h⟩ := h
  refine ⟨Z, r, env, st, E, R, Post.bind h fun x st1 r1 H1 v _ e1 R1 q1 h1 => ?_⟩
  cases q1
  cases x with
  | true => rw [if_pos rfl] at h1 ⊢; exact post_ok h1 R1 rfl
  | false => rw [if_neg (by decide)] at h1 ⊢; exact ⟨Z, r1, env, st1, E.ext e1, R1, h1⟩
theorem SW.st {e : Expr} {f : SemT} (h : SW X cl W e f) : ST X cl W e f := ⟨h.run.pt⟩
variable {a b c : Expr} {rest : List Expr} {pos : Pos}
theorem sw_and1 {fa : SemT} (ha : ST X cl W a fa) : SW X cl W (.BoolOp .And [a] pos) fa := ⟨pw_and1 ha.run⟩
theorem sw_or1 {fa : SemT} (ha : ST X cl W a fa) : SW X cl W (.BoolOp .Or [a] pos) fa := ⟨pw_or1 ha.run⟩
theorem sw_and {fa fb : SemT} (ha : ST X cl W a fa) (hb : SW X cl W (.BoolOp .And (b :: rest) pos) fb) : SW X cl W (.BoolOp .And (a :: b :: rest) pos) (dAnd fa fb) := ⟨(pw_and ha.run hb.run).imp (rd_and (W := W))⟩
theorem sw_or {fa fb : SemT} (ha : ST X cl W a fa) (hb : SW X cl W (.BoolOp .Or (b :: rest) pos) fb) : SW X cl W (.BoolOp .Or (a :: b :: rest) pos) (dOr fa fb) := ⟨(pw_or ha.run hb.run).imp (rd_or (W := W))⟩
theorem st_not {fa : SemT} (ha : ST X cl W a fa) : ST X cl W (.UnaryOp .Not a pos) (dNot fa) := by
  refine ⟨(pt_not ha.run).imp fun sg H Q ⟨Z, r, env, st, E, R, h⟩ => ?_⟩
  refine ⟨Z, r, env, st, E, R, Post.bind h fun x st1 r1 H1 v _ e1 R1 q1 h1 => ?_⟩
  cases q1
  exact post_ok h1 R1 rfl
/-- as values -/
def dAndV (fa fb : SemE) : SemE := fun env st => (fa env st).bind fun x st1 => match x with
  | .bl true => fb env st1
  | .bl false => .ok (.bl false) st1
  | _ => .no
def dOrV (fa fb : SemE) : SemE := fun env st => (fa env st).bind fun x st1 => match x with
  | .bl true => .ok (.bl true) st1
  | .bl false => fb env st1
  | _ => .no
def dNotV (fa : SemE) : SemE := fun env st => (fa env st).bind fun x st1 => match x with
  | .bl b => .ok (.bl (!b)) st1
  | _ => .no
theorem se_one {op : BoolOp} {fa : SemE} (h : SE X cl W a fa) : SE X cl W (.BoolOp op [a] pos) fa := ⟨pe_one h.run⟩
theorem se_and {fa fb : SemE} (ha : SE X cl W a fa) (hb : SE X cl W (.BoolOp .And (b :: rest) pos) fb) : SE X cl W (.BoolOp .And (a :: b :: rest) pos) (dAndV fa fb) := by
  refine ⟨(pe_and ha.run hb.run).imp fun sg H Q ⟨Z, r, env, st, E, R, h⟩ => ?_⟩
  refine ⟨Z, r, env, st, E, R, Post.bind h fun x st1 r1 H1 v _ e1 R1 q1 h1 => ?_⟩
  cases x with
  | bl b =>
    refine ⟨b, q1, ?_⟩
    cases b with
    | true => rw [if_pos rfl]; exact ⟨Z, r1, env, st1, E.ext e1, R1, h1⟩
    | false => rw [if_neg (by decide)]; exact post_ok h1 R1 rfl
  | non => exact h1.elim
  | int i => exact h1.elim
  | str s => exact h1.elim
  | h k => exact h1.elim
  | nd t xs => exact h1.elim
theorem se_not {fa : SemE} (ha : SE X cl W a fa) : SE X cl W (.UnaryOp .Not a pos) (dNotV fa) := by
  refine ⟨(pe_not ha.run).imp fun sg H Q ⟨Z, r, env, st, E, R, h⟩ => ?_⟩
  refine ⟨Z, r, env, st, E, R, Post.bind h fun x st1 r1 H1 v _ e1 R1 q1 h1 => ?_⟩
  cases x with
  | bl b => exact ⟨b, q1, post_ok h1 R1 rfl⟩
  | non => exact h1.elim
  | int i => exact h1.elim
  | str s => exact h1.elim
  | h k => exact h1.elim
  | nd t xs => exact h1.elim
def dIfE (ft : SemT) (fa fb : SemE) : SemE := fun env st => (ft env st).bind fun x st1 => if x = true then fa env st1 else fb env st1
theorem se_ifE {ft : SemT} {fa fb : SemE} (hc : ST X cl W c ft) (ha : SE X cl W a fa) (hb : SE X cl W b fb) : SE X cl W (.IfExp c a b pos) (dIfE ft fa fb) := by
  refine ⟨(pe_ifExp hc.run ha.run hb.run).imp fun sg H Q ⟨Z, r, env, st, E, R, h⟩ => ?_⟩
  refine ⟨Z, r, env, st, E, R, Post.bind h fun x st1 r1 H1 v _ e1 R1 q1 h1 => ?_⟩
  cases q1
  cases x with
  | true => rw [if_pos rfl] at h1 ⊢; exact ⟨Z, r1, env, st1, E.ext e1, R1, h1⟩
  | false => rw [if_neg (by decide)] at h1 ⊢; exact ⟨Z, r1, env, st1, E.ext e1, R1, h1⟩
/-! ### argument lists, displays -/
def dNil : SemA := fun _ st => .ok [] st
def dCons (fa : SemE) (fr : SemA) : SemA := fun env st => (fa env st).bind fun x st1 => (fr env st1).bind fun xs st2 => .ok (x :: xs) st2
theorem sa_nil : SA X cl W [] dNil := ⟨pa_nil.imp fun sg H Q ⟨Z, r, env, st, E, R, h⟩ => post_ok h R rfl⟩
theorem sa_cons {e : Expr} {es : List Expr} {fa : SemE} {fr : SemA} (ha : SE X cl W e fa) (hr : SA X cl W es fr) (hs : starEach (e :: es) X.env = (false, eval e X.env) :: starEach es X.env := by rfl) : SA X cl W (e :: es) (dCons fa fr) := by
  refine ⟨(pa_cons ha.run hr.run hs).imp fun sg H Q ⟨Z, r, env, st, E, R, h⟩ => ?_⟩
  refine ⟨Z, r, env, st, E, R, Post.bind h fun x st1 r1 H1 v _ e1 R1 q1 h1 => ?_⟩
  refine ⟨Z, r1, env, st1, E.ext e1, R1, Post.bind h1 fun xs st2 r2 H2 vs _ e2 R2 q2 h2 => ?_⟩
  exact post_ok h2 R2 ⟨v, vs, rfl, Rep.ext e2 x q1, q2⟩
abbrev szL : Nat := sizeLine
def dTup (f : SemA) : SemE := fun env st => (f env st).bind fun xs st1 => if xs.length ≤ szL then .ok (.nd .tup xs) st1 else .no
/-- a list that stays as it is -/
def dLst (f : SemA) : SemE := fun env st => (f env st).bind fun xs st1 => if xs.length ≤ szL then .ok (.nd .lst xs) st1 else .no
/-- a list that will be changed -/
def dLstM (f : SemA) : SemE := fun env st => (f env st).bind fun xs st1 => if xs.length ≤ szL then .ok (.h st1.length) (st1 ++ [.nd .lst xs]) else .no
section
variable {g : Gd} {Z r : List Addr} {H : Hp} {st : Store} {xs : List D} {vs : List V} {p : Addr}
theorem new_lst (R : Rl g Z r H st) (hx : RepL g Z r H xs vs) (hp : H p = none) : Rep g Z r (upd H p (.lst vs)) (.nd .lst xs) (.ref p) :=
  ⟨p, vs, rfl, ⟨R.free hp, upd_same⟩, RepL.ext (Ext.new hp) xs hx⟩
theorem new_tup (R : Rl g Z r H st) (hx : RepL g Z r H xs vs) (hp : H p = none) : Rep g Z r (upd H p (.tup vs)) (.nd .tup xs) (.ref p) :=
  ⟨p, vs, rfl, ⟨R.free hp, upd_same⟩, RepL.ext (Ext.new hp) xs hx⟩
theorem new_lstM (R : Rl g Z r H st) (hx : RepL g Z r H xs vs) (hp : H p = none) : Rl g Z (r ++ [p]) (upd H p (.lst vs)) (st ++ [.nd .lst xs]) ∧ Rep g Z (r ++ [p]) (upd H p (.lst vs)) (.h st.length) (.ref p) :=
  ⟨R.grow hp (show HatM g (upd H p (.lst vs)) p .lst vs from upd_same) hx, p, rfl, by rw [← R.len]; simp⟩
end
theorem se_tup {es : List Expr} {f : SemA} {k : Nat} (h : SA X cl W es f) : SE X cl W (.Tuple es k pos) (dTup f) := by
  refine ⟨(pe_tup h.run).imp fun sg H Q ⟨Z, r, env, st, E, R, h⟩ => ?_⟩
  refine ⟨Z, r, env, st, E, R, Post.bind h fun xs st1 r1 H1 vs _ e1 R1 q1 h1 => ?_⟩
  split at h1
  · rename_i hl
    exact ⟨by rw [← RepL.length q1]; exact hl, fun p hp => h1 r1 _ _ (Ext.new hp) (R1.new hp) (new_tup R1 q1 hp)⟩
  · exact h1.elim
theorem se_lst {es : List Expr} {f : SemA} (h : SA X cl W es f) : SE X cl W (.List es pos) (dLst f) := by
  refine ⟨(pe_lst h.run).imp fun sg H Q ⟨Z, r, env, st, E, R, h⟩ => ?_⟩
  refine ⟨Z, r, env, st, E, R, Post.bind h fun xs st1 r1 H1 vs _ e1 R1 q1 h1 => ?_⟩
  split at h1
  · rename_i hl
    exact ⟨by rw [← RepL.length q1]; exact hl, fun p hp => h1 r1 _ _ (Ext.new hp) (R1.new hp) (new_lst R1 q1 hp)⟩
  · exact h1.elim
theorem se_lstM {es : List Expr} {f : SemA} (h : SA X cl W es f) : SE X cl W (.List es pos) (dLstM f) := by
  refine ⟨(pe_lst h.run).imp fun sg H Q ⟨Z, r, env, st, E, R, h⟩ => ?_⟩
  refine ⟨Z, r, env, st, E, R, Post.bind h fun xs st1 r1 H1 vs _ e1 R1 q1 h1 => ?_⟩
  split at h1
  · rename_i hl
    exact ⟨by rw [← RepL.length q1]; exact hl, fun p hp => let ⟨a, b⟩ := new_lstM R1 q1 hp; h1 _ _ _ (Ext.grow hp) a b⟩
  · exact h1.elim
end
end DY

/-! Operators on data. -/
namespace DY
open PySem PySem.Spec PyProof.Rows L2

section
variable {X : Cx} {cl : ClsT}
/-- two data ints -/
def onI (C : Int → Int → Prop) [∀ i j, Decidable (C i j)] (f : Int → Int → D) : D → D → Store → Res D := fun x y st => match x, y with
  | .int i, .int j => if C i j then .ok (f i j) st else .no
  | _, _ => .no
theorem ops_int {f : Value → Value → Sem Value} {C : Int → Int → Prop} [∀ i j, Decidable (C i j)] {k : Int → Int → Int} (ho : OpR X f (rI C fun i j => .int (k i j))) : OpS X cl f (onI C fun i j => .int (k i j)) := by
  refine ⟨_, ho, fun {Z r H st x y v u Q W'} R hx hy h => ?_⟩
  unfold onI at h
  split at h
  · rename_i i j
    split at h
    · rename_i hc
      exact ⟨i, j, hx, hy, hc, post_ok h R rfl⟩
    · exact h.elim
  · exact h.elim
instance (i j : Int) : Decidable (CMul i j) := by unfold CMul; infer_instance
instance (i j : Int) : Decidable (CMulW i j) := by unfold CMulW; infer_instance
instance (i j : Int) : Decidable (CDiv i j) := by unfold CDiv; infer_instance
instance (i j : Int) : Decidable (CDivW i j) := by unfold CDivW; infer_instance
instance (i j : Int) : Decidable (CPow i j) := by unfold CPow; infer_instance
def CTrue (_ _ : Int) : Prop := True
instance (i j : Int) : Decidable (CTrue i j) := .isTrue trivial
theorem opr_true {f : Value → Value → Sem Value} {k : Int → Int → V} (h : OpR X f (rI0 k)) : OpR X f (rI CTrue k) := fun pins s sg H x y v u Q I rx ry q => by
  obtain ⟨i, j, h1, h2, _, h3⟩ := q
  exact h pins s sg H x y v u Q I rx ry ⟨i, j, h1, h2, h3⟩
theorem opr_or {f : Value → Value → Sem Value} {C C' : Int → Int → Prop} {k : Int → Int → V} (h : OpR X f (rI C k)) (h' : OpR X f (rI C' k)) : OpR X f (rI (fun i j => C i j ∨ C' i j) k) := fun pins s sg H x y v u Q I rx ry q => by
  obtain ⟨i, j, h1, h2, hc, h3⟩ := q
  rcases hc with hc | hc
  · exact h pins s sg H x y v u Q I rx ry ⟨i, j, h1, h2, hc, h3⟩
  · exact h' pins s sg H x y v u Q I rx ry ⟨i, j, h1, h2, hc, h3⟩
def dSub : D → D → Store → Res D := onI CTrue fun i j => .int (i - j)
theorem ops_sub : OpS X cl (binaryOp .Sub) dSub := ops_int (opr_true op_sub)
def dFdiv : D → D → Store → Res D := onI (fun i j => CDiv i j ∨ CDivW i j) fun i j => .int (i / j)
theorem ops_fdiv : OpS X cl (binaryOp .FloorDiv) dFdiv := ops_int (opr_or op_fdiv op_fdivW)
def dMod : D → D → Store → Res D := onI (fun _ j => 0 < j) fun i j => .int (i % j)
theorem ops_mod : OpS X cl (binaryOp .Mod) dMod := ops_int op_mod
def dPow : D → D → Store → Res D := onI CPow fun i j => .int (i ^ j.toNat)
theorem ops_pow : OpS X cl (binaryOp .Pow) dPow := ops_int op_pow
/-- + -/
def dAdd (x y : D) (st : Store) : Res D :=
  match x, y with
  | .int i, .int j => .ok (.int (i + j)) st
  | .str a, .str b => if a.length + b.length ≤ szL then .ok (.str (a ++ b)) st else .no
  | x, y => match lstX? st x, lstX? st y with
    | some xs, some ys => if xs.length + ys.length ≤ szL then .ok (.nd .lst (xs ++ ys)) st else .no
    | _, _ => match tupX? st x, tupX? st y with
      | some xs, some ys => if xs.length + ys.length ≤ szL then .ok (.nd .tup (xs ++ ys)) st else .no
      | _, _ => .no
theorem RepL.nil_of {g : Gd} {Z r : List Addr} {H : Hp} {xs : List D} {vs : List V} (h : RepL g Z r H xs vs) : xs = [] ↔ vs = [] := by
  have := h.length
  constructor
  · rintro rfl; exact List.length_eq_zero_iff.mp this.symm
  · rintro rfl; exact List.length_eq_zero_iff.mp this
theorem tup_is {g : Gd} {Z r : List Addr} {H : Hp} {st : Store} (R : Rl g Z r H st) {x : D} {xs : List D} (e : tupX? st x = some xs) : x = .nd .tup xs := by
  unfold tupX? at e
  cases hs : seen st x with
  | none => rw [hs] at e; cases e
  | some p =>
    obtain ⟨t, ys⟩ := p
    rw [hs] at e
    cases t <;> cases e
    cases x with
    | nd t zs => cases hs; rfl
    | h k =>
      have h' : (match st[k]? with | some (.nd t xs) => some (t, xs) | _ => none) = some (Hd.tup, xs) := hs
      cases hk : st[k]? with
      | none => rw [hk] at h'; cases h'
      | some c =>
        rw [hk] at h'
        cases c with
        | nd t' ys =>
          cases h'
          obtain ⟨b, _, t2, ys2, vs, ed, hm, _⟩ := R.cell k _ hk
          cases ed
          exact hm.elim
        | non => cases h'
        | bl b => cases h'
        | int i => cases h'
        | str s => cases h'
        | h j => cases h'
    | non => cases hs
    | bl b => cases hs
    | int i => cases hs
    | str s => cases hs
/-- two tuples joined -/
theorem cat_tups {Z r : List Addr} {H : Hp} {st : Store} {x y : D} {v u : V} {xs ys : List D} {Q : VK} {W' : Value → Option Addr → Hp → Prop} (R : Rl ⟨X.K, cl⟩ Z r H st) (hx : Rep ⟨X.K, cl⟩ Z r H x v) (hy : Rep ⟨X.K, cl⟩ Z r H y u)
    (ex : tupX? st x = some xs) (ey : tupX? st y = some ys) (hl : xs.length + ys.length ≤ szL) (h : Post ⟨X.K, cl⟩ Z r H (RV ⟨X.K, cl⟩ Z) (.ok (.nd .tup (xs ++ ys)) st) Q W') : rCatA X.K v u H Q := by
  obtain ⟨a, vs, rfl, q1, s1⟩ := tupX_ok R hx ex
  obtain ⟨b, us, rfl, q2, s2⟩ := tupX_ok R hy ey
  refine ⟨a, b, vs, us, rfl, rfl, SqT.of s1, SqT.of s2, by rw [← q1.length, ← q2.length]; exact hl, fun e => ?_, fun e e' => ?_, fun _ _ p hp => ?_⟩
  · have ex0 : xs = [] := q1.nil_of.mpr e
    subst ex0
    rw [tup_is R ey] at hy
    exact post_ok h R (by simpa using hy)
  · have ey0 : ys = [] := q2.nil_of.mpr e'
    subst ey0
    rw [tup_is R ex] at hx
    exact post_ok h R (by simpa using hx)
  · exact h r _ _ (Ext.new hp) (R.new hp) (new_tup R (q1.append q2) hp)
theorem ops_add : OpS X cl (binaryOp .Add) dAdd := by
  refine ⟨_, ((op_add.or op_add_str).or op_cat).or op_catA, fun {Z r H st x y v u Q W'} R hx hy h => ?_⟩
  unfold dAdd at h
  split at h
  · rename_i i j
    exact .inl (.inl (.inl ⟨i, j, hx, hy, post_ok h R rfl⟩))
  · rename_i a b
    split at h
    · rename_i hl
      exact .inl (.inl (.inr ⟨a, b, hx, hy, hl, post_ok h R rfl⟩))
    · exact h.elim
  · split at h
    · rename_i xs ys ex ey
      split at h
      · rename_i hl
        obtain ⟨a, vs, rfl, q1, s1⟩ := lstX_ok R hx ex
        obtain ⟨b, us, rfl, q2, s2⟩ := lstX_ok R hy ey
        exact .inl (.inr ⟨a, b, vs, us, rfl, rfl, s1, s2, by rw [← q1.length, ← q2.length]; exact hl, fun p hp => h r _ _ (Ext.new hp) (R.new hp) (new_lst R (q1.append q2) hp)⟩)
      · exact h.elim
    · split at h
      · rename_i xs ys ex ey
        split at h
        · rename_i hl
          exact .inr (cat_tups R hx hy ex ey hl h)
        · exact h.elim
      · exact h.elim
theorem RepL.flat {g : Gd} {Z r : List Addr} {H : Hp} {xs : List D} {vs : List V} (h : RepL g Z r H xs vs) : ∀ k : Nat, RepL g Z r H (List.replicate k xs).flatten (List.replicate k vs).flatten
  | 0 => rfl
  | k + 1 => by simpa [List.replicate_succ] using h.append (RepL.flat h k)
/-- * -/
def dMul (x y : D) (st : Store) : Res D :=
  match x, y with
  | .int i, .int j => if CMul i j ∨ CMulW i j then .ok (.int (i * j)) st else .no
  | x, .int k => match lstX? st x with
    | some xs => if (-(2 ^ 63) ≤ k ∧ k < 2 ^ 63) ∧ xs.length * k.toNat ≤ szL then .ok (.nd .lst (List.replicate k.toNat xs).flatten) st else .no
    | none => .no
  | _, _ => .no
theorem ops_mul : OpS X cl (binaryOp .Mult) dMul := by
  refine ⟨_, (opr_or op_mul op_mulW).or op_rep, fun {Z r H st x y v u Q W'} R hx hy h => ?_⟩
  unfold dMul at h
  split at h
  · rename_i i j
    split at h
    · rename_i hc
      exact .inl ⟨i, j, hx, hy, hc, post_ok h R rfl⟩
    · exact h.elim
  · rename_i k _
    split at h
    · rename_i xs ex
      split at h
      · rename_i hc
        obtain ⟨a, vs, rfl, q1, s1⟩ := lstX_ok R hx ex
        exact .inr ⟨a, k, vs, rfl, hy, s1, hc.1.1, hc.1.2, by rw [← q1.length]; exact hc.2, fun p hp => h r _ _ (Ext.new hp) (R.new hp) (new_lst R (q1.flat _) hp)⟩
      · exact h.elim
    · exact h.elim
  · exact h.elim

/-! ### comparisons -/
def onIB (f : Int → Int → Bool) : D → D → Store → Res D := fun x y st => match x, y with
  | .int i, .int j => .ok (.bl (f i j)) st
  | _, _ => .no
theorem ops_intB {f : Value → Value → Sem Value} {k : Int → Int → Bool} (ho : OpR X f (rI0 fun i j => .bl (k i j))) : OpS X cl f (onIB k) := by
  refine ⟨_, ho, fun {Z r H st x y v u Q W'} R hx hy h => ?_⟩
  unfold onIB at h
  split at h
  · rename_i i j
    exact ⟨i, j, hx, hy, post_ok h R rfl⟩
  · exact h.elim
def dLt : D → D → Store → Res D := onIB fun i j => decide (i < j)
def dLe : D → D → Store → Res D := onIB fun i j => decide (i ≤ j)
def dGt : D → D → Store → Res D := onIB fun i j => decide (j < i)
def dGe : D → D → Store → Res D := onIB fun i j => decide (j ≤ i)
theorem ops_lt : OpS X cl (compareOp .Lt) dLt := ops_intB op_lt
theorem ops_le : OpS X cl (compareOp .LtE) dLe := ops_intB op_le
theorem ops_gt : OpS X cl (compareOp .Gt) dGt := ops_intB op_gt
theorem ops_ge : OpS X cl (compareOp .GtE) dGe := ops_intB op_ge
def isNon : D → Bool
  | .non => true
  | _ => false
/-- is None -/
def dIsN : D → D → Store → Res D := fun x y st => match y with
  | .non => .ok (.bl (isNon x)) st
  | _ => .no
def dNotN : D → D → Store → Res D := fun x y st => match y with
  | .non => .ok (.bl (!isNon x)) st
  | _ => .no
theorem isN_of {g : Gd} {Z r : List Addr} {H : Hp} {x : D} {v : V} (h : Rep g Z r H x v) : isNon x = decide (v = .non) := by
  cases x with
  | non => cases (show v = .non from h); rfl
  | bl b => cases (show v = .bl b from h); rfl
  | int i => cases (show v = .int i from h); rfl
  | str s => cases (show v = .str s from h); rfl
  | h k => obtain ⟨a, e, _⟩ := h; subst e; rfl
  | nd t xs => obtain ⟨a, vs, e, _⟩ := h; subst e; rfl
theorem ops_isN : OpS X cl (compareOp .Is) dIsN := by
  refine ⟨_, op_isN, fun {Z r H st x y v u Q W'} R hx hy h => ?_⟩
  unfold dIsN at h
  split at h
  · exact ⟨hy, post_ok h R (by rw [isN_of hx]; rfl)⟩
  · exact h.elim
theorem ops_notN : OpS X cl (compareOp .IsNot) dNotN := by
  refine ⟨_, op_notN, fun {Z r H st x y v u Q W'} R hx hy h => ?_⟩
  unfold dNotN at h
  split at h
  · exact ⟨hy, post_ok h R (by rw [isN_of hx]; rfl)⟩
  · exact h.elim

/-! ### data without things of one's own -/
mutual
def toPg (dr : Nat → Option PyData) : D → Option PyData
  | .non => some .none
  | .bl b => some (.bool b)
  | .int i => some (.int i)
  | .str s => some (.str s)
  | .h k => dr k
  | .nd .lst xs => (toPgL dr xs).map .list
  | .nd .scr xs => (toPgL dr xs).map .list
  | .nd .tup xs => (toPgL dr xs).map .tuple
  | .nd .ktp xs => (toPgL dr xs).map .tuple
  | .nd (.dk _) _ => none
  | .nd (.dt _) _ => none
  | .nd (.ins _ _) _ => none
  | .nd (.exc _ _) _ => none
  | .nd (.fn _ _ _ _) _ => none
def toPgL (dr : Nat → Option PyData) : List D → Option (List PyData)
  | [] => some []
  | d :: ds => match toPg dr d, toPgL dr ds with
    | some p, some ps => some (p :: ps)
    | _, _ => none
end
/-- with the mutable things read, to a depth -/
def toP : Nat → Store → D → Option PyData
  | 0, _, d => toPg (fun _ => none) d
  | n + 1, st, d => toPg (fun k => match st[k]? with
    | some c => toP n st c
    | none => none) d
section
variable {g : Gd} {Z r : List Addr} {H : Hp} {st : Store}
mutual
theorem toPg_ok {dr : Nat → Option PyData} (hd : ∀ k p v, dr k = some p → Rep g Z r H (.h k) v → Dp g.K H v p) : ∀ (d : D) {p : PyData} {v : V}, toPg dr d = some p → Rep g Z r H d v → Dp g.K H v p
  | .non, p, v, e, h => by cases e; cases (show v = .non from h); exact .non
  | .bl b, p, v, e, h => by cases e; cases (show v = .bl b from h); exact .bl b
  | .int i, p, v, e, h => by cases e; cases (show v = .int i from h); exact .int i
  | .str s, p, v, e, h => by cases e; cases (show v = .str s from h); exact .str s
  | .h k, p, v, e, h => hd k p v e h
  | .nd .lst xs, p, v, e, h => by
    simp only [toPg] at e
    cases e1 : toPgL dr xs with
    | none => rw [e1] at e; cases e
    | some ps =>
      rw [e1] at e; cases e
      obtain ⟨a, vs, rfl, h1, h2⟩ := h
      exact .lst (Hat.lst h1) (toPgL_ok hd xs e1 h2)
  | .nd .scr xs, p, v, e, h => by
    simp only [toPg] at e
    cases e1 : toPgL dr xs with
    | none => rw [e1] at e; cases e
    | some ps =>
      rw [e1] at e; cases e
      obtain ⟨a, vs, rfl, h1, h2⟩ := h
      exact .lst (Hat.scr h1) (toPgL_ok hd xs e1 h2)
  | .nd .tup xs, p, v, e, h => by
    simp only [toPg] at e
    cases e1 : toPgL dr xs with
    | none => rw [e1] at e; cases e
    | some ps =>
      rw [e1] at e; cases e
      obtain ⟨a, vs, rfl, h1, h2⟩ := h
      exact .tup (Hat.tup h1) (toPgL_ok hd xs e1 h2)
  | .nd .ktp xs, p, v, e, h => by
    simp only [toPg] at e
    cases e1 : toPgL dr xs with
    | none => rw [e1] at e; cases e
    | some ps =>
      rw [e1] at e; cases e
      obtain ⟨a, vs, rfl, h1, h2⟩ := h
      exact .tup (Hat.ktp h1) (toPgL_ok hd xs e1 h2)
  | .nd (.dk _) xs, p, v, e, h => by simp [toPg] at e
  | .nd (.dt _) xs, p, v, e, h => by simp [toPg] at e
  | .nd (.ins _ _) xs, p, v, e, h => by simp [toPg] at e
  | .nd (.exc _ _) xs, p, v, e, h => by simp [toPg] at e
  | .nd (.fn _ _ _ _) xs, p, v, e, h => by simp [toPg] at e
theorem toPgL_ok {dr : Nat → Option PyData} (hd : ∀ k p v, dr k = some p → Rep g Z r H (.h k) v → Dp g.K H v p) : ∀ (ds : List D) {ps : List PyData} {vs : List V}, toPgL dr ds = some ps → RepL g Z r H ds vs → DpAll g.K H vs ps
  | [], ps, vs, e, h => by cases e; cases (show vs = [] from h); exact .nil
  | d :: ds, ps, vs, e, h => by
    simp only [toPgL] at e
    split at e
    · rename_i p qs e1 e2
      cases e
      obtain ⟨v, q, rfl, h1, h2⟩ := h
      exact .cons (toPg_ok hd d e1 h1) (toPgL_ok hd ds e2 h2)
    · cases e
end
/-- the things of the store by their content -/
theorem toP_cell (R : Rl g Z r H st) {dr : Nat → Option PyData} (hd : ∀ k p v, dr k = some p → Rep g Z r H (.h k) v → Dp g.K H v p) {k : Nat} {c : D} {p : PyData} {v : V} (hc : st[k]? = some c) (e : toPg dr c = some p) (h : Rep g Z r H (.h k) v) : Dp g.K H v p := by
  obtain ⟨a, rfl, e2⟩ := h
  obtain ⟨b, eb, t, xs, vs, rfl, hm, hx⟩ := R.cell k c hc
  rw [e2] at eb; cases eb
  cases t with
  | lst =>
    simp only [toPg] at e
    cases e1 : toPgL dr xs with
    | none => rw [e1] at e; cases e
    | some ps => rw [e1] at e; cases e; exact .lst (SqL.of hm) (toPgL_ok hd xs e1 hx)
  | tup => exact hm.elim
  | scr => exact hm.elim
  | ktp => exact hm.elim
  | dk ks => simp [toPg] at e
  | dt ks => simp [toPg] at e
  | ins c ns => simp [toPg] at e
  | exc c ns => simp [toPg] at e
  | fn f c q caps => simp [toPg] at e
theorem toP_ok (R : Rl g Z r H st) : ∀ (n : Nat) (d : D) {p : PyData} {v : V}, toP n st d = some p → Rep g Z r H d v → Dp g.K H v p
  | 0, d, p, v, e, h => toPg_ok (fun k p v e _ => by cases e) d e h
  | n + 1, d, p, v, e, h => by
    refine toPg_ok (fun k q w e h => ?_) d e h
    cases hc : st[k]? with
    | some c =>
      rw [hc] at e
      cases n with
      | zero => exact toP_cell R (fun k p v e _ => by cases e) hc e h
      | succ n =>
        refine toP_cell R (fun k p v e h => ?_) hc e h
        have e' : toP (n + 1) st (.h k) = some p := e
        exact toP_ok R (n + 1) (.h k) e' h
    | none => rw [hc] at e; cases e
end
abbrev deepP : Nat := 4
def shp (p : PyData) : Bool := p.plain && decide (p.depth ≤ 60)
/-- == -/
def eqD (x y : D) (st : Store) : Option Bool :=
  match x, y with
  | .int i, .int j => some (decide (i = j))
  | .str a, .str b => some (decide (a = b))
  | .bl a, .bl b => some (decide (a = b))
  | .non, .non => some true
  | x, y => match toP deepP st x, toP deepP st y with
    | some p, some q => if shp p && shp q then some (PyData.eqv p q) else none
    | _, _ => none
def dEq (x y : D) (st : Store) : Res D := match eqD x y st with
  | some b => .ok (.bl b) st
  | none => .no
def dNe (x y : D) (st : Store) : Res D := match eqD x y st with
  | some b => .ok (.bl (!b)) st
  | none => .no
def rEqP (K : PySem.W.Frag) : R2 := fun x y H Q => ∃ d e, Dp K H x d ∧ Dp K H y e ∧ shp d = true ∧ shp e = true ∧ Q (.bl (PyData.eqv d e)) H
def rNeP (K : PySem.W.Frag) : R2 := fun x y H Q => ∃ d e, Dp K H x d ∧ Dp K H y e ∧ shp d = true ∧ shp e = true ∧ Q (.bl (!PyData.eqv d e)) H
theorem shp_plain {p : PyData} (h : shp p = true) : p.plain = true := (Bool.and_eq_true_iff.mp h).1
theorem shp_depth {p : PyData} (h : shp p = true) : p.depth ≤ 60 := of_decide_eq_true (Bool.and_eq_true_iff.mp h).2
theorem op_eqP (hu : X.A.units + 64 < cLine) : OpR X (compareOp .Eq) (rEqP X.K) := by
  intro pins s sg H x y v u Q I rx ry h
  obtain ⟨d, e, hd, he, sd, se, q⟩ := h
  obtain ⟨as, r1⟩ := Dp.reads I d x v hd rx
  obtain ⟨bs, r2⟩ := Dp.reads I e y u he ry
  exact PySem.SeqAt.eq_plain r1 r2 (shp_plain sd) (shp_plain se) (by have := shp_depth sd; omega) ⟨.bl _, H, I, rfl, q⟩
theorem op_neP (hu : X.A.units + 64 < cLine) : OpR X (compareOp .NotEq) (rNeP X.K) := by
  intro pins s sg H x y v u Q I rx ry h
  obtain ⟨d, e, hd, he, sd, se, q⟩ := h
  obtain ⟨as, r1⟩ := Dp.reads I d x v hd rx
  obtain ⟨bs, r2⟩ := Dp.reads I e y u he ry
  exact PySem.SeqAt.ne_plain r1 r2 (shp_plain sd) (shp_plain se) (by have := shp_depth sd; omega) ⟨.bl _, H, I, rfl, q⟩
end
end DY

/-! Comparisons, subscripts, attributes, built-ins on data. -/
namespace DY
open PySem PySem.Spec PyProof.Rows L2

section
variable {X : Cx} {cl : ClsT}
theorem eqD_cases {x y : D} {st : Store} {b : Bool} (h : eqD x y st = some b) :
    (∃ i j, x = .int i ∧ y = .int j ∧ b = decide (i = j)) ∨ (∃ i j, x = .str i ∧ y = .str j ∧ b = decide (i = j)) ∨ (∃ i j, x = .bl i ∧ y = .bl j ∧ b = decide (i = j)) ∨ (x = .non ∧ y = .non ∧ b = true) ∨
    ∃ p q, toP deepP st x = some p ∧ toP deepP st y = some q ∧ shp p = true ∧ shp q = true ∧ b = PyData.eqv p q := by
  unfold eqD at h
  split at h
  · rename_i i j; exact .inl ⟨i, j, rfl, rfl, (Option.some.inj h).symm⟩
  · rename_i i j; exact .inr (.inl ⟨i, j, rfl, rfl, (Option.some.inj h).symm⟩)
  · rename_i i j; exact .inr (.inr (.inl ⟨i, j, rfl, rfl, (Option.some.inj h).symm⟩))
  · exact .inr (.inr (.inr (.inl ⟨rfl, rfl, (Option.some.inj h).symm⟩)))
  · split at h
    · rename_i p q e1 e2
      split at h
      · rename_i hs
        obtain ⟨h1, h2⟩ := Bool.and_eq_true_iff.mp hs
        exact .inr (.inr (.inr (.inr ⟨p, q, e1, e2, h1, h2, (Option.some.inj h).symm⟩)))
      · cases h
    · cases h
theorem ops_eq (hu : X.A.units + 64 < cLine) : OpS X cl (compareOp .Eq) dEq := by
  refine ⟨_, op_eq.or (op_eqP hu), fun {Z r H st x y v u Q W'} R hx hy h => ?_⟩
  unfold dEq at h
  cases e : eqD x y st with
  | none => rw [e] at h; exact h.elim
  | some b =>
    rw [e] at h
    have q : Q (.bl b) H := post_ok h R rfl
    rcases eqD_cases e with ⟨i, j, rfl, rfl, rfl⟩ | ⟨i, j, rfl, rfl, rfl⟩ | ⟨i, j, rfl, rfl, rfl⟩ | ⟨rfl, rfl, rfl⟩ | ⟨p, p', e1, e2, s1, s2, rfl⟩
    · cases (show v = .int i from hx); cases (show u = .int j from hy)
      exact .inl ⟨rfl, by simpa using q⟩
    · cases (show v = .str i from hx); cases (show u = .str j from hy)
      exact .inl ⟨rfl, by simpa using q⟩
    · cases (show v = .bl i from hx); cases (show u = .bl j from hy)
      exact .inl ⟨rfl, by simpa using q⟩
    · cases (show v = .non from hx); cases (show u = .non from hy)
      exact .inl ⟨rfl, by simpa using q⟩
    · exact .inr ⟨p, p', toP_ok R _ _ e1 hx, toP_ok R _ _ e2 hy, s1, s2, q⟩
theorem ops_ne (hu : X.A.units + 64 < cLine) : OpS X cl (compareOp .NotEq) dNe := by
  refine ⟨_, op_ne.or (op_neP hu), fun {Z r H st x y v u Q W'} R hx hy h => ?_⟩
  unfold dNe at h
  cases e : eqD x y st with
  | none => rw [e] at h; exact h.elim
  | some b =>
    rw [e] at h
    have q : Q (.bl (!b)) H := post_ok h R rfl
    rcases eqD_cases e with ⟨i, j, rfl, rfl, rfl⟩ | ⟨i, j, rfl, rfl, rfl⟩ | ⟨i, j, rfl, rfl, rfl⟩ | ⟨rfl, rfl, rfl⟩ | ⟨p, p', e1, e2, s1, s2, rfl⟩
    · cases (show v = .int i from hx); cases (show u = .int j from hy)
      exact .inl ⟨rfl, by simpa using q⟩
    · cases (show v = .str i from hx); cases (show u = .str j from hy)
      exact .inl ⟨rfl, by simpa using q⟩
    · cases (show v = .bl i from hx); cases (show u = .bl j from hy)
      exact .inl ⟨rfl, by simpa using q⟩
    · cases (show v = .non from hx); cases (show u = .non from hy)
      exact .inl ⟨rfl, by simpa using q⟩
    · exact .inr ⟨p, p', toP_ok R _ _ e1 hx, toP_ok R _ _ e2 hy, s1, s2, q⟩

/-! ### in -/
def fv : D → Option V
  | .non => some .non
  | .bl b => some (.bl b)
  | .int i => some (.int i)
  | .str s => some (.str s)
  | _ => none
def fvs : List D → Option (List V)
  | [] => some []
  | d :: ds => match fv d, fvs ds with
    | some v, some vs => some (v :: vs)
    | _, _ => none
theorem fv_ok {g : Gd} {Z r : List Addr} {H : Hp} {d : D} {v w : V} (e : fv d = some w) (h : Rep g Z r H d v) : v = w ∧ flatV w = true := by
  cases d <;> cases e <;> exact ⟨h, rfl⟩
theorem fvs_ok {g : Gd} {Z r : List Addr} {H : Hp} : ∀ {ds : List D} {vs ws : List V}, fvs ds = some ws → RepL g Z r H ds vs → vs = ws ∧ ws.all flatV = true
  | [], vs, ws, e, h => by cases e; exact ⟨h, rfl⟩
  | d :: ds, vs, ws, e, h => by
    simp only [fvs] at e
    split at e
    · rename_i w us e1 e2
      cases e
      obtain ⟨v, q, rfl, h1, h2⟩ := h
      obtain ⟨rfl, f1⟩ := fv_ok e1 h1
      obtain ⟨rfl, f2⟩ := fvs_ok e2 h2
      exact ⟨rfl, by simp [f1, f2]⟩
    · cases e
def seq? (st : Store) (d : D) : Option (List D) := match lst? st d with
  | some xs => some xs
  | none => tup? st d
theorem seq_ok {g : Gd} {Z r : List Addr} {H : Hp} {st : Store} {d : D} {v : V} {xs : List D} (R : Rl g Z r H st) (h : Rep g Z r H d v) (e : seq? st d = some xs) : ∃ a vs, v = .ref a ∧ RepL g Z r H xs vs ∧ (SqL g.K H a vs ∨ SqT g.K H a vs) := by
  unfold seq? at e
  split at e
  · rename_i ys e1
    cases e
    obtain ⟨a, vs, e2, q, s⟩ := lst_ok R h e1
    exact ⟨a, vs, e2, q, .inl s⟩
  · obtain ⟨a, vs, e2, q, s⟩ := tup_ok R h e
    exact ⟨a, vs, e2, q, .inr s⟩
/-- whether x is in y -/
def inD (x y : D) (st : Store) : Option Bool :=
  match y, x with
  | .str b, .str a => some (!(Builtin.Str.occurrences b a 0 b.length 1).isEmpty)
  | y, x => match fv x, (seq? st y).bind fvs with
    | some v, some vs => some (inV v vs)
    | _, _ => match toP deepP st y, toP deepP st x with
      | some (.list ds), some d => if shp (.list ds) && shp d then some (ds.any fun z => PyData.eqv z d) else none
      | some (.tuple ds), some d => if shp (.tuple ds) && shp d then some (ds.any fun z => PyData.eqv z d) else none
      | _, _ => none
def dIn (x y : D) (st : Store) : Res D := match inD x y st with
  | some b => .ok (.bl b) st
  | none => .no
def dNotIn (x y : D) (st : Store) : Res D := match inD x y st with
  | some b => .ok (.bl (!b)) st
  | none => .no
def rInPL (K : PySem.W.Frag) (neg : Bool) : R2 := fun x y H Q => ∃ d ds, Dp K H x d ∧ Dp K H y (.list ds) ∧ shp d = true ∧ shp (.list ds) = true ∧ Q (.bl (if neg then !(ds.any fun z => PyData.eqv z d) else ds.any fun z => PyData.eqv z d)) H
def rInPT (K : PySem.W.Frag) (neg : Bool) : R2 := fun x y H Q => ∃ d ds, Dp K H x d ∧ Dp K H y (.tuple ds) ∧ shp d = true ∧ shp (.tuple ds) = true ∧ Q (.bl (if neg then !(ds.any fun z => PyData.eqv z d) else ds.any fun z => PyData.eqv z d)) H
theorem op_inPL (hu : X.A.units + 64 < cLine) : OpR X (compareOp .In) (rInPL X.K false) := by
  intro pins s sg H x y v u Q I rx ry h
  obtain ⟨d, ds, hd, he, sd, se, q⟩ := h
  obtain ⟨as, r1⟩ := Dp.reads I d x v hd rx
  obtain ⟨bs, r2⟩ := Dp.reads I _ y u he ry
  exact PySem.SeqAt.in_list_data r2 r1 (by simpa [PyData.plain] using shp_plain se) (shp_plain sd) (by have := shp_depth sd; omega) ⟨.bl _, H, I, rfl, q⟩
theorem op_notInPL (hu : X.A.units + 64 < cLine) : OpR X (compareOp .NotIn) (rInPL X.K true) := by
  intro pins s sg H x y v u Q I rx ry h
  obtain ⟨d, ds, hd, he, sd, se, q⟩ := h
  obtain ⟨as, r1⟩ := Dp.reads I d x v hd rx
  obtain ⟨bs, r2⟩ := Dp.reads I _ y u he ry
  exact PySem.SeqAt.notIn_list_data r2 r1 (by simpa [PyData.plain] using shp_plain se) (shp_plain sd) (by have := shp_depth sd; omega) ⟨.bl _, H, I, rfl, q⟩
theorem op_inPT (hu : X.A.units + 64 < cLine) : OpR X (compareOp .In) (rInPT X.K false) := by
  intro pins s sg H x y v u Q I rx ry h
  obtain ⟨d, ds, hd, he, sd, se, q⟩ := h
  obtain ⟨as, r1⟩ := Dp.reads I d x v hd rx
  obtain ⟨bs, r2⟩ := Dp.reads I _ y u he ry
  exact PySem.SeqAt.in_tuple_data r2 r1 (by simpa [PyData.plain] using shp_plain se) (shp_plain sd) (by have := shp_depth sd; omega) ⟨.bl _, H, I, rfl, q⟩
theorem op_notInPT (hu : X.A.units + 64 < cLine) : OpR X (compareOp .NotIn) (rInPT X.K true) := by
  intro pins s sg H x y v u Q I rx ry h
  obtain ⟨d, ds, hd, he, sd, se, q⟩ := h
  obtain ⟨as, r1⟩ := Dp.reads I d x v hd rx
  obtain ⟨bs, r2⟩ := Dp.reads I _ y u he ry
  exact PySem.SeqAt.notIn_tuple_data r2 r1 (by simpa [PyData.plain] using shp_plain se) (shp_plain sd) (by have := shp_depth sd; omega) ⟨.bl _, H, I, rfl, q⟩
theorem inD_cases {Z r : List Addr} {H : Hp} {st : Store} {x y : D} {v u : V} {b : Bool} (R : Rl ⟨X.K, cl⟩ Z r H st) (hx : Rep ⟨X.K, cl⟩ Z r H x v) (hy : Rep ⟨X.K, cl⟩ Z r H y u) (e : inD x y st = some b) :
    (∃ i j, v = .str i ∧ u = .str j ∧ b = !(Builtin.Str.occurrences j i 0 j.length 1).isEmpty) ∨ (∃ p xs, u = .ref p ∧ (SqL X.K H p xs ∨ SqT X.K H p xs) ∧ flatV v = true ∧ xs.all flatV = true ∧ b = inV v xs) ∨
    (∃ d ds, Dp X.K H v d ∧ Dp X.K H u (.list ds) ∧ shp d = true ∧ shp (.list ds) = true ∧ b = ds.any fun z => PyData.eqv z d) ∨
    ∃ d ds, Dp X.K H v d ∧ Dp X.K H u (.tuple ds) ∧ shp d = true ∧ shp (.tuple ds) = true ∧ b = ds.any fun z => PyData.eqv z d := by
  unfold inD at e
  split at e
  · rename_i j i
    exact .inl ⟨i, j, hx, hy, (Option.some.inj e).symm⟩
  · split at e
    · rename_i w ws e1 e2
      cases e
      obtain ⟨rfl, f1⟩ := fv_ok e1 hx
      cases hs : seq? st y with
      | none => rw [hs] at e2; cases e2
      | some ys =>
        rw [hs] at e2
        obtain ⟨p, us, rfl, q, s⟩ := seq_ok R hy hs
        obtain ⟨rfl, f2⟩ := fvs_ok (show fvs ys = some ws from e2) q
        exact .inr (.inl ⟨p, us, rfl, s, f1, f2, rfl⟩)
    · split at e
      · rename_i ds d e1 e2
        split at e
        · rename_i hs
          obtain ⟨s1, s2⟩ := Bool.and_eq_true_iff.mp hs
          exact .inr (.inr (.inl ⟨d, ds, toP_ok R _ _ e2 hx, toP_ok R _ _ e1 hy, s2, s1, (Option.some.inj e).symm⟩))
        · cases e
      · rename_i ds d e1 e2
        split at e
        · rename_i hs
          obtain ⟨s1, s2⟩ := Bool.and_eq_true_iff.mp hs
          exact .inr (.inr (.inr ⟨d, ds, toP_ok R _ _ e2 hx, toP_ok R _ _ e1 hy, s2, s1, (Option.some.inj e).symm⟩))
        · cases e
      · cases e
theorem ops_in (hu : X.A.units + 64 < cLine) : OpS X cl (compareOp .In) dIn := by
  refine ⟨_, ((op_in_str.or op_in_seq).or (op_inPL hu)).or (op_inPT hu), fun {Z r H st x y v u Q W'} R hx hy h => ?_⟩
  unfold dIn at h
  cases e : inD x y st with
  | none => rw [e] at h; exact h.elim
  | some b =>
    rw [e] at h
    have q : Q (.bl b) H := post_ok h R rfl
    rcases inD_cases R hx hy e with ⟨i, j, e1, e2, rfl⟩ | ⟨p, xs, e1, s, f1, f2, rfl⟩ | ⟨d, ds, h1, h2, s1, s2, rfl⟩ | ⟨d, ds, h1, h2, s1, s2, rfl⟩
    · exact .inl (.inl (.inl ⟨i, j, e1, e2, q⟩))
    · exact .inl (.inl (.inr ⟨p, xs, e1, s, f1, f2, q⟩))
    · exact .inl (.inr ⟨d, ds, h1, h2, s1, s2, q⟩)
    · exact .inr ⟨d, ds, h1, h2, s1, s2, q⟩
theorem ops_notIn (hu : X.A.units + 64 < cLine) : OpS X cl (compareOp .NotIn) dNotIn := by
  refine ⟨_, ((op_notIn_str.or op_notIn_seq).or (op_notInPL hu)).or (op_notInPT hu), fun {Z r H st x y v u Q W'} R hx hy h => ?_⟩
  unfold dNotIn at h
  cases e : inD x y st with
  | none => rw [e] at h; exact h.elim
  | some b =>
    rw [e] at h
    have q : Q (.bl (!b)) H := post_ok h R rfl
    rcases inD_cases R hx hy e with ⟨i, j, e1, e2, rfl⟩ | ⟨p, xs, e1, s, f1, f2, rfl⟩ | ⟨d, ds, h1, h2, s1, s2, rfl⟩ | ⟨d, ds, h1, h2, s1, s2, rfl⟩
    · exact .inl (.inl (.inl ⟨i, j, e1, e2, by simpa using q⟩))
    · exact .inl (.inl (.inr ⟨p, xs, e1, s, f1, f2, q⟩))
    · exact .inl (.inr ⟨d, ds, h1, h2, s1, s2, q⟩)
    · exact .inr ⟨d, ds, h1, h2, s1, s2, q⟩

/-! ### subscripts -/
variable {W : WX} {a b : Expr} {fa fb : SemE} {pos : Pos}
theorem atI_rep {g : Gd} {Z r : List Addr} {H : Hp} {ds : List D} {vs : List V} {i : Int} {d : D} (h : RepL g Z r H ds vs) (e : atI ds i = some d) : ∃ v, atI vs i = some v ∧ Rep g Z r H d v := by
  unfold atI at e ⊢
  rw [← h.length]
  cases hx : ixN ds.length i with
  | none => rw [hx] at e; cases e
  | some j => rw [hx] at e; exact h.get e
/-- xs[i] -/
def dIx (x y : D) (st : Store) : Res D :=
  match y with
  | .int i => match seq? st x with
    | some xs => match atI xs i with
      | some d => .ok d st
      | none => .no
    | none => match x with
      | .str z => if z.length ≤ szL then (match atI z.cps.toList i with
        | some c => .ok (.str ⟨#[c]⟩) st
        | none => .no) else .no
      | _ => .no
  | _ => .no
theorem se_ix (ha : SE X cl W a fa) (hb : SE X cl W b fb) (hs : PlainIx b := by exact fun _ _ => rfl) : SE X cl W (.Subscript a b pos) (dBin dIx fa fb) := by
  refine ⟨(pe_ix ix_seq ha.run hb.run hs).imp (rd_bin fun {Z r H st x y v u Q W'} R hx hy h => ?_)⟩
  unfold dIx at h
  cases y with
  | int i =>
    dsimp only at h
    cases hsq : seq? st x with
    | some xs =>
      rw [hsq] at h
      dsimp only at h
      obtain ⟨p, vs, rfl, q, s⟩ := seq_ok R hx hsq
      cases hat : atI xs i with
      | none => rw [hat] at h; exact h.elim
      | some d =>
        rw [hat] at h
        obtain ⟨w, e1, e2⟩ := atI_rep q hat
        rcases s with s | s
        · exact .inl ⟨p, vs, i, w, rfl, hy, s, e1, post_ok h R e2⟩
        · exact .inr (.inl ⟨p, vs, i, w, rfl, hy, s, e1, post_ok h R e2⟩)
    | none =>
      rw [hsq] at h
      cases x with
      | str z =>
        dsimp only at h
        split at h
        · rename_i hz
          cases hat : atI z.cps.toList i with
          | none => rw [hat] at h; exact h.elim
          | some c => rw [hat] at h; exact .inr (.inr ⟨z, i, c, hx, hy, hz, hat, post_ok h R rfl⟩)
        · exact h.elim
      | non => exact h.elim
      | bl b => exact h.elim
      | int j => exact h.elim
      | h k => exact h.elim
      | nd t xs => exact h.elim
  | non => exact h.elim
  | bl b => exact h.elim
  | str s => exact h.elim
  | h k => exact h.elim
  | nd t xs => exact h.elim
/-- a part of a slice -/
abbrev SemO := DEnv → Store → Res (Option Int)
abbrev RO : List Addr → Hp → Option Int → Option Int → Prop := fun _ _ a b => a = b
def rdO (g : Gd) (W : WX) (f : SemO) : TO := fun sg H Q => ∃ Z r env st, EnvR g Z r H env sg ∧ Rl g Z r H st ∧ Post g Z r H RO (f env st) Q (fun c d H' => W c d sg H')
structure SO (X : Cx) (cl : ClsT) (W : WX) (e : Option Expr) (f : SemO) : Prop where
  run : PO X e (rdO ⟨X.K, cl⟩ W f)
theorem _root_.L2.PO.imp {e : Option Expr} {t t' : TO} (h : PO X e t) (f : ∀ sg H Q, t' sg H Q → t sg H Q) : PO X e t' := ⟨fun pins s sg H Q I q => h.run pins s sg H Q I (f sg H Q q)⟩
def dNoPart : SemO := fun _ st => .ok none st
def dPart (f : SemE) : SemO := fun env st => (f env st).bind fun x st1 => match x with
  | .int i => .ok (some i) st1
  | _ => .no
theorem so_none : SO X cl W none dNoPart := ⟨po_none.imp fun sg H Q ⟨Z, r, env, st, E, R, h⟩ => post_ok h R rfl⟩
theorem so_some {e : Expr} {f : SemE} (he : SE X cl W e f) : SO X cl W (some e) (dPart f) := by
  refine ⟨(po_some he.run).imp fun sg H Q ⟨Z, r, env, st, E, R, h⟩ => ?_⟩
  refine ⟨Z, r, env, st, E, R, Post.bind h fun x st1 r1 H1 v _ e1 R1 q1 h1 => ?_⟩
  cases x with
  | int i => exact ⟨i, q1, post_ok h1 R1 rfl⟩
  | non => exact h1.elim
  | bl b => exact h1.elim
  | str s => exact h1.elim
  | h k => exact h1.elim
  | nd t xs => exact h1.elim
def cutD (xs : List D) (lo hi : Option Int) : List D := (xs.drop (HT.sIx xs.length 0 lo)).take (HT.sIx xs.length xs.length hi - HT.sIx xs.length 0 lo)
theorem cut_rep {g : Gd} {Z r : List Addr} {H : Hp} {ds : List D} {vs : List V} (h : RepL g Z r H ds vs) (lo hi : Option Int) : RepL g Z r H (cutD ds lo hi) (cutV vs lo hi) := by
  unfold cutD cutV
  rw [h.length]
  exact (h.drop _).take _
/-- x[lo:hi] of a list or a tuple -/
def dCut (x : D) (lo hi : Option Int) (st : Store) : Res D :=
  match lst? st x with
  | some xs => .ok (.nd .lst (cutD xs lo hi)) st
  | none => match tupX? st x with
    | some xs => .ok (.nd .tup (cutD xs lo hi)) st
    | none => .no
def dSlice (fa : SemE) (fl fh : SemO) : SemE := fun env st => (fa env st).bind fun x st1 => (fl env st1).bind fun lo st2 => (fh env st2).bind fun hi st3 => dCut x lo hi st3
theorem cut_whole {xs : List D} {lo hi : Option Int} (h : HT.sIx xs.length 0 lo = 0 ∧ HT.sIx xs.length xs.length hi = xs.length) : cutD xs lo hi = xs := by
  unfold cutD
  rw [h.1, h.2]
  simp
theorem se_slice {lo hi : Option Expr} {fl fh : SemO} {p2 : Pos} (ha : SE X cl W a fa) (hl : SO X cl W lo fl) (hh : SO X cl W hi fh) : SE X cl W (.Subscript a (.Slice lo hi none p2) pos) (dSlice fa fl fh) := by
  refine ⟨(pe_slice (sl_list.or sl_tupA) ha.run hl.run hh.run).imp fun sg H Q ⟨Z, r, env, st, E, R, h⟩ => ?_⟩
  refine ⟨Z, r, env, st, E, R, Post.bind h fun x st1 r1 H1 v _ e1 R1 q1 h1 => ?_⟩
  refine ⟨Z, r1, env, st1, E.ext e1, R1, Post.bind h1 fun l st2 r2 H2 l' _ e2 R2 q2 h2 => ?_⟩
  cases q2
  refine ⟨Z, r2, env, st2, E.ext (e1.trans e2), R2, Post.bind h2 fun u st3 r3 H3 u' _ e3 R3 q3 h3 => ?_⟩
  cases q3
  have hx := Rep.ext (e2.trans e3) x q1
  unfold dCut at h3
  split at h3
  · rename_i xs ex
    obtain ⟨p, vs, rfl, q, s⟩ := lst_ok R3 hx ex
    exact .inl ⟨p, vs, rfl, s, fun t ht => h3 r3 _ _ (Ext.new ht) (R3.new ht) (new_lst R3 (cut_rep q l u) ht)⟩
  · split at h3
    · rename_i xs ex
      have ex' := tup_is R3 ex
      obtain ⟨p, vs, rfl, q, s⟩ := tupX_ok R3 hx ex
      refine .inr ⟨p, vs, rfl, SqT.of s, fun w => ?_, fun _ t ht => h3 r3 _ _ (Ext.new ht) (R3.new ht) (new_tup R3 (cut_rep q l u) ht)⟩
      rw [← q.length] at w
      rw [cut_whole w] at h3
      subst ex'
      exact post_ok h3 R3 hx
    · exact h3.elim

/-! ### dicts -/
/-- a key's place -/
def kIx {κ : Type} [DecidableEq κ] : List κ → κ → Option Nat
  | [], _ => none
  | k :: ks, x => if k = x then some 0 else (kIx ks x).map (· + 1)
/-- guessed, or sought -/
def kAt {κ : Type} [DecidableEq κ] (hint : Nat) (ks : List κ) (x : κ) : Option Nat := if ks[hint]? = some x then some hint else kIx ks x
theorem kIx_get {κ : Type} [DecidableEq κ] : ∀ {ks : List κ} {x : κ} {i : Nat}, kIx ks x = some i → ks[i]? = some x
  | [], _, _, e => by cases e
  | k :: ks, x, i, e => by
    simp only [kIx] at e
    split at e
    · rename_i h; cases e; simp [h]
    · cases hk : kIx ks x with
      | none => rw [hk] at e; cases e
      | some j => rw [hk] at e; cases e; simpa using kIx_get hk
theorem kIx_none {κ : Type} [DecidableEq κ] : ∀ {ks : List κ} {x : κ}, kIx ks x = none → x ∉ ks
  | [], _, _ => by simp
  | k :: ks, x, e => by
    simp only [kIx] at e
    split at e
    · cases e
    · rename_i h
      cases hk : kIx ks x with
      | none => simp only [List.mem_cons, not_or]; exact ⟨fun z => h z.symm, kIx_none hk⟩
      | some j => rw [hk] at e; cases e
theorem kAt_get {κ : Type} [DecidableEq κ] {hint : Nat} {ks : List κ} {x : κ} {i : Nat} (e : kAt hint ks x = some i) : ks[i]? = some x := by
  unfold kAt at e
  split at e
  · rename_i h; cases e; exact h
  · exact kIx_get e
theorem kAt_none {κ : Type} [DecidableEq κ] {hint : Nat} {ks : List κ} {x : κ} (e : kAt hint ks x = none) : x ∉ ks := by
  unfold kAt at e
  split at e
  · cases e
  · exact kIx_none e
theorem valV_zip {κ : Type} [DecidableEq κ] : ∀ {ks : List κ} {vs : List V} {i : Nat} {x : κ}, ks.Nodup → ks[i]? = some x → valV (ks.zip vs) x = vs[i]?
  | [], _, _, _, _, e => by simp at e
  | k :: ks, [], i, x, _, _ => by simp [valV_nil]
  | k :: ks, v :: vs, 0, x, _, e => by
    simp at e; subst e
    rw [List.zip_cons_cons, valV_pos rfl]; rfl
  | k :: ks, v :: vs, i + 1, x, n, e => by
    simp at e
    have hx : x ∈ ks := List.mem_of_getElem? e
    have ne : ¬ k = x := fun z => (List.nodup_cons.mp n).1 (z ▸ hx)
    rw [List.zip_cons_cons, valV_neg (p := (k, v)) ne, valV_zip (List.nodup_cons.mp n).2 e]; simp
theorem valV_zip_none {κ : Type} [DecidableEq κ] : ∀ {ks : List κ} {vs : List V} {x : κ}, x ∉ ks → valV (ks.zip vs) x = none
  | [], _, _, _ => by simp [valV_nil]
  | k :: ks, [], x, _ => by simp [valV_nil]
  | k :: ks, v :: vs, x, n => by
    simp at n
    rw [List.zip_cons_cons, valV_neg (p := (k, v)) (fun z => n.1 z.symm), valV_zip_none n.2]
theorem putK_zip {κ : Type} [DecidableEq κ] : ∀ {ks : List κ} {vs : List V} {i : Nat} {x : κ} {y : V}, ks.Nodup → ks.length = vs.length → ks[i]? = some x → putK (ks.zip vs) x y = ks.zip (vs.set i y) := by
  intro ks vs i x y n l e
  have ha : ((ks.zip vs).any fun kv => decide (kv.1 = x)) = true := by
    rw [valV_any, valV_zip n e]
    have : i < vs.length := by rw [← l]; exact (List.getElem?_eq_some_iff.mp e).1
    rw [List.getElem?_eq_getElem this]; rfl
  unfold putK
  rw [if_pos ha]
  clear ha
  induction ks generalizing vs i with
  | nil => simp at e
  | cons k ks ih =>
    cases vs with
    | nil => simp at l
    | cons v vs =>
      cases i with
      | zero =>
        simp at e; subst e
        simp only [List.zip_cons_cons, List.map_cons, if_pos, List.set_cons_zero]
        congr 1
        have : ∀ p ∈ ks.zip vs, (if p.1 = k then (p.1, y) else p) = p := fun p hp => by
          have hm : p.1 ∈ ks := by
            obtain ⟨a, b⟩ := p
            exact (List.of_mem_zip hp).1
          rw [if_neg]
          intro z
          exact (List.nodup_cons.mp n).1 (z ▸ hm)
        rw [List.map_congr_left this]; simp
      | succ i =>
        simp at e
        have hx : x ∈ ks := List.mem_of_getElem? e
        have ne : ¬ k = x := fun z => (List.nodup_cons.mp n).1 (z ▸ hx)
        simp only [List.zip_cons_cons, List.map_cons, if_neg ne, List.set_cons_succ]
        congr 1
        exact ih (List.nodup_cons.mp n).2 (by simpa using l) e
theorem putK_zip_new {κ : Type} [DecidableEq κ] {ks : List κ} {vs : List V} {x : κ} {y : V} (l : ks.length = vs.length) (e : x ∉ ks) : putK (ks.zip vs) x y = (ks ++ [x]).zip (vs ++ [y]) := by
  rw [putK_new _ (valV_zip_none e), List.zip_append l]; rfl
def key? : D → Option Key
  | .int i => some (.inl i)
  | .str s => some (.inr s)
  | _ => none
def keys? : List D → Option (List Key)
  | [] => some []
  | d :: ds => match key? d, keys? ds with
    | some v, some vs => some (v :: vs)
    | _, _ => none
theorem key_ok {g : Gd} {Z r : List Addr} {H : Hp} {d : D} {v : V} {k : Key} (e : key? d = some k) (h : Rep g Z r H d v) : v = kV k := by
  cases d <;> cases e <;> exact h
theorem keys_ok {g : Gd} {Z r : List Addr} {H : Hp} : ∀ {ds : List D} {vs : List V} {ks : List Key}, keys? ds = some ks → RepL g Z r H ds vs → vs = ks.map kV
  | [], vs, ks, e, h => by cases e; exact h
  | d :: ds, vs, ks, e, h => by
    simp only [keys?] at e
    split at e
    · rename_i w us e1 e2
      cases e
      obtain ⟨v, q, rfl, h1, h2⟩ := h
      rw [key_ok e1 h1, keys_ok e2 h2]; rfl
    · cases e
end
end DY

/-! Statements, loops, comprehensions on data. -/
namespace DY
open PySem PySem.Spec PyProof.Rows L2

inductive SR where
  | nx (env : DEnv) (st : Store)
  | rt (d : D) (st : Store)
  | er (e : Ex) (env : DEnv) (st : Store)
  | bk (env : DEnv) (st : Store)
  | ct (env : DEnv) (st : Store)
  | no
abbrev SemS := DEnv → Store → SR
def bindE {A : Type} (x : Res A) (env : DEnv) (k : A → Store → SR) : SR := match x with
  | .ok a st => k a st
  | .er e st => .er e env st
  | .no => .no
def SR.seq (x : SR) (k : DEnv → Store → SR) : SR := match x with
  | .nx env st => k env st
  | x => x
def PostS (g : Gd) (Z r : List Addr) (H : Hp) (x : SR) (E : Ends) (W : WX) : Prop :=
  match x with
  | .nx env st => ∀ r' H' sg, Ext r H r' H' → Rl g Z r' H' st → EnvR g Z r' H' env sg → E.nx sg H'
  | .rt d st => ∀ r' H' v, Ext r H r' H' → Rl g Z r' H' st → Rep g Z r' H' d v → E.rt v H'
  | .er e env st => ∀ r' H' sg cls d, Ext r H r' H' → Rl g Z r' H' st → EnvR g Z r' H' env sg → RepX g Z r' H' e cls d → W cls d sg H'
  | .bk env st => ∀ r' H' sg, Ext r H r' H' → Rl g Z r' H' st → EnvR g Z r' H' env sg → E.bk sg H'
  | .ct env st => ∀ r' H' sg, Ext r H r' H' → Rl g Z r' H' st → EnvR g Z r' H' env sg → E.ct sg H'
  | .no => False
theorem PostS.ext {g : Gd} {Z r r1 : List Addr} {H H1 : Hp} {x : SR} {E : Ends} {W : WX} (e : Ext r H r1 H1) (h : PostS g Z r H x E W) : PostS g Z r1 H1 x E W := by
  cases x with
  | nx env st => exact fun r' H' sg e' => h r' H' sg (e.trans e')
  | rt d st => exact fun r' H' v e' => h r' H' v (e.trans e')
  | er x env st => exact fun r' H' sg c d e' => h r' H' sg c d (e.trans e')
  | bk env st => exact fun r' H' sg e' => h r' H' sg (e.trans e')
  | ct env st => exact fun r' H' sg e' => h r' H' sg (e.trans e')
  | no => exact h
theorem PostS.bindE {A B : Type} {g : Gd} {Z r : List Addr} {H : Hp} {RA : List Addr → Hp → A → B → Prop} {x : Res A} {env : DEnv} {sg : L2.St} {k : A → Store → SR} {Q : B → Hp → Prop} {E : Ends} {W : WX}
    (h : PostS g Z r H (bindE x env k) E W) (En : EnvR g Z r H env sg)
    (hk : ∀ a st r' H' b, x = .ok a st → Ext r H r' H' → Rl g Z r' H' st → RA r' H' a b → PostS g Z r' H' (k a st) E W → Q b H') : Post g Z r H RA x Q (fun c d H' => W c d sg H') := by
  cases x with
  | ok a st => exact fun r' H' b e R q => hk a st r' H' b rfl e R q (PostS.ext e h)
  | er x st => exact fun r' H' cls d e R q => h r' H' sg cls d e R (En.ext e) q
  | no => exact h.elim
def rdS (g : Gd) (W : WX) (f : SemS) : TS := fun E sg H => ∃ Z r env st, EnvR g Z r H env sg ∧ Rl g Z r H st ∧ PostS g Z r H (f env st) E W
structure SS (X : Cx) (cl : ClsT) (W : WX) (s : Stmt) (f : SemS) : Prop where
  run : PS X s (rdS ⟨X.K, cl⟩ W f)
structure SB (X : Cx) (cl : ClsT) (W : WX) (s : List Stmt) (f : SemS) : Prop where
  run : PSs X s (rdS ⟨X.K, cl⟩ W f)
theorem _root_.L2.PS.imp {X : Cx} {s : Stmt} {t t' : TS} (h : PS X s t) (f : ∀ E sg H, t' E sg H → t E sg H) : PS X s t' := ⟨fun pins st sg H E I q => h.run pins st sg H E I (f E sg H q)⟩
theorem _root_.L2.PSs.imp {X : Cx} {s : List Stmt} {t t' : TS} (h : PSs X s t) (f : ∀ E sg H, t' E sg H → t E sg H) : PSs X s t' := ⟨fun pins st sg H E I q => h.run pins st sg H E I (f E sg H q)⟩
theorem post_nx {g : Gd} {Z r : List Addr} {H : Hp} {env : DEnv} {st : Store} {E : Ends} {W : WX} {sg : L2.St} (h : PostS g Z r H (.nx env st) E W) (R : Rl g Z r H st) (En : EnvR g Z r H env sg) : E.nx sg H := h r H sg (Ext.refl r H) R En

section
variable {X : Cx} {cl : ClsT} {W : WX} {pos : Pos}
def sNil : SemS := fun env st => .nx env st
def sCons (a b : SemS) : SemS := fun env st => (a env st).seq b
theorem sb_nil : SB X cl W [] sNil := ⟨pss_nil.imp fun E sg H ⟨Z, r, env, st, En, R, h⟩ => post_nx h R En⟩
theorem seq_post {g : Gd} {Z r : List Addr} {H : Hp} {x : SR} {k : SemS} {E : Ends} {W : WX} (h : PostS g Z r H (x.seq k) E W) : PostS g Z r H x { E with nx := rdS g W k E } W := by
  cases x with
  | nx env st => exact fun r' H' sg e R En => ⟨Z, r', env, st, En, R, PostS.ext e h⟩
  | rt d st => exact h
  | er x env st => exact h
  | bk env st => exact h
  | ct env st => exact h
  | no => exact h
theorem sb_cons {s : Stmt} {ss : List Stmt} {a b : SemS} (ha : SS X cl W s a) (hb : SB X cl W ss b) : SB X cl W (s :: ss) (sCons a b) :=
  ⟨(pss_cons ha.run hb.run).imp fun E sg H ⟨Z, r, env, st, En, R, h⟩ => ⟨Z, r, env, st, En, R, seq_post h⟩⟩
theorem sb_one {s : Stmt} {a : SemS} (ha : SS X cl W s a) : SB X cl W [s] a := ⟨pss_one ha.run⟩
def sBreak : SemS := fun env st => .bk env st
def sCont : SemS := fun env st => .ct env st
def sExpr (f : SemE) : SemS := fun env st => bindE (f env st) env fun _ st1 => .nx env st1
theorem ss_expr {e : Expr} {f : SemE} (he : SE X cl W e f) (hs : swapsWith e none pos.line X.env = pure false := by rfl) : SS X cl W (.Expr e pos) (sExpr f) :=
  ⟨(ps_expr he.run hs).imp fun E sg H ⟨Z, r, env, st, En, R, h⟩ => ⟨Z, r, env, st, En, R, PostS.bindE h En fun d st1 r1 H1 v _ e1 R1 q1 h1 => post_nx h1 R1 (En.ext e1)⟩⟩
def sRet (f : SemE) : SemS := fun env st => bindE (f env st) env fun d st1 => .rt d st1
theorem ss_ret {e : Expr} {f : SemE} (he : SE X cl W e f) : SS X cl W (.Return (some e) pos) (sRet f) :=
  ⟨(ps_ret he.run).imp fun E sg H ⟨Z, r, env, st, En, R, h⟩ => ⟨Z, r, env, st, En, R, PostS.bindE h En fun d st1 r1 H1 v _ e1 R1 q1 h1 => h1 r1 H1 v (Ext.refl r1 H1) R1 q1⟩⟩
def sRetN : SemS := fun _ st => .rt .non st
def sIf (ft : SemT) (a b : SemS) : SemS := fun env st => bindE (ft env st) env fun c st1 => if c = true then a env st1 else b env st1
theorem ss_if {c : Expr} {a b : List Stmt} {ft : SemT} {fa fb : SemS} (hc : ST X cl W c ft) (ha : SB X cl W a fa) (hb : SB X cl W b fb) : SS X cl W (.If c a b pos) (sIf ft fa fb) := by
  refine ⟨(ps_if hc.run ha.run hb.run).imp fun E sg H ⟨Z, r, env, st, En, R, h⟩ => ⟨Z, r, env, st, En, R, PostS.bindE h En fun x st1 r1 H1 v _ e1 R1 q1 h1 => ?_⟩⟩
  cases q1
  cases x with
  | true => rw [if_pos rfl] at h1 ⊢; exact ⟨Z, r1, env, st1, En.ext e1, R1, h1⟩
  | false => rw [if_neg (by decide)] at h1 ⊢; exact ⟨Z, r1, env, st1, En.ext e1, R1, h1⟩
/-! ### targets -/
def sSet (i : Nat) (f : SemE) : SemS := fun env st => bindE (f env st) env fun d st1 => .nx (env.set i (some d)) st1
theorem ss_set (i : Nat) {x : Str} {e : Expr} {pos' : Pos} {f : SemE} (hN : X.N.Nodup) (he : SE X cl W e f) (hi : X.N[i]? = some x := by rfl) (hx : Loc X.env.scope x := by first | exact Or.inl rfl | exact Or.inr rfl)
    (hs : swapsWith e (some (.Name x pos')) pos.line X.env = pure false := by rfl) (hf : X.fn x = true ∨ X.env.scope.names.lookup x = some .local := by first | exact .inl rfl | exact .inr rfl | assumption) : SS X cl W (.Assign [.Name x pos'] e pos) (sSet i f) :=
  ⟨(ps_set hN hi hx he.run hs hf).imp fun E sg H ⟨Z, r, env, st, En, R, h⟩ => ⟨Z, r, env, st, En, R, PostS.bindE h En fun d st1 r1 H1 v _ e1 R1 q1 h1 => post_nx h1 R1 ((En.ext e1).set i q1)⟩⟩
/-- a target: what is stored, what it turns, the slots that it may turn -/
abbrev DTg := D → DEnv → Store → Option DEnv
def rdG (g : Gd) (ws : List Nat) (f : DTg) : TG := fun v sg H Q => ∃ Z r env st d, EnvR g Z r H env sg ∧ Rl g Z r H st ∧ Rep g Z r H d v ∧ match f d env st with
  | some env' => ∀ sg', EnvR g Z r H env' sg' → (∀ vs : List Nat, (∀ w ∈ ws, w ∈ vs) → wipe sg' vs = wipe sg vs) → Q sg' H
  | none => False
structure SG (X : Cx) (cl : ClsT) (ws : List Nat) (e : Expr) (f : DTg) : Prop where
  run : PG X e (rdG ⟨X.K, cl⟩ ws f)
theorem _root_.L2.PG.imp {e : Expr} {t t' : TG} (h : PG X e t) (f : ∀ v sg H Q, t' v sg H Q → t v sg H Q) : PG X e t' := ⟨fun pins s sg H v u Q I rv q => h.run pins s sg H v u Q I rv (f v sg H Q q)⟩
theorem _root_.L2.PGs.imp {es : List Expr} {t t' : TGs} (h : PGs X es t) (f : ∀ v sg H Q, t' v sg H Q → t v sg H Q) : PGs X es t' := ⟨fun pins s sg H vs us Q I rv q => h.run pins s sg H vs us Q I rv (f vs sg H Q q)⟩
theorem wipe_get (sg : L2.St) : ∀ (vs : List Nat) (j : Nat), (wipe sg vs)[j]? = if j ∈ vs then sg[j]?.map (fun _ => none) else sg[j]?
  | [], j => by simp [wipe]
  | v :: vs, j => by
    show ((wipe sg vs).set v none)[j]? = _
    by_cases e : v = j
    · subst e
      by_cases hl : v < sg.length
      · rw [List.getElem?_set_self (by rw [wipe_length]; exact hl)]
        simp [hl]
      · have h1 : sg[v]? = none := List.getElem?_eq_none (by omega)
        have h2 : ((wipe sg vs).set v none)[v]? = none := List.getElem?_eq_none (by simp [wipe_length]; omega)
        rw [h1, h2]; simp
    · rw [List.getElem?_set_ne e, wipe_get sg vs j]
      simp [Ne.symm e]
theorem wipe_set {sg : L2.St} {i : Nat} {x : Option V} {vs : List Nat} (h : i ∈ vs) : wipe (sg.set i x) vs = wipe sg vs := by
  apply List.ext_getElem?
  intro j
  rw [wipe_get, wipe_get]
  by_cases e : i = j
  · subst e
    rw [if_pos h, if_pos h]
    by_cases hl : i < sg.length
    · rw [List.getElem?_set_self hl, List.getElem?_eq_getElem hl]; rfl
    · rw [List.getElem?_eq_none (by simp; omega), List.getElem?_eq_none (by omega)]
  · rw [List.getElem?_set_ne e]
def gN (i : Nat) : DTg := fun d env _ => some (env.set i (some d))
theorem sg_name (i : Nat) {x : Str} (hN : X.N.Nodup) (hi : X.N[i]? = some x := by rfl) (hx : Loc X.env.scope x := by first | exact Or.inl rfl | exact Or.inr rfl) (hf : X.fn x = true ∨ X.env.scope.names.lookup x = some .local := by first | exact .inl rfl | exact .inr rfl | assumption) : SG X cl [i] (.Name x pos) (gN i) :=
  ⟨(pg_name hN hi hx hf).imp fun v sg H Q ⟨Z, r, env, st, d, En, R, q, h⟩ => h _ (En.set i q) fun vs hv => wipe_set (hv i (by simp))⟩
abbrev DTgs := List D → DEnv → Store → Option DEnv
def rdGs (g : Gd) (ws : List Nat) (f : DTgs) : TGs := fun vs sg H Q => ∃ Z r env st ds, EnvR g Z r H env sg ∧ Rl g Z r H st ∧ RepL g Z r H ds vs ∧ match f ds env st with
  | some env' => ∀ sg', EnvR g Z r H env' sg' → (∀ us : List Nat, (∀ w ∈ ws, w ∈ us) → wipe sg' us = wipe sg us) → Q sg' H
  | none => False
structure SGs (X : Cx) (cl : ClsT) (ws : List Nat) (es : List Expr) (f : DTgs) : Prop where
  run : PGs X es (rdGs ⟨X.K, cl⟩ ws f)
def gNil' : DTgs := fun ds env _ => match ds with
  | [] => some env
  | _ => none
def gCons' (a : DTg) (b : DTgs) : DTgs := fun ds env st => match ds with
  | d :: ds => match a d env st with
    | some env' => b ds env' st
    | none => none
  | [] => none
theorem sgs_nil : SGs X cl [] [] gNil' := by
  refine ⟨pgs_nil.imp fun vs sg H Q ⟨Z, r, env, st, ds, En, R, q, h⟩ => ?_⟩
  cases ds with
  | nil => exact ⟨q, h sg En fun _ _ => rfl⟩
  | cons d ds => exact h.elim
theorem sgs_cons {e : Expr} {es : List Expr} {a : DTg} {b : DTgs} {ws us : List Nat} (ha : SG X cl ws e a) (hb : SGs X cl us es b) (hs : (assignEach (e :: es) X.env).map (·.2) = assign e X.env :: (assignEach es X.env).map (·.2) := by rfl) : SGs X cl (ws ++ us) (e :: es) (gCons' a b) := by
  refine ⟨(pgs_cons ha.run hb.run hs).imp fun vs sg H Q ⟨Z, r, env, st, ds, En, R, q, h⟩ => ?_⟩
  cases ds with
  | nil => exact h.elim
  | cons d ds =>
    obtain ⟨v, q', rfl, h1, h2⟩ := q
    refine ⟨v, q', rfl, Z, r, env, st, d, En, R, h1, ?_⟩
    dsimp only [gCons'] at h
    cases e1 : a d env st with
    | none => rw [e1] at h; exact h.elim
    | some env' =>
      rw [e1] at h
      dsimp only at h ⊢
      intro sg' En' hw
      refine ⟨Z, r, env', st, ds, En', R, h2, ?_⟩
      cases e2 : b ds env' st with
      | none => rw [e2] at h; exact h.elim
      | some env2 =>
        rw [e2] at h
        intro sg2 En2 hw2
        refine h sg2 En2 fun vs hv => ?_
        rw [hw2 vs fun w hm => hv w (List.mem_append_right _ hm), hw vs fun w hm => hv w (List.mem_append_left _ hm)]
def gT (n : Nat) (b : DTgs) : DTg := fun d env st => match tup? st d with
  | some xs => if xs.length = n then b xs env st else none
  | none => none
theorem sg_tup {es : List Expr} {k : Nat} {b : DTgs} {n : Nat} {ws : List Nat} (hc : X.calm = true) (h : SGs X cl ws es b) (hn : (assignEach es X.env).length = n := by rfl) (hst : (assignEach es X.env).findIdx? (·.1) = none := by rfl) : SG X cl ws (.Tuple es k pos) (gT n b) := by
  refine ⟨(pg_tup hc h.run hn hst).imp fun v sg H Q ⟨Z, r, env, st, d, En, R, q, h⟩ => ?_⟩
  dsimp only [gT] at h
  cases e : tup? st d with
  | none => rw [e] at h; exact h.elim
  | some xs =>
    rw [e] at h
    dsimp only at h
    obtain ⟨a, vs, rfl, q2, s⟩ := tup_ok R q e
    split at h
    · rename_i env' hf
      split at hf
      · rename_i hl
        exact ⟨a, vs, rfl, s, by rw [← q2.length]; exact hl, Z, r, env, st, xs, En, R, q2, by rw [hf]; exact h⟩
      · cases hf
    · exact h.elim
/-- target = value -/
def sAsg (f : SemE) (t : DTg) : SemS := fun env st => bindE (f env st) env fun d st1 => match t d env st1 with
  | some env' => .nx env' st1
  | none => .no
theorem ss_asg {tg e : Expr} {f : SemE} {t : DTg} {ws : List Nat} (he : SE X cl W e f) (hg : SG X cl ws tg t) (hs : swapsWithSole [tg] e pos.line X.env = pure false := by rfl) (hw : swappedStores [tg] e X.env = pure none := by rfl) (h1a : (assignEach [tg] X.env).map (·.2) = [assign tg X.env] := by rfl) : SS X cl W (.Assign [tg] e pos) (sAsg f t) := by
  refine ⟨(ps_asg he.run hg.run hs hw h1a).imp fun E sg H ⟨Z, r, env, st, En, R, h⟩ => ⟨Z, r, env, st, En, R, PostS.bindE h En fun d st1 r1 H1 v _ e1 R1 q1 h1 => ?_⟩⟩
  refine ⟨Z, r1, env, st1, d, En.ext e1, R1, q1, ?_⟩
  split at h1
  · rename_i env' hf
    exact fun sg' En' _ => post_nx h1 R1 En'
  · exact h1.elim
/-- a, b = x, y of plain locals -/
def sPar (i j : Nat) (f : SemA) : SemS := fun env st => bindE (f env st) env fun ds st1 => match ds with
  | [x, y] => .nx ((env.set i (some x)).set j (some y)) st1
  | _ => .no
theorem ss_par (i j : Nat) {x y : Str} {a b : Expr} {f : SemA} {px py pt : Pos} {kt k2 pt2} (hc : X.calm = true) (hN : X.N.Nodup) (ha : SA X cl W [a, b] f) (hi : X.N[i]? = some x := by rfl) (hj : X.N[j]? = some y := by rfl) (hij : i ≠ j := by decide)
    (hx : X.env.scope.names.lookup x = some .local := by rfl) (hy : X.env.scope.names.lookup y = some .local := by rfl)
    (hw : swappedStores [.Tuple [.Name x px, .Name y py] kt pt] (.Tuple [a, b] k2 pt2) X.env = pure (some [x, y]) := by rfl)
    (hs : swapsWithSole [.Tuple [.Name x px, .Name y py] kt pt] (.Tuple [a, b] k2 pt2) pos.line X.env = pure false := by rfl) :
    SS X cl W (.Assign [.Tuple [.Name x px, .Name y py] kt pt] (.Tuple [a, b] k2 pt2) pos) (sPar i j f) := by
  refine ⟨(ps_par hc hN hi hj hij hx hy ha.run hw hs).imp fun E sg H ⟨Z, r, env, st, En, R, h⟩ => ⟨Z, r, env, st, En, R, PostS.bindE h En fun ds st1 r1 H1 vs _ e1 R1 q1 h1 => ?_⟩⟩
  match ds, q1, h1 with
  | [x, y], q1, h1 =>
    obtain ⟨v, q, rfl, a1, w, q', rfl, a2, rfl⟩ := q1
    exact ⟨v, w, rfl, post_nx h1 R1 (((En.ext e1).set i a1).set j a2)⟩
  | [], q1, h1 => exact h1.elim
  | [_], q1, h1 => exact h1.elim
  | _ :: _ :: _ :: _, q1, h1 => exact h1.elim
def sPar3 (i j l : Nat) (f : SemA) : SemS := fun env st => bindE (f env st) env fun ds st1 => match ds with
  | [x, y, z] => .nx (((env.set i (some x)).set j (some y)).set l (some z)) st1
  | _ => .no
/-! ### what is walked -/
/-- the items, and what must hold of the store at each turn -/
structure DIter where
  items : List D
  chk : Store → Prop
abbrev SemI := DEnv → Store → Res DIter
/-- further forbidden addresses, new ones alone -/
def Zs (Z : List Addr) (H : Hp) (Z1 : List Addr) : Prop := ∀ a ∈ Z1, a ∈ Z ∨ H a = none
theorem Zs.refl (Z : List Addr) (H : Hp) : Zs Z H Z := fun a h => .inl h
/-- all that is not forbidden stands -/
structure ExtW (Z r : List Addr) (H : Hp) (r' : List Addr) (H' : Hp) : Prop where
  pre : ∃ q, r' = r ++ q
  keep : ∀ a o, H a = some o → (∀ ps, o ≠ .tbl ps) → a ∉ r → a ∉ Z → H' a = some o ∧ a ∉ r'
theorem Ext.w {Z r r' : List Addr} {H H' : Hp} (e : Ext r H r' H') : ExtW Z r H r' H' := ⟨e.pre, fun a o h t n _ => e.keep a o h t n⟩
theorem ExtW.trans {Z r r1 r2 : List Addr} {H H1 H2 : Hp} (a : ExtW Z r H r1 H1) (b : ExtW Z r1 H1 r2 H2) : ExtW Z r H r2 H2 := by
  obtain ⟨q1, e1⟩ := a.pre
  obtain ⟨q2, e2⟩ := b.pre
  refine ⟨⟨q1 ++ q2, by rw [e2, e1, List.append_assoc]⟩, fun x o h t n z => ?_⟩
  obtain ⟨h1, n1⟩ := a.keep x o h t n z
  exact b.keep x o h1 t n1 z
theorem ExtW.get {Z r r1 : List Addr} {H H1 : Hp} (a : ExtW Z r H r1 H1) {k : Nat} {x : Addr} (h : r[k]? = some x) : r1[k]? = some x := by
  obtain ⟨q, e⟩ := a.pre
  have hk : k < r.length := (List.getElem?_eq_some_iff.mp h).1
  rw [e, List.getElem?_append_left hk]; exact h
theorem Nin.extW {Z r Z1 r1 : List Addr} {H H1 : Hp} (e : ExtW Z r H r1 H1) (z : Zs Z H Z1) {a : Addr} {o : HO} (n : Nin Z r a) (h : H a = some o) (t : ∀ ps, o ≠ .tbl ps := by intro ps z; cases z) : Nin Z1 r1 a ∧ H1 a = some o := by
  obtain ⟨h1, n1⟩ := e.keep a o h t n.2 n.1
  exact ⟨⟨fun m => (z a m).elim n.1 fun q => (by rw [q] at h; cases h), n1⟩, h1⟩
theorem Hat.extW {g : Gd} {Z r Z1 r1 : List Addr} {H H1 : Hp} (e : ExtW Z r H r1 H1) (z : Zs Z H Z1) {a : Addr} {t : Hd} {vs : List V} (h : Hat g Z r H a t vs) : Hat g Z1 r1 H1 a t vs := by
  have rd : ∀ {u : HO}, NX u → Nin Z r a → Rd H a u → Nin Z1 r1 a ∧ Rd H1 a u := fun t n q => by
    rcases q with q | ⟨x, q⟩
    · obtain ⟨n1, h1⟩ := Nin.extW e z n q t.1; exact ⟨n1, .inl h1⟩
    · obtain ⟨n1, h1⟩ := Nin.extW e z n q; exact ⟨n1, .inr ⟨x, h1⟩⟩
  cases t with
  | lst => exact Nin.extW e z h.1 h.2
  | tup => exact Nin.extW e z h.1 h.2
  | scr => rcases h with ⟨n, h⟩ | h
           · exact .inl (rd nx_lst n h)
           · exact .inr h
  | ktp => rcases h with ⟨n, h⟩ | h
           · exact .inl (rd nx_tup n h)
           · exact .inr h
  | dk ks => obtain ⟨n, l, h⟩ := h; obtain ⟨n1, h1⟩ := Nin.extW e z n h; exact ⟨n1, l, h1⟩
  | dt ks => obtain ⟨n, l, h⟩ := h; obtain ⟨n1, h1⟩ := Nin.extW e z n h; exact ⟨n1, l, h1⟩
  | ins c ns => obtain ⟨n, l, dx, h⟩ := h; obtain ⟨n1, h1⟩ := Nin.extW e z n h; exact ⟨n1, l, dx, h1⟩
  | exc c ns =>
    obtain ⟨n, d, h, q⟩ := h
    obtain ⟨n1, h1⟩ := Nin.extW e z n h
    refine ⟨n1, d, h1, ?_⟩
    rcases q with q | ⟨dx, e1, l, nd, hd⟩
    · exact .inl q
    · obtain ⟨n2, h2⟩ := Nin.extW e z nd hd
      exact .inr ⟨dx, e1, l, n2, h2⟩
  | fn f c q caps =>
    obtain ⟨e1, e2, n, h⟩ := h
    obtain ⟨n1, h1⟩ := Nin.extW e z n h
    exact ⟨e1, e2, n1, h1⟩
mutual
theorem Rep.extV {g : Gd} {Z r Z1 r1 : List Addr} {H H1 : Hp} (e : ExtW Z r H r1 H1) (z : Zs Z H Z1) : ∀ (d : D) {v : V}, Rep g Z r H d v → Rep g Z1 r1 H1 d v
  | .non, _, h => h
  | .bl _, _, h => h
  | .int _, _, h => h
  | .str _, _, h => h
  | .h k, _, h => by obtain ⟨a, e1, e2⟩ := h; exact ⟨a, e1, e.get e2⟩
  | .nd t xs, _, h => by obtain ⟨a, vs, e1, h1, h2⟩ := h; exact ⟨a, vs, e1, h1.extW e z, RepL.extV e z xs h2⟩
theorem RepL.extV {g : Gd} {Z r Z1 r1 : List Addr} {H H1 : Hp} (e : ExtW Z r H r1 H1) (z : Zs Z H Z1) : ∀ (ds : List D) {vs : List V}, RepL g Z r H ds vs → RepL g Z1 r1 H1 ds vs
  | [], _, h => h
  | d :: ds, _, h => by obtain ⟨v, q, e1, h1, h2⟩ := h; exact ⟨v, q, e1, Rep.extV e z d h1, RepL.extV e z ds h2⟩
end
theorem Rep.extZ {g : Gd} {Z r Z1 r1 : List Addr} {H H1 : Hp} (e : ExtW Z r H r1 H1) (z : Zs Z H Z1) {d : D} {v : V} (h : Rep g Z r H d v) : Rep g Z1 r1 H1 d v := Rep.extV e z d h
theorem RepL.extZ {g : Gd} {Z r Z1 r1 : List Addr} {H H1 : Hp} (e : ExtW Z r H r1 H1) (z : Zs Z H Z1) {ds : List D} {vs : List V} (h : RepL g Z r H ds vs) : RepL g Z1 r1 H1 ds vs := RepL.extV e z ds h
def ItOk (g : Gd) (Z r : List Addr) (H : Hp) (it : DIter) (J : It) : Prop :=
  ∀ Z1 r1 H1 st1 i, ExtW Z r H r1 H1 → Zs Z H Z1 → Rl g Z1 r1 H1 st1 → it.chk st1 →
    (∀ d, it.items[i]? = some d → J.go i H1 ∧ ∀ x H2, J.yld i H1 x H2 → Ext r1 H1 r1 H2 ∧ Rl g Z1 r1 H2 st1 ∧ Rep g Z1 r1 H2 d x) ∧ (it.items.length ≤ i → J.stop i H1)
/-- a loop over items -/
noncomputable def forL (chk : Store → Prop) (tg : DTg) (body : SemS) : List D → SemS
  | [], env, st => open Classical in if chk st then .nx env st else .no
  | d :: ds, env, st => open Classical in if chk st then (match tg d env st with
      | some env1 => (match body env1 st with
        | .nx env2 st2 => forL chk tg body ds env2 st2
        | .ct env2 st2 => forL chk tg body ds env2 st2
        | .bk env2 st2 => .nx env2 st2
        | x => x)
      | none => .no) else .no
noncomputable def sFor (fi : SemI) (tg : DTg) (body : SemS) : SemS := fun env st => bindE (fi env st) env fun it st1 => forL it.chk tg body it.items env st1
def rdI (g : Gd) (W : WX) (f : SemI) : TI := fun sg H Q => ∃ Z r env st, EnvR g Z r H env sg ∧ Rl g Z r H st ∧ Post g Z r H (fun r' H' => ItOk g Z r' H') (f env st) Q (fun c d H' => W c d sg H')
structure SI (X : Cx) (cl : ClsT) (W : WX) (tg e : Expr) (f : SemI) : Prop where
  run : PI X tg e (rdI ⟨X.K, cl⟩ W f)
theorem _root_.L2.PI.imp {tg e : Expr} {t t' : TI} (h : PI X tg e t) (f : ∀ sg H Q, t' sg H Q → t sg H Q) : PI X tg e t' := ⟨fun pins s sg H Q I q => h.run pins s sg H Q I (f sg H Q q)⟩
theorem drop_cons {A : Type} {xs : List A} {i : Nat} {d : A} (h : xs[i]? = some d) : xs.drop i = d :: xs.drop (i + 1) := by
  obtain ⟨hl, e⟩ := List.getElem?_eq_some_iff.mp h
  rw [← e]; exact List.drop_eq_getElem_cons hl
theorem ss_for {tg iter : Expr} {body : List Stmt} {fi : SemI} {t : DTg} {ws : List Nat} {fb : SemS} (hp : PassesOwn (model X.prog X.w) X.A X.env X.xe) (hc : X.calm = true) (hi : SI X cl W tg iter fi) (hg : SG X cl ws tg t) (hb : SB X cl W body fb)
    (hs : ∀ x, foldedSetIterable iter X.env x = pure x := by intro _; rfl) : SS X cl W (.For tg iter body [] pos) (sFor fi t fb) := by
  refine ⟨(ps_for hp hc hi.run hg.run hb.run hs).imp fun E sg H ⟨Z, r, env, st, En, R, h⟩ => ⟨Z, r, env, st, En, R, PostS.bindE h En fun it st1 r1 H1 J _ e1 R1 q1 h1 => ?_⟩⟩
  refine ⟨fun i m sg2 H2 => m + i = it.items.length ∧ ∃ r2 env2 st2, EnvR ⟨X.K, cl⟩ Z r2 H2 env2 sg2 ∧ Rl ⟨X.K, cl⟩ Z r2 H2 st2 ∧ Ext r1 H1 r2 H2 ∧ PostS ⟨X.K, cl⟩ Z r2 H2 (forL it.chk t fb (it.items.drop i) env2 st2) E W,
    ⟨it.items.length, by omega, r1, env, st1, En.ext e1, R1, Ext.refl _ _, by simpa using h1⟩, fun i m sg2 H2 ⟨hm, r2, env2, st2, En2, R2, e2, h2⟩ => ?_⟩
  cases hd : it.items[i]? with
  | none =>
    have hl : it.items.length ≤ i := List.getElem?_eq_none_iff.mp hd
    rw [List.drop_eq_nil_of_le hl, forL] at h2
    split at h2
    · rename_i hchk
      exact .inl ⟨(q1 Z r2 H2 st2 i e2.w (Zs.refl _ _) R2 hchk).2 hl, post_nx h2 R2 En2⟩
    · exact h2.elim
  | some d =>
    rw [drop_cons hd, forL] at h2
    split at h2
    · rename_i hchk
      obtain ⟨go, yl⟩ := (q1 Z r2 H2 st2 i e2.w (Zs.refl _ _) R2 hchk).1 d hd
      refine .inr ⟨go, fun sg3 H3 => ∃ r3 env3 st3, EnvR ⟨X.K, cl⟩ Z r3 H3 env3 sg3 ∧ Rl ⟨X.K, cl⟩ Z r3 H3 st3 ∧ Ext r1 H1 r3 H3 ∧ PostS ⟨X.K, cl⟩ Z r3 H3 (forL it.chk t fb (it.items.drop (i + 1)) env3 st3) E W, fun sg3 H3 ⟨r3, env3, st3, a, b, c, d⟩ => ?_, fun x H3 hy => ?_⟩
      · have hl := (List.getElem?_eq_some_iff.mp hd).1
        exact ⟨m - 1, by omega, by omega, r3, env3, st3, a, b, c, d⟩
      · obtain ⟨e3, R3, q3⟩ := yl x H3 hy
        refine ⟨Z, r2, env2, st2, d, En2.ext e3, R3, q3, ?_⟩
        cases ht : t d env2 st2 with
        | none => rw [ht] at h2; exact h2.elim
        | some env3 =>
          rw [ht] at h2
          dsimp only at h2 ⊢
          intro sg3 En3 _
          refine ⟨Z, r2, env3, st2, En3, R3, ?_⟩
          have h3 := PostS.ext e3 h2
          cases hbd : fb env3 st2 with
          | nx env4 st4 => rw [hbd] at h3; exact fun r4 H4 sg4 e4 R4 En4 => ⟨r4, env4, st4, En4, R4, (e2.trans e3).trans e4, PostS.ext e4 h3⟩
          | ct env4 st4 => rw [hbd] at h3; exact fun r4 H4 sg4 e4 R4 En4 => ⟨r4, env4, st4, En4, R4, (e2.trans e3).trans e4, PostS.ext e4 h3⟩
          | bk env4 st4 => rw [hbd] at h3; exact h3
          | rt d st4 => rw [hbd] at h3; exact h3
          | er x env4 st4 => rw [hbd] at h3; exact h3
          | no => rw [hbd] at h3; exact h3
    · exact h2.elim
end
end DY

/-! What is walked; comprehensions; dicts; attributes. -/
namespace DY
open PySem PySem.Spec PyProof.Rows L2

theorem _root_.L2.PI.or {X : Cx} {tg e : Expr} {t t' : TI} (h : PI X tg e t) (h' : PI X tg e t') : PI X tg e (fun sg H Q => t sg H Q ∨ t' sg H Q) := ⟨fun pins s sg H Q I q => q.elim (h.run pins s sg H Q I) (h'.run pins s sg H Q I)⟩
section
variable {X : Cx} {cl : ClsT} {W : WX} {pos : Pos}
def iSeq (f : SemE) : SemI := fun env st => (f env st).bind fun x st1 => match lst? st1 x with
  | some xs => .ok ⟨xs, fun st2 => lst? st2 x = some xs⟩ st1
  | none => match tup? st1 x with
    | some xs => .ok ⟨xs, fun st2 => tup? st2 x = some xs⟩ st1
    | none => .no
theorem it_list {g : Gd} {Z r : List Addr} {H : Hp} {st : Store} {x : D} {a : Addr} {xs : List D} (h : Rep g Z r H x (.ref a)) : ItOk g Z r H ⟨xs, fun st2 => lst? st2 x = some xs⟩ (Itl g.K a) := by
  intro Z1 r1 H1 st1 i e z R1 hc
  obtain ⟨b, vs, e1, q, s⟩ := lst_ok R1 (Rep.extZ e z h) hc
  cases e1
  refine ⟨fun d hd => ?_, fun hl => ⟨vs, s, by rw [← q.length]; exact hl⟩⟩
  obtain ⟨v, hv, qv⟩ := q.get hd
  refine ⟨⟨vs, v, s, hv⟩, fun y H2 hy => ?_⟩
  obtain ⟨rfl, hx⟩ := hy
  have := hx vs s
  rw [hv] at this; cases this
  exact ⟨Ext.refl _ _, R1, qv⟩
theorem it_tup {g : Gd} {Z r : List Addr} {H : Hp} {st : Store} {x : D} {a : Addr} {xs : List D} (h : Rep g Z r H x (.ref a)) : ItOk g Z r H ⟨xs, fun st2 => tup? st2 x = some xs⟩ (Itt g.K a) := by
  intro Z1 r1 H1 st1 i e z R1 hc
  obtain ⟨b, vs, e1, q, s⟩ := tup_ok R1 (Rep.extZ e z h) hc
  cases e1
  refine ⟨fun d hd => ?_, fun hl => ⟨vs, s, by rw [← q.length]; exact hl⟩⟩
  obtain ⟨v, hv, qv⟩ := q.get hd
  refine ⟨⟨vs, v, s, hv⟩, fun y H2 hy => ?_⟩
  obtain ⟨rfl, hx⟩ := hy
  have := hx vs s
  rw [hv] at this; cases this
  exact ⟨Ext.refl _ _, R1, qv⟩
theorem si_seq {tg e : Expr} {f : SemE} (he : SE X cl W e f) : SI X cl W tg e (iSeq f) := by
  refine ⟨((pi_list he.run).or (pi_tup he.run)).imp fun sg H Q h => ?_⟩
  obtain ⟨Z, r, env, st, En, R, h⟩ := h
  dsimp only [iSeq] at h
  cases hf : f env st with
  | ok x st1 =>
    rw [hf] at h
    dsimp only [Res.bind] at h
    cases hl : lst? st1 x with
    | some xs =>
      rw [hl] at h
      refine .inl ⟨Z, r, env, st, En, R, ?_⟩
      rw [hf]
      intro r1 H1 v e1 R1 q1
      obtain ⟨a, vs, rfl, q, s⟩ := lst_ok R1 q1 hl
      exact ⟨a, rfl, ⟨vs, s⟩, h r1 H1 _ e1 R1 (it_list (st := st1) q1)⟩
    | none =>
      rw [hl] at h
      dsimp only at h
      cases ht : tup? st1 x with
      | some xs =>
        rw [ht] at h
        refine .inr ⟨Z, r, env, st, En, R, ?_⟩
        rw [hf]
        intro r1 H1 v e1 R1 q1
        obtain ⟨a, vs, rfl, q, s⟩ := tup_ok R1 q1 ht
        exact ⟨a, rfl, ⟨vs, s⟩, h r1 H1 _ e1 R1 (it_tup (st := st1) q1)⟩
      | none => rw [ht] at h; exact h.elim
  | er x st1 => rw [hf] at h; exact .inl ⟨Z, r, env, st, En, R, by rw [hf]; exact h⟩
  | no => rw [hf] at h; exact h.elim
/-- lo, lo + 1, .. -/
def rng (lo : Int) (n : Nat) : List D := (List.range n).map fun (i : Nat) => D.int (lo + (i : Int))
theorem it_rng {g : Gd} {Z r : List Addr} {H : Hp} (lo : Int) (n : Nat) : ItOk g Z r H ⟨rng lo n, fun _ => True⟩ (Itr lo n) := by
  intro Z1 r1 H1 st1 i e z R1 hc
  refine ⟨fun d hd => ?_, fun hl => by simpa [rng, Itr] using hl⟩
  have hi : i < n := by
    have := (List.getElem?_eq_some_iff.mp hd).1
    simpa [rng] using this
  refine ⟨hi, fun y H2 hy => ?_⟩
  obtain ⟨rfl, rfl⟩ := hy
  have : d = .int (lo + (i : Int)) := by
    unfold rng at hd
    rw [List.getElem?_map, List.getElem?_range hi] at hd
    exact (Option.some.inj hd).symm
  subst this
  exact ⟨Ext.refl _ _, R1, rfl⟩
def iRange1 (f : SemA) : SemI := fun env st => (f env st).bind fun ds st1 => match ds with
  | [.int j] => if -(2 ^ 62) ≤ j ∧ j < 2 ^ 62 then .ok ⟨rng 0 j.toNat, fun _ => True⟩ st1 else .no
  | _ => .no
def iRange2 (f : SemA) : SemI := fun env st => (f env st).bind fun ds st1 => match ds with
  | [.int i, .int j] => if (-(2 ^ 62) ≤ i ∧ i < 2 ^ 62) ∧ (-(2 ^ 62) ≤ j ∧ j < 2 ^ 62) then .ok ⟨rng i (j - i).toNat, fun _ => True⟩ st1 else .no
  | _ => .no
theorem si_range1 {tg a : Expr} {p : Pos} {f : SemA} (hm : X.mg "range" = none) (ha : SA X cl W [a] f) (hg : Gl X "range" := by rfl) (hs : starEach [a] X.env = [(false, eval a X.env)] := by rfl) : SI X cl W tg (.Call (.Name "range" p) [a] [] pos) (iRange1 f) := by
  refine ⟨(pi_range1 hg hm ha.run hs).imp fun sg H Q ⟨Z, r, env, st, En, R, h⟩ => ⟨Z, r, env, st, En, R, Post.bind h fun ds st1 r1 H1 vs _ e1 R1 q1 h1 => ?_⟩⟩
  split at h1
  · rename_i j _
    split at h1
    · rename_i hc
      obtain ⟨v, q, rfl, a1, rfl⟩ := q1
      exact ⟨j, by rw [show v = .int j from a1], hc.1, hc.2, post_ok h1 R1 (it_rng 0 _)⟩
    · exact h1.elim
  · exact h1.elim
/-- enumerate of a list -/
def enuFrom : Nat → List D → List D
  | _, [] => []
  | i, d :: ds => .nd .tup [.int (i : Nat), d] :: enuFrom (i + 1) ds
theorem enu_get : ∀ (j : Nat) (xs : List D) (i : Nat), (enuFrom j xs)[i]? = xs[i]?.map fun d => .nd .tup [.int ((j + i : Nat) : Int), d]
  | _, [], i => by simp [enuFrom]
  | j, d :: ds, 0 => by simp [enuFrom]
  | j, d :: ds, i + 1 => by
    simp only [enuFrom, List.getElem?_cons_succ, enu_get (j + 1) ds i]
    rw [show j + 1 + i = j + (i + 1) by omega]
theorem enu_len : ∀ (j : Nat) (xs : List D), (enuFrom j xs).length = xs.length
  | _, [] => rfl
  | j, d :: ds => by simp [enuFrom, enu_len (j + 1) ds]
theorem it_enu {g : Gd} {Z r : List Addr} {H : Hp} {x : D} {a : Addr} {xs : List D} (h : Rep g Z r H x (.ref a)) : ItOk g Z r H ⟨enuFrom 0 xs, fun st2 => lst? st2 x = some xs⟩ (Ite g.K a) := by
  intro Z1 r1 H1 st1 i e z R1 hc
  obtain ⟨b, vs, e1, q, s⟩ := lst_ok R1 (Rep.extZ e z h) hc
  cases e1
  refine ⟨fun d hd => ?_, fun hl => ⟨vs, s, by rw [← q.length]; simpa [enu_len] using hl⟩⟩
  dsimp only at hd
  rw [enu_get] at hd
  cases hx : xs[i]? with
  | none => rw [hx] at hd; cases hd
  | some c =>
    rw [hx] at hd
    cases hd
    obtain ⟨v, hv, qv⟩ := q.get hx
    refine ⟨⟨vs, v, s, hv⟩, fun y H2 hy => ?_⟩
    obtain ⟨T, w, rfl, hT, rfl, hw⟩ := hy
    have := hw vs s
    rw [hv] at this; cases this
    refine ⟨Ext.new hT, R1.new hT, ?_⟩
    have := new_tup (vs := [.int (i : Nat), v]) (xs := [.int ((0 + i : Nat) : Int), c]) R1 ⟨_, _, rfl, by simp [Rep], _, _, rfl, qv, rfl⟩ hT
    exact this
/-- zip of two lists -/
def zipD : List D → List D → List D
  | x :: xs, y :: ys => .nd .tup [x, y] :: zipD xs ys
  | _, _ => []
/-- the signs of a text -/
def iText (f : SemE) : SemI := fun env st => (f env st).bind fun x st1 => match x with
  | .str z => .ok ⟨z.cps.toList.map fun c => D.str ⟨#[c]⟩, fun _ => True⟩ st1
  | _ => .no
/-! ### list comprehensions -/
def wipeD (env : DEnv) : List Nat → DEnv
  | [] => env
  | v :: vs => (wipeD env vs).set v none
theorem wipe_env {g : Gd} {Z r : List Addr} {H : Hp} {env : DEnv} {sg : L2.St} (En : EnvR g Z r H env sg) : ∀ vs, EnvR g Z r H (wipeD env vs) (wipe sg vs)
  | [] => En
  | v :: vs => by
    have h := wipe_env En vs
    show EnvR g Z r H ((wipeD env vs).set v none) ((wipe sg vs).set v none)
    refine ⟨by simp [h.len], fun i d hd => ?_⟩
    by_cases e : v = i
    · subst e
      have hl : v < (wipeD env vs).length := by
        have := (List.getElem?_eq_some_iff.mp hd).1
        simpa using this
      rw [List.getElem?_set_self hl] at hd; cases hd
    · rw [List.getElem?_set_ne e] at hd ⊢
      exact h.at_ i d hd
theorem wipe_wipe (sg : L2.St) (vs : List Nat) : wipe (wipe sg vs) vs = wipe sg vs := by
  apply List.ext_getElem?
  intro j
  rw [wipe_get, wipe_get]
  split
  · cases sg[j]? <;> rfl
  · rfl
/-- nothing is raised there -/
def Res.calm {A : Type} : Res A → Res A
  | .er _ _ => .no
  | x => x
/-- the tests -/
def tYesD : SemT := fun _ st => .ok true st
noncomputable def compL (chk : Store → Prop) (tg : DTg) (tst : SemT) (elt : SemE) (own : List Nat) (env : DEnv) : List D → List D → Store → Res (List D)
  | [], acc, st => open Classical in if chk st then .ok acc st else .no
  | d :: ds, acc, st => open Classical in if chk st then (match tg d (wipeD env own) st with
      | some env1 => (match tst env1 st with
        | .ok true st1 => (match elt env1 st1 with
          | .ok y st2 => if acc.length < szL then compL chk tg tst elt own env ds (acc ++ [y]) st2 else .no
          | _ => .no)
        | .ok false st1 => compL chk tg tst elt own env ds acc st1
        | _ => .no)
      | none => .no) else .no
/-- a list that stays -/
noncomputable def dLc (fi : SemI) (tg : DTg) (tst : SemT) (elt : SemE) (own : List Nat) : SemE := fun env st => (fi env st).bind fun it st1 => (compL it.chk tg tst elt own env it.items [] st1).bind fun xs st2 => .ok (.nd .lst xs) st2
/-- a list that will be changed -/
noncomputable def dLcM (fi : SemI) (tg : DTg) (tst : SemT) (elt : SemE) (own : List Nat) : SemE := fun env st => (fi env st).bind fun it st1 => (compL it.chk tg tst elt own env it.items [] st1).bind fun xs st2 => .ok (.h st2.length) (st2 ++ [.nd .lst xs])
abbrev WF : WX := fun _ _ _ _ => False
structure STs (X : Cx) (cl : ClsT) (W : WX) (ifs : List Expr) (f : SemT) : Prop where
  run : PTs X ifs (rdT ⟨X.K, cl⟩ W f)
theorem _root_.L2.PTs.imp {ifs : List Expr} {t t' : TT} (h : PTs X ifs t) (f : ∀ sg H Q, t' sg H Q → t sg H Q) : PTs X ifs t' := ⟨fun pins s sg H Q I q => h.run pins s sg H Q I (f sg H Q q)⟩
theorem sts_nil : STs X cl W [] tYesD := ⟨pts_nil.imp fun sg H Q ⟨Z, r, env, st, En, R, h⟩ => post_ok h R rfl⟩
theorem sts_one {c : Expr} {f : SemT} (h : ST X cl W c f) : STs X cl W [c] f := ⟨pts_one h.run⟩
theorem compL_len {chk : Store → Prop} {tg : DTg} {tst : SemT} {elt : SemE} {own : List Nat} {env : DEnv} : ∀ {ds acc : List D} {st : Store} {xs : List D} {st' : Store}, acc.length ≤ szL → compL chk tg tst elt own env ds acc st = .ok xs st' → xs.length ≤ szL
  | [], acc, st, e, st', hl, h => by
    unfold compL at h; split at h <;> cases h; exact hl
  | d :: ds, acc, st, e, st', hl, h => by
    unfold compL at h
    split at h
    · split at h
      · split at h
        · split at h
          · split at h
            · rename_i hz; exact compL_len (by simp; omega) h
            · cases h
          · cases h
        · exact compL_len hl h
        · cases h
      · cases h
    · cases h
/-- the loop, over the new list at D -/
theorem lc_rd {tg : DTg} {tst : SemT} {elt : SemE} {own ws : List Nat} (hw : ∀ w ∈ ws, w ∈ own) {Z r : List Addr} {H : Hp} {st : Store} {env : DEnv} {sg : L2.St} {it : DIter} {J : It} {Q : VK} (R : Rl ⟨X.K, cl⟩ Z r H st) (En : EnvR ⟨X.K, cl⟩ Z r H env sg) (hJ : ItOk ⟨X.K, cl⟩ Z r H it J)
    {p : Addr} (hp : H p = none)
    (hq : ∀ xs st2 r2 H2 vs, compL it.chk tg tst elt own env it.items [] st = .ok xs st2 → Ext r H r2 H2 → H2 p = some (.lst vs) → Rl ⟨X.K, cl⟩ (p :: Z) r2 H2 st2 → RepL ⟨X.K, cl⟩ (p :: Z) r2 H2 xs vs → Q (.ref p) H2) (hno : compL it.chk tg tst elt own env it.items [] st ≠ .no) :
    ∃ Wn : Nat → Nat → Hp → Prop, (∃ m, Wn 0 m (upd H p (.lst []))) ∧ ∀ i m H', Wn i m H' →
      (J.stop i H' ∧ Q (.ref p) H') ∨ (J.go i H' ∧ ∃ Nx : Hp → Prop, (∀ H', Nx H' → ∃ m', m' < m ∧ Wn (i + 1) m' H') ∧ ∀ x H2, J.yld i H' x H2 → rdG ⟨X.K, cl⟩ ws tg x (wipe sg own) H2 fun sg2 H3 => wipe sg2 own = wipe sg own ∧ rdT ⟨X.K, cl⟩ WF tst sg2 H3 fun b H4 =>
        if b = true then rdE ⟨X.K, cl⟩ WF elt sg2 H4 fun y H5 => ∃ acc, H5 p = some (.lst acc) ∧ acc.length < sizeLine ∧ Nx (upd H5 p (.lst (acc ++ [y]))) else Nx H4) := by
  let g : Gd := ⟨X.K, cl⟩
  have hz : Zs Z H (p :: Z) := fun a m => by
    rcases List.mem_cons.mp m with rfl | m
    · exact .inr hp
    · exact .inl m
  have hpr := R.free hp
  let St : Nat → Hp → Prop := fun i H' => ∃ r' st' acc vs, Ext r H r' H' ∧ H' p = some (.lst vs) ∧ Rl g (p :: Z) r' H' st' ∧ RepL g (p :: Z) r' H' acc vs ∧ acc.length ≤ szL ∧
    compL it.chk tg tst elt own env it.items [] st = compL it.chk tg tst elt own env (it.items.drop i) acc st'
  have R0 : Rl g (p :: Z) r (upd H p (.lst [])) st := by
    have R1 := R.new (o := .lst []) hp
    exact ⟨R1.len, R1.nd, fun a m => by
      rcases List.mem_cons.mp m with rfl | m
      · exact ⟨hpr.2, _, upd_same, nx_lst⟩
      · exact R1.z a m, R1.tb, fun k d e => by
      obtain ⟨a, ea, t, xs, vs, ed, hm, hx⟩ := R.cell k d e
      obtain ⟨u, eu⟩ := hm.some
      exact ⟨a, ea, t, xs, vs, ed, hm.keep (upd_ne (ne_of_none eu hp)), RepL.extZ (Ext.new hp).w hz hx⟩⟩
  refine ⟨fun i m H' => m + i = it.items.length ∧ St i H', ⟨it.items.length, by omega, r, st, [], [], Ext.new hp, upd_same, R0, rfl, by simp, by simp⟩, fun i m H' ⟨hm, r', st', acc, vs, e1, hd, R1, qa, hl, ec⟩ => ?_⟩
  cases hdi : it.items[i]? with
  | none =>
    have hle : it.items.length ≤ i := List.getElem?_eq_none_iff.mp hdi
    rw [List.drop_eq_nil_of_le hle, compL] at ec
    split at ec
    · rename_i hchk
      exact .inl ⟨(hJ (p :: Z) r' H' st' i e1.w hz R1 hchk).2 hle, hq acc st' r' H' vs ec e1 hd R1 qa⟩
    · exact (hno ec).elim
  | some d =>
    rw [drop_cons hdi, compL] at ec
    split at ec
    · rename_i hchk
      obtain ⟨go, yl⟩ := (hJ (p :: Z) r' H' st' i e1.w hz R1 hchk).1 d hdi
      refine .inr ⟨go, St (i + 1), fun H2 h2 => ⟨m - 1, by have := (List.getElem?_eq_some_iff.mp hdi).1; omega, by have := (List.getElem?_eq_some_iff.mp hdi).1; omega, h2⟩, fun x H2 hy => ?_⟩
      obtain ⟨e2, R2, q2⟩ := yl x H2 hy
      have En2 : EnvR g (p :: Z) r' H2 (wipeD env own) (wipe sg own) := wipe_env ⟨En.len, fun i d h => let ⟨v, a, b⟩ := En.at_ i d h; ⟨v, a, Rep.extZ (e1.trans e2).w hz b⟩⟩ own
      refine ⟨p :: Z, r', wipeD env own, st', d, En2, R2, q2, ?_⟩
      cases ht : tg d (wipeD env own) st' with
      | none => rw [ht] at ec; exact (hno ec).elim
      | some env1 =>
        rw [ht] at ec
        dsimp only at ec ⊢
        intro sg3 En3 hw3
        refine ⟨by rw [hw3 own hw, wipe_wipe], ?_⟩
        have hd2 : H2 p = some (.lst vs) := by
          have := e2.keep p _ hd nx_lst.1 (fun z => (R1.z p List.mem_cons_self).1 z)
          exact this.1
        refine ⟨p :: Z, r', env1, st', En3, R2, ?_⟩
        cases hts : tst env1 st' with
        | er x s => rw [hts] at ec; exact (hno ec).elim
        | no => rw [hts] at ec; exact (hno ec).elim
        | ok b st2 =>
          rw [hts] at ec
          intro r3 H3 b' e3 R3 hb
          cases hb
          have hd3 : H3 p = some (.lst vs) := (e3.keep p _ hd2 nx_lst.1 fun z => (R2.z p List.mem_cons_self).1 z).1
          cases b with
          | false =>
            rw [if_neg (by decide)]
            exact ⟨r3, st2, acc, vs, (e1.trans e2).trans e3, hd3, R3, RepL.ext (e2.trans e3) _ qa, hl, ec⟩
          | true =>
            rw [if_pos rfl]
            dsimp only at ec
            refine ⟨p :: Z, r3, env1, st2, En3.ext e3, R3, ?_⟩
            cases hel : elt env1 st2 with
            | er x s => rw [hel] at ec; exact (hno ec).elim
            | no => rw [hel] at ec; exact (hno ec).elim
            | ok y st3 =>
              rw [hel] at ec
              dsimp only at ec
              intro r4 H4 w e4 R4 qw
              have hd4 : H4 p = some (.lst vs) := (e4.keep p _ hd3 nx_lst.1 fun z => (R3.z p List.mem_cons_self).1 z).1
              split at ec
              · rename_i hzl
                have qa4 : RepL g (p :: Z) r4 H4 acc vs := RepL.ext ((e2.trans e3).trans e4) _ qa
                refine ⟨vs, hd4, by rw [← qa4.length]; exact hzl, ?_⟩
                have np : ¬ Nin (p :: Z) r4 p := fun n => n.1 List.mem_cons_self
                refine ⟨r4, st3, acc ++ [y], vs ++ [w], ?_, upd_same, ?_, RepL.off np _ (qa4.append (RepL.one qw)), by simp; omega, ec⟩
                · have e := ((e1.trans e2).trans e3).trans e4
                  exact ⟨e.pre, fun a o h t n => by
                    have ne : a ≠ p := ne_of_none h hp
                    rw [upd_ne ne]; exact e.keep a o h t n⟩
                · refine ⟨R4.len, R4.nd, fun a m => ?_, tabs_upd (fun u e => by rw [hd4] at e; cases e; exact nx_lst) R4.tb, fun k d e => ?_⟩
                  · obtain ⟨n, u, eu, x⟩ := R4.z a m
                    by_cases ha : a = p
                    · subst ha; exact ⟨n, _, upd_same, nx_lst⟩
                    · exact ⟨n, u, by rw [upd_ne ha]; exact eu, x⟩
                  · obtain ⟨a, ea, t, xs, vs', ed, hm, hx⟩ := R4.cell k d e
                    have ha : a ≠ p := fun z => (R4.z p List.mem_cons_self).1 (z ▸ List.mem_of_getElem? ea)
                    exact ⟨a, ea, t, xs, vs', ed, hm.keep (upd_ne ha), RepL.off np _ hx⟩
              · exact (hno ec).elim
    · exact (hno ec).elim
end
end DY

/-! Comprehensions as expressions; dicts; attributes. -/
namespace DY
open PySem PySem.Spec PyProof.Rows L2
section
variable {X : Cx} {cl : ClsT} {W : WX} {pos : Pos}
theorem RepL.less {g : Gd} {Z r : List Addr} {H : Hp} {p : Addr} {ds : List D} {vs : List V} (h : RepL g (p :: Z) r H ds vs) : RepL g Z r H ds vs :=
  RepL.turn (fun a n _ => ⟨fun m => n.1 (List.mem_cons_of_mem _ m), n.2⟩) (fun _ _ q => q) ds h
theorem Rl.less {g : Gd} {Z r : List Addr} {H : Hp} {p : Addr} {st : Store} (h : Rl g (p :: Z) r H st) : Rl g Z r H st :=
  ⟨h.len, h.nd, fun a m => h.z a (List.mem_cons_of_mem _ m), h.tb, fun k d e => let ⟨a, ea, t, xs, vs, ed, hm, hx⟩ := h.cell k d e; ⟨a, ea, t, xs, vs, ed, hm, RepL.less hx⟩⟩
theorem adopt_lst {g : Gd} {Z r : List Addr} {H : Hp} {p : Addr} {xs : List D} {vs : List V} {st : Store} (hz : p ∉ Z) (R : Rl g (p :: Z) r H st) (hp : H p = some (.lst vs)) (hx : RepL g (p :: Z) r H xs vs) : Rep g Z r H (.nd .lst xs) (.ref p) :=
  ⟨p, vs, rfl, ⟨⟨hz, (R.z p List.mem_cons_self).1⟩, hp⟩, RepL.less hx⟩
theorem adoptM {g : Gd} {Z r : List Addr} {H : Hp} {p : Addr} {t : Hd} {xs : List D} {vs : List V} {st : Store} (hz : p ∉ Z) (R : Rl g (p :: Z) r H st) (hp : HatM g H p t vs) (hx : RepL g (p :: Z) r H xs vs) : Rl g Z (r ++ [p]) H (st ++ [.nd t xs]) := by
  have hpr := (R.z p List.mem_cons_self).1
  have up : ∀ {ds : List D} {us : List V}, RepL g (p :: Z) r H ds us → RepL g Z (r ++ [p]) H ds us := fun h =>
    RepL.turn (fun a n _ => ⟨fun m => n.1 (List.mem_cons_of_mem _ m), fun m => by
      rcases List.mem_append.mp m with m | m
      · exact n.2 m
      · exact n.1 (by simp at m; subst m; exact List.mem_cons_self)⟩) (fun k a q => by rw [List.getElem?_append_left (List.getElem?_eq_some_iff.mp q).1]; exact q) _ h
  refine ⟨by simp [R.len], ?_, fun a m => ?_, R.tb, fun k d e => ?_⟩
  · refine List.nodup_append.mpr ⟨R.nd, by simp, ?_⟩
    intro a ha b hb; simp at hb; subst hb; intro e; subst e; exact hpr ha
  · obtain ⟨n, u⟩ := R.z a (List.mem_cons_of_mem _ m)
    have ne : a ≠ p := fun z => hz (z ▸ m)
    exact ⟨by simp [n, ne], u⟩
  · by_cases hk : k < st.length
    · rw [List.getElem?_append_left hk] at e
      obtain ⟨a, ea, t', xs', vs', ed, hm', hx'⟩ := R.cell k d e
      have hk' : k < r.length := by rw [R.len]; exact hk
      exact ⟨a, by rw [List.getElem?_append_left hk']; exact ea, t', xs', vs', ed, hm', up hx'⟩
    · have hk2 : k = st.length := by
        have := (List.getElem?_eq_some_iff.mp e).1
        simp at this; omega
      subst hk2
      simp at e; subst e
      exact ⟨p, by rw [← R.len]; simp, t, xs, vs, rfl, hp, up hx⟩
theorem Ext.adopt {r r2 : List Addr} {H H2 : Hp} {p : Addr} (e : Ext r H r2 H2) (hp : H p = none) : Ext r H (r2 ++ [p]) H2 := by
  obtain ⟨q, eq⟩ := e.pre
  refine ⟨⟨q ++ [p], by rw [eq, List.append_assoc]⟩, fun a o h t n => ?_⟩
  obtain ⟨h1, n1⟩ := e.keep a o h t n
  exact ⟨h1, by simp [n1, ne_of_none h hp]⟩
/-- the comprehension's loop is reached -/
theorem lc_tLc {fi : SemI} {tg : DTg} {tst : SemT} {elt : SemE} {own ws : List Nat} (hw : ∀ w ∈ ws, w ∈ own) {fin : List D → Store → Res D} (sg : L2.St) (H : Hp) (Q : VK)
    (hfin : ∀ Z r H p, H p = none → p ∉ Z → ∀ xs st2 r2 H2 vs, Ext r H r2 H2 → H2 p = some (.lst vs) → Rl ⟨X.K, cl⟩ (p :: Z) r2 H2 st2 → RepL ⟨X.K, cl⟩ (p :: Z) r2 H2 xs vs → ∀ {W' : Value → Option Addr → Hp → Prop}, Post ⟨X.K, cl⟩ Z r H (RV ⟨X.K, cl⟩ Z) (fin xs st2) Q W' → Q (.ref p) H2)
    (h : rdE ⟨X.K, cl⟩ W (fun env st => (fi env st).bind fun it st1 => (compL it.chk tg tst elt own env it.items [] st1).bind fin) sg H Q) :
    tLc (rdI ⟨X.K, cl⟩ W fi) (rdG ⟨X.K, cl⟩ ws tg) (rdT ⟨X.K, cl⟩ WF tst) (rdE ⟨X.K, cl⟩ WF elt) own sg H Q := by
  obtain ⟨Z, r, env, st, En, R, h⟩ := h
  refine ⟨Z, r, env, st, En, R, Post.bind h fun it st1 r1 H1 J _ e1 R1 q1 h1 => fun p hp => ?_⟩
  refine lc_rd (env := env) hw R1 (En.ext e1) q1 hp (fun xs st2 r2 H2 vs hc e2 hd R2 qx => ?_) (fun z => by rw [z] at h1; exact h1)
  rw [hc] at h1
  exact hfin Z r1 H1 p hp (R1.free hp).1 xs st2 r2 H2 vs e2 hd R2 qx h1
theorem fin_lst {xs : List D} {st2 : Store} {Q : VK} (Z r : List Addr) (H : Hp) (p : Addr) (hp : H p = none) (hz : p ∉ Z) (r2 : List Addr) (H2 : Hp) (vs : List V) (e2 : Ext r H r2 H2) (hd : H2 p = some (.lst vs)) (R2 : Rl ⟨X.K, cl⟩ (p :: Z) r2 H2 st2) (qx : RepL ⟨X.K, cl⟩ (p :: Z) r2 H2 xs vs)
    {W' : Value → Option Addr → Hp → Prop} (h : Post ⟨X.K, cl⟩ Z r H (RV ⟨X.K, cl⟩ Z) (.ok (.nd .lst xs) st2) Q W') : Q (.ref p) H2 := h r2 H2 _ e2 R2.less (adopt_lst hz R2 hd qx)
theorem fin_lstM {xs : List D} {st2 : Store} {Q : VK} (Z r : List Addr) (H : Hp) (p : Addr) (hp : H p = none) (hz : p ∉ Z) (r2 : List Addr) (H2 : Hp) (vs : List V) (e2 : Ext r H r2 H2) (hd : H2 p = some (.lst vs)) (R2 : Rl ⟨X.K, cl⟩ (p :: Z) r2 H2 st2) (qx : RepL ⟨X.K, cl⟩ (p :: Z) r2 H2 xs vs)
    {W' : Value → Option Addr → Hp → Prop} (h : Post ⟨X.K, cl⟩ Z r H (RV ⟨X.K, cl⟩ Z) (.ok (.h st2.length) (st2 ++ [.nd .lst xs])) Q W') : Q (.ref p) H2 :=
  h (r2 ++ [p]) H2 _ (e2.adopt hp) (adoptM hz R2 hd qx) ⟨p, rfl, by rw [← R2.len]; simp⟩
section
variable {elt tg iter : Expr} {ifs : List Expr} {scope : Scope} {own : List (Str × Nat)} {fi : SemI} {g : DTg} {tt : SemT} {te : SemE} {ws : List Nat}
theorem se_lc (own : List (Str × Nat)) (hc : X.calm = true) (hN : X.N.Nodup) (hi : SI X cl W tg iter fi) (ok : BlkOk X.N X.env.scope scope own)
    (hg : ∀ (s : Shared) (H : Hp) (C : Addr) (l : List (Str × Addr)) (fp : List Addr), SG (X.blk s H scope (compEnvC scope l C X.env) fp) cl ws tg g) (ht : ∀ (s : Shared) (H : Hp) (C : Addr) (l : List (Str × Addr)) (fp : List Addr), STs (X.blk s H scope (compEnvC scope l C X.env) fp) cl WF ifs tt)
    (he : ∀ (s : Shared) (H : Hp) (C : Addr) (l : List (Str × Addr)) (fp : List Addr), SE (X.blk s H scope (compEnvC scope l C X.env) fp) cl WF elt te) (hw : ∀ w ∈ ws, w ∈ own.map (·.2) := by decide) (hs : ∀ x, foldedSetIterable iter X.env x = pure x := by intro _; rfl) :
    SE X cl W (.ListComp elt [⟨tg, iter, ifs, 0⟩] scope pos) (dLc fi g tt te (own.map (·.2))) :=
  ⟨(pe_lc hc hN hi.run ok (fun s H C l fp => (hg s H C l fp).run) (fun s H C l fp => (ht s H C l fp).run) (fun s H C l fp => (he s H C l fp).run) hs).imp fun sg H Q h => lc_tLc hw sg H Q (fun Z r H p hp hz xs st2 r2 H2 vs e2 hd R2 qx {W'} h => fin_lst Z r H p hp hz r2 H2 vs e2 hd R2 qx h) h⟩
/-- y = [..] of a local, on one line -/
theorem set_lc_rd {i : Nat} {f : SemE} {t : TE} (ht : ∀ sg H Q, rdE ⟨X.K, cl⟩ W f sg H Q → t sg H Q) (E : Ends) (sg : L2.St) (H : Hp) (h : rdS ⟨X.K, cl⟩ W (sSet i f) E sg H) : tAsg t (gName i) E sg H := by
  obtain ⟨Z, r, env, st, En, R, h⟩ := h
  exact ht sg H _ ⟨Z, r, env, st, En, R, PostS.bindE h En fun d st1 r1 H1 v _ e1 R1 q1 h1 => post_nx h1 R1 ((En.ext e1).set i q1)⟩
theorem ss_setLc (i : Nat) (own : List (Str × Nat)) {y : Str} {py : Pos} {cpos : Pos} (hc : X.calm = true) (hN : X.N.Nodup) (hi : SI X cl W tg iter fi) (ok : BlkOk X.N X.env.scope scope own)
    (hg : ∀ (s : Shared) (H : Hp) (C : Addr) (l : List (Str × Addr)) (fp : List Addr), SG (X.blk s H scope (compEnvC scope l C X.env) fp) cl ws tg g) (ht : ∀ (s : Shared) (H : Hp) (C : Addr) (l : List (Str × Addr)) (fp : List Addr), STs (X.blk s H scope (compEnvC scope l C X.env) fp) cl WF ifs tt)
    (he : ∀ (s : Shared) (H : Hp) (C : Addr) (l : List (Str × Addr)) (fp : List Addr), SE (X.blk s H scope (compEnvC scope l C X.env) fp) cl WF elt te) (hy : X.N[i]? = some y := by rfl) (hyl : X.env.scope.names.lookup y = some .local := by rfl)
    (hsw : swapsWith (.ListComp elt [⟨tg, iter, ifs, 0⟩] scope cpos) (some (.Name y py)) pos.line X.env = pure true := by exact sw_true rfl rfl rfl (by decide +kernel)) (hw : ∀ w ∈ ws, w ∈ own.map (·.2) := by decide) (hs : ∀ x, foldedSetIterable iter X.env x = pure x := by intro _; rfl) :
    SS X cl W (.Assign [.Name y py] (.ListComp elt [⟨tg, iter, ifs, 0⟩] scope cpos) pos) (sSet i (dLc fi g tt te (own.map (·.2)))) :=
  ⟨(ps_setLc hc hN hy hyl hsw hi.run ok (fun s H C l fp => (hg s H C l fp).run) (fun s H C l fp => (ht s H C l fp).run) (fun s H C l fp => (he s H C l fp).run) hs).imp fun E sg H h =>
    set_lc_rd (X := X) (cl := cl) (W := W) (i := i) (f := dLc fi g tt te (own.map (·.2))) (t := tLc (rdI ⟨X.K, cl⟩ W fi) (rdG ⟨X.K, cl⟩ ws g) (rdT ⟨X.K, cl⟩ WF tt) (rdE ⟨X.K, cl⟩ WF te) (own.map (·.2))) (fun sg H Q h => lc_tLc hw sg H Q (fun Z r H p hp hz xs st2 r2 H2 vs e2 hd R2 qx {W'} h => fin_lst Z r H p hp hz r2 H2 vs e2 hd R2 qx h) h) E sg H h⟩
theorem ss_setLcM (i : Nat) (own : List (Str × Nat)) {y : Str} {py : Pos} {cpos : Pos} (hc : X.calm = true) (hN : X.N.Nodup) (hi : SI X cl W tg iter fi) (ok : BlkOk X.N X.env.scope scope own)
    (hg : ∀ (s : Shared) (H : Hp) (C : Addr) (l : List (Str × Addr)) (fp : List Addr), SG (X.blk s H scope (compEnvC scope l C X.env) fp) cl ws tg g) (ht : ∀ (s : Shared) (H : Hp) (C : Addr) (l : List (Str × Addr)) (fp : List Addr), STs (X.blk s H scope (compEnvC scope l C X.env) fp) cl WF ifs tt)
    (he : ∀ (s : Shared) (H : Hp) (C : Addr) (l : List (Str × Addr)) (fp : List Addr), SE (X.blk s H scope (compEnvC scope l C X.env) fp) cl WF elt te) (hy : X.N[i]? = some y := by rfl) (hyl : X.env.scope.names.lookup y = some .local := by rfl)
    (hsw : swapsWith (.ListComp elt [⟨tg, iter, ifs, 0⟩] scope cpos) (some (.Name y py)) pos.line X.env = pure true := by exact sw_true rfl rfl rfl (by decide +kernel)) (hw : ∀ w ∈ ws, w ∈ own.map (·.2) := by decide) (hs : ∀ x, foldedSetIterable iter X.env x = pure x := by intro _; rfl) :
    SS X cl W (.Assign [.Name y py] (.ListComp elt [⟨tg, iter, ifs, 0⟩] scope cpos) pos) (sSet i (dLcM fi g tt te (own.map (·.2)))) :=
  ⟨(ps_setLc hc hN hy hyl hsw hi.run ok (fun s H C l fp => (hg s H C l fp).run) (fun s H C l fp => (ht s H C l fp).run) (fun s H C l fp => (he s H C l fp).run) hs).imp fun E sg H h =>
    set_lc_rd (X := X) (cl := cl) (W := W) (i := i) (f := dLcM fi g tt te (own.map (·.2))) (t := tLc (rdI ⟨X.K, cl⟩ W fi) (rdG ⟨X.K, cl⟩ ws g) (rdT ⟨X.K, cl⟩ WF tt) (rdE ⟨X.K, cl⟩ WF te) (own.map (·.2))) (fun sg H Q h => lc_tLc hw sg H Q (fun Z r H p hp hz xs st2 r2 H2 vs e2 hd R2 qx {W'} h => fin_lstM Z r H p hp hz r2 H2 vs e2 hd R2 qx h) h) E sg H h⟩
end

/-! ### dicts -/
def dGet (hint : Nat) (x y : D) (st : Store) : Res D :=
  match seen st x with
  | some (.dk ks, vs) => match key? y with
    | some k => match kAt hint ks k with
      | some i => match vs[i]? with
        | some d => .ok d st
        | none => .no
      | none => .no
    | none => .no
  | some (.dt ks, vs) => match y with
    | .nd .tup zs => match keys? zs with
      | some k => match kAt hint ks k with
        | some i => match vs[i]? with
          | some d => .ok d st
          | none => .no
        | none => .no
      | none => .no
    | _ => .no
  | _ => .no
theorem dk_at {g : Gd} {Z r : List Addr} {H : Hp} {a : Addr} {ks : List Key} {vs : List V} (h : Hat g Z r H a (.dk ks) vs ∨ HatM g H a (.dk ks) vs) : (ks.length = vs.length ∧ ks.Nodup) ∧ H a = some (.dK (ks.zip vs)) := by
  rcases h with h | h
  · exact h.2
  · exact h
theorem dt_at {g : Gd} {Z r : List Addr} {H : Hp} {a : Addr} {ks : List (List Key)} {vs : List V} (h : Hat g Z r H a (.dt ks) vs ∨ HatM g H a (.dt ks) vs) : (ks.length = vs.length ∧ ks.Nodup) ∧ H a = some (.dT (ks.zip vs)) := by
  rcases h with h | h
  · exact h.2
  · exact h
theorem ins_at {g : Gd} {Z r : List Addr} {H : Hp} {a : Addr} {c : Nat} {ns : List Str} {vs : List V} (h : Hat g Z r H a (.ins c ns) vs ∨ HatM g H a (.ins c ns) vs) : (ns.length = vs.length ∧ ns.Nodup) ∧ ∃ dx, H a = some (.ins (g.cls c) dx (ns.zip vs)) := by
  rcases h with h | h
  · exact h.2
  · exact h
variable {a b e : Expr} {fa fb fe : SemE}
theorem dget_ok {Z r : List Addr} {H : Hp} {st : Store} {x y : D} {v u : V} {hint : Nat} {Q : VK} {W' : Value → Option Addr → Hp → Prop} (R : Rl ⟨X.K, cl⟩ Z r H st) (hx : Rep ⟨X.K, cl⟩ Z r H x v) (hy : Rep ⟨X.K, cl⟩ Z r H y u)
    (h : Post ⟨X.K, cl⟩ Z r H (RV ⟨X.K, cl⟩ Z) (dGet hint x y st) Q W') : ∃ a w, v = .ref a ∧ DGet H a u (some w) ∧ Q w H := by
  unfold dGet at h
  split at h
  · rename_i ks vs hs
    obtain ⟨p, us, rfl, q, s⟩ := seen_ok R hx hs
    obtain ⟨hl, hd⟩ := dk_at s
    split at h
    · rename_i k hk
      split at h
      · rename_i i hi
        split at h
        · rename_i d hdi
          obtain ⟨w, hw, qw⟩ := q.get hdi
          refine ⟨p, w, rfl, ?_, post_ok h R qw⟩
          have := DGet.k (k := k) hd
          rw [valV_zip hl.2 (kAt_get hi), hw] at this
          rw [key_ok hk hy]; exact this
        · exact h.elim
      · exact h.elim
    · exact h.elim
  · rename_i ks vs hs
    obtain ⟨p, us, rfl, q, s⟩ := seen_ok R hx hs
    obtain ⟨hl, hd⟩ := dt_at s
    split at h
    · rename_i zs
      split at h
      · rename_i k hk
        split at h
        · rename_i i hi
          split at h
          · rename_i d hdi
            obtain ⟨w, hw, qw⟩ := q.get hdi
            obtain ⟨b, ys, rfl, hb, qy⟩ := hy
            refine ⟨p, w, rfl, ?_, post_ok h R qw⟩
            have hb' : H b = some (.tup (k.map kV)) := by rw [← keys_ok hk qy]; exact hb.2
            have := DGet.t (k := k) hd hb'
            rw [valV_zip hl.2 (kAt_get hi), hw] at this
            exact this
          · exact h.elim
        · exact h.elim
      · exact h.elim
    · exact h.elim
  · exact h.elim
theorem se_dget (hint : Nat) (hu : X.A.units + 1 < cLine) (ha : SE X cl W a fa) (hb : SE X cl W b fb) (hs : NoSl b := by exact fun _ _ => rfl) : SE X cl W (.Subscript a b pos) (dBin (dGet hint) fa fb) := by
  refine ⟨(pe_dget hu ha.run hb.run hs).imp fun sg H Q ⟨Z, r, env, st, E, R, h⟩ => ?_⟩
  refine ⟨Z, r, env, st, E, R, Post.bind h fun x st1 r1 H1 v _ e1 R1 q1 h1 => ?_⟩
  refine ⟨Z, r1, env, st1, E.ext e1, R1, Post.bind h1 fun y st2 r2 H2 u _ e2 R2 q2 h2 => ?_⟩
  exact dget_ok R2 (Rep.ext e2 x q1) q2 h2
/-- the store behind d[k] = v -/
def putD (hint : Nat) (x y v : D) (st : Store) : Option Store :=
  match x with
  | .h j => match st[j]? with
    | some (.nd (.dk ks) vs) => match key? y with
      | some k => if vs.length < szL then (match kAt hint ks k with
        | some i => some (st.set j (.nd (.dk ks) (vs.set i v)))
        | none => some (st.set j (.nd (.dk (ks ++ [k])) (vs ++ [v])))) else none
      | none => none
    | some (.nd (.dt ks) vs) => match y with
      | .nd .tup zs => match keys? zs with
        | some k => if vs.length < szL then (match kAt hint ks k with
          | some i => some (st.set j (.nd (.dt ks) (vs.set i v)))
          | none => some (st.set j (.nd (.dt (ks ++ [k])) (vs ++ [v])))) else none
        | none => none
      | _ => none
    | _ => none
  | _ => none
def sDPut (hint : Nat) (fa fb fe : SemE) : SemS := fun env st => bindE (fe env st) env fun v st1 => bindE (fa env st1) env fun x st2 => bindE (fb env st2) env fun y st3 => match putD hint x y v st3 with
  | some st4 => .nx env st4
  | none => .no
theorem put_ok {g : Gd} {Z r : List Addr} {H : Hp} {st st' : Store} {x y d : D} {v u w : V} {hint : Nat} (R : Rl g Z r H st) (hx : Rep g Z r H x v) (hy : Rep g Z r H y u) (hd : Rep g Z r H d w) (e : putD hint x y d st = some st') :
    ∃ a H', v = .ref a ∧ DPut H a u w H' ∧ Ext r H r H' ∧ Rl g Z r H' st' := by
  unfold putD at e
  split at e
  · rename_i j
    obtain ⟨a, rfl, ea⟩ := hx
    split at e
    · rename_i ks vs hs
      obtain ⟨b, eb, t, xs, us, ed, hm, hu⟩ := R.cell j _ hs
      cases ed
      rw [ea] at eb; cases eb
      obtain ⟨hl, hH⟩ := hm
      split at e
      · rename_i k hk
        split at e
        · rename_i hz
          have hlen := hu.length
          have hzz : (ks.zip us).length < sizeLine := by rw [List.length_zip, hl.1]; simp; rw [← hlen]; exact hz
          have hp := DPut.k (k := k) (v := w) hH hzz
          rw [← key_ok hk hy] at hp
          split at e
          · rename_i i hi
            cases e
            rw [putK_zip hl.2 hl.1 (kAt_get hi)] at hp
            exact ⟨a, _, rfl, hp, Ext.write ea, R.write ea (show HatM g _ a (.dk ks) _ from ⟨⟨by simp [hl.1], hl.2⟩, upd_same⟩) (RepL.set hd i hu)⟩
          · rename_i hi
            cases e
            rw [putK_zip_new hl.1 (kAt_none hi)] at hp
            refine ⟨a, _, rfl, hp, Ext.write ea, R.write ea (show HatM g _ a (.dk (ks ++ [k])) _ from ⟨⟨by simp [hl.1], ?_⟩, upd_same⟩) (RepL.append hu (RepL.one hd))⟩
            exact nd_snoc hl.2 (kAt_none hi)
        · cases e
      · cases e
    · rename_i ks vs hs
      obtain ⟨b, eb, t, xs, us, ed, hm, hu⟩ := R.cell j _ hs
      cases ed
      rw [ea] at eb; cases eb
      obtain ⟨hl, hH⟩ := hm
      split at e
      · rename_i zs
        split at e
        · rename_i k hk
          split at e
          · rename_i hz
            have hlen := hu.length
            have hzz : (ks.zip us).length < sizeLine := by rw [List.length_zip, hl.1]; simp; rw [← hlen]; exact hz
            obtain ⟨c, ys, rfl, hc, qy⟩ := hy
            have hc' : H c = some (.tup (k.map kV)) := by rw [← keys_ok hk qy]; exact hc.2
            have hp := DPut.t (k := k) (v := w) hH hc' hzz
            split at e
            · rename_i i hi
              cases e
              rw [putK_zip hl.2 hl.1 (kAt_get hi)] at hp
              exact ⟨a, _, rfl, hp, Ext.write ea, R.write ea (show HatM g _ a (.dt ks) _ from ⟨⟨by simp [hl.1], hl.2⟩, upd_same⟩) (RepL.set hd i hu)⟩
            · rename_i hi
              cases e
              rw [putK_zip_new hl.1 (kAt_none hi)] at hp
              refine ⟨a, _, rfl, hp, Ext.write ea, R.write ea (show HatM g _ a (.dt (ks ++ [k])) _ from ⟨⟨by simp [hl.1], ?_⟩, upd_same⟩) (RepL.append hu (RepL.one hd))⟩
              exact nd_snoc hl.2 (kAt_none hi)
          · cases e
        · cases e
      · cases e
    · cases e
  · cases e
theorem ss_dput (hint : Nat) {pos' : Pos} (hu : X.A.units + 1 < cLine) (ha : SE X cl W a fa) (hb : SE X cl W b fb) (he : SE X cl W e fe) (hs : swapsWith e (some (.Subscript a b pos')) pos.line X.env = pure false := by rfl) : SS X cl W (.Assign [.Subscript a b pos'] e pos) (sDPut hint fa fb fe) := by
  refine ⟨(ps_dput hu ha.run hb.run he.run hs).imp fun E sg H ⟨Z, r, env, st, En, R, h⟩ => ⟨Z, r, env, st, En, R, PostS.bindE h En fun v st1 r1 H1 vv _ e1 R1 q1 h1 => ?_⟩⟩
  refine ⟨Z, r1, env, st1, En.ext e1, R1, PostS.bindE h1 (En.ext e1) fun x st2 r2 H2 xv _ e2 R2 q2 h2 => ?_⟩
  refine ⟨Z, r2, env, st2, En.ext (e1.trans e2), R2, PostS.bindE h2 (En.ext (e1.trans e2)) fun y st3 r3 H3 yv _ e3 R3 q3 h3 => ?_⟩
  split at h3
  · rename_i st4 hp
    obtain ⟨p, H4, rfl, hd, e4, R4⟩ := put_ok R3 (Rep.ext e3 x q2) q3 (Rep.ext (e2.trans e3) v q1) hp
    exact ⟨p, H4, rfl, hd, h3 r3 H4 sg e4 R4 (En.ext (((e1.trans e2).trans e3).trans e4))⟩
  · exact h3.elim
end
end DY

/-! Attributes; calls of one's own and of built-in things. -/
namespace DY
open PySem PySem.Spec PyProof.Rows L2

/-! ### attributes -/
theorem lookup_zip {ns : List Str} {vs : List V} {i : Nat} {f : Str} (n : ns.Nodup) (e : ns[i]? = some f) : (ns.zip vs).lookup f = vs[i]? := by
  induction ns generalizing vs i with
  | nil => simp at e
  | cons k ks ih =>
    cases vs with
    | nil => simp
    | cons v vs =>
      cases i with
      | zero => simp at e; subst e; simp [List.lookup]
      | succ i =>
        simp at e
        have ne : ¬ f = k := fun z => (List.nodup_cons.mp n).1 (z ▸ List.mem_of_getElem? e)
        have : (f == k) = false := by simpa using ne
        simp only [List.zip_cons_cons, List.lookup, this, List.getElem?_cons_succ]
        exact ih (List.nodup_cons.mp n).2 e
theorem lookup_zip_none {ns : List Str} {vs : List V} {f : Str} (n : f ∉ ns) : (ns.zip vs).lookup f = none := by
  induction ns generalizing vs with
  | nil => simp
  | cons k ks ih =>
    cases vs with
    | nil => simp
    | cons v vs =>
      simp at n
      have : (f == k) = false := by simpa using n.1
      simp only [List.zip_cons_cons, List.lookup, this]
      exact ih n.2
theorem putF_zip {ns : List Str} {vs : List V} {i : Nat} {f : Str} {y : V} (n : ns.Nodup) (l : ns.length = vs.length) (e : ns[i]? = some f) : putF f y (ns.zip vs) = ns.zip (vs.set i y) := by
  induction ns generalizing vs i with
  | nil => simp at e
  | cons k ks ih =>
    cases vs with
    | nil => simp at l
    | cons v vs =>
      cases i with
      | zero => simp at e; subst e; simp [putF]
      | succ i =>
        simp at e
        have ne : ¬ k = f := fun z => (List.nodup_cons.mp n).1 (z ▸ List.mem_of_getElem? e)
        simp only [List.zip_cons_cons, putF, if_neg ne, List.set_cons_succ]
        rw [ih (List.nodup_cons.mp n).2 (by simpa using l) e]
theorem putF_zip_new {ns : List Str} {vs : List V} {f : Str} {y : V} (l : ns.length = vs.length) (e : f ∉ ns) : putF f y (ns.zip vs) = (ns ++ [f]).zip (vs ++ [y]) := by
  induction ns generalizing vs with
  | nil => cases vs with
    | nil => rfl
    | cons v vs => simp at l
  | cons k ks ih =>
    cases vs with
    | nil => simp at l
    | cons v vs =>
      simp at e
      simp only [List.zip_cons_cons, putF, if_neg (fun z : k = f => e.1 z.symm), List.cons_append]
      rw [ih (by simpa using l) e.2]
section
variable {X : Cx} {cl : ClsT} {W : WX} {pos : Pos}
def dAttr (c hint : Nat) (f : Str) (x : D) (st : Store) : Res D :=
  match seen st x with
  | some (.ins c' ns, vs) => if c' = c then (match kAt hint ns f with
    | some i => match vs[i]? with
      | some d => .ok d st
      | none => .no
    | none => .no) else .no
  | _ => .no
variable {o e : Expr} {fo fe : SemE} {f : Str} {c hint : Nat}
theorem se_attr (c hint : Nat) (hc : Cls X.K (cl c)) (hf : NoAttr X.K (cl c) f) (ho : SE X cl W o fo) (hb : attributeBase o f X.env (eval o X.env) = eval o X.env := by rfl) : SE X cl W (.Attribute o f pos) (fun env st => (fo env st).bind (dAttr c hint f)) := by
  refine ⟨(pe_fld ho.run hb).imp fun sg H Q ⟨Z, r, env, st, E, R, h⟩ => ?_⟩
  refine ⟨Z, r, env, st, E, R, Post.bind h fun x st1 r1 H1 v _ e1 R1 q1 h1 => ?_⟩
  unfold dAttr at h1
  split at h1
  · rename_i c' ns vs hs
    split at h1
    · rename_i hcc
      subst hcc
      split at h1
      · rename_i i hi
        split at h1
        · rename_i d hd
          obtain ⟨a, us, rfl, q, s⟩ := seen_ok R1 q1 hs
          obtain ⟨hl, dx, ha⟩ := ins_at s
          obtain ⟨w, hw, qw⟩ := q.get hd
          exact ⟨a, _, dx, _, w, rfl, ha, hc, hf, by rw [lookup_zip hl.2 (kAt_get hi)]; exact hw, post_ok h1 R1 qw⟩
        · exact h1.elim
      · exact h1.elim
    · exact h1.elim
  · exact h1.elim
/-- the store behind x.f = v -/
def putA (c hint : Nat) (f : Str) (x v : D) (st : Store) : Option Store :=
  match x with
  | .h j => match st[j]? with
    | some (.nd (.ins c' ns) vs) => if c' = c ∧ vs.length < 1000 then (match kAt hint ns f with
      | some i => some (st.set j (.nd (.ins c' ns) (vs.set i v)))
      | none => some (st.set j (.nd (.ins c' (ns ++ [f])) (vs ++ [v])))) else none
    | _ => none
  | _ => none
def sAttr (c hint : Nat) (f : Str) (fo fe : SemE) : SemS := fun env st => bindE (fe env st) env fun v st1 => bindE (fo env st1) env fun x st2 => match putA c hint f x v st2 with
  | some st3 => .nx env st3
  | none => .no
theorem ss_attr (c hint : Nat) {pos' : Pos} (hc : Cls X.K (cl c)) (hf : NoAttr X.K (cl c) f) (ho : SE X cl W o fo) (he : SE X cl W e fe) (hs : swapsWith e (some (.Attribute o f pos')) pos.line X.env = pure false := by rfl) : SS X cl W (.Assign [.Attribute o f pos'] e pos) (sAttr c hint f fo fe) := by
  refine ⟨(ps_fld ho.run he.run hs).imp fun E sg H ⟨Z, r, env, st, En, R, h⟩ => ⟨Z, r, env, st, En, R, PostS.bindE h En fun v st1 r1 H1 vv _ e1 R1 q1 h1 => ?_⟩⟩
  refine ⟨Z, r1, env, st1, En.ext e1, R1, PostS.bindE h1 (En.ext e1) fun x st2 r2 H2 xv _ e2 R2 q2 h2 => ?_⟩
  split at h2
  · rename_i st3 hp
    unfold putA at hp
    split at hp
    · rename_i j _
      obtain ⟨a, rfl, ea⟩ := q2
      split at hp
      · rename_i c' ns vs hs'
        split at hp
        · rename_i hcc
          obtain ⟨rfl, hlen⟩ := hcc
          obtain ⟨b, eb, t, xs, us, ed, hm, hu⟩ := R2.cell j _ hs'
          cases ed
          rw [ea] at eb; cases eb
          obtain ⟨hl, dx, ha⟩ := hm
          have hsz : (ns.zip us).length < 1000 := by rw [List.length_zip, hl.1, Nat.min_self, ← hu.length]; exact hlen
          refine ⟨a, _, dx, _, rfl, ha, hc, hf, hsz, ?_⟩
          have qv := Rep.ext e2 v q1
          split at hp
          · rename_i i hi
            cases hp
            rw [putF_zip hl.2 hl.1 (kAt_get hi)]
            exact h2 r2 _ sg (Ext.write ea) (R2.write ea (show HatM ⟨X.K, cl⟩ _ a (.ins c' ns) _ from ⟨⟨by simp [hl.1], hl.2⟩, dx, upd_same⟩) (RepL.set qv i hu)) (En.ext ((e1.trans e2).trans (Ext.write ea)))
          · rename_i hi
            cases hp
            rw [putF_zip_new hl.1 (kAt_none hi)]
            refine h2 r2 _ sg (Ext.write ea) (R2.write ea (show HatM ⟨X.K, cl⟩ _ a (.ins c' (ns ++ [f])) _ from ⟨⟨by simp [hl.1], ?_⟩, dx, upd_same⟩) (RepL.append hu (RepL.one qv))) (En.ext ((e1.trans e2).trans (Ext.write ea)))
            exact nd_snoc hl.2 (kAt_none hi)
        · cases hp
      · cases hp
    · cases hp
  · exact h2.elim

/-! ### calls -/
abbrev SemF := List D → Store → Res D
def rdC (g : Gd) (W : WX) (F : SemF) (vs : List V) (sg : L2.St) (H : Hp) (Q : VK) : Prop := ∃ Z r st ds, RepL g Z r H ds vs ∧ Rl g Z r H st ∧ Post g Z r H (RV g Z) (F ds st) Q (fun c d H' => W c d sg H')
/-- how a call ends -/
def RcP (X : Cx) (pins : List (Addr × Obj)) (sg : L2.St) (Q : VK) (q : Result) (s' : Shared) : Prop := match q with
  | .ok (.ret v) => EP X pins sg Q v s'
  | .ok _ => False
  | .error e => X.xe e s'
/-- u, called, computes F -/
structure CalF (X : Cx) (cl : ClsT) (W : WX) (u : Value) (F : SemF) : Prop where
  code : ∀ (pins : List (Addr × Obj)) (s : Shared) (sg : L2.St) (H : Hp) (Q : VK) (vs : List V) (us : List Value), Inv X pins sg H s → Vals vs us → rdC ⟨X.K, cl⟩ W F vs sg H Q → codeAny (model X.prog X.w) X.A (.call u ⟨us, []⟩) (RcP X pins sg Q) s
theorem wp_code {pins : List (Addr × Obj)} {sg : L2.St} {Q : VK} {s : Shared} {u : Value} {us : List Value} (h : codeAny (model X.prog X.w) X.A (.call u ⟨us, []⟩) (RcP X pins sg Q) s) : wpAny (model X.prog X.w) X.A (call u us) (EP X pins sg Q) X.xe s := by
  refine wpAny_call (codeAny_mono h fun q s' hq => ?_)
  cases q with
  | error e => exact hq
  | ok fl =>
    cases fl with
    | ret u => exact hq
    | next => exact False.elim hq
    | brk => exact False.elim hq
    | cont => exact False.elim hq
theorem CalF.run {u : Value} {F : SemF} (h : CalF X cl W u F) (pins : List (Addr × Obj)) (s : Shared) (sg : L2.St) (H : Hp) (Q : VK) (vs : List V) (us : List Value) (I : Inv X pins sg H s) (r : Vals vs us) (q : rdC ⟨X.K, cl⟩ W F vs sg H Q) : wpAny (model X.prog X.w) X.A (call u us) (EP X pins sg Q) X.xe s :=
  wp_code (h.code pins s sg H Q vs us I r q)
def dCall (F : SemF) (fa : SemA) : SemE := fun env st => (fa env st).bind fun ds st1 => F ds st1
variable {x : Str} {p : Pos} {es : List Expr} {fa : SemA} {u : Value} {F : SemF}
/-- f(e, ..), f a def or a class of the module -/
theorem se_call {a : Addr} (hF : CalF X cl W (.ref a) F) (hm : X.mg x = some (.ref a)) (hk : PySem.W.keepIn X.K (.ref a) = true) (ha : SA X cl W (e :: es) fa) (hg : Gl X x := by rfl) (hdb : (x == ("__debug__" : Str)) = false := by decide +kernel)
    (he : starEach (e :: es) X.env = (false, eval e X.env) :: starEach es X.env := by rfl) (hpl : (backTo pos (starEach es X.env)).any (·.1) = false := by rfl) : SE X cl W (.Call (.Name x p) (e :: es) [] pos) (dCall F fa) := by
  refine ⟨⟨fun pins s sg H Q I h => ?_⟩⟩
  refine wpAny_Call_Name_kw (ld_glob I hg hm ?_ hdb)
  have h' : rdA ⟨X.K, cl⟩ W fa sg H fun vs H1 => rdC ⟨X.K, cl⟩ W F vs sg H1 Q := by
    obtain ⟨Z, r, env, st, E, R, h⟩ := h
    exact ⟨Z, r, env, st, E, R, Post.bind h fun ds st1 r1 H1 vs _ e1 R1 q1 h1 => ⟨Z, r1, st1, ds, q1, R1, h1⟩⟩
  refine PySem.W.callWith_K (h₀ := X.base) I.ok.mod.kin hk (thn (ha.run.run pos pins s sg H _ I h') fun us s1 ⟨vs, H1, I1, rv, q⟩ => ⟨I1.kIn, ?_⟩) he hpl
  exact hF.run pins s1 sg H1 Q vs us I1 rv q
/-- o.m(e, ..), o an instance of the class c -/
def dMeth (c : Nat) (m : Str) (F : SemF) (fo : SemE) (fa : SemA) : SemE := fun env st => (fo env st).bind fun x st1 => match seen st1 x with
  | some (.ins c' ns, _) => if c' = c ∧ m ∉ ns then (fa env st1).bind fun ds st2 => F (x :: ds) st2 else .no
  | _ => .no
variable {m : Str} {apos : Pos}
theorem meth_rd {F : SemF} {fo : SemE} {fa : SemA} {t : TA} (ht : ∀ sg H Q, rdA ⟨X.K, cl⟩ W fa sg H Q → t sg H Q) (sg : L2.St) (H : Hp) (Q : VK) (h : rdE ⟨X.K, cl⟩ W (dMeth c m F fo fa) sg H Q) :
    rdE ⟨X.K, cl⟩ W fo sg H fun x H1 => ∃ a dx fs, x = .ref a ∧ H1 a = some (.ins (cl c) dx fs) ∧ fs.lookup m = none ∧ t sg H1 fun vs H2 => rdC ⟨X.K, cl⟩ W F (x :: vs) sg H2 Q := by
  obtain ⟨Z, r, env, st, E, R, h⟩ := h
  refine ⟨Z, r, env, st, E, R, Post.bind h fun x st1 r1 H1 v _ e1 R1 q1 h1 => ?_⟩
  split at h1
  · rename_i c' ns vs hs
    split at h1
    · rename_i hcc
      obtain ⟨rfl, hn⟩ := hcc
      obtain ⟨a, us, rfl, q, s⟩ := seen_ok R1 q1 hs
      obtain ⟨hl, dx, ha⟩ := ins_at s
      refine ⟨a, dx, _, rfl, ha, lookup_zip_none hn, ht sg H1 _ ⟨Z, r1, env, st1, E.ext e1, R1, Post.bind h1 fun ds st2 r2 H2 vs _ e2 R2 q2 h2 => ?_⟩⟩
      exact ⟨Z, r2, st2, x :: ds, ⟨_, _, rfl, Rep.ext e2 x q1, q2⟩, R2, h2⟩
    · exact h1.elim
  · exact h1.elim
theorem se_meth {g : Addr} {pl : Sem Bool} (c : Nat) (hc : Cls X.K (cl c)) (hm : Meth X.K (cl c) m g) (hF : CalF X cl W (.ref g) F) (ho : SE X cl W o fo) (ha : SA X cl W (e :: es) fa)
    (hst : starEach (e :: es) X.env = (false, eval e X.env) :: starEach es X.env := by rfl) (hpl : (backTo pos (starEach es X.env)).any (·.1) = false := by rfl)
    (ht : eval (.Call (.Attribute o m apos) (e :: es) [] pos) X.env = (do
      let ov ← eval o X.env
      standAt apos.atName
      let (f, first) ← holding [ov] (getMethod ov m pl)
      callWith pos f first (backTo pos (starEach (e :: es) X.env)) (backToKw pos (keywordEach [] X.env))) := by rfl) : SE X cl W (.Call (.Attribute o m apos) (e :: es) [] pos) (dMeth c m F fo fa) := by
  refine ⟨⟨fun pins s sg H Q I h => ?_⟩⟩
  have h' := meth_rd (t := rdA ⟨X.K, cl⟩ W fa) (fun _ _ _ q => q) sg H Q h
  refine PySem.W.methodCall_KW (pl := pl) (thn (ho.run.run pins s sg H _ I h') fun u s1 ⟨x, H1, I1, rx, a, dx, fs, ex, ea, l, q⟩ => ?_) ht
  subst ex
  obtain rfl : u = Value.ref a := rx
  refine getmeth_ok I1 ea hc hm l ?_
  refine PySem.W.callWith_K (first := [.ref a]) (h₀ := X.base) I.ok.mod.kin hm.kp (thn (ha.run.run pos pins s1 sg H1 _ I1 q) fun us s2 ⟨vs, H2, I2, rv, q2⟩ => ⟨I2.kIn, ?_⟩) hst hpl
  exact hF.run pins s2 sg H2 Q (.ref a :: vs) (.ref a :: us) I2 (.cons rfl rv) q2
theorem se_meth0 {g : Addr} {pl : Sem Bool} (c : Nat) (hc : Cls X.K (cl c)) (hm : Meth X.K (cl c) m g) (hF : CalF X cl W (.ref g) F) (ho : SE X cl W o fo)
    (ht : eval (.Call (.Attribute o m apos) [] [] pos) X.env = (do
      let ov ← eval o X.env
      standAt apos.atName
      let (f, first) ← holding [ov] (getMethod ov m pl)
      callWith pos f first (backTo pos (starEach [] X.env)) (backToKw pos (keywordEach [] X.env))) := by rfl) : SE X cl W (.Call (.Attribute o m apos) [] [] pos) (dMeth c m F fo dNil) := by
  refine ⟨⟨fun pins s sg H Q I h => ?_⟩⟩
  have h' := meth_rd (t := tNil) (fun sg H Q ⟨Z, r, env, st, E, R, h⟩ => post_ok h R rfl) sg H Q h
  refine PySem.W.methodCall_KW (pl := pl) (thn (ho.run.run pins s sg H _ I h') fun u s1 ⟨x, H1, I1, rx, a, dx, fs, ex, ea, l, q⟩ => ?_) ht
  subst ex
  obtain rfl : u = Value.ref a := rx
  refine getmeth_ok I1 ea hc hm l ?_
  exact PySem.W.callWith_K0 (first := [.ref a]) I1.kIn hm.kp (hF.run pins s1 sg H1 Q [.ref a] [.ref a] I1 (.cons rfl .nil) q)
end

/-! ### defs -/
section
variable {P : Program} {w : World} {K : PySem.W.Frag} {mg : Str → Option Value} {base : Heap}
/-- a def keeps its promise, where no repr runs around -/
structure FnG (P : Program) (w : World) (K : PySem.W.Frag) (mg : Str → Option Value) (base : Heap) (k : Nat) (f : Addr) (fd : FuncData) (ps : List Str) (sp : Sp) : Prop where
  len : ∀ vs H Q E, sp vs H Q E → vs.length = ps.length
  run : ∀ (A : Around) (outer : List Env) (s : Shared) (H : Hp) (args : Args) (us : List Value) (vs : List V) (Q : VK) (E : XK), Room k A → A.guards = some [] → Env0 P w K mg base A outer s H → BindsTo s fd args (ps.zip us) → Vals vs us → sp vs H Q E →
    codeAny (model P w) A (.call (.ref f) args) (CR (L2.CX P w) outer P w H s Q E) s
/-- the promise to compute F, of n arguments -/
def spF (g : Gd) (n : Nat) (F : SemF) : Sp := fun vs H Q E => vs.length = n ∧ ∃ Z r st ds, RepL g Z r H ds vs ∧ Rl g Z r H st ∧ Post g Z r H (RV g Z) (F ds st) Q E
/-- a def's body as a function -/
def runB (n : Nat) (body : SemS) : SemF := fun ds st => match body (ds.map some ++ List.replicate (n - ds.length) none) st with
  | .nx _ st' => .ok .non st'
  | .rt d st' => .ok d st'
  | .er e _ st' => .er e st'
  | _ => .no
theorem start_env {g : Gd} {Z r : List Addr} {H : Hp} {N : List Str} {ds : List D} {vs : List V} (h : RepL g Z r H ds vs) : EnvR g Z r H (ds.map some ++ List.replicate (N.length - ds.length) none) (L2.start N vs) := by
  have hl := h.length
  refine ⟨by simp [L2.start, hl], fun i d e => ?_⟩
  by_cases hi : i < ds.length
  · rw [List.getElem?_append_left (by simpa using hi), List.getElem?_map] at e
    cases hd : ds[i]? with
    | none => rw [hd] at e; cases e
    | some d' =>
      rw [hd] at e; cases e
      obtain ⟨v, hv, q⟩ := h.get hd
      exact ⟨v, by unfold L2.start; rw [List.getElem?_append_left (by rw [List.length_map, ← hl]; exact hi), List.getElem?_map, hv]; rfl, q⟩
  · rw [List.getElem?_append_right (by simpa using hi)] at e
    rw [List.getElem?_replicate] at e
    split at e <;> cases e
theorem deeper_guards {A : Around} {env : Env} (h : A.guards = some []) : (A.deeper env).guards = some [] := by
  unfold Around.deeper
  first | exact h | simpa using h
/-- THE RULE of a def -/
theorem fnG_of {x qual : Str} {st : Stmt} {f : Addr} {fd : FuncData} {N ps : List Str} {k : Nat} {cl : ClsT} {body : SemS} (F : Fun K x qual st f fd) (S : FnScope N ps (defScope st))
    (hbody : ∀ (cdv : Value) (A : Around) (outer : List Env) (s : Shared) (H : Hp) (E : XK), Room k (A.deeper (envOfC qual (defScope st) s.heap.objs.size f cdv)) → A.guards = some [] → fd.code = cdv →
      SB (cxOf (L2.CX P w) P w K mg base N qual (defScope st) f cdv A outer s H E) cl (fun c d _ H' => E c d H') (defBody st) body) :
    FnG P w K mg base (k + 1) f fd ps (spF ⟨K, cl⟩ ps.length (runB N.length body)) := by
  refine ⟨fun vs H Q E h => h.1, fun A outer s H args us vs Q E hr hg e0 hb r h => ?_⟩
  obtain ⟨oc, od, kV, doc, pm, an, cdv, ct, osl, rfl, lk, hcd⟩ := F.ex
  obtain ⟨hlen, Z, ra, sta, ds, qd, R, h⟩ := h
  let X := cxOf (L2.CX P w) P w K mg base N qual (defScope st) f cdv A outer s H E
  have KX : K.In s.heap := e0.mod.kin.keeps fun b o e => (e0.bs b o e).1
  have lim : s.heap.NoLimit := e0.mod.nolimit.keeps fun b o e => (e0.bs b o e).1
  have hk : ∀ y ∈ ps.zip us, (defScope st).names.lookup y.1 = some .local ∨ ((defScope st).names.lookup y.1 = some .cell ∧ ((cellsFrom (s.heap.objs.size + 1) (defScope st).names []).lookup y.1).isSome = true) := by
    intro y hy
    obtain ⟨n, v⟩ := y
    rcases S.par n (List.of_mem_zip hy).1 with q | q
    · exact .inl q
    · exact .inr ⟨q, PySem.W.cellsFrom_some _ _ _ (.inl q)⟩
  refine codeAny_call_function hr.depth (KX _ _ lk) rfl S.co S.gen rfl (PySem.W.codeRec_of KX hcd) (hb _ _ _ _ ?_)
  refine wpAny_newFunctionEnv_cells S.kind hk fun env he s1 x1 => ?_
  subst he
  refine ⟨lim.keeps x1.toInCall.keep, codeAny_func ?_⟩
  have B := (hbody cdv A outer s H E (hr.deeper _) hg rfl).run
  have I : L2.Inv X [] (L2.start N vs) H s1 := inv_start S hr.hd e0 hlen r x1
  have hq : rdS ⟨K, cl⟩ (fun c d _ H' => E c d H') body { nx := fun _ H' => Q .non H', rt := Q } (L2.start N vs) H := by
    refine ⟨Z, ra, _, sta, start_env qd, R, ?_⟩
    unfold runB at h
    split at h
    · rename_i env' st' hb'
      rw [hb']
      exact fun r' H' sg e R' _ => h r' H' .non e R' rfl
    · rename_i d st' hb'
      rw [hb']
      exact fun r' H' v e R' q => h r' H' v e R' q
    · rename_i e' env' st' hb'
      rw [hb']
      exact fun r' H' sg c d e R' _ q => h r' H' c d e R' q
    · exact h.elim
  refine wpAny_mono (B.run [] s1 (L2.start N vs) H _ I hq) (fun fl s' hs => ?_) fun e s' hs => hs
  cases fl with
  | ret u =>
    obtain ⟨v, sg', H', J, rv, q⟩ := hs
    exact ⟨v, H', J.os, J.bare, J.base, J.hok, rv, q⟩
  | next =>
    obtain ⟨sg', H', J, q⟩ := hs
    exact ⟨.non, H', J.os, J.bare, J.base, J.hok, rfl, q⟩
  | brk =>
    obtain ⟨_, _, _, q⟩ := hs
    exact False.elim q
  | cont =>
    obtain ⟨_, _, _, q⟩ := hs
    exact False.elim q
end
section
variable {X : Cx} {cl : ClsT} {W : WX}
/-- a def, called -/
theorem calF_fn {k : Nat} {f : Addr} {fd : FuncData} {ps : List Str} {F : SemF} (hF : FnG X.prog X.w X.K X.mg X.base k f fd ps (spF ⟨X.K, cl⟩ ps.length F)) (hr : Room k X.A) (hg : X.A.guards = some []) (hb : L2.Binds X.K fd ps []) (tk : Takes X W)
    (hn : ∀ ds st, ds.length ≠ ps.length → F ds st = .no) : CalF X cl W (.ref f) F := by
  refine ⟨fun pins s sg H Q vs us I r h => ?_⟩
  obtain ⟨Z, ra, st, ds, qd, R, h⟩ := h
  have hl : vs.length = ps.length := by
    by_cases e : ds.length = ps.length
    · rw [← qd.length]; exact e
    · rw [hn ds st e] at h; exact h.elim
  have hl2 : (us ++ []).length = ps.length := by rw [List.append_nil, ← r.length]; exact hl
  have hbd := hb s us I.kIn hl2
  rw [List.append_nil] at hbd
  refine codeAny_mono (hF.run X.A X.stack s H ⟨us, []⟩ us vs Q (fun c d H' => W c d sg H') hr hg I.env0 hbd r ⟨hl, Z, ra, st, ds, qd, R, h⟩) fun rr s' hq => ?_
  cases rr with
  | error e => exact tk e s' (XE.of_call I (fun _ _ _ q => q) hq)
  | ok fl =>
    cases fl with
    | ret u => exact I.after hq
    | next => exact False.elim hq
    | brk => exact False.elim hq
    | cont => exact False.elim hq
/-- what lies around a new instance's __init__ -/
def runInit (c : Nat) (F : SemF) : SemF := fun ds st => (F (.h st.length :: ds) (st ++ [.nd (.ins c []) []])).bind fun v st1 => match v with
  | .non => .ok (.h st.length) st1
  | _ => .no
theorem make_guards {A : Around} {C : Addr} {us : List Value} {kw : List (Str × Value)} (h : A.guards = some []) : (A.under (.builtin "type.__call__" ⟨.ref C :: us, kw⟩)).guards = some [] := by
  have e : (Code.builtin "type.__call__" ⟨.ref C :: us, kw⟩).guards = [] := by
    unfold Code.guards
    rw [if_neg]
    intro z
    revert z
    show ¬ (Code.isGuard _ = true)
    simp only [Code.isGuard]
    decide +kernel
  unfold Around.under
  simp only [e, h, pushGuards]
/-- C(..) of a class with an __init__ of its own -/
theorem calF_make {k : Nat} {f : Addr} {fd : FuncData} {ps : List Str} {F : SemF} (c : Nat) (M : Mk X.K (cl c) f) (hF : FnG X.prog X.w X.K X.mg X.base k f fd ps (spF ⟨X.K, cl⟩ ps.length F)) (hr : Room (k + 1) X.A) (hg : X.A.guards = some []) (hb : L2.Binds X.K fd ps []) (tk : Takes X W)
    (hn : ∀ ds st, ds.length ≠ ps.length → F ds st = .no) : CalF X cl W (.ref (cl c)) (runInit c F) := by
  refine ⟨fun pins s sg H Q vs us I r h => ?_⟩
  obtain ⟨Z, ra, st, ds, qd, R, h⟩ := h
  have hx : H (s.heap.objs.size + 1) = none := I.hok.fresh (Nat.le_succ _)
  have hdx : H s.heap.objs.size = none := I.hok.fresh (Nat.le_refl _)
  have ne : s.heap.objs.size ≠ s.heap.objs.size + 1 := Nat.ne_of_lt (Nat.lt_succ_self _)
  have I2 := Inv.made (C := cl c) I
  generalize hH2 : upd (upd H s.heap.objs.size (.own (s.heap.objs.size + 1))) (s.heap.objs.size + 1) (.ins (cl c) s.heap.objs.size []) = H2 at I2
  have hx1 : (upd H s.heap.objs.size (.own (s.heap.objs.size + 1))) (s.heap.objs.size + 1) = none := by rw [upd_ne (Ne.symm ne)]; exact hx
  have R1 : Rl ⟨X.K, cl⟩ Z ra (upd H s.heap.objs.size (.own (s.heap.objs.size + 1))) st := R.new hdx
  have e1 : Ext ra H ra (upd H s.heap.objs.size (.own (s.heap.objs.size + 1))) := Ext.new hdx
  have R2 : Rl ⟨X.K, cl⟩ Z (ra ++ [s.heap.objs.size + 1]) H2 (st ++ [.nd (.ins c []) []]) := by
    rw [← hH2]
    exact R1.grow hx1 (show HatM ⟨X.K, cl⟩ _ _ (.ins c []) [] from ⟨⟨rfl, List.nodup_nil⟩, _, upd_same⟩) rfl
  have e2 : Ext ra H (ra ++ [s.heap.objs.size + 1]) H2 := by
    rw [← hH2]
    exact e1.trans (Ext.grow hx1)
  have qh : Rep ⟨X.K, cl⟩ Z (ra ++ [s.heap.objs.size + 1]) H2 (.h st.length) (.ref (s.heap.objs.size + 1)) := ⟨_, rfl, by rw [← R.len]; simp⟩
  have qa : RepL ⟨X.K, cl⟩ Z (ra ++ [s.heap.objs.size + 1]) H2 (.h st.length :: ds) (.ref (s.heap.objs.size + 1) :: vs) := ⟨_, _, rfl, qh, RepL.ext e2 ds qd⟩
  have h' := Post.ext e2 h
  have hl : (V.ref (s.heap.objs.size + 1) :: vs).length = ps.length := by
    by_cases e : (D.h st.length :: ds).length = ps.length
    · rw [← qa.length]; exact e
    · dsimp only [runInit] at h
      rw [hn _ _ e] at h; exact h.elim
  have r2 : Vals (V.ref (s.heap.objs.size + 1) :: vs) (Value.ref (s.heap.objs.size + 1) :: us) := .cons rfl r
  have hl2 : ((Value.ref (s.heap.objs.size + 1) :: us) ++ []).length = ps.length := by rw [List.append_nil, ← r2.length]; exact hl
  have hbd := hb _ (Value.ref (s.heap.objs.size + 1) :: us) I2.kIn hl2
  rw [List.append_nil] at hbd
  have h2 : Post ⟨X.K, cl⟩ Z (ra ++ [s.heap.objs.size + 1]) H2 (RV ⟨X.K, cl⟩ Z) (F (.h st.length :: ds) (st ++ [.nd (.ins c []) []])) (fun v H' => v = .non ∧ Q (.ref (s.heap.objs.size + 1)) H') (fun cc d H' => W cc d sg H') := by
    refine Post.bind h' fun v st1 r1 H1 vv _ e3 R3 q3 h3 => ?_
    split at h3
    · exact ⟨q3, h3 r1 H1 _ (Ext.refl _ _) R3 (Rep.ext e3 (.h st.length) qh)⟩
    · exact h3.elim
  refine make_map (f := f) I.kIn M.makes M.init (beq_iff_eq.mp M.fn) (codeAny_mono (hF.run _ X.stack _ _ ⟨Value.ref (s.heap.objs.size + 1) :: us, []⟩ (Value.ref (s.heap.objs.size + 1) :: us) _ (fun v H' => v = .non ∧ Q (.ref (s.heap.objs.size + 1)) H') (fun cc d H' => W cc d sg H')
    (hr.make (cl c) us []) (make_guards hg) (I2.env0.make (cl c) us []) hbd r2 ⟨hl, Z, _, _, _, qa, R2, h2⟩) fun rr s' hq => ?_)
  cases rr with
  | error e => exact tk e s' (XE.of_call (σ := sg) I2 (fun _ _ _ q => q) hq)
  | ok fl =>
    cases fl with
    | ret u =>
      obtain ⟨v, H', I3, rv, ev, q3⟩ := I2.after hq
      subst ev
      exact ⟨rv, ⟨V.ref (s.heap.objs.size + 1), H', I3, rfl, q3⟩⟩
    | next => exact False.elim hq
    | brk => exact False.elim hq
    | cont => exact False.elim hq
end
end DY

/-! What a def made is frozen when it is left. -/
namespace DY
open PySem PySem.Spec PyProof.Rows L2
mutual
def frzG (n0 : Nat) (dr : Nat → Option D) : D → Option D
  | .h k => if k < n0 then some (.h k) else dr k
  | .nd t xs => match frzGL n0 dr xs with
    | some ys => some (.nd t ys)
    | none => none
  | .non => some .non
  | .bl b => some (.bl b)
  | .int i => some (.int i)
  | .str s => some (.str s)
def frzGL (n0 : Nat) (dr : Nat → Option D) : List D → Option (List D)
  | [] => some []
  | d :: ds => match frzG n0 dr d, frzGL n0 dr ds with
    | some e, some es => some (e :: es)
    | _, _ => none
end
def frz : Nat → Nat → Store → D → Option D
  | 0, n0, _, d => frzG n0 (fun _ => none) d
  | n + 1, n0, st, d => frzG n0 (fun k => match st[k]? with
    | some c => frz n n0 st c
    | none => none) d
def frzL : Nat → Nat → Store → List D → Option (List D)
  | _, _, _, [] => some []
  | n, n0, st, d :: ds => match frz n n0 st d, frzL n n0 st ds with
    | some e, some es => some (e :: es)
    | _, _ => none
mutual
def hdB (n0 : Nat) : D → Bool
  | .h k => decide (k < n0)
  | .nd _ xs => hdBL n0 xs
  | _ => true
def hdBL (n0 : Nat) : List D → Bool
  | [] => true
  | d :: ds => hdB n0 d && hdBL n0 ds
end
/-- the things of before know none of the new ones -/
def CellsOk (st st' : Store) : Prop := st.length ≤ st'.length ∧ ∀ k d, k < st.length → st'[k]? = some d → st[k]? = some d ∨ hdB st.length d = true
noncomputable def frzF (F : SemF) : SemF := fun ds st => open Classical in match F ds st with
  | .ok d st' => if CellsOk st st' then (match frz 5 st.length st' d with
    | some d' => .ok d' (st'.take st.length)
    | none => .no) else .no
  | .er e st' => if CellsOk st st' then (match frzL 5 st.length st' e.xs with
    | some xs => .er ⟨e.c, e.ns, xs⟩ (st'.take st.length)
    | none => .no) else .no
  | .no => .no
section
variable {g : Gd} {Z r q : List Addr} {H : Hp} {st : Store}
mutual
theorem hdB_of : ∀ (d : D) {v : V}, Rep g Z r H d v → hdB r.length d = true
  | .h k, _, h => by
    obtain ⟨a, _, e⟩ := h
    simpa [hdB] using (List.getElem?_eq_some_iff.mp e).1
  | .nd t xs, _, h => by
    obtain ⟨a, vs, _, _, h2⟩ := h
    simpa [hdB] using hdBL_of xs h2
  | .non, _, _ => rfl
  | .bl _, _, _ => rfl
  | .int _, _, _ => rfl
  | .str _, _, _ => rfl
theorem hdBL_of : ∀ (ds : List D) {vs : List V}, RepL g Z r H ds vs → hdBL r.length ds = true
  | [], _, _ => rfl
  | d :: ds, _, h => by
    obtain ⟨v, q, _, h1, h2⟩ := h
    simp [hdBL, hdB_of d h1, hdBL_of ds h2]
end
theorem Nin.less {a : Addr} (h : Nin Z (r ++ q) a) : Nin Z r a := ⟨h.1, fun m => h.2 (List.mem_append_left _ m)⟩
theorem Hat.low {a : Addr} {t : Hd} {vs : List V} (h : Hat g Z (r ++ q) H a t vs) : Hat g Z r H a t vs := h.turn fun a n _ => n.less
mutual
theorem Rep.low : ∀ (d : D) {v : V}, hdB r.length d = true → Rep g Z (r ++ q) H d v → Rep g Z r H d v
  | .h k, _, b, h => by
    obtain ⟨a, e, e2⟩ := h
    have hk : k < r.length := by simpa [hdB] using b
    rw [List.getElem?_append_left hk] at e2
    exact ⟨a, e, e2⟩
  | .nd t xs, _, b, h => by
    obtain ⟨a, vs, e, h1, h2⟩ := h
    exact ⟨a, vs, e, h1.low, RepL.low xs (by simpa [hdB] using b) h2⟩
  | .non, _, _, h => h
  | .bl _, _, _, h => h
  | .int _, _, _, h => h
  | .str _, _, _, h => h
theorem RepL.low : ∀ (ds : List D) {vs : List V}, hdBL r.length ds = true → RepL g Z (r ++ q) H ds vs → RepL g Z r H ds vs
  | [], _, _, h => h
  | d :: ds, _, b, h => by
    obtain ⟨v, w, e, h1, h2⟩ := h
    simp only [hdBL, Bool.and_eq_true] at b
    exact ⟨v, w, e, Rep.low d b.1 h1, RepL.low ds b.2 h2⟩
end
mutual
theorem frzG_ok {dr : Nat → Option D} (hd : ∀ k d v, r.length ≤ k → dr k = some d → Rep g Z (r ++ q) H (.h k) v → Rep g Z r H d v) : ∀ (d : D) {d' : D} {v : V}, frzG r.length dr d = some d' → Rep g Z (r ++ q) H d v → Rep g Z r H d' v
  | .h k, d', v, e, h => by
    simp only [frzG] at e
    split at e
    · rename_i hk
      cases e
      exact Rep.low (.h k) (by simpa [hdB] using hk) h
    · rename_i hk
      exact hd k d' v (by omega) e h
  | .nd t xs, d', v, e, h => by
    simp only [frzG] at e
    split at e
    · rename_i ys e1
      cases e
      obtain ⟨a, vs, e2, h1, h2⟩ := h
      exact ⟨a, vs, e2, h1.low, frzGL_ok hd xs e1 h2⟩
    · cases e
  | .non, _, _, e, h => by cases e; exact h
  | .bl _, _, _, e, h => by cases e; exact h
  | .int _, _, _, e, h => by cases e; exact h
  | .str _, _, _, e, h => by cases e; exact h
theorem frzGL_ok {dr : Nat → Option D} (hd : ∀ k d v, r.length ≤ k → dr k = some d → Rep g Z (r ++ q) H (.h k) v → Rep g Z r H d v) : ∀ (ds : List D) {es : List D} {vs : List V}, frzGL r.length dr ds = some es → RepL g Z (r ++ q) H ds vs → RepL g Z r H es vs
  | [], _, _, e, h => by cases e; exact h
  | d :: ds, _, _, e, h => by
    simp only [frzGL] at e
    split at e
    · rename_i e' es e1 e2
      cases e
      obtain ⟨v, w, e3, h1, h2⟩ := h
      exact ⟨v, w, e3, frzG_ok hd d e1 h1, frzGL_ok hd ds e2 h2⟩
    · cases e
end
/-- a thing of the store as a frozen one -/
theorem HatM.frozen {a : Addr} {t : Hd} {vs : List V} (n : Nin Z r a) (h : HatM g H a t vs) : Hat g Z r H a t vs := by
  cases t with
  | lst => exact ⟨n, h⟩
  | tup => exact h.elim
  | scr => exact h.elim
  | ktp => exact h.elim
  | dk ks => exact ⟨n, h⟩
  | dt ks => exact ⟨n, h⟩
  | ins c ns => exact ⟨n, h⟩
  | exc c ns => exact h.elim
  | fn f c q caps => exact h.elim
theorem frz_cell (R : Rl g Z (r ++ q) H st) {dr : Nat → Option D} (hd : ∀ k d v, r.length ≤ k → dr k = some d → Rep g Z (r ++ q) H (.h k) v → Rep g Z r H d v) {k : Nat} {c d : D} {v : V} (hk : r.length ≤ k) (hc : st[k]? = some c) (e : frzG r.length dr c = some d) (h : Rep g Z (r ++ q) H (.h k) v) : Rep g Z r H d v := by
  obtain ⟨a, rfl, e2⟩ := h
  obtain ⟨b, eb, t, xs, vs, rfl, hm, hx⟩ := R.cell k c hc
  rw [e2] at eb; cases eb
  simp only [frzG] at e
  split at e
  · rename_i ys e1
    cases e
    have ha : a ∈ r ++ q := List.mem_of_getElem? e2
    have n : Nin Z r a := by
      refine ⟨fun m => (R.z a m).1 ha, fun m => ?_⟩
      obtain ⟨j, hj, ej⟩ := List.getElem_of_mem m
      obtain ⟨h1, e1⟩ := List.getElem?_eq_some_iff.mp e2
      have h2 : j < (r ++ q).length := by simp; omega
      have : (r ++ q)[j] = (r ++ q)[k] := by rw [e1, List.getElem_append_left hj]; exact ej
      have := (List.getElem_inj R.nd).mp this
      omega
    exact ⟨a, vs, rfl, hm.frozen n, frzGL_ok hd xs e1 hx⟩
  · cases e
theorem frz_ok (R : Rl g Z (r ++ q) H st) : ∀ (m : Nat) (d : D) {d' : D} {v : V}, frz m r.length st d = some d' → Rep g Z (r ++ q) H d v → Rep g Z r H d' v
  | 0, d, d', v, e, h => frzG_ok (fun k d v _ e _ => by cases e) d e h
  | m + 1, d, d', v, e, h => by
    refine frzG_ok (fun k d1 v1 hk e1 h1 => ?_) d e h
    cases hc : st[k]? with
    | none => rw [hc] at e1; cases e1
    | some c =>
      rw [hc] at e1
      cases m with
      | zero => exact frz_cell R (fun k d v _ e _ => by cases e) hk hc e1 h1
      | succ m =>
        refine frz_cell R (fun k d v hk e h => ?_) hk hc e1 h1
        have e' : frz (m + 1) r.length st (.h k) = some d := by
          show frzG _ _ (.h k) = _
          simp only [frzG]
          rw [if_neg (by omega)]
          exact e
        exact frz_ok R (m + 1) (.h k) e' h
theorem frzL_ok (R : Rl g Z (r ++ q) H st) (m : Nat) : ∀ (ds : List D) {es : List D} {vs : List V}, frzL m r.length st ds = some es → RepL g Z (r ++ q) H ds vs → RepL g Z r H es vs
  | [], _, _, e, h => by cases m <;> (cases e; exact h)
  | d :: ds, _, _, e, h => by
    simp only [frzL] at e
    split at e
    · rename_i e' es e1 e2
      cases e
      obtain ⟨v, w, e3, h1, h2⟩ := h
      exact ⟨v, w, e3, frz_ok R m d e1 h1, frzL_ok R m ds e2 h2⟩
    · cases e
/-- the store behind, cut back -/
theorem cut_back {H0 : Hp} {st0 : Store} (R0 : Rl g Z r H0 st0) (R : Rl g Z (r ++ q) H st) (c : CellsOk st0 st) : Rl g Z r H (st.take st0.length) := by
  have hl : st0.length ≤ st.length := c.1
  refine ⟨by rw [List.length_take, R0.len]; omega, (List.nodup_append.mp R.nd).1, fun a m => ?_, R.tb, fun k d e => ?_⟩
  · obtain ⟨n, u⟩ := R.z a m
    exact ⟨fun m => n (List.mem_append_left _ m), u⟩
  · have hk : k < st0.length := by
      have := (List.getElem?_eq_some_iff.mp e).1
      simp at this; omega
    rw [List.getElem?_take, if_pos hk] at e
    obtain ⟨a, ea, t, xs, vs, rfl, hm, hx⟩ := R.cell k d e
    have hkr : k < r.length := by rw [R0.len]; exact hk
    rw [List.getElem?_append_left hkr] at ea
    have hb : hdBL r.length xs = true := by
      rcases c.2 k _ hk e with h | h
      · obtain ⟨a', _, t', xs', vs', ed, _, hx'⟩ := R0.cell k _ h
        cases ed
        exact hdBL_of xs hx'
      · rw [R0.len]; simpa [hdB] using h
    exact ⟨a, ea, t, xs, vs, rfl, hm, RepL.low xs hb hx⟩
theorem Ext.back {H' : Hp} (e : Ext r H (r ++ q) H') : Ext r H r H' := ⟨⟨[], by simp⟩, fun a o h t n => ⟨(e.keep a o h t n).1, n⟩⟩
theorem frz_post {F : SemF} {ds : List D} {Q : VK} {E : XK} (R0 : Rl g Z r H st) (h : Post g Z r H (RV g Z) (frzF F ds st) Q E) : Post g Z r H (RV g Z) (F ds st) Q E := by
  unfold frzF at h
  cases hF : F ds st with
  | ok d st' =>
    rw [hF] at h
    dsimp only at h
    split at h
    · rename_i hc
      split at h
      · rename_i d' hd
        intro r' H' v e R q0
        obtain ⟨q, rfl⟩ := e.pre
        rw [← R0.len] at hd
        exact h r H' v e.back (cut_back R0 R hc) (frz_ok R 5 d hd q0)
      · exact h.elim
    · exact h.elim
  | er x st' =>
    rw [hF] at h
    dsimp only at h
    split at h
    · rename_i hc
      split at h
      · rename_i xs hd
        intro r' H' cls d e R q0
        obtain ⟨q, rfl⟩ := e.pre
        rw [← R0.len] at hd
        refine h r H' cls d e.back (cut_back R0 R hc) ?_
        obtain ⟨q1, q2⟩ := q0
        refine ⟨q1, ?_⟩
        rcases q2 with ⟨e1, e2, e3⟩ | ⟨dx, vs, e1, e2, n, e3, e4⟩
        · left
          rw [e3] at hd
          cases hd
          exact ⟨e1, e2, rfl⟩
        · right
          exact ⟨dx, vs, e1, e2, n.less, e3, frzL_ok R 5 _ hd e4⟩
      · exact h.elim
    · exact h.elim
  | no => rw [hF] at h; exact h
end
section
variable {P : Program} {w : World} {K : PySem.W.Frag} {mg : Str → Option Value} {base : Heap}
theorem FnG.imp {k : Nat} {f : Addr} {fd : FuncData} {ps : List Str} {sp sp' : Sp} (F : FnG P w K mg base k f fd ps sp) (h : ∀ vs H Q E, sp' vs H Q E → sp vs H Q E) : FnG P w K mg base k f fd ps sp' :=
  ⟨fun vs H Q E q => F.len vs H Q E (h vs H Q E q), fun A outer s H args us vs Q E hr hg e0 hb r q => F.run A outer s H args us vs Q E hr hg e0 hb r (h vs H Q E q)⟩
theorem FnG.frz {k : Nat} {f : Addr} {fd : FuncData} {ps : List Str} {g : Gd} {n : Nat} {F : SemF} (h : FnG P w K mg base k f fd ps (spF g n F)) : FnG P w K mg base k f fd ps (spF g n (frzF F)) :=
  h.imp fun vs H Q E ⟨hl, Z, r, st, ds, qd, R, q⟩ => ⟨hl, Z, r, st, ds, qd, R, frz_post R q⟩
theorem FnG.mono {j k : Nat} {f : Addr} {fd : FuncData} {ps : List Str} {sp : Sp} (F : FnG P w K mg base j f fd ps sp) (h : j ≤ k) : FnG P w K mg base k f fd ps sp :=
  ⟨F.len, fun A outer s H args us vs Q E hr => F.run A outer s H args us vs Q E (hr.mono h)⟩
/-- nothing is promised -/
theorem FnG.none {k : Nat} {f : Addr} {fd : FuncData} {ps : List Str} {g : Gd} : FnG P w K mg base k f fd ps (spF g ps.length fun _ _ => .no) :=
  ⟨fun vs H Q E h => h.1, fun A outer s H args us vs Q E _ _ _ _ _ ⟨_, _, _, _, _, _, _, q⟩ => q.elim⟩
end
section
variable {X : Cx} {cl : ClsT} {W : WX} {u : Value} {F : SemF}
/-- what a new thing is, frozen -/
theorem CalF.frz (h : CalF X cl W u F) : CalF X cl W u (frzF F) := ⟨fun pins s sg H Q vs us I r ⟨Z, ra, st, ds, qd, R, q⟩ => h.code pins s sg H Q vs us I r ⟨Z, ra, st, ds, qd, R, frz_post R q⟩⟩
end
end DY

/-! Built-in functions and methods; static methods, operators and calls of instances. -/
namespace DY
open PySem PySem.Spec PyProof.Rows L2

section
variable {X : Cx} {cl : ClsT} {W : WX} {pos : Pos} {x : Str} {p apos : Pos} {e o : Expr} {es : List Expr} {fa : SemA} {fo fe : SemE} {F : SemF}
/-! ### C.m(e, ..), m a static method -/
structure StM (K : PySem.W.Frag) (C : Addr) (m : Str) (f : Addr) : Prop where
  ga : PySem.W.specialIn K (.ref C) "__getattribute__" = some (some (.builtin "type.__getattribute__"))
  rd : ∃ mc obj q rest, PySem.W.readsIn K C mc = true ∧ PySem.W.findCls K (.ref C) mc m = some (.get (.builtin "staticmethod.__get__") (.ref q) obj (.ref C)) ∧ PySem.W.recIn K q "staticmethod" = some (.ref f :: rest)
  kp : PySem.W.keepIn K (.ref f) = true
theorem stm_get {pins : List (Addr × Obj)} {sg : L2.St} {H : Hp} {s : Shared} {C f : Addr} {m : Str} {pl : Sem Bool} {A : Around} {E : Value → Shared → Prop} {Q : Value × List Value → Shared → Prop} (I : L2.Inv X pins sg H s) (T : StM X.K C m f)
    (h : ∀ s', L2.Inv X pins sg H s' → Q (.ref f, []) s') : wpAny (model X.prog X.w) A (getMethod (.ref C) m pl) Q E s := by
  obtain ⟨mc, obj, q, rest, h1, h2, h3⟩ := T.rd
  refine PySem.W.method_cls I.kIn T.ga (PySem.W.cls_bind I.kIn h1 h2 (wpAny_call (PySem.W.sm_get (s := { s with toks := s.toks + 1 }) I.kIn h3 (PySem.W.handed_on rfl (h _ (I.tok _))))))
theorem se_static {C f : Addr} {m : Str} {p0 : Pos} {pl : Sem Bool} (T : StM X.K C m f) (hF : CalF X cl W (.ref f) F) (hm : X.mg x = some (.ref C)) (ha : SA X cl W (e :: es) fa) (hg : Gl X x := by rfl) (hdb : (x == ("__debug__" : Str)) = false := by decide +kernel)
    (hst : starEach (e :: es) X.env = (false, eval e X.env) :: starEach es X.env := by rfl) (hpl : (backTo pos (starEach es X.env)).any (·.1) = false := by rfl)
    (ht : eval (.Call (.Attribute (.Name x p0) m apos) (e :: es) [] pos) X.env = (do
      let ov ← eval (.Name x p0) X.env
      standAt apos.atName
      let (f, first) ← holding [ov] (getMethod ov m pl)
      callWith pos f first (backTo pos (starEach (e :: es) X.env)) (backToKw pos (keywordEach [] X.env))) := by rfl) : SE X cl W (.Call (.Attribute (.Name x p0) m apos) (e :: es) [] pos) (dCall F fa) := by
  refine ⟨⟨fun pins s sg H Q I h => ?_⟩⟩
  have h' : rdA ⟨X.K, cl⟩ W fa sg H fun vs H1 => rdC ⟨X.K, cl⟩ W F vs sg H1 Q := by
    obtain ⟨Z, r, env, st, E, R, h⟩ := h
    exact ⟨Z, r, env, st, E, R, Post.bind h fun ds st1 r1 H1 vs _ e1 R1 q1 h1 => ⟨Z, r1, st1, ds, q1, R1, h1⟩⟩
  refine PySem.W.methodCall_KW (pl := pl) (ld_glob I hg hm ?_ hdb) ht
  refine stm_get I T fun s1 I1 => ?_
  refine PySem.W.callWith_K (first := []) (h₀ := X.base) I1.ok.mod.kin T.kp (thn (ha.run.run pos pins s1 sg H _ I1 h') fun us s2 ⟨vs, H2, I2, rv, q⟩ => ⟨I2.kIn, ?_⟩) hst hpl
  exact hF.run pins s2 sg H2 Q vs us I2 rv q

/-! ### an operator of one's own -/
/-- one operator of instances of the class c -/
structure OwnOp (K : PySem.W.Frag) (C : Addr) (op : Operator) (f : Addr) : Prop where
  first : PySem.W.selfFirst K C = true
  at_ : PySem.W.findIn K (.ref C) (PySem.dunder op.info.2) = some (some (.ref f))
  fn : PySem.W.isFn K (.ref f) = true
def dOwn (c : Nat) (F : SemF) : D → D → Store → Res D := fun x y st => match seen st x, seen st y with
  | some (.ins c1 _, _), some (.ins c2 _, _) => if c1 = c ∧ c2 = c then (match F [x, y] st with
    | .ok (.nd t xs) st' => .ok (.nd t xs) st'
    | .ok _ _ => .no
    | q => q) else .no
  | _, _ => .no
theorem inst_of {pins : List (Addr × Obj)} {sg : L2.St} {H : Hp} {s : Shared} {a C dx : Addr} {fs : List (Str × V)} (I : L2.Inv X pins sg H s) (h : H a = some (.ins C dx fs)) : ∃ ox od, PySem.W.InstAt s.heap a ox C od ∧ ox.data = .plain := by
  obtain ⟨mA, O, _⟩ := ins_get I.hok h
  obtain ⟨od, J, _⟩ := O.look
  exact ⟨_, _, J, rfl⟩
theorem se_own {op : Operator} {f : Addr} {a b : Expr} {fb : SemE} (c : Nat) (O : OwnOp X.K (cl c) op f) (hF : CalF X cl W (.ref f) F) (ha : SE X cl W a fo) (hb : SE X cl W b fb)
    : SE X cl W (.BinOp a op b pos) (dBin (dOwn c F) fo fb) := by
  refine ⟨⟨fun pins s sg H Q I h => ?_⟩⟩
  have h' : rdE ⟨X.K, cl⟩ W fo sg H fun x H1 => rdE ⟨X.K, cl⟩ W fb sg H1 fun y H2 => ∃ p q dx fs dy gs, x = .ref p ∧ y = .ref q ∧ H2 p = some (.ins (cl c) dx fs) ∧ H2 q = some (.ins (cl c) dy gs) ∧ rdC ⟨X.K, cl⟩ W F [x, y] sg H2 (fun v H3 => (∃ a, v = .ref a) ∧ Q v H3) := by
    obtain ⟨Z, r, env, st, E, R, h⟩ := h
    refine ⟨Z, r, env, st, E, R, Post.bind h fun x st1 r1 H1 v _ e1 R1 q1 h1 => ?_⟩
    refine ⟨Z, r1, env, st1, E.ext e1, R1, Post.bind h1 fun y st2 r2 H2 u _ e2 R2 q2 h2 => ?_⟩
    have qx := Rep.ext e2 x q1
    dsimp only [dOwn] at h2
    split at h2
    · rename_i c1 n1 v1 c2 n2 v2 hs1 hs2
      split at h2
      · rename_i hc
        obtain ⟨rfl, rfl⟩ := hc
        obtain ⟨p, us, rfl, _, s1⟩ := seen_ok R2 qx hs1
        obtain ⟨q, ws, rfl, _, s2⟩ := seen_ok R2 q2 hs2
        obtain ⟨_, dx, hp⟩ := ins_at s1
        obtain ⟨_, dy, hq⟩ := ins_at s2
        refine ⟨p, q, dx, _, dy, _, rfl, rfl, hp, hq, Z, r2, st2, [x, y], ⟨_, _, rfl, qx, _, _, rfl, q2, rfl⟩, R2, ?_⟩
        cases hf : F [x, y] st2 with
        | no => rw [hf] at h2; exact h2
        | er ex st3 => rw [hf] at h2; exact h2
        | ok d st3 =>
          rw [hf] at h2
          cases d with
          | nd t xs => exact fun r3 H3 w e3 R3 q3 => ⟨let ⟨a, _, e, _⟩ := q3; ⟨a, e⟩, h2 r3 H3 w e3 R3 q3⟩
          | non => exact h2.elim
          | bl b => exact h2.elim
          | int i => exact h2.elim
          | str z => exact h2.elim
          | h k => exact h2.elim
      · exact h2.elim
    · exact h2.elim
  refine wpAny_BinOp (binT ha.run hb.run I h' fun v u s2 xv yv H2 I2 rx ry q => ?_)
  obtain ⟨p, q, dx, fs, dy, gs, rfl, rfl, hp, hq, hc⟩ := q
  obtain rfl : v = .ref p := rx
  obtain rfl : u = .ref q := ry
  obtain ⟨ox, od, J, _⟩ := inst_of I2 hp
  obtain ⟨oy, od', J', _⟩ := inst_of I2 hq
  obtain ⟨m, Fm⟩ := I2.fr
  refine PySem.W.binop_K Fm I2.ok.mod.kin J (by exact J'.type) O.first O.at_ O.fn (wpAny_mono (hF.run pins s2 sg H2 _ [.ref p, .ref q] [.ref p, .ref q] I2 (.cons rfl (.cons rfl .nil)) hc) (fun w s3 hw => ?_) fun _ _ z => z)
  obtain ⟨v3, H3, I3, rv, ⟨a, rfl⟩, hq3⟩ := hw
  obtain rfl : w = .ref a := rv
  exact ⟨.ref a, H3, I3, rfl, hq3⟩

/-! ### an instance, called -/
def dCallI (c : Nat) (F : SemF) (fo : SemE) (fa : SemA) : SemE := fun env st => (fo env st).bind fun x st1 => match seen st1 x with
  | some (.ins c1 _, _) => (fa env st1).bind fun ds st2 => match seen st2 x with
    | some (.ins c' _, _) => if c' = c then F (x :: ds) st2 else .no
    | _ => .no
  | _ => .no
/-! ### built-in functions -/
structure CS (X : Cx) (cl : ClsT) (f : Value) (op : SemF) : Prop where
  ex : ∃ rr : List V → Hp → VK → Prop, CallR X f rr ∧ ∀ {Z r : List Addr} {H : Hp} {st : Store} {ds : List D} {vs : List V} {Q : VK} {W' : Value → Option Addr → Hp → Prop}, Rl ⟨X.K, cl⟩ Z r H st → RepL ⟨X.K, cl⟩ Z r H ds vs →
    Post ⟨X.K, cl⟩ Z r H (RV ⟨X.K, cl⟩ Z) (op ds st) Q W' → rr vs H Q
theorem rd_callB {rr : List V → Hp → VK → Prop} {op : SemF} (hop : ∀ {Z r : List Addr} {H : Hp} {st : Store} {ds : List D} {vs : List V} {Q : VK} {W' : Value → Option Addr → Hp → Prop}, Rl ⟨X.K, cl⟩ Z r H st → RepL ⟨X.K, cl⟩ Z r H ds vs →
    Post ⟨X.K, cl⟩ Z r H (RV ⟨X.K, cl⟩ Z) (op ds st) Q W' → rr vs H Q) (sg : L2.St) (H : Hp) (Q : VK) (h : rdE ⟨X.K, cl⟩ W (dCall op fa) sg H Q) : tCB rr (rdA ⟨X.K, cl⟩ W fa) sg H Q := by
  obtain ⟨Z, r, env, st, E, R, h⟩ := h
  exact ⟨Z, r, env, st, E, R, Post.bind h fun ds st1 r1 H1 vs _ e1 R1 q1 h1 => hop R1 q1 h1⟩
theorem se_callB {id : String} {op : SemF} (hc : CS X cl (.builtin id) op) (hm : X.mg x = none) (hv : bootBuiltins x = some (.builtin id)) (ha : SA X cl W (e :: es) fa) (hg : Gl X x := by rfl) (hn : x ≠ "__name__" := by decide +kernel) (hdb : (x == ("__debug__" : Str)) = false := by decide +kernel)
    (he : starEach (e :: es) X.env = (false, eval e X.env) :: starEach es X.env := by rfl) (hpl : (backTo pos (starEach es X.env)).any (·.1) = false := by rfl) : SE X cl W (.Call (.Name x p) (e :: es) [] pos) (dCall op fa) := by
  obtain ⟨rr, h1, h2⟩ := hc.ex
  exact ⟨(pe_callB h1 hg hm hv ha.run hn hdb he hpl).imp (rd_callB h2)⟩
theorem se_callT {T : String} {op : SemF} (hc : CS X cl (.type T) op) (hm : X.mg x = none) (hv : bootBuiltins x = some (.type T)) (ha : SA X cl W (e :: es) fa) (hg : Gl X x := by rfl) (hn : x ≠ "__name__" := by decide +kernel) (hdb : (x == ("__debug__" : Str)) = false := by decide +kernel)
    (he : starEach (e :: es) X.env = (false, eval e X.env) :: starEach es X.env := by rfl) (hpl : (backTo pos (starEach es X.env)).any (·.1) = false := by rfl) : SE X cl W (.Call (.Name x p) (e :: es) [] pos) (dCall op fa) := by
  obtain ⟨rr, h1, h2⟩ := hc.ex
  exact ⟨(pe_callTy h1 hg hm hv ha.run hn hdb he hpl).imp (rd_callB h2)⟩
/-- len -/
def dLen : SemF := fun ds st => match ds with
  | [x] => match seq? st x with
    | some xs => .ok (.int xs.length) st
    | none => match x with
      | .str z => if z.length ≤ szL then .ok (.int z.length) st else .no
      | _ => .no
  | _ => .no
theorem cs_len : CS X cl (.builtin "len") dLen := by
  refine ⟨_, call_len_seq.or call_len_str, fun {Z r H st ds vs Q W'} R qd h => ?_⟩
  unfold dLen at h
  split at h
  · rename_i d
    obtain ⟨v, q, rfl, a1, rfl⟩ := qd
    split at h
    · rename_i xs hs
      obtain ⟨a, us, rfl, q, s⟩ := seq_ok R a1 hs
      exact .inl ⟨a, us, rfl, s, by rw [← q.length]; exact post_ok h R rfl⟩
    · split at h
      · rename_i z _
        split at h
        · rename_i hz
          exact .inr ⟨z, by rw [show v = .str z from a1], hz, post_ok h R rfl⟩
        · exact h.elim
      · exact h.elim
  · exact h.elim
def ints? : List D → Option (List Int)
  | [] => some []
  | .int i :: ds => match ints? ds with
    | some is => some (i :: is)
    | none => none
  | _ => none
theorem ints_ok {g : Gd} {Z r : List Addr} {H : Hp} : ∀ {ds : List D} {vs : List V} {is : List Int}, ints? ds = some is → RepL g Z r H ds vs → vs = is.map V.int
  | [], _, _, e, h => by cases e; exact h
  | .int i :: ds, _, _, e, h => by
    simp only [ints?] at e
    split at e
    · rename_i is e1
      cases e
      obtain ⟨v, q, rfl, a1, h2⟩ := h
      rw [show v = .int i from a1, ints_ok e1 h2]; rfl
    · cases e
  | .non :: _, _, _, e, _ => by cases e
  | .bl _ :: _, _, _, e, _ => by cases e
  | .str _ :: _, _, _, e, _ => by cases e
  | .h _ :: _, _, _, e, _ => by cases e
  | .nd _ _ :: _, _, _, e, _ => by cases e
/-- the greatest, the least of a list that is not empty -/
def mxL : List Int → Int
  | [] => 0
  | [a] => a
  | a :: b :: r => max a (mxL (b :: r))
def mnL : List Int → Int
  | [] => 0
  | [a] => a
  | a :: b :: r => min a (mnL (b :: r))
theorem mnL_le : ∀ (l : List Int) (x : Int), x ∈ l → mnL l ≤ x
  | [a], x, h => by simp at h; subst h; simp [mnL]
  | a :: b :: r, x, h => by
    rcases List.mem_cons.mp h with rfl | h
    · simp only [mnL]; omega
    · have := mnL_le (b :: r) x h
      simp only [mnL]; omega
theorem mnL_mem : ∀ (l : List Int), l ≠ [] → mnL l ∈ l
  | [a], _ => by simp [mnL]
  | a :: b :: r, _ => by
    have := mnL_mem (b :: r) (by simp)
    simp only [mnL]
    rcases Int.le_total a (mnL (b :: r)) with h | h
    · rw [Int.min_eq_left h]; exact List.mem_cons_self
    · rw [Int.min_eq_right h]; exact List.mem_cons_of_mem _ this
def dMax : SemF := fun ds st => match ds with
  | [.int i, .int j] => .ok (.int (if j > i then j else i)) st
  | [x] => match (lst? st x).bind ints? with
    | some (i :: is) => .ok (.int (mxL (i :: is))) st
    | _ => .no
  | _ => .no
def dMin : SemF := fun ds st => match ds with
  | [.int i, .int j] => .ok (.int (if j < i then j else i)) st
  | [x] => match (lst? st x).bind ints? with
    | some (i :: is) => .ok (.int (mnL (i :: is))) st
    | _ => .no
  | _ => .no
theorem cs_min (hc : X.calm = true) : CS X cl (.builtin "min") dMin := by
  refine ⟨_, (call_min2 hc).or (cr_min hc), fun {Z r H st ds vs Q W'} R qd h => ?_⟩
  unfold dMin at h
  split at h
  · rename_i i j
    obtain ⟨v, q, rfl, a1, w, q', rfl, a2, rfl⟩ := qd
    exact .inl ⟨i, j, by rw [show v = .int i from a1, show w = .int j from a2], post_ok h R rfl⟩
  · rename_i d
    obtain ⟨v, q, rfl, a1, rfl⟩ := qd
    cases hl : lst? st d with
    | none => rw [hl] at h; exact h.elim
    | some xs =>
      rw [hl] at h
      obtain ⟨a, us, rfl, q, s⟩ := lst_ok R a1 hl
      cases hi : ints? xs with
      | none => rw [Option.bind_some, hi] at h; exact h.elim
      | some is =>
        rw [Option.bind_some, hi] at h
        cases is with
        | nil => exact h.elim
        | cons i is =>
          have := ints_ok hi q
          subst this
          refine .inr ⟨a, i :: is, rfl, s, by simp, fun m hm hge => ?_⟩
          have e : m = mnL (i :: is) := Int.le_antisymm (hge _ (mnL_mem _ (by simp))) (mnL_le _ m hm)
          rw [e]; exact post_ok h R rfl
  · exact h.elim
def dAbs : SemF := fun ds st => match ds with
  | [.int i] => .ok (.int (if i < 0 then -i else i)) st
  | _ => .no
theorem cs_abs : CS X cl (.builtin "abs") dAbs := by
  refine ⟨_, call_abs, fun {Z r H st ds vs Q W'} R qd h => ?_⟩
  unfold dAbs at h
  split at h
  · rename_i i
    obtain ⟨v, q, rfl, a1, rfl⟩ := qd
    exact ⟨i, by rw [show v = .int i from a1], post_ok h R rfl⟩
  · exact h.elim
def dInt : SemF := fun ds st => match ds with
  | [.int i] => .ok (.int i) st
  | _ => .no
theorem cs_int : CS X cl (.type "int") dInt := by
  refine ⟨_, call_int1, fun {Z r H st ds vs Q W'} R qd h => ?_⟩
  unfold dInt at h
  split at h
  · rename_i i
    obtain ⟨v, q, rfl, a1, rfl⟩ := qd
    exact .inl ⟨i, by rw [show v = .int i from a1], post_ok h R rfl⟩
  · exact h.elim
def dSum : SemF := fun ds st => match ds with
  | [x] => match (lst? st x).bind ints? with
    | some is => .ok (.int is.sum) st
    | _ => .no
  | _ => .no
def bools? : List D → Option (List Bool)
  | [] => some []
  | .bl i :: ds => match bools? ds with
    | some is => some (i :: is)
    | none => none
  | _ => none
def dAll : SemF := fun ds st => match ds with
  | [x] => match (lst? st x).bind bools? with
    | some is => .ok (.bl (is.all id)) st
    | _ => .no
  | _ => .no
def dAny : SemF := fun ds st => match ds with
  | [x] => match (lst? st x).bind bools? with
    | some is => .ok (.bl (is.any id)) st
    | _ => .no
  | _ => .no
/-- list(x), tuple(x) -/
def dList : SemF := fun ds st => match ds with
  | [x] => match seq? st x with
    | some xs => .ok (.nd .lst xs) st
    | none => .no
  | _ => .no
def dListM : SemF := fun ds st => match ds with
  | [x] => match seq? st x with
    | some xs => .ok (.h st.length) (st ++ [.nd .lst xs])
    | none => .no
  | _ => .no
def dTuple : SemF := fun ds st => match ds with
  | [x] => match lst? st x with
    | some xs => .ok (.nd .tup xs) st
    | none => match tupX? st x with
      | some xs => .ok (.nd .tup xs) st
      | none => .no
  | _ => .no
theorem cs_tuple : CS X cl (.type "tuple") dTuple := by
  refine ⟨_, call_tuple_of, fun {Z r H st ds vs Q W'} R qd h => ?_⟩
  unfold dTuple at h
  split at h
  · rename_i d
    obtain ⟨v, q, rfl, a1, rfl⟩ := qd
    split at h
    · rename_i xs hs
      obtain ⟨a, us, rfl, q, s⟩ := lst_ok R a1 hs
      exact ⟨a, us, rfl, .inl ⟨s, fun l hl => h r _ _ (Ext.new hl) (R.new hl) (new_tup R q hl)⟩⟩
    · split at h
      · rename_i xs hs
        have e := tup_is R hs
        obtain ⟨a, us, rfl, q, s⟩ := tupX_ok R a1 hs
        subst e
        exact ⟨a, us, rfl, .inr ⟨SqT.of s, post_ok h R a1⟩⟩
      · exact h.elim
  · exact h.elim
/-- -x -/
def dNeg (f : SemE) : SemE := fun env st => (f env st).bind fun x st1 => match x with
  | .int i => .ok (.int (-i)) st1
  | _ => .no
/-! ### methods of built-in types -/
def dBM (op : D → List D → Store → Res D) (fo : SemE) (fa : SemA) : SemE := fun env st => (fo env st).bind fun x st1 => (fa env st1).bind fun ds st2 => op x ds st2
structure MS (X : Cx) (cl : ClsT) (id : String) (op : D → List D → Store → Res D) : Prop where
  ex : ∃ rr : V → List V → Hp → VK → Prop, MtR X id rr ∧ ∀ {Z r : List Addr} {H : Hp} {st : Store} {x : D} {ds : List D} {v : V} {vs : List V} {Q : VK} {W' : Value → Option Addr → Hp → Prop}, Rl ⟨X.K, cl⟩ Z r H st → Rep ⟨X.K, cl⟩ Z r H x v → RepL ⟨X.K, cl⟩ Z r H ds vs →
    Post ⟨X.K, cl⟩ Z r H (RV ⟨X.K, cl⟩ Z) (op x ds st) Q W' → rr v vs H Q
theorem tyV_list {Z r : List Addr} {H : Hp} {st : Store} {x : D} {v : V} (R : Rl ⟨X.K, cl⟩ Z r H st) (q : Rep ⟨X.K, cl⟩ Z r H x v) (h : (lst? st x).isSome = true) : tyV X.K "list" v H := by
  obtain ⟨xs, hs⟩ := Option.isSome_iff_exists.mp h
  obtain ⟨a, us, rfl, _, s⟩ := lst_ok R q hs
  exact .inl ⟨rfl, us, s⟩
/-- of a list -/
def dBML (op : D → List D → Store → Res D) (fo : SemE) (fa : SemA) : SemE := fun env st => (fo env st).bind fun x st1 => if (lst? st1 x).isSome = true then (fa env st1).bind fun ds st2 => op x ds st2 else .no
theorem se_bml {name : Str} {id : String} {op : D → List D → Store → Res D} (hm : MS X cl id op) (ho : SE X cl W o fo) (ha : SA X cl W (e :: es) fa) (slot : Slot "list" name id) (hty : typeOf (.builtin id) = pure (.type "method_descriptor"))
    (hbase : attributeBase o name X.env (eval o X.env) = eval o X.env := by rfl)
    (hfew : ((backTo pos (starEach (e :: es) X.env)).all (fun x => !x.1) && (backToKw pos (keywordEach [] X.env)).all (fun x => x.1.isSome)
      && decide ((e :: es).length + ([] : List Keyword).length + (if ([] : List Keyword).isEmpty then 0 else 1) < 30)) = true := by rfl)
    (hline : (apos.endLine == pos.line) = true := by rfl) (hs : starEach (e :: es) X.env = (false, eval e X.env) :: starEach es X.env := by rfl) (hplain : (backTo pos (starEach es X.env)).any (·.1) = false := by rfl) : SE X cl W (.Call (.Attribute o name apos) (e :: es) [] pos) (dBML op fo fa) := by
  obtain ⟨rr, h1, h2⟩ := hm.ex
  refine ⟨(pe_bm PySem.F.plainAttrs_list slot hty h1 ho.run ha.run hbase hfew hline hs hplain).imp fun sg H Q ⟨Z, r, env, st, E, R, h⟩ => ?_⟩
  refine ⟨Z, r, env, st, E, R, Post.bind h fun x st1 r1 H1 v _ e1 R1 q1 h1 => ?_⟩
  split at h1
  · rename_i hl
    refine ⟨tyV_list R1 q1 hl, Z, r1, env, st1, E.ext e1, R1, Post.bind h1 fun ds st2 r2 H2 vs _ e2 R2 q2 h3 => ?_⟩
    exact h2 R2 (Rep.ext e2 x q1) q2 h3
  · exact h1.elim
def opAppend (x : D) (ds : List D) (st : Store) : Res D := match x, ds with
  | .h k, [y] => match st[k]? with
    | some (.nd .lst xs) => if xs.length < szL then .ok .non (st.set k (.nd .lst (xs ++ [y]))) else .no
    | _ => .no
  | _, _ => .no
theorem ms_append : MS X cl "list.append" opAppend := by
  refine ⟨_, mt_append, fun {Z r H st x ds v vs Q W'} R qx qd h => ?_⟩
  unfold opAppend at h
  split at h
  · rename_i k y
    obtain ⟨w, q, rfl, a1, rfl⟩ := qd
    obtain ⟨a, rfl, ea⟩ := qx
    split at h
    · rename_i xs hs
      split at h
      · rename_i hl
        obtain ⟨b, eb, t, ys, us, ed, hm, hu⟩ := R.cell k _ hs
        cases ed
        rw [ea] at eb; cases eb
        exact ⟨a, us, w, rfl, rfl, hm, by rw [← hu.length]; exact hl, h r _ _ (Ext.write ea) (R.write ea (show HatM ⟨X.K, cl⟩ _ a .lst _ from upd_same) (hu.append (RepL.one a1))) rfl⟩
      · exact h.elim
    · exact h.elim
  · exact h.elim
def opPopAt (x : D) (ds : List D) (st : Store) : Res D := match x, ds with
  | .h k, [.int i] => match st[k]? with
    | some (.nd .lst xs) => if -(2 ^ 63) ≤ i ∧ i < 2 ^ 63 then (match seqIndex? i xs.length with
      | some j => match xs[j]? with
        | some y => .ok y (st.set k (.nd .lst (xs.eraseIdx j)))
        | none => .no
      | none => .no) else .no
    | _ => .no
  | _, _ => .no
theorem ms_popAt : MS X cl "list.pop" opPopAt := by
  refine ⟨_, mt_popAt, fun {Z r H st x ds v vs Q W'} R qx qd h => ?_⟩
  unfold opPopAt at h
  split at h
  · rename_i k i
    obtain ⟨w0, q0, rfl, a1, rfl⟩ := qd
    obtain ⟨a, rfl, ea⟩ := qx
    split at h
    · rename_i xs hs
      split at h
      · rename_i hb
        split at h
        · rename_i j hj
          split at h
          · rename_i y hy
            obtain ⟨b, eb, t, ys, us, ed, hm, hu⟩ := R.cell k _ hs
            cases ed
            rw [ea] at eb; cases eb
            obtain ⟨w, hw, qw⟩ := hu.get hy
            have na : ¬ Nin Z r a := fun n => n.2 (List.mem_of_getElem? ea)
            exact ⟨a, us, i, j, w, rfl, by rw [show w0 = .int i from a1], hm, hb.1, hb.2, by rw [← hu.length]; exact hj, hw, h r _ _ (Ext.write ea) (R.write ea (show HatM ⟨X.K, cl⟩ _ a .lst _ from upd_same) (hu.erase j)) (Rep.off na _ qw)⟩
          · exact h.elim
        · exact h.elim
      · exact h.elim
    · exact h.elim
  · exact h.elim
/-- what is never come to -/
theorem ss_never {s : Stmt} : SS X cl W s (fun _ _ => .no) := ⟨ps_never.imp fun E sg H ⟨_, _, _, _, _, _, h⟩ => h⟩
end
end DY

/-! isinstance, repr, dict displays, calls by keywords, sorted, sets of rows. -/
namespace DY
open PySem PySem.Spec PyProof.Rows L2
section
variable {X : Cx} {cl : ClsT} {W : WX} {pos : Pos} {x : Str} {p p2 apos : Pos} {e o : Expr} {es : List Expr} {fa : SemA} {fo fe : SemE} {F : SemF}
/-! ### isinstance -/
/-- a datum's built-in type -/
def tyD (st : Store) (x : D) : Option String :=
  match x with
  | .non => some "NoneType"
  | .bl _ => some "bool"
  | .int _ => some "int"
  | .str _ => some "str"
  | x => match seen st x with
    | some (.lst, _) => some "list"
    | some (.scr, _) => some "list"
    | some (.tup, _) => some "tuple"
    | some (.ktp, _) => some "tuple"
    | some (.dk _, _) => some "dict"
    | some (.dt _, _) => some "dict"
    | _ => none
def tysA : List String := ["NoneType", "bool", "int", "str", "list", "tuple", "dict"]
def tysB : List String := ["bool", "int", "str", "list", "tuple", "dict"]
/-- what isinstance answers -/
def isiB (a b : String) : Bool := a == b || (a == "bool" && b == "int")
theorem isi_tab : (tysA.all fun a => tysB.all fun b => decide (kitB a b = some (isiB a b))) = true := by decide +kernel
theorem isi_ok {a b : String} (ha : a ∈ tysA) (hb : b ∈ tysB) : kitB a b = some (isiB a b) :=
  of_decide_eq_true (List.all_eq_true.mp (List.all_eq_true.mp isi_tab a ha) b hb)
theorem ty_lstR {K : PySem.W.Frag} {H : Hp} {a : Addr} {vs : List V} (h : Rd H a (.lst vs)) : TyX K H (.ref a) (.type "list") := by
  rcases h with h | ⟨o, h⟩
  · exact .base (.lst h)
  · exact .base (.frz h)
theorem ty_tupR {K : PySem.W.Frag} {H : Hp} {a : Addr} {vs : List V} (h : Rd H a (.tup vs)) : TyX K H (.ref a) (.type "tuple") := by
  rcases h with h | ⟨o, h⟩
  · exact .base (.tup h)
  · exact .fTuple h
theorem tyD_ok {Z r : List Addr} {H : Hp} {st : Store} {x : D} {v : V} {T : String} (R : Rl ⟨X.K, cl⟩ Z r H st) (q : Rep ⟨X.K, cl⟩ Z r H x v) (h : tyD st x = some T) : TyX X.K H v (.type T) ∧ T ∈ tysA := by
  have gen : (match seen st x with
    | some (.lst, _) => some "list"
    | some (.scr, _) => some "list"
    | some (.tup, _) => some "tuple"
    | some (.ktp, _) => some "tuple"
    | some (.dk _, _) => some "dict"
    | some (.dt _, _) => some "dict"
    | _ => none) = some T → TyX X.K H v (.type T) ∧ T ∈ tysA := by
    intro h
    split at h
    · rename_i ys hs
      cases h
      obtain ⟨a, us, rfl, _, s⟩ := seen_ok R q hs
      refine ⟨?_, by decide⟩
      rcases s with s | s
      · exact .base (.lst s.2)
      · exact .base (.lst s)
    · rename_i ys hs
      cases h
      obtain ⟨a, us, rfl, _, s⟩ := seen_ok R q hs
      refine ⟨?_, by decide⟩
      rcases s with s | s
      · rcases s with ⟨_, s⟩ | ⟨o, _, _, s, c, _⟩
        · exact ty_lstR s
        · exact .kList s c
      · exact s.elim
    · rename_i ys hs
      cases h
      obtain ⟨a, us, rfl, _, s⟩ := seen_ok R q hs
      refine ⟨?_, by decide⟩
      rcases s with s | s
      · exact .base (.tup s.2)
      · exact s.elim
    · rename_i ys hs
      cases h
      obtain ⟨a, us, rfl, _, s⟩ := seen_ok R q hs
      refine ⟨?_, by decide⟩
      rcases s with s | s
      · rcases s with ⟨_, s⟩ | ⟨o, _, _, s, c, _⟩
        · exact ty_tupR s
        · exact .kTuple s c
      · exact s.elim
    · rename_i ks ys hs
      cases h
      obtain ⟨a, us, rfl, _, s⟩ := seen_ok R q hs
      exact ⟨.base (.dK (dk_at s).2), by decide⟩
    · rename_i ks ys hs
      cases h
      obtain ⟨a, us, rfl, _, s⟩ := seen_ok R q hs
      exact ⟨.base (.dT (dt_at s).2), by decide⟩
    · cases h
  cases x with
  | non => cases h; cases (show v = .non from q); exact ⟨.base .non, by decide⟩
  | bl b => cases h; cases (show v = .bl b from q); exact ⟨.base (.bl b), by decide⟩
  | int i => cases h; cases (show v = .int i from q); exact ⟨.base (.int i), by decide⟩
  | str s => cases h; cases (show v = .str s from q); exact ⟨.base (.str s), by decide⟩
  | h k => exact gen h
  | nd t xs => exact gen h
/-- isinstance(x, T), isinstance(x, (T, ..)) -/
def dIsi (Ts : List String) (f : SemE) : SemE := fun env st => (f env st).bind fun x st1 => match tyD st1 x with
  | some T => .ok (.bl (Ts.any (isiB T))) st1
  | none => .no
theorem se_isi {y : Str} (T : String) (hm : X.mg "isinstance" = none) (hmy : X.mg y = none) (hv : bootBuiltins y = some (.type T)) (ho : SE X cl W e fo) (hT : T ∈ tysB := by decide) (hg : Gl X "isinstance" := by rfl) (hgy : Gl X y := by rfl)
    (hn : y ≠ "__name__" := by decide +kernel) (hd : (y == ("__debug__" : Str)) = false := by decide +kernel)
    (h1 : starEach [e, .Name y p2] X.env = (false, eval e X.env) :: starEach [.Name y p2] X.env := by rfl) (h2 : (backTo pos (starEach [.Name y p2] X.env)).any (·.1) = false := by rfl) (h3 : starEach [.Name y p2] X.env = (false, eval (.Name y p2) X.env) :: starEach [] X.env := by rfl) :
    SE X cl W (.Call (.Name "isinstance" p) [e, .Name y p2] [] pos) (dIsi [T] fo) := by
  refine ⟨(pe_callB call_isi hg hm (by rfl) (pa_cons ho.run (pa_cons (pe_bltn (v := V.ty T) hgy hmy hv rfl hn hd) pa_nil h3) h1) (by decide +kernel) (by decide +kernel) h1 h2).imp fun sg H Q ⟨Z, r, env, st, E, R, h⟩ => ?_⟩
  refine ⟨Z, r, env, st, E, R, Post.bind h fun a st1 r1 H1 v _ e1 R1 q1 h1 => ?_⟩
  split at h1
  · rename_i T' hT'
    obtain ⟨ty, hm⟩ := tyD_ok R1 q1 hT'
    refine ⟨v, _, _, _, isiB T' T, rfl, .ty T, ty, kit_ty (isi_ok hm hT), ?_⟩
    have := post_ok h1 R1 (b := V.bl ([T].any (isiB T'))) rfl
    simpa using this
  · exact h1.elim
/-! ### repr -/
def dRepr : SemF := fun ds st => match ds with
  | [.int i] => if i.natAbs.log2 < 1920 then .ok (.str (toString i)) st else .no
  | [x] => match toP deepP st x with
    | some (.list ys) => if (PyData.list ys).showable = true ∧ (PyData.list ys).shown.length ≤ szL ∧ shp (.list ys) = true then .ok (.str (PyData.list ys).shown) st else .no
    | some (.tuple ys) => if (PyData.tuple ys).showable = true ∧ (PyData.tuple ys).shown.length ≤ szL ∧ shp (.tuple ys) = true then .ok (.str (PyData.tuple ys).shown) st else .no
    | _ => .no
  | _ => .no
mutual
theorem nodict_plain : ∀ d : PyData, d.plain = true → d.hasDict = false
  | .none, _ => rfl
  | .bool _, _ => rfl
  | .int _, _ => rfl
  | .str _, _ => rfl
  | .list xs, h => by
    simp only [PyData.hasDict]
    exact nodict_plainAll xs (by simpa [PyData.plain] using h)
  | .tuple xs, h => by
    simp only [PyData.hasDict]
    exact nodict_plainAll xs (by simpa [PyData.plain] using h)
  | .dict _, h => by simp [PyData.plain] at h
theorem nodict_plainAll : ∀ ds : List PyData, PyData.plainAll ds = true → PyData.hasDictAll ds = false
  | [], _ => rfl
  | d :: ds, h => by
    have h' : d.plain = true ∧ PyData.plainAll ds = true := by simpa [PyData.plainAll] using h
    simp [PyData.hasDictAll, nodict_plain d h'.1, nodict_plainAll ds h'.2]
end
/-- repr of what reads as data -/
def rReprP (K : PySem.W.Frag) : List V → Hp → VK → Prop := fun vs H Q => ∃ a d, vs = [.ref a] ∧ Dp K H (.ref a) d ∧ d.showable = true ∧ d.shown.length ≤ sizeLine ∧ shp d = true ∧ Q (.str d.shown) H
theorem cr_reprP (hu : X.A.units + 64 < cLine) (hg : X.A.guards = some []) : CallR X (.builtin "repr") (rReprP X.K) := by
  intro pins s sg H vs us Q I r h
  obtain ⟨a, d, rfl, hd, hs, hz, hp, q⟩ := h
  obtain ⟨u, rfl, rv⟩ := vals1 r
  obtain rfl : u = Value.ref a := rv
  obtain ⟨as, rd⟩ := Dp.reads I d _ _ hd rfl
  refine PySem.repr_of_reads' rd hs (fun h => ?_) hg (by have := shp_depth hp; omega) (fun _ _ e => e) (fun h' u tk hk => ⟨.str d.shown, H, I.kept hk, ⟨_, rfl⟩, q⟩) hz
  rw [nodict_plain d (shp_plain hp)] at h
  cases h
theorem cs_repr (hu : X.A.units + 64 < cLine) (hg : X.A.guards = some []) : CS X cl (.builtin "repr") dRepr := by
  refine ⟨fun vs H Q => (∃ i, vs = [.int i] ∧ i.natAbs.log2 < 1920 ∧ Q (.str (toString i)) H) ∨ rReprP X.K vs H Q, (fun pins s sg H vs us Q I rr h => h.elim (SkE.call_repr_int pins s sg H vs us Q I rr) (cr_reprP hu hg pins s sg H vs us Q I rr)), fun {Z r H st ds vs Q W'} R qd h => ?_⟩
  unfold dRepr at h
  split at h
  · rename_i i
    obtain ⟨v, q, rfl, a1, rfl⟩ := qd
    split at h
    · rename_i hl
      exact .inl ⟨i, by rw [show v = .int i from a1], hl, post_ok h R rfl⟩
    · exact h.elim
  · rename_i d _
    obtain ⟨v, q, rfl, a1, rfl⟩ := qd
    split at h
    · rename_i ys hp
      split at h
      · rename_i hc
        have hd := toP_ok R _ _ hp a1
        cases hd with
        | lst s1 s2 => exact .inr ⟨_, _, rfl, .lst s1 s2, hc.1, hc.2.1, hc.2.2, post_ok h R rfl⟩
      · exact h.elim
    · rename_i ys hp
      split at h
      · rename_i hc
        have hd := toP_ok R _ _ hp a1
        cases hd with
        | tup s1 s2 => exact .inr ⟨_, _, rfl, .tup s1 s2, hc.1, hc.2.1, hc.2.2, post_ok h R rfl⟩
      · exact h.elim
    · exact h.elim
  · exact h.elim
end
end DY

/-! A program's defs as a table of functions on data. -/
namespace DY
open PySem PySem.Spec PyProof.Rows L2
/-- what a body's rules want of the place where it runs -/
structure DF (X : Cx) (W : WX) (k : Nat) : Prop where
  calm : X.calm = true
  own : PassesOwn (model X.prog X.w) X.A X.env X.xe
  tk : Takes X W
  room : Room (k + 1) X.A
  gd : X.A.guards = some []
theorem DF.hu {X : Cx} {W : WX} {k : Nat} (D : DF X W k) : X.A.units + 64 < cLine := D.room.units
theorem DF.hu1 {X : Cx} {W : WX} {k : Nat} (D : DF X W k) : X.A.units + 1 < cLine := by have := D.hu; omega
section
variable {P : Program} {w : World} {K : PySem.W.Frag} {mg : Str → Option Value} {base : Heap}
theorem DF.of {N : List Str} {qual : Str} {scope : Scope} {f : Addr} {cdv : Value} {A : Around} {outer : List Env} {s : Shared} {H : Hp} {E : XK} {k : Nat} (hr : Room (k + 1) (A.deeper (envOfC qual scope s.heap.objs.size f cdv))) (hg : A.guards = some []) :
    DF (cxOf (L2.CX P w) P w K mg base N qual scope f cdv A outer s H E) (fun c d _ H' => E c d H') k :=
  ⟨rfl, passes_of rfl, takes_of rfl rfl rfl rfl, hr, deeper_guards hg⟩
theorem DF.blk {X : Cx} {W : WX} {k : Nat} (D : DF X W k) (s : Shared) (H : Hp) (scope : Scope) (env : Env) (fp : List Addr) (hc : (X.blk s H scope env fp).calm = true := by rfl) : DF (X.blk s H scope env fp) WF k :=
  ⟨hc, PassesOwn.never, takes0, D.room, D.gd⟩
/-- the table: where the defs stand, what they are called, what they compute -/
structure TX (P : Program) (w : World) (K : PySem.W.Frag) (mg : Str → Option Value) (base : Heap) (cl : ClsT) (fa : Nat → Addr) (fd : Nat → FuncData) (ps : Nat → List Str) (n k : Nat) (c : Nat → SemF) : Prop where
  fn : ∀ i, i < n → FnG P w K mg base k (fa i) (fd i) (ps i) (spF ⟨K, cl⟩ (ps i).length (c i))
  ar : ∀ i ds st, ds.length ≠ (ps i).length → c i ds st = .no
  bd : ∀ i, i < n → L2.Binds K (fd i) (ps i) []
  kp : ∀ i, i < n → PySem.W.keepIn K (.ref (fa i)) = true
/-- with its number of arguments -/
def arF (n : Nat) (F : SemF) : SemF := fun ds st => if ds.length = n then F ds st else .no
theorem arF_ne {n : Nat} {F : SemF} {ds : List D} {st : Store} (h : ds.length ≠ n) : arF n F ds st = .no := if_neg h
theorem FnG.ar {k : Nat} {f : Addr} {fd : FuncData} {ps : List Str} {g : Gd} {F : SemF} (h : FnG P w K mg base k f fd ps (spF g ps.length F)) : FnG P w K mg base k f fd ps (spF g ps.length (arF ps.length F)) :=
  h.imp fun vs H Q E ⟨hl, Z, r, st, ds, qd, R, q⟩ => ⟨hl, Z, r, st, ds, qd, R, by
    have e : arF ps.length F ds st = F ds st := if_pos (by rw [qd.length]; exact hl)
    rw [e] at q; exact q⟩
end
section
variable {X : Cx} {cl : ClsT} {fa : Nat → Addr} {fd : Nat → FuncData} {ps : Nat → List Str} {n k : Nat} {c : Nat → SemF} {W : WX} {pos p apos : Pos} {x m : Str} {e o : Expr} {es : List Expr} {fs : SemA} {fo fe : SemE}
theorem TX.cal (T : TX X.prog X.w X.K X.mg X.base cl fa fd ps n k c) (D : DF X W k) (i : Nat) (hi : i < n) : CalF X cl W (.ref (fa i)) (c i) :=
  calF_fn (T.fn i hi) (D.room.mono (Nat.le_succ k)) D.gd (T.bd i hi) D.tk fun ds st h => T.ar i ds st h
theorem TX.make (T : TX X.prog X.w X.K X.mg X.base cl fa fd ps n k c) (D : DF X W k) (i j : Nat) (hi : i < n) (M : Mk X.K (cl j) (fa i)) : CalF X cl W (.ref (cl j)) (runInit j (c i)) :=
  calF_make j M (T.fn i hi) D.room D.gd (T.bd i hi) D.tk fun ds st h => T.ar i ds st h
theorem TX.call (T : TX X.prog X.w X.K X.mg X.base cl fa fd ps n k c) (D : DF X W k) (i : Nat) (hm : X.mg x = some (.ref (fa i))) (ha : SA X cl W (e :: es) fs) (hi : i < n := by decide) (hg : Gl X x := by rfl) (hdb : (x == ("__debug__" : Str)) = false := by decide +kernel)
    (he : starEach (e :: es) X.env = (false, eval e X.env) :: starEach es X.env := by rfl) (hpl : (backTo pos (starEach es X.env)).any (·.1) = false := by rfl) : SE X cl W (.Call (.Name x p) (e :: es) [] pos) (dCall (c i) fs) :=
  se_call (T.cal D i hi) hm (T.kp i hi) ha hg hdb he hpl
end

/-! ### the law's end -/
/-- what the tables of code objects are told by -/
structure TabsOk (K : PySem.W.Frag) (h : Heap) (cs : List (Addr × Addr)) : Prop where
  nil : ∀ p ∈ cs, h.get? p.2 = some (PySem.W.tabObj #[])
  out : ∀ p ∈ cs, K.lookup p.2 = none
  hd : ∀ p ∈ cs, PySem.W.CodeHd h p.1 p.2
theorem TabsOk.none {K : PySem.W.Frag} {h : Heap} : TabsOk K h [] := ⟨fun _ z => (nomatch z), fun _ z => (nomatch z), fun _ z => (nomatch z)⟩
def tabMem (cs : List (Addr × Addr)) (b : Addr) : Bool := cs.any fun p => p.2 == b
theorem tabMem_iff {cs : List (Addr × Addr)} {b : Addr} : tabMem cs b = true ↔ ∃ p ∈ cs, p.2 = b := by simp [tabMem]
/-- the script and the tables alone are tracked -/
def OneAt (a : Addr) (u : Option HO) (cs : List (Addr × Addr)) : Hp := fun b => if b = a then u else if tabMem cs b = true then some (.tbl #[]) else none
theorem law_ends {P : Program} {w : World} {K : PySem.W.Frag} {mg mb : Str → Option Value} {k : Nat} {fa a : Addr} {fd : FuncData} {x : Str} {sp : Sp} {s0 : Shared} {us : List Value} {ns : List Int} {cs : List (Addr × Addr)}
    (kin : K.In s0.heap) (ng : s0.heap.Ns mainGlobals mg) (nb : s0.heap.Ns builtinsNs mb) (bb : ∀ y : Str, y ≠ "__name__" → mb y = bootBuiltins y) (lim : s0.heap.NoLimit) (gn : s0.gens = #[])
    (tabs : TabsOk K s0.heap cs) (bmn : ∃ (bm : Addr) (ob : Obj), mg "__builtins__" = some (.ref bm) ∧ bm ≠ builtinsNs ∧ s0.heap.get? bm = some ob ∧ ob.cls = .type "module" ∧ ob.dict = some builtinsNs ∧ ob.data = .plain)
    (at_ : s0.heap.get? a = some { cls := .type "list", data := .seq us.toArray }) (ia : IntsAre us ns) (hl : ns.length ≤ sizeLine) (room : Room k callerA)
    (F : ∀ b : Heap, K.In b → b.Ns mainGlobals mg → (∀ p ∈ cs, LamX.TabB b mg p.1 p.2) → FnG P w K mg b k fa fd [x] sp) (bind : ∀ (s : Shared) (u : Value), BindsTo s fd ⟨[u], []⟩ [(x, u)])
    (good : ∀ H : Hp, (∀ p ∈ cs, H p.2 = some (.tbl #[])) → SqL K H a (ns.map V.int) → sp [.ref a] H (fun v _ => v = .bl true) fun _ _ _ => False) :
    codeAny (model P w) callerA (.call (.ref fa) ⟨[.ref a], []⟩) (fun r s' => r = .ok (.ret (.bool true)) ∧ OldK s0.heap s'.heap ∧ s'.os = s0.os ∧ AllBare s'.gens) s0 := by
  have rv := vals_ints ia
  have hlen := ia.length
  have tabAt : ∀ b, tabMem cs b = true → s0.heap.get? b = some (PySem.W.tabObj #[]) := fun b hb => by
    obtain ⟨p, hp, rfl⟩ := tabMem_iff.mp hb
    exact tabs.nil p hp
  have aNo : ∀ p ∈ cs, p.2 ≠ a := fun p hp z => by
    have e1 := tabs.nil p hp
    rw [z, at_] at e1
    exact nomatch (show Data.seq us.toArray _ = Data.fields #[] from congrArg Obj.data (Option.some.inj e1))
  have aOff : tabMem cs a ≠ true := fun z => by
    obtain ⟨p, hp, e⟩ := tabMem_iff.mp z
    exact aNo p hp e
  have inner : ∀ u : Option HO, (u = none ∨ ∃ o xs, u = some (.frz o (.lst xs))) → SqL K (OneAt a u cs) a (ns.map V.int) → HOk P w (OneAt a u cs) s0.heap → (u ≠ none → K.lookup a = none) →
      codeAny (model P w) callerA (.call (.ref fa) ⟨[.ref a], []⟩) (fun r s' => r = .ok (.ret (.bool true)) ∧ OldK s0.heap s'.heap ∧ s'.os = s0.os ∧ AllBare s'.gens) s0 := by
    intro u hu sq ok notK
    have tabH : ∀ p ∈ cs, OneAt a u cs p.2 = some (.tbl #[]) := fun p hp => (if_neg (aNo p hp)).trans (if_pos (tabMem_iff.mpr ⟨p, hp, rfl⟩))
    have look : ∀ b, OneAt a u cs b ≠ none → (b = a ∧ u ≠ none ∧ OneAt a u cs b = u) ∨ tabMem cs b = true := fun b hb => by
      unfold OneAt at hb
      by_cases e : b = a
      · exact .inl ⟨e, by rw [if_pos e] at hb; exact hb, if_pos e⟩
      · rw [if_neg e] at hb
        by_cases t : tabMem cs b = true
        · exact .inr t
        · rw [if_neg t] at hb; exact absurd rfl hb
    generalize OneAt a u cs = H at *
    have hid : ∀ {b : Addr} {o : Obj}, s0.heap.get? b = some o → H b = none → (hidT s0.heap H).get? b = some o := fun e1 e2 => hidT_get e1 e2
    have untracked : ∀ {b : Addr} {o : Obj}, s0.heap.get? b = some o → (∀ vs n, o.data ≠ .seq vs n) → o.data ≠ .fields #[] → H b = none := by
      intro b o e1 e2 e3
      cases hb : H b with
      | none => rfl
      | some z =>
        rcases look b (by rw [hb]; exact Option.some_ne_none z) with ⟨rfl, _, _⟩ | t
        · rw [at_] at e1; cases e1
          exact absurd rfl (e2 _ _)
        · rw [tabAt b t] at e1; cases e1
          exact absurd rfl e3
    have dicts : ∀ {b : Addr} {o : Obj} {es : Array DictEntry} {n : Nat}, s0.heap.get? b = some o → o.data = .dict es n → H b = none := fun e1 e2 =>
      untracked e1 (fun vs n z => by rw [e2] at z; cases z) (fun z => by rw [e2] at z; cases z)
    have nsH : ∀ {b : Addr} {m : Str → Option Value}, s0.heap.Ns b m → (hidT s0.heap H).Ns b m := fun ⟨o, es, n, e1, e2, e3⟩ => ⟨o, es, n, hid e1 (dicts e1 e2), e2, e3⟩
    have kinH : K.In (hidT s0.heap H) := fun b o e1 => hid (kin b o e1) (by
      cases hb : H b with
      | none => rfl
      | some z =>
        rcases look b (by rw [hb]; exact Option.some_ne_none z) with ⟨rfl, q, _⟩ | t
        · rw [notK q] at e1; cases e1
        · obtain ⟨p, hp, rfl⟩ := tabMem_iff.mp t
          rw [tabs.out p hp] at e1; cases e1)
    have md : Mod K mg (hidT s0.heap H) := by
      obtain ⟨mc, l1, l2⟩ := lim
      exact ⟨kinH, nsH ng, ⟨mb, nsH nb, bb⟩, mc, nsH l1, l2⟩
    have tb : ∀ p ∈ cs, LamX.TabB (hidT s0.heap H) mg p.1 p.2 := by
      intro p hp
      have e0 := tabs.nil p hp
      obtain ⟨og, esg, ng', eg, dg, _⟩ := ng
      constructor
      · obtain ⟨o, vs, file, tf, flags, tg, inF, text, tt, e1, r1, r2, r3, rr⟩ := tabs.hd p hp
        refine ⟨o, vs, file, tf, flags, tg, inF, text, tt, hid e1 (untracked e1 (fun us n z => ?_) fun z => ?_), r1, r2, r3, rr⟩
        · rw [r2] at z; cases z
        · rw [r2] at z; cases z
          simp at r3
      · obtain ⟨bm, ob, b1, b2, b3, b4, b5, b6⟩ := bmn
        refine ⟨bm, ob, b1, b2, fun z => ?_, fun z => ?_, hid b3 (untracked b3 (fun us n z => ?_) fun z => ?_), b4, b5, b6⟩
        · rw [z, eg] at b3; cases b3
          rw [dg] at b6; cases b6
        · rw [z, e0] at b3; cases b3
          cases b6
        · rw [b6] at z; cases z
        · rw [b6] at z; cases z
      · intro z
        rw [z, e0] at eg; cases eg
        cases dg
    have env0 : Env0 P w K mg (hidT s0.heap H) callerA [] s0 H := by
      refine ⟨rfl, md, fun b o e1 => of_hidT e1, Nat.le_of_eq (hidT_size _ _), trivial, fun b hb => ?_, ok, .of_eq gn⟩
      exact absurd (show b ∈ ([] : List Addr) from hb) List.not_mem_nil
    have run := (F _ kinH (nsH ng) tb).run callerA [] s0 H ⟨[.ref a], []⟩ [.ref a] [.ref a] _ _ room rfl env0 (bind s0 (.ref a)) (.cons rfl .nil) (good H tabH sq)
    refine codeAny_mono run fun res s' hres => ?_
    cases res with
    | error e1 =>
      obtain ⟨_, _, _, _, _, _, _, _, _, _, _, _, z⟩ := hres
      exact z.elim
    | ok fl =>
      cases fl with
      | next => exact False.elim hres
      | brk => exact False.elim hres
      | cont => exact False.elim hres
      | ret v0 =>
        obtain ⟨v, H', e1, e2, un, ok', rel, hv⟩ := hres
        obtain rfl : v = .bl true := hv
        obtain rfl : v0 = Value.bool true := rel
        have kept : ∀ b o, tabMem cs b ≠ true → s0.heap.get? b = some o → s'.heap.get? b = some o := fun b o nt hb => by
          cases hq : H b with
          | none => exact un.keep b o hb hq (fun z => absurd (show b ∈ ([] : List Addr) from z) List.not_mem_nil) List.not_mem_nil
          | some z =>
            rcases look b (by rw [hq]; exact Option.some_ne_none z) with ⟨rfl, q, hu2⟩ | t
            · rcases hu with y | ⟨ob, xs, y⟩
              · exact absurd y q
              · rw [y] at hu2
                have y2 := un.frzs b ob _ hu2
                obtain ⟨f1, _⟩ := ok b _ hu2
                obtain ⟨f2, _⟩ := ok' b _ y2
                rw [hb] at f1; cases f1
                exact f2
            · exact absurd t nt
        have grown : ∀ b, tabMem cs b = true → ∃ more : Array Value, s'.heap.get? b = some (PySem.W.tabObj more) := fun b t => by
          obtain ⟨p, hp, rfl⟩ := tabMem_iff.mp t
          obtain ⟨more, z⟩ := un.tbls p.2 #[] (tabH p hp)
          exact ⟨_, ok' p.2 _ z⟩
        refine ⟨rfl, ⟨fun b o hb => ?_, fun b o hb => ?_⟩, e1, e2⟩
        · by_cases t : tabMem cs b = true
          · obtain ⟨more, hm⟩ := grown b t
            obtain ⟨p, hp, rfl⟩ := tabMem_iff.mp t
            rw [tabs.nil p hp] at hb; cases hb
            exact .inr (.inl ⟨((tabs.hd p hp).tab (tabs.nil p hp)).isCodeTable, rfl, #[], more, rfl, by rw [Array.empty_append]; exact hm⟩)
          · exact .inl (kept b o t hb)
        · by_cases t : tabMem cs b = true
          · obtain ⟨more, hm⟩ := grown b t
            exact ⟨_, hm⟩
          · exact ⟨o, kept b o t hb⟩
  have okT : ∀ u : Option HO, (∀ z, u = some z → ObjOk P w (OneAt a u cs) s0.heap a z) → HOk P w (OneAt a u cs) s0.heap := fun u hu b z e => by
    unfold OneAt at e
    by_cases hb : b = a
    · rw [if_pos hb] at e
      rw [hb]
      exact hu z e
    · rw [if_neg hb] at e
      by_cases t : tabMem cs b = true
      · rw [if_pos t] at e; cases e
        exact tabAt b t
      · rw [if_neg t] at e; cases e
  cases hk : K.lookup a with
  | some o =>
    have e1 := kin a o hk
    rw [at_] at e1
    cases e1
    refine inner none (.inl rfl) (.inr ⟨_, us.toArray, _, hk, rfl, rfl, rfl, ?_, by simpa using rv⟩) (okT none fun z e => by cases e) fun z => absurd rfl z
    rw [List.size_toArray, hlen]; exact hl
  | none =>
    refine inner (some (.frz { cls := .type "list", data := .seq us.toArray } (.lst (ns.map V.int)))) (.inr ⟨_, _, rfl⟩) (.inl (.inr ⟨_, if_pos rfl⟩)) (okT _ fun z e => ?_) fun _ => hk
    cases e
    exact ⟨at_, by rw [List.length_map]; exact hl, us, _, rv, at_⟩
/-- the script as data -/
def scrD (ns : List Int) : D := .nd .scr (ns.map D.int)
end DY

/-! Dict displays, calls by keywords, sorted, sets of rows, walks over tuples in pairs. -/
namespace DY
open PySem PySem.Spec PyProof.Rows L2
section
variable {X : Cx} {cl : ClsT} {W : WX} {pos : Pos} {x : Str} {p p2 apos : Pos} {e o : Expr} {es : List Expr} {fa : SemA} {fo fe : SemE} {F : SemF}
/-! ### {k: v, ..} -/
abbrev SemP := DEnv → Store → Res (List (D × D))
def dPairs : List (SemE × SemE) → SemP
  | [] => fun _ st => .ok [] st
  | (fk, fv) :: r => fun env st => (fk env st).bind fun k st1 => (fv env st1).bind fun v st2 => (dPairs r env st2).bind fun ps st3 => .ok ((k, v) :: ps) st3
structure SPs (X : Cx) (cl : ClsT) (W : WX) (pos : Pos) (keys : List (Option Expr)) (values : List Expr) (fs : List (SemE × SemE)) : Prop where
  run : PPs X pos keys values (fs.map fun q => (rdE ⟨X.K, cl⟩ W q.1, rdE ⟨X.K, cl⟩ W q.2))
theorem sps_nil : SPs X cl W pos [] [] [] := ⟨pps_nil⟩
theorem sps_cons {k v : Expr} {ks : List (Option Expr)} {vs : List Expr} {fk fv : SemE} {fs : List (SemE × SemE)} (hk : SE X cl W k fk) (hv : SE X cl W v fv) (hr : SPs X cl W pos ks vs fs) : SPs X cl W pos (some k :: ks) (v :: vs) ((fk, fv) :: fs) :=
  ⟨pps_cons hk.run hv.run hr.run⟩
def RPs (g : Gd) (Z r : List Addr) (H : Hp) (a : List (D × D)) (b : List (V × V)) : Prop := RepL g Z r H (a.map (·.1)) (b.map (·.1)) ∧ RepL g Z r H (a.map (·.2)) (b.map (·.2))
theorem pairs_rd {Z : List Addr} {sg : L2.St} : ∀ (fs : List (SemE × SemE)) {r : List Addr} {H : Hp} {env : DEnv} {st : Store} {Q : List (V × V) → Hp → Prop}, EnvR ⟨X.K, cl⟩ Z r H env sg → Rl ⟨X.K, cl⟩ Z r H st →
    Post ⟨X.K, cl⟩ Z r H (RPs ⟨X.K, cl⟩ Z) (dPairs fs env st) Q (fun c d H' => W c d sg H') → tPairs (fs.map fun q => (rdE ⟨X.K, cl⟩ W q.1, rdE ⟨X.K, cl⟩ W q.2)) sg H Q
  | [], r, H, env, st, Q, E, R, h => post_ok h R ⟨rfl, rfl⟩
  | (fk, fv) :: fs, r, H, env, st, Q, E, R, h => by
    refine ⟨Z, r, env, st, E, R, Post.bind h fun k st1 r1 H1 kv _ e1 R1 q1 h1 => ?_⟩
    refine ⟨Z, r1, env, st1, E.ext e1, R1, Post.bind h1 fun v st2 r2 H2 vv _ e2 R2 q2 h2 => ?_⟩
    refine pairs_rd fs (E.ext (e1.trans e2)) R2 (Post.bind h2 fun ps st3 r3 H3 ws _ e3 R3 q3 h3 => ?_)
    exact post_ok h3 R3 ⟨⟨_, _, rfl, Rep.ext (e2.trans e3) k q1, q3.1⟩, ⟨_, _, rfl, Rep.ext e3 v q2, q3.2⟩⟩
theorem merge_nd : ∀ (ks acc : List Key) (vs ac : List V), (acc ++ ks).Nodup → acc.length = ac.length → ks.length = vs.length → mergeK (acc.zip ac) (ks.zip vs) = (acc ++ ks).zip (ac ++ vs)
  | [], acc, vs, ac, nd, l1, l2 => by
    cases vs with
    | nil => simp [mergeK]
    | cons v vs => simp at l2
  | k :: ks, acc, vs, ac, nd, l1, l2 => by
    cases vs with
    | nil => simp at l2
    | cons v vs =>
      have hk : k ∉ acc := by
        intro hm
        rw [List.nodup_append] at nd
        exact nd.2.2 k hm k List.mem_cons_self rfl
      show mergeK (putK (acc.zip ac) k v) (ks.zip vs) = _
      rw [putK_zip_new l1 hk]
      have := merge_nd ks (acc ++ [k]) vs (ac ++ [v]) (by simpa [List.append_assoc] using nd) (by simp [l1]) (by simpa using l2)
      simpa [List.append_assoc] using this
theorem zip_maps : ∀ (ks : List Key) (ps : List (V × V)), ps.map (·.1) = ks.map kV → ps = (ks.zip (ps.map (·.2))).map fun kv => (kV kv.1, kv.2)
  | [], ps, h => by
    have : ps = [] := by simpa using h
    subst this; rfl
  | k :: ks, [], h => by simp at h
  | k :: ks, (a, b) :: ps, h => by
    simp at h
    have := zip_maps ks ps h.2
    simp only [List.map_cons, List.zip_cons_cons]
    rw [← this, h.1]
theorem Rl.put {g : Gd} {Z r : List Addr} {H : Hp} {q : Addr} {st : Store} {u : HO} (hu : NX u) (R : Rl g (q :: Z) r H st) : Rl g (q :: Z) r (upd H q u) st := by
  have np : ¬ Nin (q :: Z) r q := fun n => n.1 List.mem_cons_self
  have hq : ∀ w, H q = some w → NX w := fun w e => by
    obtain ⟨_, w', e', x⟩ := R.z q List.mem_cons_self
    rw [e'] at e; cases e; exact x
  refine ⟨R.len, R.nd, fun a m => ?_, tabs_upd hq R.tb, fun k d e => ?_⟩
  · obtain ⟨n, w, ew, x⟩ := R.z a m
    by_cases ha : a = q
    · subst ha; exact ⟨n, _, upd_same, hu⟩
    · exact ⟨n, w, by rw [upd_ne ha]; exact ew, x⟩
  · obtain ⟨a, ea, t, xs, vs, ed, hm, hx⟩ := R.cell k d e
    have ha : a ≠ q := fun z => (R.z q List.mem_cons_self).1 (z ▸ List.mem_of_getElem? ea)
    exact ⟨a, ea, t, xs, vs, ed, hm.keep (upd_ne ha), RepL.off np _ hx⟩
theorem Rl.keep1 {g : Gd} {Z r : List Addr} {H : Hp} {q : Addr} {st : Store} {u : HO} (hu : NX u) (R : Rl g Z r H st) (hq : H q = none) : Rl g (q :: Z) r (upd H q u) st := by
  have R1 := R.new (o := u) hq
  have hpr := R.free hq
  exact ⟨R1.len, R1.nd, fun a m => by
    rcases List.mem_cons.mp m with rfl | m
    · exact ⟨hpr.2, _, upd_same, hu⟩
    · exact R1.z a m, R1.tb, fun k d e => by
    obtain ⟨a, ea, t, xs, vs, ed, hm, hx⟩ := R.cell k d e
    obtain ⟨w, ew⟩ := hm.some
    exact ⟨a, ea, t, xs, vs, ed, hm.keep (upd_ne (ne_of_none ew hq)), RepL.extZ (Ext.new hq).w (fun b hb => by
      rcases List.mem_cons.mp hb with rfl | hb
      · exact .inr hq
      · exact .inl hb) hx⟩⟩
theorem EnvR.keep1 {g : Gd} {Z r : List Addr} {H : Hp} {q : Addr} {env : DEnv} {sg : L2.St} {u : HO} (E : EnvR g Z r H env sg) (hq : H q = none) : EnvR g (q :: Z) r (upd H q u) env sg :=
  ⟨E.len, fun i d h => let ⟨v, a, b⟩ := E.at_ i d h; ⟨v, a, Rep.extZ (Ext.new hq).w (fun b hb => by
      rcases List.mem_cons.mp hb with rfl | hb
      · exact .inr hq
      · exact .inl hb) b⟩⟩
theorem RepX.less {g : Gd} {Z r : List Addr} {H : Hp} {q : Addr} {e : Ex} {c : Value} {d : Option Addr} (h : RepX g (q :: Z) r H e c d) : RepX g Z r H e c d := by
  obtain ⟨h1, h2⟩ := h
  refine ⟨h1, ?_⟩
  rcases h2 with h2 | ⟨dx, vs, a, b, n, f, g'⟩
  · exact .inl h2
  · exact .inr ⟨dx, vs, a, b, ⟨fun m => n.1 (List.mem_cons_of_mem _ m), n.2⟩, f, RepL.less g'⟩
theorem Ext.fresh {r r2 : List Addr} {H H2 : Hp} {q : Addr} {u w : HO} (e : Ext r (upd H q u) r2 H2) (hq : H q = none) : Ext r H r2 (upd H2 q w) :=
  ⟨e.pre, fun a o h t n => by
    have ne := ne_of_none h hq
    obtain ⟨h1, n1⟩ := e.keep a o (by rw [upd_ne ne]; exact h) t n
    exact ⟨by rw [upd_ne ne]; exact h1, n1⟩⟩
/-- a dict that stays, a dict that will be changed -/
def dDict (fs : List (SemE × SemE)) : SemE := fun env st => (dPairs fs env st).bind fun ps st1 => match keys? (ps.map (·.1)) with
  | some ks => if ks.Nodup ∧ ps.length ≤ 15 then .ok (.nd (.dk ks) (ps.map (·.2))) st1 else .no
  | none => .no
def dDictM (fs : List (SemE × SemE)) : SemE := fun env st => (dPairs fs env st).bind fun ps st1 => match keys? (ps.map (·.1)) with
  | some ks => if ks.Nodup ∧ ps.length ≤ 15 then .ok (.h st1.length) (st1 ++ [.nd (.dk ks) (ps.map (·.2))]) else .no
  | none => .no
theorem dict_rd {fs : List (SemE × SemE)} {fin : List Key → List D → Store → Res D} (sg : L2.St) (H : Hp) (Q : VK)
    (hfin : ∀ Z r H q, H q = none → q ∉ Z → ∀ ks xs st2 r2 H2 vs, Ext r H r2 H2 → (ks.length = vs.length ∧ ks.Nodup) → H2 q = some (.dK (ks.zip vs)) → Rl ⟨X.K, cl⟩ (q :: Z) r2 H2 st2 → RepL ⟨X.K, cl⟩ (q :: Z) r2 H2 xs vs → ∀ {W' : Value → Option Addr → Hp → Prop}, Post ⟨X.K, cl⟩ Z r H (RV ⟨X.K, cl⟩ Z) (fin ks xs st2) Q W' → Q (.ref q) H2)
    (h : rdE ⟨X.K, cl⟩ W (fun env st => (dPairs fs env st).bind fun ps st1 => match keys? (ps.map (·.1)) with
      | some ks => if ks.Nodup ∧ ps.length ≤ 15 then fin ks (ps.map (·.2)) st1 else .no
      | none => .no) sg H Q) : tDisp (fs.map fun q => (rdE ⟨X.K, cl⟩ W q.1, rdE ⟨X.K, cl⟩ W q.2)) sg H Q := by
  obtain ⟨Z, r, env, st, E, R, h⟩ := h
  dsimp only at h
  intro q hq
  have hz := (R.free hq).1
  refine pairs_rd (Z := q :: Z) fs (E.keep1 hq) (R.keep1 nx_dK hq) ?_
  cases hp : dPairs fs env st with
  | no => rw [hp] at h; exact h.elim
  | er ex st1 =>
    rw [hp] at h
    exact fun r1 H1 c d e1 R1 q1 => h r1 H1 c d ⟨e1.pre, fun a o ha t n => e1.keep a o (by rw [upd_ne (ne_of_none ha hq)]; exact ha) t n⟩ R1.less q1.less
  | ok ps st1 =>
    rw [hp] at h
    dsimp only [Res.bind] at h
    intro r1 H1 ws e1 R1 q1
    have hd : H1 q = some (.dK []) := (e1.keep q _ upd_same nx_dK.1 (fun z => (R.free hq).2 z)).1
    refine ⟨hd, ?_⟩
    cases hk : keys? (ps.map (·.1)) with
    | none => rw [hk] at h; exact h.elim
    | some ks =>
      rw [hk] at h
      dsimp only at h
      split at h
      · rename_i hc
        have ek := keys_ok hk q1.1
        have l1 : ks.length = (ws.map (·.2)).length := by
          have := congrArg List.length ek
          simpa using this.symm
        have l2 : ps.length = ws.length := by simpa using q1.1.length
        refine ⟨ks.zip (ws.map (·.2)), zip_maps ks ws ek, ?_, ?_⟩
        · rw [List.length_zip, ← l1, Nat.min_self, l1, List.length_map, ← l2]; exact hc.2
        · have em := merge_nd ks [] (ws.map (·.2)) [] (by simpa using hc.1) rfl l1
          simp only [List.nil_append, List.zip_nil_left] at em
          rw [em]
          have np : ¬ Nin (q :: Z) r1 q := fun n => n.1 List.mem_cons_self
          exact hfin Z r H q hq hz ks _ st1 r1 _ _ (e1.fresh hq) ⟨l1, hc.1⟩ upd_same (R1.put nx_dK) (RepL.off np _ q1.2) h
      · exact h.elim
theorem se_dictM {keys : List (Option Expr)} {values : List Expr} {fs : List (SemE × SemE)} (h : SPs X cl W pos keys values fs) (hall : keys.all (·.isSome) = true := by rfl) (hl : keys.length = values.length := by rfl) (h0 : keys ≠ [] := by exact List.cons_ne_nil _ _) (h15 : keys.length ≤ 15 := by show (_ : Nat) ≤ 15; decide) :
    SE X cl W (.Dict keys values pos) (dDictM fs) :=
  ⟨(pe_disp h.run hall hl h0 h15).imp fun sg H Q h => dict_rd (fin := fun ks xs st => .ok (.h st.length) (st ++ [D.nd (Hd.dk ks) xs])) sg H Q (fun Z r H q hq hz ks xs st2 r2 H2 vs e hl hd R qx {W'} h =>
    h (r2 ++ [q]) H2 _ (e.adopt hq) (adoptM hz R (show HatM ⟨X.K, cl⟩ H2 q (.dk ks) vs from ⟨hl, hd⟩) qx) ⟨q, rfl, by rw [← R.len]; simp⟩) h⟩

/-! ### calls by keywords alone -/
def pmL {A : Type} (is : List Nat) (xs : List A) : List A := is.filterMap fun i => xs[i]?
theorem pm_vals {vs : List V} {us : List Value} (h : Vals vs us) : ∀ is : List Nat, Vals (pmL is vs) (pmL is us)
  | [] => .nil
  | i :: is => by
    have ih := pm_vals h is
    unfold pmL at ih ⊢
    rw [List.filterMap_cons, List.filterMap_cons]
    cases hv : vs[i]? with
    | none =>
      have : us[i]? = none := List.getElem?_eq_none (by rw [← h.length]; exact List.getElem?_eq_none_iff.mp hv)
      rw [this]; exact ih
    | some v =>
      obtain ⟨u, hu, r⟩ := h.get hv
      rw [hu]; exact .cons r ih
theorem pm_rep {g : Gd} {Z r : List Addr} {H : Hp} {ds : List D} {vs : List V} (h : RepL g Z r H ds vs) : ∀ is : List Nat, RepL g Z r H (pmL is ds) (pmL is vs)
  | [] => rfl
  | i :: is => by
    have ih := pm_rep h is
    unfold pmL at ih ⊢
    rw [List.filterMap_cons, List.filterMap_cons]
    cases hd : ds[i]? with
    | none =>
      have : vs[i]? = none := List.getElem?_eq_none (by rw [← h.length]; exact List.getElem?_eq_none_iff.mp hd)
      rw [this]; exact ih
    | some d =>
      obtain ⟨v, hv, q⟩ := h.get hd
      rw [hv]; exact ⟨v, _, rfl, q, ih⟩
/-- the keywords ks, given in this order, are the parameters' values by is -/
def BindsK (K : PySem.W.Frag) (fd : FuncData) (ps ks : List Str) (is : List Nat) : Prop := ∀ (s : Shared) (ws : List Value), K.In s.heap → ws.length = ks.length → BindsTo s fd ⟨[], ks.zip ws⟩ (ps.zip (pmL is ws))
/-- u, called with the keywords ks, computes F -/
structure CalK (X : Cx) (cl : ClsT) (W : WX) (u : Value) (ks : List Str) (F : SemF) : Prop where
  code : ∀ (pins : List (Addr × Obj)) (s : Shared) (sg : L2.St) (H : Hp) (Q : VK) (vs : List V) (us : List Value), Inv X pins sg H s → Vals vs us → rdC ⟨X.K, cl⟩ W F vs sg H Q → codeAny (model X.prog X.w) X.A (.call u ⟨[], ks.zip us⟩) (RcP X pins sg Q) s
theorem wp_codeK {pins : List (Addr × Obj)} {sg : L2.St} {Q : VK} {s : Shared} {u : Value} {args : Args} (h : codeAny (model X.prog X.w) X.A (.call u args) (RcP X pins sg Q) s) : wpAny (model X.prog X.w) X.A (call u args.pos args.kw) (EP X pins sg Q) X.xe s := by
  refine wpAny_call (codeAny_mono h fun q s' hq => ?_)
  cases q with
  | error e => exact hq
  | ok fl =>
    cases fl with
    | ret u => exact hq
    | next => exact False.elim hq
    | brk => exact False.elim hq
    | cont => exact False.elim hq
structure SK (X : Cx) (cl : ClsT) (W : WX) (kws : List Keyword) (f : SemA) : Prop where
  run : PK X kws (rdA ⟨X.K, cl⟩ W f)
theorem pk_imp {kws : List Keyword} {t t' : TA} (h : PK X kws t) (f : ∀ sg H Q, t' sg H Q → t sg H Q) : PK X kws t' := ⟨fun q pins s sg H Q I z => h.run q pins s sg H Q I (f sg H Q z)⟩
theorem sk_nil : SK X cl W [] dNil := ⟨pk_imp pk_nil fun sg H Q ⟨Z, r, env, st, E, R, h⟩ => post_ok h R rfl⟩
theorem sk_cons {nm : Option Str} {kws : List Keyword} {fr : SemA} (ha : SE X cl W e fe) (hr : SK X cl W kws fr) : SK X cl W (⟨nm, e, p⟩ :: kws) (dCons fe fr) := by
  refine ⟨pk_imp (pk_cons ha.run hr.run) fun sg H Q ⟨Z, r, env, st, E, R, h⟩ => ?_⟩
  refine ⟨Z, r, env, st, E, R, Post.bind h fun x st1 r1 H1 v _ e1 R1 q1 h1 => ?_⟩
  refine ⟨Z, r1, env, st1, E.ext e1, R1, Post.bind h1 fun xs st2 r2 H2 vs _ e2 R2 q2 h2 => ?_⟩
  exact post_ok h2 R2 ⟨v, vs, rfl, Rep.ext e2 x q1, q2⟩
theorem se_callK {a : Addr} {kws : List Keyword} {ks : List Str} (hF : CalK X cl W (.ref a) ks F) (hm : X.mg x = some (.ref a)) (hk : PySem.W.keepIn X.K (.ref a) = true) (ha : SK X cl W kws fa) (hg : Gl X x := by rfl) (hdb : (x == ("__debug__" : Str)) = false := by decide +kernel)
    (hall : (backToKw pos (keywordEach kws X.env)).all (·.1.isSome) = true := by rfl) (hks : (backToKw pos (keywordEach kws X.env)).filterMap (·.1) = ks := by rfl)
    (hpl : ((backTo pos (starEach [] X.env)).any (·.1) || (backToKw pos (keywordEach kws X.env)).any (·.1.isNone)) = false := by rfl) : SE X cl W (.Call (.Name x p) [] kws pos) (dCall F fa) := by
  refine ⟨⟨fun pins s sg H Q I h => ?_⟩⟩
  refine wpAny_Call_Name_kw (ld_glob I hg hm ?_ hdb)
  have h' : rdA ⟨X.K, cl⟩ W fa sg H fun vs H1 => rdC ⟨X.K, cl⟩ W F vs sg H1 Q := by
    obtain ⟨Z, r, env, st, E, R, h⟩ := h
    exact ⟨Z, r, env, st, E, R, Post.bind h fun ds st1 r1 H1 vs _ e1 R1 q1 h1 => ⟨Z, r1, st1, ds, q1, R1, h1⟩⟩
  refine PySem.W.callWith_KW0 (h₀ := X.base) I.ok.mod.kin hk hall (thn (ha.run.run pos pins s sg H _ I h') fun us s1 ⟨vs, H1, I1, rv, q⟩ => ⟨I1.kIn, ?_⟩) hpl
  rw [hks]
  exact wp_codeK (args := ⟨[], ks.zip us⟩) (hF.code pins s1 sg H1 Q vs us I1 rv q)
/-- the same function of the arguments as the keywords stand: n of them, for m parameters -/
def kwF (n m : Nat) (is : List Nat) (F : SemF) : SemF := fun ds st => if ds.length = n ∧ is.length = m ∧ (is.all fun i => decide (i < n)) = true then F (pmL is ds) st else .no
theorem calK_fn {k : Nat} {f : Addr} {fd : FuncData} {ps ks : List Str} {is : List Nat} {F : SemF} (hF : FnG X.prog X.w X.K X.mg X.base k f fd ps (spF ⟨X.K, cl⟩ ps.length F)) (hr : Room k X.A) (hg : X.A.guards = some []) (hb : BindsK X.K fd ps ks is) (tk : Takes X W) :
    CalK X cl W (.ref f) ks (kwF ks.length ps.length is F) := by
  refine ⟨fun pins s sg H Q vs us I r h => ?_⟩
  obtain ⟨Z, ra, st, ds, qd, R, h⟩ := h
  unfold kwF at h
  split at h
  · rename_i hc
    have hl : us.length = ks.length := by rw [← r.length, ← qd.length]; exact hc.1
    have hlen : ∀ (js : List Nat), (js.all fun i => decide (i < ks.length)) = true → (pmL js vs).length = js.length := by
      intro js hj
      induction js with
      | nil => rfl
      | cons j js ih =>
        rw [List.all_cons, Bool.and_eq_true] at hj
        have : j < vs.length := by rw [← qd.length, hc.1]; exact of_decide_eq_true hj.1
        unfold pmL at ih ⊢
        rw [List.filterMap_cons, List.getElem?_eq_getElem this]
        simp [ih hj.2]
    refine codeAny_mono (hF.run X.A X.stack s H ⟨[], ks.zip us⟩ (pmL is us) (pmL is vs) Q (fun c d H' => W c d sg H') hr hg I.env0 (hb s us I.kIn hl) (pm_vals r is) ⟨by rw [hlen is hc.2.2]; exact hc.2.1, Z, ra, st, pmL is ds, pm_rep qd is, R, h⟩) fun rr s' hq => ?_
    cases rr with
    | error e => exact tk e s' (XE.of_call I (fun _ _ _ q => q) hq)
    | ok fl =>
      cases fl with
      | ret u => exact I.after hq
      | next => exact False.elim hq
      | brk => exact False.elim hq
      | cont => exact False.elim hq
  · exact h.elim
end
end DY

/-! Walks over tuples in pairs; sorted; sets of rows. -/
namespace DY
open PySem PySem.Spec PyProof.Rows L2
/-! ### enumerate of a tuple -/
def ItE (K : PySem.W.Frag) (a : Addr) (n : Nat) : It :=
  ⟨fun i H => ∃ (us : List V) (u : V), SqT K H a us ∧ us.length = n ∧ us[i]? = some u,
   fun i H v H' => ∃ T u, v = .ref T ∧ H T = none ∧ H' = upd H T (.tup [.int (i : Nat), u]) ∧ ∀ us, SqT K H a us → us[i]? = some u,
   fun i H => ∃ us : List V, SqT K H a us ∧ us.length = n ∧ n ≤ i⟩
theorem turn_etup {P : Program} {w : World} {K : PySem.W.Frag} {elts : List Expr} {kk : Nat} {tpos : Pos} (a e it : Addr) (n : Nat) :
    Turn P w K (.Tuple elts kk tpos) (ItE K a n) [e, it] e (fun i h => (∃ old, IsEnum h e it ((i : Nat) : Int) old) ∧ h.IsTupleIter it a i ∧ e ≠ it ∧ i ≤ n ∧ a ≠ it ∧ a ≠ e) where
  mem := List.mem_cons_self
  obj := by
    rintro i h ⟨⟨old, he⟩, ⟨o, ho, hc, hd⟩, _⟩ b hb
    have hb' : b = e ∨ b = it := by simpa using hb
    rcases hb' with rfl | rfl
    · exact ⟨_, he, fun v z => nomatch z⟩
    · exact ⟨o, ho, fun v z => by rw [hd] at z; cases z⟩
  keep := by
    rintro i h h' ⟨⟨old, he⟩, hi, hr⟩ k
    exact ⟨⟨old, k e List.mem_cons_self _ he⟩, hi.at fun o q => k it (by simp) o q, hr⟩
  item := by
    rintro X rfl rfl rfl hc i pins s sg H E I hf ⟨⟨old, he⟩, hit, hne, hin, hai, hae⟩ ⟨us, u, hq, hn, hx⟩
    obtain ⟨its, rv, tp, _⟩ := I.tuple hq
    obtain ⟨z, hz, rz⟩ := rv.get hx
    have lt1 : e < s.heap.objs.size := Heap.lt_size he
    have lt2 : it < s.heap.objs.size := by obtain ⟨_, q, _⟩ := id hit; exact Heap.lt_size q
    have hi : i < its.toArray.size := by simpa using (List.getElem?_eq_some_iff.mp hz).1
    have Dr := Draws.tuple (prog := X.prog) (w := X.w) (A := X.A.in1) (I.ok.hd hc) it a hai its.toArray
    refine wpAny_pyNext_enum_itemD Dr he ⟨hit, tp⟩ hi hne (by simp; exact ⟨hne, Ne.symm hae⟩) fun y h1 tk hy ho st1 hT hsz hk => ?_
    have ey : y = z := by
      have h2 : its.toArray[i]? = some z := by simpa using hz
      have h3 : its.toArray[i]? = some y := hy
      rw [h2] at h3; exact (Option.some.inj h3).symm
    subst ey
    refine ⟨_, rfl, wpAny_letOwnedTupleGo_enum (s := { s with heap := h1, toks := tk + 1 }) ho fun h2 he2 sb => ?_⟩
    have hT2 : h2.get? s.heap.objs.size = some { cls := .type "tuple", data := .seq #[.int i tk, y] } := (sb.2 _ (Nat.ne_of_gt lt1)).trans hT
    have new : ObjOk X.prog X.w (upd H s.heap.objs.size (.tup [.int (i : Nat), u])) h2 s.heap.objs.size (.tup [.int (i : Nat), u]) :=
      ⟨by show 2 ≤ sizeLine; decide, [.int i tk, y], .cons ⟨_, rfl⟩ (.cons rz .nil), _, hT2, rfl, _, rfl⟩
    have I1 := I.turnedNew (t' := tk + 1) (ch := [e, it]) (fun b ob hb q => by
      have n1 : b ≠ e := fun z => hb (by simp [z])
      have n2 : b ≠ it := fun z => hb (by simp [z])
      exact (sb.2 b n1).trans (hk b ob n1 n2 q)) hf (Nat.le_refl _) new
    refine ⟨.ref s.heap.objs.size, _, I1, rfl, ⟨_, u, rfl, I.hok.fresh (Nat.le_refl _), rfl, fun ys hy => by rw [I.tuple_inj hy hq]; exact hx⟩, ⟨⟨y, ?_⟩, st1.1.at fun o q => (sb.2 it (Ne.symm hne)).trans q, hne, ?_, hai, hae⟩, fun b hb => ?_⟩
    · have : ((i + 1 : Nat) : Int) = (i : Int) + 1 := by omega
      rw [this]; exact he2
    · have := (List.getElem?_eq_some_iff.mp hx).1
      omega
    · have hb' : b < s.heap.objs.size := by
        have : b = e ∨ b = it := by simpa using hb
        rcases this with rfl | rfl
        · exact lt1
        · exact lt2
      rw [upd_ne (Nat.ne_of_lt hb')]
      exact (hf b hb).1
  done := by
    rintro X rfl rfl rfl hc i pins s sg H E I hf ⟨⟨old, he⟩, hit, hne, hin, hai, hae⟩ ⟨us, hq, hn, hle⟩
    obtain ⟨its, rv, tp, _⟩ := I.tuple hq
    obtain ⟨f0, f1, f2, f3, f4, f5⟩ := hf it (by simp)
    have hl := rv.length
    have hi : i = its.toArray.size := by simp; omega
    have Dr := Draws.tuple (prog := X.prog) (w := X.w) (A := X.A.in1) (I.ok.hd hc) it a hai its.toArray
    refine wpAny_pyNext_enum_endD Dr he ⟨hi ▸ hit, tp⟩ fun h1 eb => ⟨rfl, I.turned (t' := s.toks) (fun b o hb q => eb b o hb q) f0 f1 f3 f4 f5⟩
  self := fun A i s Q E st h => by
    obtain ⟨⟨_, he⟩, _⟩ := st
    exact wpAny_pyIter_enum he h
theorem meets_enum1 {v : Value} {o : Obj} {Ph : Heap → Prop} (B : Begins v o Ph) :
    Meets (Builtin.«enumerate.__new__» ⟨[.type "enumerate", v], []⟩) (fun _ R s => Ph s.heap ∧
      R (.ok (.ret (.ref (s.heap.push o).objs.size))) { s with heap := (s.heap.push o).push { cls := .type "enumerate", data := .fields #[.none, .bool false, .ref s.heap.objs.size, rawInt 0, .none, .none] } }) :=
  .of_wp fun prog w A R s0 hyp => by
    obtain ⟨hp0, g0, d0, t0, o0⟩ := s0
    obtain ⟨ph, goal⟩ := hyp
    have hsub := sub_enumerate
    have it0 : ∀ {A' : Around} {E : Value → Shared → Prop} {Q : Value → Shared → Prop}, Q (.ref hp0.objs.size) ⟨hp0.push o, g0, d0, t0, o0⟩ → wpAny (model prog w) A' (pyIter v) Q E ⟨hp0, g0, d0, t0, o0⟩ :=
      fun q => B.iter prog w _ _ ⟨hp0, g0, d0, t0, o0⟩ _ ph q
    wp_walk using it0
    refine wpAny_stack_any fun sk => wpAny_pure ?_
    split
    · rename_i cc _ _ _ _ _
      cases (cc == Value.type "enumerate") <;> (wp_walk using it0; exact ⟨_, rfl, goal⟩)
    · wp_walk using it0
      exact ⟨_, rfl, goal⟩
theorem enum1_begins {prog : Program} {w : World} {A : Around} {E : Value → Shared → Prop} {s : Shared} {v : Value} {o : Obj} {Ph : Heap → Prop} {Q : Value → Shared → Prop} (B : Begins v o Ph) (ph : Ph s.heap)
    (goal : ∀ h1, IsEnum h1 (s.heap.objs.size + 1) s.heap.objs.size 0 .none → h1.get? s.heap.objs.size = some o → h1.objs.size = s.heap.objs.size + 2 →
      (∀ b u, s.heap.get? b = some u → h1.get? b = some u) → Q (.ref (s.heap.objs.size + 1)) { s with heap := h1 }) :
    wpAny (model prog w) A (call (.type "enumerate") [v]) Q E s := by
  refine callType_new F.called_enumerate (by decide) (F.typeCall_enumerate_1 _) (F.newCall_enumerate_1 _) (fun ob => F.args_object_init_2 ob _) F.entry_enumerate_new (meets_enum1 B) ⟨ph, ?_⟩
  have sz : (s.heap.push o).objs.size = s.heap.objs.size + 1 := Heap.size_push ..
  show _ ∧ _
  rw [sz]
  have en : IsEnum ((s.heap.push o).push { cls := .type "enumerate", data := .fields #[.none, .bool false, .ref s.heap.objs.size, rawInt 0, .none, .none] }) (s.heap.objs.size + 1) s.heap.objs.size 0 .none := by
    have := Heap.get?_push_size (s.heap.push o) (o := { cls := .type "enumerate", data := .fields #[.none, .bool false, .ref s.heap.objs.size, rawInt 0, .none, .none] }) rfl
    rw [sz] at this
    exact this
  exact ⟨⟨_, en, rfl⟩, goal _ en (Heap.get?_push_of_some _ (Heap.get?_push_size _ B.free)) (by rw [Heap.size_push, sz]) fun b u q => Heap.get?_push_of_some _ (Heap.get?_push_of_some _ q)⟩
section
variable {X : Cx} {cl : ClsT} {W : WX} {pos : Pos} {x : Str} {p p2 apos : Pos} {e o : Expr} {es : List Expr} {fa : SemA} {fo fe : SemE} {F : SemF}
def iEtup (K : PySem.W.Frag) (ta : TA) : TI := fun sg H R => ta sg H fun vs H1 => ∃ a us, vs = [.ref a] ∧ SqT K H1 a us ∧ R (ItE K a us.length) H1
theorem pi_etup {elts : List Expr} {kk : Nat} {tpos : Pos} {ta : TA} (hg : Gl X "enumerate") (hm : X.mg "enumerate" = none) (ha : PA X [e] ta) (hs : starEach [e] X.env = [(false, eval e X.env)] := by rfl) :
    PI X (.Tuple elts kk tpos) (.Call (.Name "enumerate" p) [e] [] pos) (iEtup X.K ta) := by
  refine ⟨fun pins s sg H R I h => ?_⟩
  refine Call_ (ld_blt I hg hm boot_enumerate (PyProof.Rows.callWith_type1 (thn (ha.run pos pins s sg H _ I h) fun us s1 ⟨vs, H1, I1, r1, a, ys, ev, hq, q⟩ => ?_) hs rfl))
  subst ev
  obtain ⟨u, rfl, ru⟩ := vals1 r1
  obtain rfl : u = Value.ref a := ru
  obtain ⟨its, rv, tp, _⟩ := I1.tuple hq
  have la : a < s1.heap.objs.size := by obtain ⟨o, q, _⟩ := tp; exact Heap.lt_size q
  refine enum1_begins (begins_tuple a its.toArray) tp fun h1 en hit sz hk => wpAny_pyIter_enum en ?_
  refine ⟨s1.heap.objs.size + 1, [s1.heap.objs.size + 1, s1.heap.objs.size], _, _, H1, rfl, I1.kept (t' := s1.toks) hk, turn_etup a (s1.heap.objs.size + 1) s1.heap.objs.size ys.length,
    ⟨⟨.none, en⟩, ⟨_, hit, rfl, rfl⟩, Nat.succ_ne_self _, Nat.zero_le _, Nat.ne_of_lt la, Nat.ne_of_lt (Nat.lt_succ_of_lt la)⟩, fun b hb => ?_, q⟩
  have hle : s1.heap.objs.size ≤ b := by
    have : b = s1.heap.objs.size + 1 ∨ b = s1.heap.objs.size := by simpa using hb
    rcases this with rfl | rfl
    · exact Nat.le_succ _
    · exact Nat.le_refl _
  exact I1.fpOk hle (I1.hok.fresh hle)
/-- enumerate of a list or a tuple -/
def iEnum2 (f : SemA) : SemI := fun env st => (f env st).bind fun ds st1 => match ds with
  | [x] => match lst? st1 x with
    | some xs => .ok ⟨enuFrom 0 xs, fun st2 => lst? st2 x = some xs⟩ st1
    | none => match tup? st1 x with
      | some xs => .ok ⟨enuFrom 0 xs, fun st2 => tup? st2 x = some xs⟩ st1
      | none => .no
  | _ => .no
theorem it_etup {g : Gd} {Z r : List Addr} {H : Hp} {x : D} {a : Addr} {xs : List D} (h : Rep g Z r H x (.ref a)) : ItOk g Z r H ⟨enuFrom 0 xs, fun st2 => tup? st2 x = some xs⟩ (ItE g.K a xs.length) := by
  intro Z1 r1 H1 st1 i e z R1 hc
  obtain ⟨b, vs, e1, q, s⟩ := tup_ok R1 (Rep.extZ e z h) hc
  cases e1
  refine ⟨fun d hd => ?_, fun hl => ⟨vs, s, q.length.symm, by simpa [enu_len] using hl⟩⟩
  dsimp only at hd
  rw [enu_get] at hd
  cases hx : xs[i]? with
  | none => rw [hx] at hd; cases hd
  | some c =>
    rw [hx] at hd
    cases hd
    obtain ⟨v, hv, qv⟩ := q.get hx
    refine ⟨⟨vs, v, s, q.length.symm, hv⟩, fun y H2 hy => ?_⟩
    obtain ⟨T, w, rfl, hT, rfl, hw⟩ := hy
    have := hw vs s
    rw [hv] at this; cases this
    refine ⟨Ext.new hT, R1.new hT, ?_⟩
    exact new_tup (vs := [.int (i : Nat), v]) (xs := [.int ((0 + i : Nat) : Int), c]) R1 ⟨_, _, rfl, by simp [Rep], _, _, rfl, qv, rfl⟩ hT
theorem si_enum2 {elts : List Expr} {kk : Nat} {tpos : Pos} {f : SemA} (hm : X.mg "enumerate" = none) (ha : SA X cl W [e] f) (hg : Gl X "enumerate" := by rfl) (hs : starEach [e] X.env = [(false, eval e X.env)] := by rfl) :
    SI X cl W (.Tuple elts kk tpos) (.Call (.Name "enumerate" p) [e] [] pos) (iEnum2 f) := by
  refine ⟨((pi_enum hg hm ha.run hs).or (pi_etup hg hm ha.run hs)).imp fun sg H Q ⟨Z, r, env, st, En, R, h⟩ => ?_⟩
  dsimp only [iEnum2] at h
  cases hf : f env st with
  | no => rw [hf] at h; exact h.elim
  | er x st1 => rw [hf] at h; exact .inl ⟨Z, r, env, st, En, R, by rw [hf]; exact h⟩
  | ok ds st1 =>
    rw [hf] at h
    dsimp only [Res.bind] at h
    split at h
    · rename_i x
      cases hl : lst? st1 x with
      | some xs =>
        rw [hl] at h
        refine .inl ⟨Z, r, env, st, En, R, ?_⟩
        rw [hf]
        rintro r1 H1 vs e1 R1 ⟨v, q, rfl, a1, rfl⟩
        obtain ⟨a, us, rfl, q, s⟩ := lst_ok R1 a1 hl
        exact ⟨a, us, rfl, s, h r1 H1 _ e1 R1 (it_enu a1)⟩
      | none =>
        rw [hl] at h
        dsimp only at h
        cases ht : tup? st1 x with
        | some xs =>
          rw [ht] at h
          refine .inr ⟨Z, r, env, st, En, R, ?_⟩
          rw [hf]
          rintro r1 H1 vs e1 R1 ⟨v, q, rfl, a1, rfl⟩
          obtain ⟨a, us, rfl, q, s⟩ := tup_ok R1 a1 ht
          refine ⟨a, us, rfl, s, ?_⟩
          rw [← q.length]
          exact h r1 H1 _ e1 R1 (it_etup a1)
        | none => rw [ht] at h; exact h.elim
    · exact h.elim

/-! ### zip of two lists or of two tuples -/
def iZip2 (f : SemA) : SemI := fun env st => (f env st).bind fun ds st1 => match ds with
  | [x, y] => match lst? st1 x, lst? st1 y with
    | some xs, some ys => .ok ⟨zipD xs ys, fun st2 => lst? st2 x = some xs ∧ lst? st2 y = some ys⟩ st1
    | _, _ => match tup? st1 x, tup? st1 y with
      | some xs, some ys => .ok ⟨zipD xs ys, fun st2 => tup? st2 x = some xs ∧ tup? st2 y = some ys⟩ st1
      | _, _ => .no
  | _ => .no
end
end DY

/-! sorted of data; sorted(set(..)) of rows of ints. -/
namespace DY
open PySem PySem.Spec PyProof.Rows L2
section
variable {X : Cx} {cl : ClsT} {W : WX} {pos : Pos} {x : Str} {p p2 p3 apos : Pos} {e o : Expr} {es : List Expr} {fa : SemA} {fo fe : SemE} {F : SemF}
/-! ### sorted(xs) -/
/-! ### sorted(set(rows)) -/
end
end DY

/-! What the printed texts want besides. -/
namespace DY
open PySem PySem.Spec PyProof.Rows L2
/-- a body computes what it is said to compute, wherever it is called -/
def BodyOk (P : Program) (w : World) (K : PySem.W.Frag) (mg : Str → Option Value) (base : Heap) (cl : ClsT) (k : Nat) (N : List Str) (qual : Str) (st : Stmt) (body : SemS) : Prop :=
  ∀ (f : Addr) (cdv : Value) (A : Around) (outer : List Env) (s : Shared) (H : Hp) (E : XK), Room (k + 1) (A.deeper (envOfC qual (defScope st) s.heap.objs.size f cdv)) → A.guards = some [] →
    SB (cxOf (L2.CX P w) P w K mg base N qual (defScope st) f cdv A outer s H E) cl (fun c d _ H' => E c d H') (defBody st) body
section
variable {P : Program} {w : World} {K : PySem.W.Frag} {mg : Str → Option Value} {base : Heap} {cl : ClsT} {fa : Nat → Addr}
theorem BodyOk.fn {k : Nat} {N ps : List Str} {x qual : Str} {st : Stmt} {f : Addr} {fd : FuncData} {body : SemS} (h : BodyOk P w K mg base cl k N qual st body) (F : Fun K x qual st f fd) (S : FnScope N ps (defScope st)) :
    FnG P w K mg base (k + 2) f fd ps (spF ⟨K, cl⟩ ps.length (runB N.length body)) :=
  fnG_of F S fun cdv A outer s H E hr hg _ => h f cdv A outer s H E hr hg
end
/-- a comprehension's names -/
def blkB (N : List Str) (sc scope : Scope) (own : List (Str × Nat)) : Bool :=
  decide (scope.kind = .function) && (scope.names.all fun y => decide (scope.names.lookup y.1 = some y.2)) && (own.all fun q => decide (N[q.2]? = some q.1)) &&
    (scope.names.all fun y => decide (y.2 = .free → sc.names.lookup y.1 = some .cell ∨ sc.names.lookup y.1 = some .free)) &&
    (scope.names.all fun y => decide (y.2 = .local ∨ y.2 = .cell → y.1 ∈ own.map (·.1) ∨ y.1 ∉ N))
theorem blk_ok {N N0 : List Str} {sc sc0 scope : Scope} {own : List (Str × Nat)} (h1 : N = N0) (h2 : sc = sc0) (h : blkB N0 sc0 scope own = true) : BlkOk N sc scope own := by
  subst h1 h2
  simp only [blkB, Bool.and_eq_true, decide_eq_true_eq, List.all_eq_true] at h
  obtain ⟨⟨⟨⟨a, b⟩, c⟩, d⟩, e⟩ := h
  exact ⟨a, b, c, d, e⟩
section
variable {X : Cx} {cl : ClsT} {fa : Nat → Addr} {fd : Nat → FuncData} {ps : Nat → List Str} {n k : Nat} {c : Nat → SemF} {W : WX} {pos p p2 apos : Pos} {x m : Str} {a b e o : Expr} {es : List Expr} {fs : SemA} {fo fe : SemE}
/-- f(k = v, ..) -/
theorem TX.callK {kws : List Keyword} (T : TX X.prog X.w X.K X.mg X.base cl fa fd ps n k c) (D : DF X W k) (i : Nat) (ks : List Str) (is : List Nat) (hm : X.mg x = some (.ref (fa i))) (hb : BindsK X.K (fd i) (ps i) ks is) (ha : SK X cl W kws fs) (hi : i < n := by decide) (hg : Gl X x := by rfl) (hdb : (x == ("__debug__" : Str)) = false := by decide +kernel)
    (hall : (backToKw pos (keywordEach kws X.env)).all (·.1.isSome) = true := by rfl) (hks : (backToKw pos (keywordEach kws X.env)).filterMap (·.1) = ks := by rfl)
    (hpl : ((backTo pos (starEach [] X.env)).any (·.1) || (backToKw pos (keywordEach kws X.env)).any (·.1.isNone)) = false := by rfl) : SE X cl W (.Call (.Name x p) [] kws pos) (dCall (kwF ks.length (ps i).length is (c i)) fs) :=
  se_callK (calK_fn (T.fn i hi) (D.room.mono (Nat.le_succ k)) D.gd hb D.tk) hm (T.kp i hi) ha hg hdb hall hks hpl
/-- a module's whole number -/
theorem se_gint (i : Int) (hm : ∃ t, X.mg x = some (.int i t)) (hg : Gl X x := by rfl) (hdb : (x == ("__debug__" : Str)) = false := by decide +kernel) : SE X cl W (.Name x pos) (dConst (.int i)) := by
  obtain ⟨t, hm⟩ := hm
  exact se_glob (v := .int i) hg hm ⟨t, rfl⟩ (fun _ _ _ => rfl) hdb
/-! ### is True, is not True -/
def dIsB : D → D → Store → Res D := fun x y st => match x, y with
  | .bl i, .bl j => .ok (.bl (decide (i = j))) st
  | _, _ => .no
def dNotB : D → D → Store → Res D := fun x y st => match x, y with
  | .bl i, .bl j => .ok (.bl (!decide (i = j))) st
  | _, _ => .no
/-! ### a slice that will be changed -/
def dCutM (x : D) (lo hi : Option Int) (st : Store) : Res D :=
  match lst? st x with
  | some xs => .ok (.h st.length) (st ++ [.nd .lst (cutD xs lo hi)])
  | none => .no
def dSliceM (fa : SemE) (fl fh : SemO) : SemE := fun env st => (fa env st).bind fun x st1 => (fl env st1).bind fun lo st2 => (fh env st2).bind fun hi st3 => dCutM x lo hi st3
end
/-! ### a def that hands out a new thing of its own; all else that it made is frozen -/
def frzX : Nat → Nat → Nat → Store → D → Option D
  | 0, n0, _, _, d => frzG n0 (fun _ => none) d
  | m + 1, n0, k0, st, d => frzG n0 (fun k => if k = k0 then none else match st[k]? with
    | some c => frzX m n0 k0 st c
    | none => none) d
def frzXL : Nat → Nat → Nat → Store → List D → Option (List D)
  | _, _, _, _, [] => some []
  | m, n0, k0, st, d :: ds => match frzX m n0 k0 st d, frzXL m n0 k0 st ds with
    | some e, some es => some (e :: es)
    | _, _ => none
noncomputable def frzH (F : SemF) : SemF := fun ds st => open Classical in match F ds st with
  | .ok (.h k) st' => if CellsOk st st' ∧ st.length ≤ k then (match st'[k]? with
    | some (.nd t xs) => match frzXL 5 st.length k st' xs with
      | some ys => .ok (.h st.length) (st'.take st.length ++ [.nd t ys])
      | none => .no
    | _ => .no) else .no
  | .ok _ _ => .no
  | .er e st' => if CellsOk st st' then (match frzL 5 st.length st' e.xs with
    | some xs => .er ⟨e.c, e.ns, xs⟩ (st'.take st.length)
    | none => .no) else .no
  | .no => .no
section
variable {g : Gd} {Z r q r1 : List Addr} {H : Hp} {st : Store}
mutual
theorem Rep.lowA (hn : ∀ x, Nin Z (r ++ q) x → Nin Z r1 x) (hl : ∀ k x, k < r.length → (r ++ q)[k]? = some x → r1[k]? = some x) : ∀ (d : D) {v : V}, hdB r.length d = true → Rep g Z (r ++ q) H d v → Rep g Z r1 H d v
  | .h k, _, b, h => by
    obtain ⟨a, e, e2⟩ := h
    exact ⟨a, e, hl k a (by simpa [hdB] using b) e2⟩
  | .nd t xs, _, b, h => by
    obtain ⟨a, vs, e, h1, h2⟩ := h
    exact ⟨a, vs, e, h1.turn fun a n _ => hn a n, RepL.lowA hn hl xs (by simpa [hdB] using b) h2⟩
  | .non, _, _, h => h
  | .bl _, _, _, h => h
  | .int _, _, _, h => h
  | .str _, _, _, h => h
theorem RepL.lowA (hn : ∀ x, Nin Z (r ++ q) x → Nin Z r1 x) (hl : ∀ k x, k < r.length → (r ++ q)[k]? = some x → r1[k]? = some x) : ∀ (ds : List D) {vs : List V}, hdBL r.length ds = true → RepL g Z (r ++ q) H ds vs → RepL g Z r1 H ds vs
  | [], _, _, h => h
  | d :: ds, _, b, h => by
    obtain ⟨v, w, e, h1, h2⟩ := h
    simp only [hdBL, Bool.and_eq_true] at b
    exact ⟨v, w, e, Rep.lowA hn hl d b.1 h1, RepL.lowA hn hl ds b.2 h2⟩
end
mutual
theorem frzG_okA (hn : ∀ x, Nin Z (r ++ q) x → Nin Z r1 x) (hl : ∀ k x, k < r.length → (r ++ q)[k]? = some x → r1[k]? = some x) {dr : Nat → Option D} (hd : ∀ k d v, r.length ≤ k → dr k = some d → Rep g Z (r ++ q) H (.h k) v → Rep g Z r1 H d v) : ∀ (d : D) {d' : D} {v : V}, frzG r.length dr d = some d' → Rep g Z (r ++ q) H d v → Rep g Z r1 H d' v
  | .h k, d', v, e, h => by
    simp only [frzG] at e
    split at e
    · rename_i hk
      cases e
      exact Rep.lowA hn hl (.h k) (by simpa [hdB] using hk) h
    · rename_i hk
      exact hd k d' v (by omega) e h
  | .nd t xs, d', v, e, h => by
    simp only [frzG] at e
    split at e
    · rename_i ys e1
      cases e
      obtain ⟨a, vs, e2, h1, h2⟩ := h
      exact ⟨a, vs, e2, h1.turn fun a n _ => hn a n, frzGL_okA hn hl hd xs e1 h2⟩
    · cases e
  | .non, _, _, e, h => by cases e; exact h
  | .bl _, _, _, e, h => by cases e; exact h
  | .int _, _, _, e, h => by cases e; exact h
  | .str _, _, _, e, h => by cases e; exact h
theorem frzGL_okA (hn : ∀ x, Nin Z (r ++ q) x → Nin Z r1 x) (hl : ∀ k x, k < r.length → (r ++ q)[k]? = some x → r1[k]? = some x) {dr : Nat → Option D} (hd : ∀ k d v, r.length ≤ k → dr k = some d → Rep g Z (r ++ q) H (.h k) v → Rep g Z r1 H d v) : ∀ (ds : List D) {es : List D} {vs : List V}, frzGL r.length dr ds = some es → RepL g Z (r ++ q) H ds vs → RepL g Z r1 H es vs
  | [], _, _, e, h => by cases e; exact h
  | d :: ds, _, _, e, h => by
    simp only [frzGL] at e
    split at e
    · rename_i e' es e1 e2
      cases e
      obtain ⟨v, w, e3, h1, h2⟩ := h
      exact ⟨v, w, e3, frzG_okA hn hl hd d e1 h1, frzGL_okA hn hl hd ds e2 h2⟩
    · cases e
end
section
variable {a0 : Addr} {k0 : Nat}
theorem frzX_ok (R : Rl g Z (r ++ q) H st) (h0 : (r ++ q)[k0]? = some a0) (hk0 : r.length ≤ k0) : ∀ (m : Nat) (d : D) {d' : D} {v : V}, frzX m r.length k0 st d = some d' → Rep g Z (r ++ q) H d v → Rep g Z (r ++ [a0]) H d' v := by
  have hn : ∀ x, Nin Z (r ++ q) x → Nin Z (r ++ [a0]) x := fun x n => ⟨n.1, fun m => by
    rcases List.mem_append.mp m with m | m
    · exact n.2 (List.mem_append_left _ m)
    · simp at m; subst m; exact n.2 (List.mem_of_getElem? h0)⟩
  have hl : ∀ k x, k < r.length → (r ++ q)[k]? = some x → (r ++ [a0])[k]? = some x := fun k x hk e => by
    rw [List.getElem?_append_left hk] at e ⊢; exact e
  have cell : ∀ {dr : Nat → Option D}, (∀ k d v, r.length ≤ k → dr k = some d → Rep g Z (r ++ q) H (.h k) v → Rep g Z (r ++ [a0]) H d v) → ∀ {k : Nat} {c d : D} {v : V}, r.length ≤ k → k ≠ k0 → st[k]? = some c → frzG r.length dr c = some d → Rep g Z (r ++ q) H (.h k) v → Rep g Z (r ++ [a0]) H d v := by
    intro dr hd k c d v hk hne hc e h
    obtain ⟨a, rfl, e2⟩ := h
    obtain ⟨b, eb, t, xs, vs, rfl, hm, hx⟩ := R.cell k c hc
    rw [e2] at eb; cases eb
    simp only [frzG] at e
    split at e
    · rename_i ys e1
      cases e
      have ha : a ∈ r ++ q := List.mem_of_getElem? e2
      have uniq : ∀ j, (r ++ q)[j]? = some a → j = k := fun j ej => by
        obtain ⟨h1, e1⟩ := List.getElem?_eq_some_iff.mp e2
        obtain ⟨h2, e2⟩ := List.getElem?_eq_some_iff.mp ej
        exact (List.getElem_inj R.nd).mp (e2.trans e1.symm)
      have n : Nin Z (r ++ [a0]) a := by
        refine ⟨fun m => (R.z a m).1 ha, fun m => ?_⟩
        rcases List.mem_append.mp m with m | m
        · obtain ⟨j, hj, ej⟩ := List.getElem_of_mem m
          have := uniq j (by rw [List.getElem?_append_left hj, List.getElem?_eq_getElem hj, ej])
          omega
        · simp at m; subst m
          exact hne (uniq k0 h0).symm
      exact ⟨a, vs, rfl, hm.frozen n, frzGL_okA hn hl hd xs e1 hx⟩
    · cases e
  intro m
  induction m with
  | zero => exact fun d d' v e h => frzG_okA hn hl (fun k d v _ e _ => by cases e) d e h
  | succ m ih =>
    intro d d' v e h
    refine frzG_okA hn hl (fun k d1 v1 hk e1 h1 => ?_) d e h
    split at e1
    · cases e1
    · rename_i hne
      cases hc : st[k]? with
      | none => rw [hc] at e1; cases e1
      | some c =>
        rw [hc] at e1
        cases m with
        | zero => exact cell (fun k d v _ e _ => by cases e) hk hne hc e1 h1
        | succ m =>
          refine cell (fun k d v hk e h => ?_) hk hne hc e1 h1
          refine ih (.h k) ?_ h
          show frzG _ _ (.h k) = _
          simp only [frzG]
          rw [if_neg (by omega)]
          exact e
theorem frzXL_ok (R : Rl g Z (r ++ q) H st) (h0 : (r ++ q)[k0]? = some a0) (hk0 : r.length ≤ k0) (m : Nat) : ∀ (ds : List D) {es : List D} {vs : List V}, frzXL m r.length k0 st ds = some es → RepL g Z (r ++ q) H ds vs → RepL g Z (r ++ [a0]) H es vs
  | [], _, _, e, h => by cases m <;> (cases e; exact h)
  | d :: ds, _, _, e, h => by
    simp only [frzXL] at e
    split at e
    · rename_i e' es e1 e2
      cases e
      obtain ⟨v, w, e3, h1, h2⟩ := h
      exact ⟨v, w, e3, frzX_ok R h0 hk0 m d e1 h1, frzXL_ok R h0 hk0 m ds e2 h2⟩
    · cases e
end
theorem frzH_post {F : SemF} {ds : List D} {Q : VK} {E : XK} (R0 : Rl g Z r H st) (h : Post g Z r H (RV g Z) (frzH F ds st) Q E) : Post g Z r H (RV g Z) (F ds st) Q E := by
  have old : (∀ d st', F ds st ≠ .ok d st') → Post g Z r H (RV g Z) (frzF F ds st) Q E → Post g Z r H (RV g Z) (F ds st) Q E := fun _ q => frz_post R0 q
  unfold frzH at h
  cases hF : F ds st with
  | ok d st' =>
    rw [hF] at h
    cases d with
    | h k =>
      dsimp only at h
      split at h
      · rename_i hc
        split at h
        · rename_i t xs hcell
          split at h
          · rename_i ys hys
            intro r' H' v e R qv
            obtain ⟨q, rfl⟩ := e.pre
            obtain ⟨a0, rfl, ea⟩ := qv
            obtain ⟨b, eb, t', xs', vs, ed, hm, hx⟩ := R.cell k _ hcell
            cases ed
            rw [ea] at eb; cases eb
            have hk0 : r.length ≤ k := by rw [R0.len]; exact hc.2
            rw [← R0.len] at hys
            have qx := frzXL_ok R ea hk0 5 xs hys hx
            have ha : a0 ∈ r ++ q := List.mem_of_getElem? ea
            have a0r : a0 ∉ r := fun m => by
              obtain ⟨j, hj, ej⟩ := List.getElem_of_mem m
              obtain ⟨h1, e1⟩ := List.getElem?_eq_some_iff.mp ea
              have h2 : j < (r ++ q).length := by simp; omega
              have : (r ++ q)[j] = (r ++ q)[k] := by rw [e1, List.getElem_append_left hj]; exact ej
              have := (List.getElem_inj R.nd).mp this
              omega
            have hn : ∀ x, Nin Z (r ++ q) x → Nin Z (r ++ [a0]) x := fun x n => ⟨n.1, fun m => by
              rcases List.mem_append.mp m with m | m
              · exact n.2 (List.mem_append_left _ m)
              · simp at m; subst m; exact n.2 ha⟩
            have hl : ∀ k x, k < r.length → (r ++ q)[k]? = some x → (r ++ [a0])[k]? = some x := fun k x hk e => by
              rw [List.getElem?_append_left hk] at e ⊢; exact e
            have hlen : st.length ≤ st'.length := hc.1.1
            have tk : (st'.take st.length).length = r.length := by rw [List.length_take, R0.len]; omega
            refine h (r ++ [a0]) H' (.ref a0) ⟨⟨[a0], rfl⟩, fun x o hx t n => ?_⟩ ⟨?_, ?_, fun b m => ?_, R.tb, fun j d e => ?_⟩ ⟨a0, rfl, ?_⟩
            · obtain ⟨h1, n1⟩ := e.keep x o hx t n
              refine ⟨h1, fun m => ?_⟩
              rcases List.mem_append.mp m with m | m
              · exact n m
              · simp at m; subst m; exact n1 ha
            · simp [tk]
            · refine List.nodup_append.mpr ⟨(List.nodup_append.mp R.nd).1, by simp, ?_⟩
              intro x hx y hy; simp at hy; subst hy; intro z; subst z; exact a0r hx
            · obtain ⟨n, u⟩ := R.z b m
              refine ⟨fun m => ?_, u⟩
              rcases List.mem_append.mp m with m | m
              · exact n (List.mem_append_left _ m)
              · simp at m; subst m; exact n ha
            · by_cases hj : j < r.length
              · rw [List.getElem?_append_left (by rw [tk]; exact hj), List.getElem?_take, if_pos (by rw [← R0.len]; exact hj)] at e
                obtain ⟨b, eb, t2, xs2, vs2, rfl, hm2, hx2⟩ := R.cell j d e
                refine ⟨b, hl j b hj eb, t2, xs2, vs2, rfl, hm2, RepL.lowA hn hl xs2 ?_ hx2⟩
                rcases hc.1.2 j _ (by rw [← R0.len]; exact hj) e with y | y
                · obtain ⟨_, _, t3, xs3, vs3, ed, _, hx3⟩ := R0.cell j _ y
                  cases ed
                  exact hdBL_of xs2 hx3
                · rw [R0.len]; simpa [hdB] using y
              · have hj2 : j = r.length := by
                  have := (List.getElem?_eq_some_iff.mp e).1
                  simp [tk] at this; omega
                subst hj2
                rw [List.getElem?_append_right (by rw [tk]; exact Nat.le_refl _)] at e
                simp [tk] at e
                subst e
                exact ⟨a0, by simp, t, ys, vs, rfl, hm, qx⟩
            · rw [← R0.len]; simp
          · exact h.elim
        · exact h.elim
      · exact h.elim
    | non => exact h.elim
    | bl b => exact h.elim
    | int i => exact h.elim
    | str s => exact h.elim
    | nd t xs => exact h.elim
  | er x st' =>
    rw [← hF]
    refine old (fun d s z => by rw [hF] at z; cases z) ?_
    rw [hF] at h
    unfold frzF
    rw [hF]
    exact h
  | no => rw [hF] at h; exact h
end
section
variable {P : Program} {w : World} {K : PySem.W.Frag} {mg : Str → Option Value} {base : Heap}
theorem FnG.frzH {k : Nat} {f : Addr} {fd : FuncData} {ps : List Str} {g : Gd} {n : Nat} {F : SemF} (h : FnG P w K mg base k f fd ps (spF g n F)) : FnG P w K mg base k f fd ps (spF g n (frzH F)) :=
  h.imp fun vs H Q E ⟨hl, Z, r, st, ds, qd, R, q⟩ => ⟨hl, Z, r, st, ds, qd, R, frzH_post R q⟩
end
end DY

/-! Laws on data: loops, and the numbers that a law draws. -/
namespace DY
open PySem L2
/-! ### loops -/
theorem dSub_i (i j : Int) (st : Store) : dSub (.int i) (.int j) st = .ok (.int (i - j)) st := by
  show (if CTrue i j then Res.ok (D.int (i - j)) st else Res.no) = _
  exact if_pos trivial
theorem szL_eq : szL = 16777216 := by decide
/-- a list's items, wherever it stands -/
def Is (st : Store) (x : D) (xs : List D) : Prop := x = .nd .lst xs ∨ ∃ k, x = .h k ∧ st[k]? = some (.nd .lst xs)
theorem Is.lst {st : Store} {x : D} {xs : List D} (h : Is st x xs) : lst? st x = some xs := by
  rcases h with rfl | ⟨k, rfl, h⟩
  · rfl
  · simp [lst?, seen, h]
theorem Is.seq {st : Store} {x : D} {xs : List D} (h : Is st x xs) : seq? st x = some xs := by
  unfold seq?; rw [h.lst]
theorem Is.ty {st : Store} {x : D} {xs : List D} (h : Is st x xs) : tyD st x = some "list" := by
  rcases h with rfl | ⟨k, rfl, h⟩
  · rfl
  · simp [tyD, seen, h]
theorem ints_map (is : List Int) : ints? (is.map D.int) = some is := by
  induction is with
  | nil => rfl
  | cons i is ih => simp [ints?, ih]
mutual
theorem toPg_ints (dr : Nat → Option PyData) : ∀ is : List Int, toPgL dr (is.map D.int) = some (is.map PyData.int)
  | [] => rfl
  | i :: is => by simp [toPgL, toPg, toPg_ints dr is]
end
theorem Is.toPd {st : Store} {x : D} {xs : List D} (h : Is st x xs) {ps : List PyData} (hp : ∀ dr, toPgL dr xs = some ps) : DY.toP deepP st x = some (.list ps) := by
  rcases h with rfl | ⟨k, rfl, h⟩
  · show toPg _ _ = _
    simp [toPg, hp]
  · show toPg _ _ = _
    simp only [toPg, h]
    show DY.toP 3 st _ = _
    show toPg _ _ = _
    simp [toPg, hp]

end DY

/-! What the law draws. -/
namespace DY
open PySem L2
section
/-! ### lists of ints, compared and shown -/
theorem eqv_ints : ∀ is js : List Int, PyData.eqvAll (is.map PyData.int) (js.map PyData.int) = decide (is = js)
  | [], [] => by simp [PyData.eqvAll]
  | [], _ :: _ => by simp [PyData.eqvAll]
  | _ :: _, [] => by simp [PyData.eqvAll]
  | i :: is, j :: js => by
    simp only [List.map_cons, PyData.eqvAll, PyData.eqv, eqv_ints is js, List.cons.injEq]
    by_cases h1 : i = j <;> by_cases h2 : is = js <;> simp [h1, h2]
theorem plain_ints : ∀ is : List Int, PyData.plainAll (is.map PyData.int) = true
  | [] => rfl
  | i :: is => by simp [PyData.plainAll, PyData.plain, plain_ints is]
theorem depth_ints : ∀ is : List Int, PyData.depthAll (is.map PyData.int) = 0
  | [] => rfl
  | i :: is => by simp [PyData.depthAll, PyData.depth, depth_ints is]
theorem shp_ints (is : List Int) : shp (.list (is.map PyData.int)) = true := by
  simp [shp, PyData.plain, plain_ints, PyData.depth, depth_ints]
theorem Is.ints {st : Store} {x : D} {is : List Int} (h : Is st x (is.map D.int)) : toP deepP st x = some (.list (is.map PyData.int)) := h.toPd fun dr => toPg_ints dr is
/-- == of two things that are no ints, texts, bools -/
theorem eqD_lists {x y : D} {st : Store} {xs ys : List D} {p q : PyData} (ix : Is st x xs) (iy : Is st y ys) (hx : toP deepP st x = some p) (hy : toP deepP st y = some q) (h1 : shp p = true) (h2 : shp q = true) : eqD x y st = some (PyData.eqv p q) := by
  have e : (match toP deepP st x, toP deepP st y with | some p, some q => if shp p && shp q then some (PyData.eqv p q) else none | _, _ => none) = some (PyData.eqv p q) := by
    rw [hx, hy]; simp [h1, h2]
  rcases ix with rfl | ⟨k, rfl, _⟩ <;> exact e
theorem ne_ints {x y : D} {st : Store} {is js : List Int} (hx : Is st x (is.map D.int)) (hy : Is st y (js.map D.int)) : dNe x y st = .ok (.bl (!decide (is = js))) st := by
  unfold dNe
  rw [eqD_lists hx hy hx.ints hy.ints (shp_ints _) (shp_ints _)]
  simp [PyData.eqv, eqv_ints]
theorem ne_nil {x : D} {st : Store} {is : List Int} (hx : Is st x (is.map D.int)) : dNe x (.nd .lst []) st = .ok (.bl (!decide (is = []))) st := ne_ints (js := []) hx (.inl rfl)
end
end DY

/-! Frozen results; lists and tuples alike. -/
namespace DY
open PySem L2
/-! ### no handle inside -/
mutual
def noH : D → Bool
  | .h _ => false
  | .nd _ xs => noHL xs
  | _ => true
def noHL : List D → Bool
  | [] => true
  | d :: ds => noH d && noHL ds
end
mutual
theorem frzG_noH {n0 : Nat} {dr : Nat → Option D} : ∀ d : D, noH d = true → frzG n0 dr d = some d
  | .h _, h => by cases h
  | .nd t xs, h => by
    simp only [noH] at h
    simp [frzG, frzGL_noH xs h]
  | .non, _ => rfl
  | .bl _, _ => rfl
  | .int _, _ => rfl
  | .str _, _ => rfl
theorem frzGL_noH {n0 : Nat} {dr : Nat → Option D} : ∀ ds : List D, noHL ds = true → frzGL n0 dr ds = some ds
  | [], _ => rfl
  | d :: ds, h => by
    simp only [noHL, Bool.and_eq_true] at h
    simp [frzGL, frzG_noH d h.1, frzGL_noH ds h.2]
end
theorem frz_noH {m n0 : Nat} {st : Store} {d : D} (h : noH d = true) : frz m n0 st d = some d := by
  cases m <;> exact frzG_noH d h
theorem noH_ints (is : List Int) : noHL (is.map D.int) = true := by
  induction is with
  | nil => rfl
  | cons i is ih => simp [noHL, noH, ih]
theorem cells_app (st g : Store) : CellsOk st (st ++ g) := ⟨by simp, fun k d hk e => by
  rw [List.getElem?_append_left hk] at e; exact .inl e⟩
theorem frzF_ok {F : SemF} {ds : List D} {st g : Store} {d d' : D} (e : F ds st = .ok d (st ++ g)) (h : frz 5 st.length (st ++ g) d = some d') : frzF F ds st = .ok d' st := by
  unfold frzF
  rw [e]
  dsimp only
  rw [if_pos (cells_app st g), h]
  simp
theorem frzF_pure {F : SemF} {ds : List D} {st : Store} {d : D} (e : F ds st = .ok d st) (h : noH d = true) : frzF F ds st = .ok d st :=
  frzF_ok (g := []) (by simpa using e) (frz_noH h)
/-- the thing just made, frozen -/
theorem frz_new {st g : Store} {t : Hd} {xs : List D} {k : Nat} (hk : st.length ≤ k) (e : (st ++ g)[k]? = some (.nd t xs)) (h : noHL xs = true) : frz 5 st.length (st ++ g) (.h k) = some (.nd t xs) := by
  show frzG _ _ (.h k) = _
  simp only [frzG]
  rw [if_neg (by omega), e]
  exact frz_noH (by simpa [noH] using h)
/-- hands out the new thing alone -/
theorem frzH_ok {F : SemF} {ds : List D} {st g : Store} {k : Nat} {t : Hd} {xs : List D} (e : F ds st = .ok (.h k) (st ++ g)) (hk : st.length ≤ k) (hc : (st ++ g)[k]? = some (.nd t xs)) (h : noHL xs = true) : frzH F ds st = .ok (.h st.length) (st ++ [.nd t xs]) := by
  unfold frzH
  rw [e]
  dsimp only
  rw [if_pos ⟨cells_app st g, hk⟩, hc]
  dsimp only
  have : ∀ ys : List D, noHL ys = true → frzXL 5 st.length k (st ++ g) ys = some ys := by
    intro ys
    induction ys with
    | nil => intro _; rfl
    | cons y ys ih =>
      intro hy
      simp only [noHL, Bool.and_eq_true] at hy
      have e1 : frzX 5 st.length k (st ++ g) y = some y := frzG_noH y hy.1
      simp [frzXL, e1, ih hy.2]
  rw [this xs h]
  simp
/-! ### lists and tuples alike -/
inductive Sq (st : Store) (x : D) (xs : List D) : Prop where
  | l (h : Is st x xs)
  | t (h : x = .nd .tup xs)
theorem Sq.seq {st : Store} {x : D} {xs : List D} (h : Sq st x xs) : seq? st x = some xs := by
  rcases h with h | rfl
  · exact h.seq
  · rfl
theorem Sq.ty {st : Store} {x : D} {xs : List D} (h : Sq st x xs) : tyD st x = some "list" ∨ tyD st x = some "tuple" := by
  rcases h with h | rfl
  · exact .inl h.ty
  · exact .inr rfl
end DY

/-! Evaluation on data, by rewriting alone: what stands behind a value is named, never a lambda. -/
namespace DY
open PySem PySem.Spec PyProof.Rows L2

theorem ofString_inj' {a b : String} : Str.ofString a = Str.ofString b ↔ a = b := by
  constructor
  · intro h
    rw [Str.ofString_eq_toList, Str.ofString_eq_toList] at h
    have h1 : a.toList.map Char.toNat = b.toList.map Char.toNat := by
      have := congrArg (fun s : Str => s.cps.toList) h
      simpa using this
    have inj : ∀ x y : Char, x.toNat = y.toNat → x = y := fun x y e => Char.ext (UInt32.toNat_inj.mp e)
    have h2 : ∀ l m : List Char, l.map Char.toNat = m.map Char.toNat → l = m := by
      intro l
      induction l with
      | nil => intro m e; cases m with
        | nil => rfl
        | cons y m => simp at e
      | cons x l ih => intro m e; cases m with
        | nil => simp at e
        | cons y m =>
          simp only [List.map_cons, List.cons.injEq] at e
          rw [inj x y e.1, ih m e.2]
    have := h2 _ _ h1
    exact String.toList_inj.mp this
  · rintro rfl; rfl
@[simp] theorem ofString_inj {a b : String} : (Str.ofString a = Str.ofString b) ↔ a = b := ofString_inj'

/-! ### results -/
section
variable {A B : Type} {a : A} {st : Store} {e : Ex} {k : A → Store → Res B} {env : DEnv} {kS : A → Store → SR}
@[simp] theorem bind_ok : Res.bind (.ok a st) k = k a st := (rfl)
@[simp] theorem bind_er : Res.bind (.er e st : Res A) k = .er e st := (rfl)
@[simp] theorem bind_no : Res.bind (.no : Res A) k = .no := (rfl)
@[simp] theorem bindE_ok : bindE (.ok a st) env kS = kS a st := (rfl)
@[simp] theorem bindE_er : bindE (.er e st : Res A) env kS = .er e env st := (rfl)
@[simp] theorem bindE_no : bindE (.no : Res A) env kS = .no := (rfl)
@[simp] theorem seq_nx {k : DEnv → Store → SR} : SR.seq (.nx env st) k = k env st := (rfl)
@[simp] theorem seq_rt {d : D} {k : DEnv → Store → SR} : SR.seq (.rt d st) k = .rt d st := (rfl)
@[simp] theorem seq_er {k : DEnv → Store → SR} : SR.seq (.er e env st) k = .er e env st := (rfl)
@[simp] theorem seq_bk {k : DEnv → Store → SR} : SR.seq (.bk env st) k = .bk env st := (rfl)
@[simp] theorem seq_ct {k : DEnv → Store → SR} : SR.seq (.ct env st) k = .ct env st := (rfl)
@[simp] theorem seq_no {k : DEnv → Store → SR} : SR.seq .no k = .no := (rfl)
/-- a choice of results -/
@[simp] theorem ite_and {p : Prop} [Decidable p] {b : Bool} : (if p then (Res.ok b st) else Res.ok false st) = Res.ok (decide p && b) st := by
  by_cases h : p <;> simp [h]
@[simp] theorem ite_or {p : Prop} [Decidable p] {b : Bool} : (if p then (Res.ok true st) else Res.ok b st) = Res.ok (decide p || b) st := by
  by_cases h : p <;> simp [h]
@[simp] theorem ite_andV {p : Prop} [Decidable p] {b : Bool} : (if p then (Res.ok (D.bl b) st) else Res.ok (.bl false) st) = Res.ok (.bl (decide p && b)) st := by
  by_cases h : p <;> simp [h]
@[simp] theorem ite_orV {p : Prop} [Decidable p] {b : Bool} : (if p then (Res.ok (D.bl true) st) else Res.ok (.bl b) st) = Res.ok (.bl (decide p || b)) st := by
  by_cases h : p <;> simp [h]
end

section
variable {env : DEnv} {st : Store} {fa fb fc fo : SemE} {fs : SemA} {x y : D} {ft fu : SemT} {op op' : D → D → Store → Res D}
@[simp] theorem seen_nd {t : Hd} {xs : List D} : seen st (.nd t xs) = some (t, xs) := (rfl)
def seenC : Option D → Option (Hd × List D)
  | some (.nd t xs) => some (t, xs)
  | _ => none
@[simp] theorem seen_h {k : Nat} : seen st (.h k) = seenC st[k]? := by
  show (match st[k]? with | some (.nd t xs) => some (t, xs) | _ => none) = _
  unfold seenC; rfl
@[simp] theorem seenC_ev {t : Hd} {xs : List D} : seenC (some (.nd t xs)) = some (t, xs) := (rfl)
@[simp] theorem seen_int {i : Int} : seen st (.int i) = none := (rfl)
@[simp] theorem seen_str {i : Str} : seen st (.str i) = none := (rfl)
@[simp] theorem seen_bl {i : Bool} : seen st (.bl i) = none := (rfl)
@[simp] theorem seen_non : seen st .non = none := (rfl)
/-! ### leaves, operators -/
@[simp] theorem dConst_ev {d : D} : dConst d env st = .ok d st := (rfl)
def dVarV : Option (Option D) → Store → Res D
  | some (some d), st => .ok d st
  | _, _ => .no
@[simp] theorem dVar_ev {i : Nat} : dVar i env st = dVarV env[i]? st := by
  unfold dVar dVarV
  rcases env[i]? with _ | _ | _ <;> rfl
@[simp] theorem dVarV_ev {d : D} : dVarV (some (some d)) st = .ok d st := (rfl)
def dBin1 (op : D → D → Store → Res D) (fb : SemE) (env : DEnv) : D → Store → Res D := fun x st => (fb env st).bind (op x)
@[simp] theorem dBin_ev : dBin op fa fb env st = (fa env st).bind (dBin1 op fb env) := (rfl)
@[simp] theorem dBin1_ev : dBin1 op fb env x st = (fb env st).bind (op x) := (rfl)
def dBool1 : D → Store → Res Bool
  | .bl b, st => .ok b st
  | _, _ => .no
@[simp] theorem dBool_ev : dBool fa env st = (fa env st).bind dBool1 := by
  unfold dBool
  congr 1; funext x st1; cases x <;> rfl
@[simp] theorem dBool1_ev {b : Bool} : dBool1 (.bl b) st = .ok b st := (rfl)
def dChain3 (op' : D → D → Store → Res D) (fc : SemE) (env : DEnv) (y : D) : D → Store → Res D
  | .bl b, st => if b = true then (fc env st).bind (op' y) else .ok (.bl false) st
  | _, _ => .no
def dChain2 (op op' : D → D → Store → Res D) (fc : SemE) (env : DEnv) (x : D) : D → Store → Res D := fun y st => (op x y st).bind (dChain3 op' fc env y)
def dChain1 (op op' : D → D → Store → Res D) (fb fc : SemE) (env : DEnv) : D → Store → Res D := fun x st => (fb env st).bind (dChain2 op op' fc env x)
@[simp] theorem dChain_ev : dChain op op' fa fb fc env st = (fa env st).bind (dChain1 op op' fb fc env) := by
  unfold dChain
  congr 1; funext x st1
  show _ = (fb env st1).bind (dChain2 op op' fc env x)
  congr 1; funext y st2
  show _ = (op x y st2).bind (dChain3 op' fc env y)
  congr 1; funext z st3
  cases z with
  | bl b => cases b <;> rfl
  | _ => rfl
@[simp] theorem dChain1_ev : dChain1 op op' fb fc env x st = (fb env st).bind (dChain2 op op' fc env x) := (rfl)
@[simp] theorem dChain2_ev : dChain2 op op' fc env x y st = (op x y st).bind (dChain3 op' fc env y) := (rfl)
@[simp] theorem dChain3_ev {b : Bool} : dChain3 op' fc env y (.bl b) st = if b = true then (fc env st).bind (op' y) else .ok (.bl false) st := (rfl)
/-! ### and, or, not, if else -/
def dAnd1 (fu : SemT) (env : DEnv) : Bool → Store → Res Bool := fun b st => if b = true then fu env st else .ok false st
def dOr1 (fu : SemT) (env : DEnv) : Bool → Store → Res Bool := fun b st => if b = true then .ok true st else fu env st
def dNot1 : Bool → Store → Res Bool := fun b st => .ok (!b) st
@[simp] theorem dAnd_ev : dAnd ft fu env st = (ft env st).bind (dAnd1 fu env) := (rfl)
@[simp] theorem dOr_ev : dOr ft fu env st = (ft env st).bind (dOr1 fu env) := (rfl)
@[simp] theorem dNot_ev : dNot ft env st = (ft env st).bind dNot1 := (rfl)
@[simp] theorem dAnd1_ev {b : Bool} : dAnd1 fu env b st = if b = true then fu env st else .ok false st := (rfl)
@[simp] theorem dOr1_ev {b : Bool} : dOr1 fu env b st = if b = true then .ok true st else fu env st := (rfl)
@[simp] theorem dNot1_ev {b : Bool} : dNot1 b st = .ok (!b) st := (rfl)
def dAndV1 (fb : SemE) (env : DEnv) : D → Store → Res D
  | .bl b, st => if b = true then fb env st else .ok (.bl false) st
  | _, _ => .no
def dOrV1 (fb : SemE) (env : DEnv) : D → Store → Res D
  | .bl b, st => if b = true then .ok (.bl true) st else fb env st
  | _, _ => .no
def dNotV1 : D → Store → Res D
  | .bl b, st => .ok (.bl (!b)) st
  | _, _ => .no
@[simp] theorem dAndV_ev : dAndV fa fb env st = (fa env st).bind (dAndV1 fb env) := by
  unfold dAndV
  congr 1; funext x st1
  cases x with
  | bl b => cases b <;> rfl
  | _ => rfl
@[simp] theorem dOrV_ev : dOrV fa fb env st = (fa env st).bind (dOrV1 fb env) := by
  unfold dOrV
  congr 1; funext x st1
  cases x with
  | bl b => cases b <;> rfl
  | _ => rfl
@[simp] theorem dNotV_ev : dNotV fa env st = (fa env st).bind dNotV1 := by
  unfold dNotV
  congr 1; funext x st1
  cases x <;> rfl
@[simp] theorem dAndV1_ev {b : Bool} : dAndV1 fb env (.bl b) st = if b = true then fb env st else .ok (.bl false) st := (rfl)
@[simp] theorem dOrV1_ev {b : Bool} : dOrV1 fb env (.bl b) st = if b = true then .ok (.bl true) st else fb env st := (rfl)
@[simp] theorem dNotV1_ev {b : Bool} : dNotV1 (.bl b) st = .ok (.bl (!b)) st := (rfl)
def dIfE1 (fa fb : SemE) (env : DEnv) : Bool → Store → Res D := fun b st => if b = true then fa env st else fb env st
@[simp] theorem dIfE_ev : dIfE ft fa fb env st = (ft env st).bind (dIfE1 fa fb env) := (rfl)
@[simp] theorem dIfE1_ev {b : Bool} : dIfE1 fa fb env b st = if b = true then fa env st else fb env st := (rfl)
@[simp] theorem tYesD_ev : tYesD env st = .ok true st := (rfl)
/-! ### argument lists, displays -/
@[simp] theorem dNil_ev : dNil env st = .ok [] st := (rfl)
def dCons2 (x : D) : List D → Store → Res (List D) := fun xs st => .ok (x :: xs) st
def dCons1 (fs : SemA) (env : DEnv) : D → Store → Res (List D) := fun x st => (fs env st).bind (dCons2 x)
@[simp] theorem dCons_ev : dCons fa fs env st = (fa env st).bind (dCons1 fs env) := (rfl)
@[simp] theorem dCons1_ev : dCons1 fs env x st = (fs env st).bind (dCons2 x) := (rfl)
@[simp] theorem dCons2_ev {xs : List D} : dCons2 x xs st = .ok (x :: xs) st := (rfl)
def dTup1 : List D → Store → Res D := fun xs st => if xs.length ≤ szL then .ok (.nd .tup xs) st else .no
def dLst1 : List D → Store → Res D := fun xs st => if xs.length ≤ szL then .ok (.nd .lst xs) st else .no
def dLstM1 : List D → Store → Res D := fun xs st => if xs.length ≤ szL then .ok (.h st.length) (st ++ [.nd .lst xs]) else .no
@[simp] theorem dTup_ev : dTup fs env st = (fs env st).bind dTup1 := (rfl)
@[simp] theorem dLst_ev : dLst fs env st = (fs env st).bind dLst1 := (rfl)
@[simp] theorem dLstM_ev : dLstM fs env st = (fs env st).bind dLstM1 := (rfl)
theorem szL_16 : szL = 16777216 := by decide
@[simp] theorem dTup1_ev {xs : List D} (h : xs.length ≤ 16777216) : dTup1 xs st = .ok (.nd .tup xs) st := if_pos (by rw [szL_16]; exact h)
@[simp] theorem dLst1_ev {xs : List D} (h : xs.length ≤ 16777216) : dLst1 xs st = .ok (.nd .lst xs) st := if_pos (by rw [szL_16]; exact h)
@[simp] theorem dLstM1_ev {xs : List D} (h : xs.length ≤ 16777216) : dLstM1 xs st = .ok (.h st.length) (st ++ [.nd .lst xs]) := if_pos (by rw [szL_16]; exact h)
/-! ### calls -/
@[simp] theorem dCall_ev {F : SemF} : dCall F fs env st = (fs env st).bind F := (rfl)
def dMeth2 (F : SemF) (x : D) : List D → Store → Res D := fun ds st => F (x :: ds) st
def dMethC (c : Nat) (m : Str) (F : SemF) (fs : SemA) (env : DEnv) (x : D) (st : Store) : Option (Hd × List D) → Res D
  | some (.ins c' ns, _) => if c' = c ∧ m ∉ ns then (fs env st).bind (dMeth2 F x) else .no
  | _ => .no
def dMeth1 (c : Nat) (m : Str) (F : SemF) (fs : SemA) (env : DEnv) : D → Store → Res D := fun x st => dMethC c m F fs env x st (seen st x)
@[simp] theorem dMeth_ev {c : Nat} {m : Str} {F : SemF} : dMeth c m F fo fs env st = (fo env st).bind (dMeth1 c m F fs env) := by
  unfold dMeth
  congr 1
@[simp] theorem dMeth1_ev {c : Nat} {m : Str} {F : SemF} : dMeth1 c m F fs env x st = dMethC c m F fs env x st (seen st x) := (rfl)
@[simp] theorem dMeth2_ev {F : SemF} {ds : List D} : dMeth2 F x ds st = F (x :: ds) st := (rfl)
@[simp] theorem dMethC_ev {c : Nat} {m : Str} {F : SemF} {ns : List Str} {ys : List D} (hm : m ∉ ns) : dMethC c m F fs env x st (some (.ins c ns, ys)) = (fs env st).bind (dMeth2 F x) := if_pos ⟨rfl, hm⟩
def dCallI2C (c : Nat) (F : SemF) (x : D) (ds : List D) (st : Store) : Option (Hd × List D) → Res D
  | some (.ins c' _, _) => if c' = c then F (x :: ds) st else .no
  | _ => .no
def dCallI2 (c : Nat) (F : SemF) (x : D) : List D → Store → Res D := fun ds st => dCallI2C c F x ds st (seen st x)
def dCallI1C (c : Nat) (F : SemF) (fs : SemA) (env : DEnv) (x : D) (st : Store) : Option (Hd × List D) → Res D
  | some (.ins _ _, _) => (fs env st).bind (dCallI2 c F x)
  | _ => .no
def dCallI1 (c : Nat) (F : SemF) (fs : SemA) (env : DEnv) : D → Store → Res D := fun x st => dCallI1C c F fs env x st (seen st x)
@[simp] theorem dCallI_ev {c : Nat} {F : SemF} : dCallI c F fo fs env st = (fo env st).bind (dCallI1 c F fs env) := by
  unfold dCallI
  congr 1
@[simp] theorem dCallI1_ev {c : Nat} {F : SemF} : dCallI1 c F fs env x st = dCallI1C c F fs env x st (seen st x) := (rfl)
@[simp] theorem dCallI2_ev {c : Nat} {F : SemF} {ds : List D} : dCallI2 c F x ds st = dCallI2C c F x ds st (seen st x) := (rfl)
@[simp] theorem dCallI1C_ev {c c' : Nat} {F : SemF} {ns : List Str} {ys : List D} : dCallI1C c F fs env x st (some (.ins c' ns, ys)) = (fs env st).bind (dCallI2 c F x) := (rfl)
@[simp] theorem dCallI2C_ev {c : Nat} {F : SemF} {ns : List Str} {ys ds : List D} : dCallI2C c F x ds st (some (.ins c ns, ys)) = F (x :: ds) st := if_pos rfl
/-- the item there -/
def itm (st : Store) : Option D → Res D
  | some d => .ok d st
  | none => .no
@[simp] theorem itm_some {d : D} : itm st (some d) = .ok d st := (rfl)
/-- an attribute -/
def dAt (c hint : Nat) (f : Str) (fo : SemE) : SemE := fun env st => (fo env st).bind (dAttr c hint f)
@[simp] theorem dAt_ev {c hint : Nat} {f : Str} : dAt c hint f fo env st = (fo env st).bind (dAttr c hint f) := (rfl)
def dAttrC (c hint : Nat) (f : Str) (st : Store) : Option (Hd × List D) → Res D
  | some (.ins c' ns, vs) => if c' = c then (match kAt hint ns f with
    | some i => itm st vs[i]?
    | none => .no) else .no
  | _ => .no
@[simp] theorem dAttr_ev {c hint : Nat} {f : Str} : dAttr c hint f x st = dAttrC c hint f st (seen st x) := by
  unfold dAttr dAttrC itm
  rfl
@[simp] theorem dAttrC_ev {c hint : Nat} {f : Str} {ns : List Str} {ys : List D} (e : ns[hint]? = some f) : dAttrC c hint f st (some (.ins c ns, ys)) = itm st ys[hint]? := by
  simp [dAttrC, kAt, e]
def dNeg1 : D → Store → Res D
  | .int i, st => .ok (.int (-i)) st
  | _, _ => .no
@[simp] theorem dNeg_ev : dNeg fa env st = (fa env st).bind dNeg1 := by
  unfold dNeg
  congr 1; funext x st1; cases x <;> rfl
@[simp] theorem dNeg1_ev {i : Int} : dNeg1 (.int i) st = .ok (.int (-i)) st := (rfl)
def dBM1 (o : D → List D → Store → Res D) (fs : SemA) (env : DEnv) : D → Store → Res D := fun x st => (fs env st).bind (o x)
@[simp] theorem dBM_ev {o : D → List D → Store → Res D} : dBM o fo fs env st = (fo env st).bind (dBM1 o fs env) := (rfl)
@[simp] theorem dBM1_ev {o : D → List D → Store → Res D} : dBM1 o fs env x st = (fs env st).bind (o x) := (rfl)
def lstC : Option (Hd × List D) → Option (List D)
  | some (.lst, xs) => some xs
  | some (.scr, xs) => some xs
  | _ => none
def tupC : Option (Hd × List D) → Option (List D)
  | some (.tup, xs) => some xs
  | some (.ktp, xs) => some xs
  | _ => none
@[simp] theorem lst_ev : lst? st x = lstC (seen st x) := (rfl)
@[simp] theorem tup_ev : tup? st x = tupC (seen st x) := (rfl)
@[simp] theorem lstC_lst {xs : List D} : lstC (some (.lst, xs)) = some xs := (rfl)
@[simp] theorem lstC_scr {xs : List D} : lstC (some (.scr, xs)) = some xs := (rfl)
@[simp] theorem lstC_tup {xs : List D} : lstC (some (.tup, xs)) = none := (rfl)
@[simp] theorem lstC_none : lstC none = none := (rfl)
@[simp] theorem lstC_dk {ks : List Key} {xs : List D} : lstC (some (.dk ks, xs)) = none := (rfl)
@[simp] theorem tupC_tup {xs : List D} : tupC (some (.tup, xs)) = some xs := (rfl)
@[simp] theorem tupC_lst {xs : List D} : tupC (some (.lst, xs)) = none := (rfl)
@[simp] theorem tupC_none : tupC none = none := (rfl)
@[simp] theorem lstX_ev : lstX? st x = (match seen st x with | some (.lst, xs) => some xs | _ => none) := (rfl)
@[simp] theorem tupX_ev : tupX? st x = (match seen st x with | some (.tup, xs) => some xs | _ => none) := (rfl)
def dBML2 (o : D → List D → Store → Res D) (fs : SemA) (env : DEnv) (x : D) (st : Store) : Option (List D) → Res D
  | some _ => (fs env st).bind (o x)
  | none => .no
def dBML1 (o : D → List D → Store → Res D) (fs : SemA) (env : DEnv) : D → Store → Res D := fun x st => dBML2 o fs env x st (lst? st x)
@[simp] theorem dBML_ev {o : D → List D → Store → Res D} : dBML o fo fs env st = (fo env st).bind (dBML1 o fs env) := by
  unfold dBML
  congr 1; funext x st1
  show (if (lst? st1 x).isSome = true then _ else _) = dBML2 o fs env x st1 (lst? st1 x)
  cases lst? st1 x <;> rfl
@[simp] theorem dBML1_ev {o : D → List D → Store → Res D} : dBML1 o fs env x st = dBML2 o fs env x st (lst? st x) := (rfl)
@[simp] theorem dBML2_ev {o : D → List D → Store → Res D} {xs : List D} : dBML2 o fs env x st (some xs) = (fs env st).bind (o x) := (rfl)
/-! ### slices -/
def dPart1 : D → Store → Res (Option Int)
  | .int i, st => .ok (some i) st
  | _, _ => .no
@[simp] theorem dNoPart_ev : dNoPart env st = .ok none st := (rfl)
@[simp] theorem dPart_ev : dPart fa env st = (fa env st).bind dPart1 := by
  unfold dPart
  congr 1; funext x st1; cases x <;> rfl
@[simp] theorem dPart1_ev {i : Int} : dPart1 (.int i) st = .ok (some i) st := (rfl)
def dSlice1 (cut : D → Option Int → Option Int → Store → Res D) (fl fh : SemO) (env : DEnv) : D → Store → Res D := fun x st => (fl env st).bind fun lo st2 => (fh env st2).bind (cut x lo)
def dSlice2 (cut : D → Option Int → Option Int → Store → Res D) (fh : SemO) (env : DEnv) (x : D) : Option Int → Store → Res D := fun lo st => (fh env st).bind (cut x lo)
@[simp] theorem dSlice_ev {fl fh : SemO} : dSlice fa fl fh env st = (fa env st).bind (dSlice1 dCut fl fh env) := (rfl)
@[simp] theorem dSliceM_ev {fl fh : SemO} : dSliceM fa fl fh env st = (fa env st).bind (dSlice1 dCutM fl fh env) := (rfl)
@[simp] theorem dSlice1_ev {cut : D → Option Int → Option Int → Store → Res D} {fl fh : SemO} : dSlice1 cut fl fh env x st = (fl env st).bind (dSlice2 cut fh env x) := (rfl)
@[simp] theorem dSlice2_ev {cut : D → Option Int → Option Int → Store → Res D} {fh : SemO} {lo : Option Int} : dSlice2 cut fh env x lo st = (fh env st).bind (cut x lo) := (rfl)
/-! ### isinstance -/
def dIsi1 (Ts : List String) : D → Store → Res D := fun x st => match tyD st x with
  | some T => .ok (.bl (Ts.any (isiB T))) st
  | none => .no
@[simp] theorem dIsi_ev {Ts : List String} : dIsi Ts fa env st = (fa env st).bind (dIsi1 Ts) := (rfl)
@[simp] theorem dIsi1_int {Ts : List String} {i : Int} : dIsi1 Ts (.int i) st = .ok (.bl (Ts.any (isiB "int"))) st := (rfl)
@[simp] theorem dIsi1_bl {Ts : List String} {i : Bool} : dIsi1 Ts (.bl i) st = .ok (.bl (Ts.any (isiB "bool"))) st := (rfl)
@[simp] theorem dIsi1_non {Ts : List String} : dIsi1 Ts .non st = .ok (.bl (Ts.any (isiB "NoneType"))) st := (rfl)
@[simp] theorem dIsi1_str {Ts : List String} {i : Str} : dIsi1 Ts (.str i) st = .ok (.bl (Ts.any (isiB "str"))) st := (rfl)
@[simp] theorem dIsi1_lst {Ts : List String} {xs : List D} : dIsi1 Ts (.nd .lst xs) st = .ok (.bl (Ts.any (isiB "list"))) st := (rfl)
@[simp] theorem dIsi1_tup {Ts : List String} {xs : List D} : dIsi1 Ts (.nd .tup xs) st = .ok (.bl (Ts.any (isiB "tuple"))) st := (rfl)
/-! ### dicts -/
def dPairs3 (k v : D) : List (D × D) → Store → Res (List (D × D)) := fun ps st => .ok ((k, v) :: ps) st
def dPairs2 (r : List (SemE × SemE)) (env : DEnv) (k : D) : D → Store → Res (List (D × D)) := fun v st => (dPairs r env st).bind (dPairs3 k v)
def dPairs1 (fv : SemE) (r : List (SemE × SemE)) (env : DEnv) : D → Store → Res (List (D × D)) := fun k st => (fv env st).bind (dPairs2 r env k)
@[simp] theorem dPairs_nil : dPairs [] env st = .ok [] st := (rfl)
@[simp] theorem dPairs_cons {fk fv : SemE} {r : List (SemE × SemE)} : dPairs ((fk, fv) :: r) env st = (fk env st).bind (dPairs1 fv r env) := (rfl)
@[simp] theorem dPairs1_ev {fv : SemE} {r : List (SemE × SemE)} {k : D} : dPairs1 fv r env k st = (fv env st).bind (dPairs2 r env k) := (rfl)
@[simp] theorem dPairs2_ev {r : List (SemE × SemE)} {k v : D} : dPairs2 r env k v st = (dPairs r env st).bind (dPairs3 k v) := (rfl)
@[simp] theorem dPairs3_ev {k v : D} {ps : List (D × D)} : dPairs3 k v ps st = .ok ((k, v) :: ps) st := (rfl)
def dDict1 : List (D × D) → Store → Res D := fun ps st => match keys? (ps.map (·.1)) with
  | some ks => if ks.Nodup ∧ ps.length ≤ 15 then .ok (.nd (.dk ks) (ps.map (·.2))) st else .no
  | none => .no
def dDictM1 : List (D × D) → Store → Res D := fun ps st => match keys? (ps.map (·.1)) with
  | some ks => if ks.Nodup ∧ ps.length ≤ 15 then .ok (.h st.length) (st ++ [.nd (.dk ks) (ps.map (·.2))]) else .no
  | none => .no
@[simp] theorem dDict_ev {fs : List (SemE × SemE)} : dDict fs env st = (dPairs fs env st).bind dDict1 := (rfl)
@[simp] theorem dDictM_ev {fs : List (SemE × SemE)} : dDictM fs env st = (dPairs fs env st).bind dDictM1 := (rfl)
def dGetC (hint : Nat) (k : Str) (st : Store) : Option (Hd × List D) → Res D
  | some (.dk ks, vs) => match kAt hint ks (.inr k) with
    | some i => itm st vs[i]?
    | none => .no
  | _ => .no
@[simp] theorem dGet_ev {hint : Nat} {k : Str} : dGet hint x (.str k) st = dGetC hint k st (seen st x) := by
  unfold dGet dGetC itm
  cases seen st x with
  | none => rfl
  | some p =>
    obtain ⟨t, xs⟩ := p
    cases t <;> rfl
@[simp] theorem dGetC_ev {hint : Nat} {ks : List Key} {vs : List D} {k : Str} (e : ks[hint]? = some (.inr k)) : dGetC hint k st (some (.dk ks, vs)) = itm st vs[hint]? := by
  simp [dGetC, kAt, e]
end

/-! ### statements -/
section
variable {env : DEnv} {st : Store} {fa fb fc fo fe : SemE} {fs : SemA} {x y v d : D} {ft fu : SemT} {a b : SemS} {i j l hint c : Nat}
@[simp] theorem sNil_ev : sNil env st = .nx env st := (rfl)
@[simp] theorem sCons_ev : sCons a b env st = (a env st).seq b := (rfl)
@[simp] theorem sBreak_ev : sBreak env st = .bk env st := (rfl)
@[simp] theorem sCont_ev : sCont env st = .ct env st := (rfl)
@[simp] theorem sRetN_ev : sRetN env st = .rt .non st := (rfl)
def sExpr1 (env : DEnv) : D → Store → SR := fun _ st => .nx env st
@[simp] theorem sExpr_ev : sExpr fa env st = bindE (fa env st) env (sExpr1 env) := (rfl)
@[simp] theorem sExpr1_ev : sExpr1 env d st = .nx env st := (rfl)
def sRet1 : D → Store → SR := fun d st => .rt d st
@[simp] theorem sRet_ev : sRet fa env st = bindE (fa env st) env sRet1 := (rfl)
@[simp] theorem sRet1_ev : sRet1 d st = .rt d st := (rfl)
def sIf1 (a b : SemS) (env : DEnv) : Bool → Store → SR := fun c st => if c = true then a env st else b env st
@[simp] theorem sIf_ev : sIf ft a b env st = bindE (ft env st) env (sIf1 a b env) := (rfl)
@[simp] theorem sIf1_ev {c : Bool} : sIf1 a b env c st = if c = true then a env st else b env st := (rfl)
def sSet1 (i : Nat) (env : DEnv) : D → Store → SR := fun d st => .nx (env.set i (some d)) st
@[simp] theorem sSet_ev : sSet i fa env st = bindE (fa env st) env (sSet1 i env) := (rfl)
@[simp] theorem sSet1_ev : sSet1 i env d st = .nx (env.set i (some d)) st := (rfl)
/-- behind a target -/
def asg1 (st : Store) : Option DEnv → SR
  | some env' => .nx env' st
  | none => .no
def sAsg1 (t : DTg) (env : DEnv) : D → Store → SR := fun d st => asg1 st (t d env st)
@[simp] theorem asg1_ev : asg1 st (some env) = .nx env st := (rfl)
@[simp] theorem sAsg_ev {t : DTg} : sAsg fa t env st = bindE (fa env st) env (sAsg1 t env) := by
  unfold sAsg
  congr 1
@[simp] theorem sAsg1_ev {t : DTg} : sAsg1 t env d st = asg1 st (t d env st) := (rfl)
@[simp] theorem gN_ev : gN i d env st = some (env.set i (some d)) := (rfl)
@[simp] theorem gNil_ev : gNil' [] env st = some env := (rfl)
def gNext (b : DTgs) (ds : List D) (st : Store) : Option DEnv → Option DEnv
  | some env => b ds env st
  | none => none
@[simp] theorem gNext_ev {b : DTgs} {ds : List D} : gNext b ds st (some env) = b ds env st := (rfl)
@[simp] theorem gCons_ev {a : DTg} {b : DTgs} {ds : List D} : gCons' a b (d :: ds) env st = gNext b ds st (a d env st) := by
  show (match a d env st with | some env' => b ds env' st | none => none) = _
  cases a d env st <;> rfl
def gTC (n : Nat) (b : DTgs) (env : DEnv) (st : Store) : Option (List D) → Option DEnv
  | some xs => if xs.length = n then b xs env st else none
  | none => none
@[simp] theorem gT_ev {n : Nat} {b : DTgs} : gT n b d env st = gTC n b env st (tup? st d) := by
  unfold gT gTC
  rfl
@[simp] theorem gTC_ev {n : Nat} {b : DTgs} {xs : List D} (h : xs.length = n) : gTC n b env st (some xs) = b xs env st := if_pos h
def sPar1 (i j : Nat) (env : DEnv) : List D → Store → SR
  | [x, y], st => .nx ((env.set i (some x)).set j (some y)) st
  | _, _ => .no
@[simp] theorem sPar_ev : sPar i j fs env st = bindE (fs env st) env (sPar1 i j env) := by
  unfold sPar
  congr 1; funext ds st1
  match ds with
  | [] => rfl
  | [_] => rfl
  | [_, _] => rfl
  | _ :: _ :: _ :: _ => rfl
@[simp] theorem sPar1_ev : sPar1 i j env [x, y] st = .nx ((env.set i (some x)).set j (some y)) st := (rfl)
def sPar31 (i j l : Nat) (env : DEnv) : List D → Store → SR
  | [x, y, z], st => .nx (((env.set i (some x)).set j (some y)).set l (some z)) st
  | _, _ => .no
@[simp] theorem sPar3_ev : sPar3 i j l fs env st = bindE (fs env st) env (sPar31 i j l env) := by
  unfold sPar3
  congr 1; funext ds st1
  match ds with
  | [] => rfl
  | [_] => rfl
  | [_, _] => rfl
  | [_, _, _] => rfl
  | _ :: _ :: _ :: _ :: _ => rfl
@[simp] theorem sPar31_ev {z : D} : sPar31 i j l env [x, y, z] st = .nx (((env.set i (some x)).set j (some y)).set l (some z)) st := (rfl)
def put1 (env : DEnv) : Option Store → SR
  | some st => .nx env st
  | none => .no
@[simp] theorem put1_ev : put1 env (some st) = .nx env st := (rfl)
def sDPut3 (hint : Nat) (env : DEnv) (v x : D) : D → Store → SR := fun y st => put1 env (putD hint x y v st)
def sDPut2 (hint : Nat) (fb : SemE) (env : DEnv) (v : D) : D → Store → SR := fun x st => bindE (fb env st) env (sDPut3 hint env v x)
def sDPut1 (hint : Nat) (fa fb : SemE) (env : DEnv) : D → Store → SR := fun v st => bindE (fa env st) env (sDPut2 hint fb env v)
@[simp] theorem sDPut_ev : sDPut hint fa fb fe env st = bindE (fe env st) env (sDPut1 hint fa fb env) := by
  unfold sDPut
  congr 1
@[simp] theorem sDPut1_ev : sDPut1 hint fa fb env v st = bindE (fa env st) env (sDPut2 hint fb env v) := (rfl)
@[simp] theorem sDPut2_ev : sDPut2 hint fb env v x st = bindE (fb env st) env (sDPut3 hint env v x) := (rfl)
@[simp] theorem sDPut3_ev : sDPut3 hint env v x y st = put1 env (putD hint x y v st) := (rfl)
def sAttr2 (c hint : Nat) (f : Str) (env : DEnv) (v : D) : D → Store → SR := fun x st => put1 env (putA c hint f x v st)
def sAttr1 (c hint : Nat) (f : Str) (fo : SemE) (env : DEnv) : D → Store → SR := fun v st => bindE (fo env st) env (sAttr2 c hint f env v)
@[simp] theorem sAttr_ev {f : Str} : sAttr c hint f fo fe env st = bindE (fe env st) env (sAttr1 c hint f fo env) := by
  unfold sAttr
  congr 1
@[simp] theorem sAttr1_ev {f : Str} : sAttr1 c hint f fo env v st = bindE (fo env st) env (sAttr2 c hint f env v) := (rfl)
@[simp] theorem sAttr2_ev {f : Str} : sAttr2 c hint f env v x st = put1 env (putA c hint f x v st) := (rfl)
/-- a new attribute, an old one -/
def putAC (c hint : Nat) (f : Str) (k : Nat) (v : D) (st : Store) : Option D → Option Store
  | some (.nd (.ins c' ns) vs) => if c' = c ∧ vs.length < 1000 then (match kAt hint ns f with
    | some i => some (st.set k (.nd (.ins c' ns) (vs.set i v)))
    | none => some (st.set k (.nd (.ins c' (ns ++ [f])) (vs ++ [v])))) else none
  | _ => none
@[simp] theorem putA_ev {k : Nat} {f : Str} : putA c hint f (.h k) v st = putAC c hint f k v st st[k]? := by
  unfold putA putAC
  rfl
theorem kIx_no {κ : Type} [DecidableEq κ] {f : κ} : ∀ ns : List κ, f ∉ ns → kIx ns f = none
  | [], _ => rfl
  | a :: ns, h => by
    simp at h
    simp [kIx, Ne.symm h.1, kIx_no ns h.2]
theorem kAt_no {κ : Type} [DecidableEq κ] {f : κ} {ns : List κ} {hint : Nat} (hf : f ∉ ns) : kAt hint ns f = none := by
  unfold kAt
  split
  · rename_i e; exact absurd (List.mem_of_getElem? e) hf
  · exact kIx_no ns hf
@[simp] theorem putAC_new {k : Nat} {f : Str} {ns : List Str} {vs : List D} (hf : f ∉ ns) (hl : vs.length < 1000) : putAC c hint f k v st (some (.nd (.ins c ns) vs)) = some (st.set k (.nd (.ins c (ns ++ [f])) (vs ++ [v]))) := by
  simp [putAC, hl, kAt_no hf]
@[simp] theorem putAC_old {k : Nat} {f : Str} {ns : List Str} {vs : List D} (hf : ns[hint]? = some f) (hl : vs.length < 1000) : putAC c hint f k v st (some (.nd (.ins c ns) vs)) = some (st.set k (.nd (.ins c ns) (vs.set hint v))) := by
  simp [putAC, hl, kAt, hf]
def putDC (hint : Nat) (f : Str) (k : Nat) (v : D) (st : Store) : Option D → Option Store
  | some (.nd (.dk ks) vs) => if vs.length < szL then (match kAt hint ks (.inr f) with
    | some i => some (st.set k (.nd (.dk ks) (vs.set i v)))
    | none => some (st.set k (.nd (.dk (ks ++ [.inr f])) (vs ++ [v])))) else none
  | _ => none
@[simp] theorem putD_ev {k : Nat} {f : Str} : putD hint (.h k) (.str f) v st = putDC hint f k v st st[k]? := by
  unfold putD putDC
  dsimp only
  cases st[k]? with
  | none => rfl
  | some d =>
    cases d with
    | nd t xs => cases t <;> rfl
    | _ => rfl
@[simp] theorem putDC_old {k : Nat} {f : Str} {ks : List Key} {vs : List D} (hf : ks[hint]? = some (.inr f)) (hl : vs.length < 16777216) : putDC hint f k v st (some (.nd (.dk ks) vs)) = some (st.set k (.nd (.dk ks) (vs.set hint v))) := by
  have : vs.length < szL := by rw [szL_16]; omega
  simp [putDC, this, kAt, hf]
/-! ### walks -/
noncomputable def sFor1 (tg : DTg) (body : SemS) (env : DEnv) : DIter → Store → SR := fun it st => forL it.chk tg body it.items env st
end
end DY

/-! What is shown is short enough. -/
namespace DY
open PySem L2
theorem textFrom_le : ∀ (ts : List Str) (k : Nat) (acc : Str), (textFrom k acc ts).length ≤ acc.length + piled ts
  | [], k, acc => by simp [textFrom, piled]
  | t :: r, k, acc => by
    have h := textFrom_le r (k + 1) (acc ++ (if k > 0 then ", " else "" : String) ++ t)
    have e : (acc ++ (if k > 0 then ", " else "" : String) ++ t).length ≤ acc.length + 2 + t.length := by
      rw [strLen_append, strLen_append]
      have : (Str.ofString (if k > 0 then ", " else "" : String)).length ≤ 2 := by split <;> decide
      omega
    have p : piled (t :: r) = t.length + 2 + piled r := by simp [piled]
    rw [p]
    show (textFrom (k + 1) _ r).length ≤ _
    omega
theorem listText_le (ts : List Str) : (listText ts).length ≤ 2 + piled ts := by
  unfold listText
  rw [strLen_append]
  have h := textFrom_le ts 0 "["
  have h1 : (Str.ofString "[").length = 1 := by decide
  have h2 : (Str.ofString "]").length = 1 := by decide
  omega
theorem tupleText_le (ts : List Str) : (tupleText ts).length ≤ 4 + piled ts := by
  unfold tupleText
  rw [strLen_append, strLen_append]
  have h1 : (Str.ofString "(").length = 1 := by decide
  have h2 : (Str.ofString (if ts.length == 1 then ",)" else ")" : String)).length ≤ 2 := by split <;> decide
  have h3 : (Str.join ", " ts).length ≤ piled ts := by
    by_cases h : ts = []
    · subst h; decide
    · have := join_length_add ts h; omega
  omega
theorem log_small {i : Int} (h0 : 0 ≤ i) (h : i < 2 ^ 64) : i.natAbs.log2 < 1920 := by
  have h1 : i.natAbs < 2 ^ 64 := by omega
  by_cases hz : i.natAbs = 0
  · rw [hz]; decide
  · have := (Nat.log2_lt hz).mpr h1
    omega
end DY

/-! Evaluation on data: walks, loops, comprehensions, what is promised of a call. -/
namespace DY
open PySem PySem.Spec PyProof.Rows L2

/-! ### promises -/
/-- ends well, with K -/
def Wp {A : Type} (x : Res A) (K : A → Store → Prop) : Prop := match x with
  | .ok a st => K a st
  | _ => False
@[simp] theorem Wp_ok {A : Type} {a : A} {st : Store} {K : A → Store → Prop} : Wp (.ok a st) K = K a st := (rfl)
@[simp] theorem Wp_no {A : Type} {K : A → Store → Prop} : Wp (.no) K = False := (rfl)
@[simp] theorem Wp_er {A : Type} {e : Ex} {st : Store} {K : A → Store → Prop} : Wp (.er e st) K = False := (rfl)
theorem Wp.get {A : Type} {x : Res A} {K : A → Store → Prop} (h : Wp x K) : ∃ a st, x = .ok a st ∧ K a st := by
  cases x with
  | ok a st => exact ⟨a, st, rfl, h⟩
  | er e st => exact h.elim
  | no => exact h.elim
theorem Wp.imp {A : Type} {x : Res A} {K L : A → Store → Prop} (h : Wp x K) (f : ∀ a st, K a st → L a st) : Wp x L := by
  obtain ⟨a, st, rfl, h⟩ := h.get
  exact f a st h
/-- a statement's end: goes on, hands out, breaks -/
def Ws (x : SR) (KN : DEnv → Store → Prop) (KR : D → Store → Prop) (KB : DEnv → Store → Prop) : Prop := match x with
  | .nx e st => KN e st
  | .ct e st => KN e st
  | .bk e st => KB e st
  | .rt d st => KR d st
  | _ => False
section
variable {KN KB : DEnv → Store → Prop} {KR : D → Store → Prop} {env : DEnv} {st : Store} {d : D}
@[simp] theorem Ws_nx : Ws (.nx env st) KN KR KB = KN env st := (rfl)
@[simp] theorem Ws_ct : Ws (.ct env st) KN KR KB = KN env st := (rfl)
@[simp] theorem Ws_bk : Ws (.bk env st) KN KR KB = KB env st := (rfl)
@[simp] theorem Ws_rt : Ws (.rt d st) KN KR KB = KR d st := (rfl)
@[simp] theorem Ws_no : Ws .no KN KR KB = False := (rfl)
@[simp] theorem Ws_er {e : Ex} : Ws (.er e env st) KN KR KB = False := (rfl)
end

/-! ### a def's frame -/
def finB : SR → Res D
  | .nx _ st => .ok .non st
  | .rt d st => .ok d st
  | .er e _ st => .er e st
  | _ => .no
section
variable {env : DEnv} {st : Store} {d : D} {e : Ex}
@[simp] theorem finB_nx : finB (.nx env st) = .ok .non st := (rfl)
@[simp] theorem finB_rt : finB (.rt d st) = .ok d st := (rfl)
@[simp] theorem finB_er : finB (.er e env st) = .er e st := (rfl)
end
theorem runB_fin {n : Nat} {body : SemS} {ds : List D} {st : Store} : runB n body ds st = finB (body (ds.map some ++ List.replicate (n - ds.length) none) st) := by
  unfold runB finB
  cases body (ds.map some ++ List.replicate (n - ds.length) none) st <;> rfl
theorem ar_runB {m n : Nat} {body : SemS} {ds : List D} {st : Store} {env : DEnv} (h : ds.length = m) (he : ds.map some ++ List.replicate (n - ds.length) none = env) : arF m (runB n body) ds st = finB (body env st) := by
  unfold arF; rw [if_pos h, runB_fin, he]
/-- what is handed out, frozen -/
noncomputable def frzR (st0 : Store) : Res D → Res D := fun x => frzF (fun _ _ => x) [] st0
noncomputable def frzN (st0 : Store) : Res D → Res D := fun x => frzH (fun _ _ => x) [] st0
theorem ar_frzH {m n : Nat} {body : SemS} {ds : List D} {st : Store} {env : DEnv} (h : ds.length = m) (he : ds.map some ++ List.replicate (n - ds.length) none = env) : arF m (frzH (runB n body)) ds st = frzN st (finB (body env st)) := by
  unfold arF; rw [if_pos h]
  show frzH (runB n body) ds st = frzH (fun _ _ => finB (body env st)) [] st
  unfold frzH
  rw [runB_fin, he]
theorem frzR_of {st g : Store} {d d' : D} (h : frz 5 st.length (st ++ g) d = some d') : frzR st (.ok d (st ++ g)) = .ok d' st := frzF_ok rfl h
@[simp] theorem frzR_same {st : Store} {d : D} (h : noH d = true) : frzR st (.ok d st) = .ok d st := frzF_pure rfl h
@[simp] theorem frzR_noH {st g : Store} {d : D} (h : noH d = true) : frzR st (.ok d (st ++ g)) = .ok d st := frzR_of (frz_noH h)
@[simp] theorem frzR_new {st g : Store} {t : Hd} {xs : List D} (h : noHL xs = true) : frzR st (.ok (.h st.length) (st ++ (.nd t xs :: g))) = .ok (.nd t xs) st :=
  frzR_of (frz_new (Nat.le_refl _) (by simp) h)
@[simp] theorem frzN_new {st g : Store} {t : Hd} {xs : List D} (h : noHL xs = true) : frzN st (.ok (.h st.length) (st ++ (.nd t xs :: g))) = .ok (.h st.length) (st ++ [.nd t xs]) :=
  frzH_ok rfl (Nat.le_refl _) (by simp) h
theorem frzN_at {st g : Store} {t : Hd} {xs : List D} {j : Nat} (e : g[j]? = some (.nd t xs)) (h : noHL xs = true) : frzN st (.ok (.h (st.length + j)) (st ++ g)) = .ok (.h st.length) (st ++ [.nd t xs]) :=
  frzH_ok rfl (Nat.le_add_right _ _) (by rw [List.getElem?_append_right (Nat.le_add_right _ _), Nat.add_sub_cancel_left]; exact e) h
@[simp] theorem noH_int {i : Int} : noH (.int i) = true := (rfl)
@[simp] theorem noH_bl {i : Bool} : noH (.bl i) = true := (rfl)
@[simp] theorem noH_str {i : Str} : noH (.str i) = true := (rfl)
@[simp] theorem noH_non : noH .non = true := (rfl)
@[simp] theorem noH_nd {t : Hd} {xs : List D} : noH (.nd t xs) = noHL xs := (rfl)
@[simp] theorem noHL_nil : noHL [] = true := (rfl)
@[simp] theorem noHL_cons {d : D} {ds : List D} : noHL (d :: ds) = (noH d && noHL ds) := (rfl)
@[simp] theorem noHL_ints {is : List Int} : noHL (is.map D.int) = true := noH_ints is
theorem noHL_all {ds : List D} : noHL ds = true ↔ ∀ d ∈ ds, noH d = true := by
  induction ds with
  | nil => simp
  | cons d ds ih => simp [ih]
@[simp] theorem noHL_append {xs ys : List D} : noHL (xs ++ ys) = (noHL xs && noHL ys) := by
  induction xs with
  | nil => simp
  | cons d ds ih => simp [ih, Bool.and_assoc]
theorem noHL_map {α : Type} {f : α → D} (h : ∀ a, noH (f a) = true) (xs : List α) : noHL (xs.map f) = true := by
  rw [noHL_all]; intro d hd
  obtain ⟨a, _, rfl⟩ := List.mem_map.mp hd
  exact h a

/-! ### the store's end -/
@[simp high] theorem get_end {st g : Store} {j : Nat} : (st ++ g)[st.length + j]? = g[j]? := by
  rw [List.getElem?_append_right (Nat.le_add_right _ _), Nat.add_sub_cancel_left]
@[simp high] theorem get_end0 {st g : Store} : (st ++ g)[st.length]? = g[0]? := by
  rw [List.getElem?_append_right (Nat.le_refl _), Nat.sub_self]
@[simp] theorem set_end {st g : Store} {j : Nat} {x : D} : (st ++ g).set (st.length + j) x = st ++ g.set j x := by
  rw [List.set_append_right _ _ (Nat.le_add_right _ _), Nat.add_sub_cancel_left]
@[simp] theorem set_end0 {st g : Store} {x : D} : (st ++ g).set st.length x = st ++ g.set 0 x := by
  rw [List.set_append_right _ _ (Nat.le_refl _), Nat.sub_self]

/-! ### what is walked -/
section
variable {env : DEnv} {st : Store} {fo : SemE} {fs : SemA} {x y : D} {xs ys : List D}
def anyS : Store → Prop := fun _ => True
def lstIs (x : D) (xs : List D) : Store → Prop := fun st => lst? st x = some xs
def tupIs (x : D) (xs : List D) : Store → Prop := fun st => tup? st x = some xs
@[simp] theorem anyS_ev : anyS st = True := (rfl)
@[simp] theorem lstIs_ev : lstIs x xs st = (lstC (seen st x) = some xs) := (rfl)
@[simp] theorem tupIs_ev : tupIs x xs st = (tupC (seen st x) = some xs) := (rfl)
def iSeqC (x : D) (st : Store) : Option (Hd × List D) → Res DIter
  | some (.lst, xs) => .ok ⟨xs, lstIs x xs⟩ st
  | some (.scr, xs) => .ok ⟨xs, lstIs x xs⟩ st
  | some (.tup, xs) => .ok ⟨xs, tupIs x xs⟩ st
  | some (.ktp, xs) => .ok ⟨xs, tupIs x xs⟩ st
  | _ => .no
def iSeq1 : D → Store → Res DIter := fun x st => iSeqC x st (seen st x)
@[simp] theorem iSeq_ev : iSeq fo env st = (fo env st).bind iSeq1 := by
  unfold iSeq
  congr 1; funext x st1
  unfold iSeq1 lst? tup?
  cases seen st1 x with
  | none => rfl
  | some p =>
    obtain ⟨t, ys⟩ := p
    cases t <;> rfl
@[simp] theorem iSeq1_ev : iSeq1 x st = iSeqC x st (seen st x) := (rfl)
@[simp] theorem iSeqC_lst : iSeqC x st (some (.lst, xs)) = .ok ⟨xs, lstIs x xs⟩ st := (rfl)
@[simp] theorem iSeqC_scr : iSeqC x st (some (.scr, xs)) = .ok ⟨xs, lstIs x xs⟩ st := (rfl)
@[simp] theorem iSeqC_tup : iSeqC x st (some (.tup, xs)) = .ok ⟨xs, tupIs x xs⟩ st := (rfl)
/-- ranges -/
def iRange11 : List D → Store → Res DIter
  | [.int j], st => if -(2 ^ 62) ≤ j ∧ j < 2 ^ 62 then .ok ⟨rng 0 j.toNat, anyS⟩ st else .no
  | _, _ => .no
def iRange21 : List D → Store → Res DIter
  | [.int i, .int j], st => if (-(2 ^ 62) ≤ i ∧ i < 2 ^ 62) ∧ (-(2 ^ 62) ≤ j ∧ j < 2 ^ 62) then .ok ⟨rng i (j - i).toNat, anyS⟩ st else .no
  | _, _ => .no
@[simp] theorem iRange1_ev : iRange1 fs env st = (fs env st).bind iRange11 := by
  unfold iRange1
  congr 1; funext ds st1
  match ds with
  | [] => rfl
  | [.int i] => rfl
  | [.non] => rfl
  | [.bl _] => rfl
  | [.str _] => rfl
  | [.h _] => rfl
  | [.nd _ _] => rfl
  | .int _ :: _ :: _ => rfl
  | .non :: _ :: _ => rfl
  | .bl _ :: _ :: _ => rfl
  | .str _ :: _ :: _ => rfl
  | .h _ :: _ :: _ => rfl
  | .nd _ _ :: _ :: _ => rfl
theorem iRange11_ev {j : Int} (h : -4611686018427387904 ≤ j ∧ j < 4611686018427387904) : iRange11 [.int j] st = .ok ⟨rng 0 j.toNat, anyS⟩ st := if_pos h
theorem iRange11_nat {k : Nat} (h : k < 4611686018427387904) : iRange11 [.int (k : Nat)] st = .ok ⟨rng 0 k, anyS⟩ st := (iRange11_ev (by omega)).trans (by simp)
theorem iRange2_ev' {ds : List D} : (match ds with
  | [.int i, .int j] => if (-(2 ^ 62) ≤ i ∧ i < 2 ^ 62) ∧ (-(2 ^ 62) ≤ j ∧ j < 2 ^ 62) then Res.ok (⟨rng i (j - i).toNat, fun _ => True⟩ : DIter) st else .no
  | _ => .no) = iRange21 ds st := by
  unfold iRange21
  split <;> simp_all [anyS] <;> rfl
@[simp] theorem iRange2_ev : iRange2 fs env st = (fs env st).bind iRange21 := by
  unfold iRange2
  congr 1; funext ds st1
  exact iRange2_ev'
theorem rng_get {lo : Int} {n i : Nat} {d : D} (h : (rng lo n)[i]? = some d) : i < n ∧ d = .int (lo + (i : Int)) := by
  unfold rng at h
  rw [List.getElem?_map] at h
  by_cases hi : i < n
  · rw [List.getElem?_range hi] at h
    exact ⟨hi, (Option.some.inj h).symm⟩
  · rw [List.getElem?_eq_none (by simp; omega)] at h; cases h
@[simp] theorem rng_len {lo : Int} {n : Nat} : (rng lo n).length = n := by simp [rng]
/-- enumerate -/
def iEnumC (x : D) (st : Store) : Option (Hd × List D) → Res DIter
  | some (.lst, xs) => .ok ⟨enuFrom 0 xs, lstIs x xs⟩ st
  | some (.scr, xs) => .ok ⟨enuFrom 0 xs, lstIs x xs⟩ st
  | some (.tup, xs) => .ok ⟨enuFrom 0 xs, tupIs x xs⟩ st
  | some (.ktp, xs) => .ok ⟨enuFrom 0 xs, tupIs x xs⟩ st
  | _ => .no
def iEnum21 : List D → Store → Res DIter
  | [x], st => iEnumC x st (seen st x)
  | _, _ => .no
@[simp] theorem iEnum2_ev : iEnum2 fs env st = (fs env st).bind iEnum21 := by
  unfold iEnum2
  congr 1; funext ds st1
  match ds with
  | [] => rfl
  | [x] =>
    show _ = iEnumC x st1 (seen st1 x)
    unfold lst? tup?
    dsimp only
    cases seen st1 x with
    | none => rfl
    | some p =>
      obtain ⟨t, ys⟩ := p
      cases t <;> rfl
  | _ :: _ :: _ => rfl
@[simp] theorem iEnum21_ev : iEnum21 [x] st = iEnumC x st (seen st x) := (rfl)
@[simp] theorem iEnumC_lst : iEnumC x st (some (.lst, xs)) = .ok ⟨enuFrom 0 xs, lstIs x xs⟩ st := (rfl)
@[simp] theorem iEnumC_tup : iEnumC x st (some (.tup, xs)) = .ok ⟨enuFrom 0 xs, tupIs x xs⟩ st := (rfl)
/-- zip -/
def bothS (p q : Store → Prop) : Store → Prop := fun st => p st ∧ q st
@[simp] theorem bothS_ev {p q : Store → Prop} : bothS p q st = (p st ∧ q st) := (rfl)
def iZipC (x y : D) (st : Store) : Option (Hd × List D) → Option (Hd × List D) → Res DIter
  | some (.lst, xs), some (.lst, ys) => .ok ⟨zipD xs ys, bothS (lstIs x xs) (lstIs y ys)⟩ st
  | some (.tup, xs), some (.tup, ys) => .ok ⟨zipD xs ys, bothS (tupIs x xs) (tupIs y ys)⟩ st
  | some (.scr, xs), some (.lst, ys) => .ok ⟨zipD xs ys, bothS (lstIs x xs) (lstIs y ys)⟩ st
  | some (.lst, xs), some (.scr, ys) => .ok ⟨zipD xs ys, bothS (lstIs x xs) (lstIs y ys)⟩ st
  | some (.scr, xs), some (.scr, ys) => .ok ⟨zipD xs ys, bothS (lstIs x xs) (lstIs y ys)⟩ st
  | some (.tup, xs), some (.ktp, ys) => .ok ⟨zipD xs ys, bothS (tupIs x xs) (tupIs y ys)⟩ st
  | some (.ktp, xs), some (.tup, ys) => .ok ⟨zipD xs ys, bothS (tupIs x xs) (tupIs y ys)⟩ st
  | some (.ktp, xs), some (.ktp, ys) => .ok ⟨zipD xs ys, bothS (tupIs x xs) (tupIs y ys)⟩ st
  | _, _ => .no
def iZip21 : List D → Store → Res DIter
  | [x, y], st => iZipC x y st (seen st x) (seen st y)
  | _, _ => .no
@[simp] theorem iZip2_ev : iZip2 fs env st = (fs env st).bind iZip21 := by
  unfold iZip2
  congr 1; funext ds st1
  match ds with
  | [] => rfl
  | [_] => rfl
  | [x, y] =>
    show _ = iZipC x y st1 (seen st1 x) (seen st1 y)
    unfold lst? tup?
    dsimp only
    cases seen st1 x with
    | none => rfl
    | some p =>
      obtain ⟨t, xs⟩ := p
      cases seen st1 y with
      | none => cases t <;> rfl
      | some q =>
        obtain ⟨u, ys⟩ := q
        cases t <;> cases u <;> rfl
  | _ :: _ :: _ :: _ => rfl
@[simp] theorem iZip21_ev : iZip21 [x, y] st = iZipC x y st (seen st x) (seen st y) := (rfl)
@[simp] theorem iZipC_ll : iZipC x y st (some (.lst, xs)) (some (.lst, ys)) = .ok ⟨zipD xs ys, bothS (lstIs x xs) (lstIs y ys)⟩ st := (rfl)
@[simp] theorem iZipC_tt : iZipC x y st (some (.tup, xs)) (some (.tup, ys)) = .ok ⟨zipD xs ys, bothS (tupIs x xs) (tupIs y ys)⟩ st := (rfl)
def iText1 : D → Store → Res DIter
  | .str z, st => .ok ⟨z.cps.toList.map fun c => D.str ⟨#[c]⟩, anyS⟩ st
  | _, _ => .no
@[simp] theorem iText_ev : iText fo env st = (fo env st).bind iText1 := by
  unfold iText
  congr 1; funext x st1; cases x <;> rfl
@[simp] theorem iText1_ev {z : Str} : iText1 (.str z) st = .ok ⟨z.cps.toList.map fun c => D.str ⟨#[c]⟩, anyS⟩ st := (rfl)
end

/-! ### loops -/
section
variable {env : DEnv} {st : Store} {chk : Store → Prop} {tg : DTg} {body : SemS} {fi : SemI} {items : List D} {x : SR} {d : D}
@[simp] theorem sFor_ev : sFor fi tg body env st = bindE (fi env st) env (sFor1 tg body env) := (rfl)
@[simp] theorem sFor1_ev {it : DIter} : sFor1 tg body env it st = forL it.chk tg body it.items env st := (rfl)
def lStep1 (body : SemS) (st : Store) : Option DEnv → SR
  | some env1 => body env1 st
  | none => .no
/-- one turn -/
def lStep (tg : DTg) (body : SemS) (d : D) (env : DEnv) (st : Store) : SR := lStep1 body st (tg d env st)
@[simp] theorem lStep_ev : lStep tg body d env st = lStep1 body st (tg d env st) := (rfl)
@[simp] theorem lStep1_ev : lStep1 body st (some env) = body env st := (rfl)
/-- a loop by its invariant; it may break or hand out -/
theorem forL_all {B : DEnv → Store → Prop} {R : D → Store → Prop} : ∀ {items : List D} {x : SR} {env : DEnv} {st : Store} (hx : forL chk tg body items env st = x) (I : Nat → DEnv → Store → Prop), I 0 env st →
    (∀ i env st, I i env st → chk st) → (∀ i d env st, items[i]? = some d → I i env st → Ws (lStep tg body d env st) (I (i + 1)) R B) →
    (∃ env' st', x = .nx env' st' ∧ (I items.length env' st' ∨ B env' st')) ∨ ∃ d st', x = .rt d st' ∧ R d st'
  | [], x, env, st, hx, I, h0, hc, hs => by
    unfold forL at hx
    rw [if_pos (hc 0 env st h0)] at hx
    exact .inl ⟨env, st, hx.symm, .inl h0⟩
  | d :: ds, x, env, st, hx, I, h0, hc, hs => by
    have h := hs 0 d env st rfl h0
    unfold forL at hx
    rw [if_pos (hc 0 env st h0)] at hx
    unfold lStep lStep1 at h
    cases ht : tg d env st with
    | none => rw [ht] at h; exact h.elim
    | some env1 =>
      rw [ht] at h hx
      dsimp only at h hx
      cases hb : body env1 st with
      | nx env2 st2 =>
        rw [hb] at h hx
        dsimp only at h hx
        exact forL_all (items := ds) hx (fun i => I (i + 1)) h (fun i => hc (i + 1)) fun i d env st hi hI => hs (i + 1) d env st (by simpa using hi) hI
      | ct env2 st2 =>
        rw [hb] at h hx
        dsimp only at h hx
        exact forL_all (items := ds) hx (fun i => I (i + 1)) h (fun i => hc (i + 1)) fun i d env st hi hI => hs (i + 1) d env st (by simpa using hi) hI
      | bk env2 st2 =>
        rw [hb] at h hx
        dsimp only at h hx
        exact .inl ⟨_, _, hx.symm, .inr h⟩
      | rt d st2 =>
        rw [hb] at h hx
        dsimp only at h hx
        exact .inr ⟨_, _, hx.symm, h⟩
      | er e a b => rw [hb] at h; exact h.elim
      | no => rw [hb] at h; exact h.elim
/-- goes through -/
theorem forL_go (hx : forL chk tg body items env st = x) (I : Nat → DEnv → Store → Prop) (h0 : I 0 env st)
    (hc : ∀ i env st, I i env st → chk st) (hs : ∀ i d env st, items[i]? = some d → I i env st → Ws (lStep tg body d env st) (I (i + 1)) (fun _ _ => False) (fun _ _ => False)) :
    ∃ env' st', x = .nx env' st' ∧ I items.length env' st' := by
  rcases forL_all hx I h0 hc hs with ⟨env', st', e, h | h⟩ | ⟨_, _, _, h⟩
  · exact ⟨env', st', e, h⟩
  · exact h.elim
  · exact h.elim
/-- unrolled -/
def forK (k : DEnv → Store → SR) : SR → SR
  | .nx e s => k e s
  | .ct e s => k e s
  | .bk e s => .nx e s
  | x => x
@[simp] theorem forK_nx {k : DEnv → Store → SR} : forK k (.nx env st) = k env st := (rfl)
@[simp] theorem forK_ct {k : DEnv → Store → SR} : forK k (.ct env st) = k env st := (rfl)
@[simp] theorem forK_bk {k : DEnv → Store → SR} : forK k (.bk env st) = .nx env st := (rfl)
@[simp] theorem forK_rt {k : DEnv → Store → SR} : forK k (.rt d st) = .rt d st := (rfl)
@[simp] theorem forK_er {k : DEnv → Store → SR} {e : Ex} : forK k (.er e env st) = .er e env st := (rfl)
theorem forL_nil : forL chk tg body [] env st = @ite _ (chk st) (Classical.propDecidable _) (.nx env st) .no := by
  unfold forL; rfl
theorem forL_cons {ds : List D} : forL chk tg body (d :: ds) env st = @ite _ (chk st) (Classical.propDecidable _) (forK (forL chk tg body ds) (lStep tg body d env st)) .no := by
  rw [forL.eq_def]
  dsimp only
  congr 1
  unfold lStep lStep1
  cases tg d env st with
  | none => rfl
  | some env1 =>
    dsimp only
    cases body env1 st <;> rfl
theorem get_map {α : Type} {f : α → D} {xs : List α} {i : Nat} {d : D} (h : (xs.map f)[i]? = some d) : ∃ a, xs[i]? = some a ∧ d = f a := by
  rw [List.getElem?_map] at h
  cases hi : xs[i]? with
  | none => rw [hi] at h; cases h
  | some a => rw [hi] at h; exact ⟨a, rfl, (Option.some.inj h).symm⟩
end

/-! ### comprehensions -/
@[simp] theorem enuFrom_nil {n : Nat} : enuFrom n [] = [] := (rfl)
@[simp] theorem enuFrom_cons {n : Nat} {d : D} {ds : List D} : enuFrom n (d :: ds) = .nd .tup [.int (n : Nat), d] :: enuFrom (n + 1) ds := (rfl)
section
variable {env env1 : DEnv} {st : Store} {chk : Store → Prop} {tg : DTg} {tst : SemT} {elt : SemE} {own : List Nat} {fi : SemI} {acc : List D} {x : Res (List D)} {d y : D}
def dLst0 : List D → Store → Res D := fun xs st => .ok (.nd .lst xs) st
def dLstM0 : List D → Store → Res D := fun xs st => .ok (.h st.length) (st ++ [.nd .lst xs])
noncomputable def dLc1 (tg : DTg) (tst : SemT) (elt : SemE) (own : List Nat) (env : DEnv) : DIter → Store → Res (List D) := fun it st => compL it.chk tg tst elt own env it.items [] st
@[simp] theorem dLst0_ev {xs : List D} : dLst0 xs st = .ok (.nd .lst xs) st := (rfl)
@[simp] theorem dLstM0_ev {xs : List D} : dLstM0 xs st = .ok (.h st.length) (st ++ [.nd .lst xs]) := (rfl)
@[simp] theorem dLc1_ev {it : DIter} : dLc1 tg tst elt own env it st = compL it.chk tg tst elt own env it.items [] st := (rfl)
theorem bind_bind {A B C : Type} {x : Res A} {f : A → Store → Res B} {g : B → Store → Res C} : (x.bind f).bind g = x.bind fun a st => (f a st).bind g := by cases x <;> rfl
@[simp] theorem dLc_ev : dLc fi tg tst elt own env st = ((fi env st).bind (dLc1 tg tst elt own env)).bind dLst0 := bind_bind.symm
@[simp] theorem dLcM_ev : dLcM fi tg tst elt own env st = ((fi env st).bind (dLc1 tg tst elt own env)).bind dLstM0 := bind_bind.symm
def cEl3 : D → Store → Res (Option D) := fun y st => .ok (some y) st
def cEl2 (elt : SemE) (env1 : DEnv) : Bool → Store → Res (Option D) := fun b st => if b = true then (elt env1 st).bind cEl3 else .ok none st
def cEl1 (tst : SemT) (elt : SemE) (st : Store) : Option DEnv → Res (Option D)
  | some env1 => (tst env1 st).bind (cEl2 elt env1)
  | none => .no
/-- one turn of a comprehension -/
def cEl (tg : DTg) (tst : SemT) (elt : SemE) (env0 : DEnv) (d : D) (st : Store) : Res (Option D) := cEl1 tst elt st (tg d env0 st)
@[simp] theorem cEl_ev : cEl tg tst elt env d st = cEl1 tst elt st (tg d env st) := (rfl)
@[simp] theorem cEl1_ev : cEl1 tst elt st (some env1) = (tst env1 st).bind (cEl2 elt env1) := (rfl)
@[simp] theorem cEl2_ev {b : Bool} : cEl2 elt env1 b st = if b = true then (elt env1 st).bind cEl3 else .ok none st := (rfl)
@[simp] theorem cEl3_ev : cEl3 y st = .ok (some y) st := (rfl)
theorem cEl_cases {o : Option D} {st' : Store} (h : cEl tg tst elt env d st = .ok o st') :
    ∃ env1, tg d env st = some env1 ∧ ((∃ st1 y, tst env1 st = .ok true st1 ∧ elt env1 st1 = .ok y st' ∧ o = some y) ∨ (tst env1 st = .ok false st' ∧ o = none)) := by
  unfold cEl cEl1 at h
  cases ht : tg d env st with
  | none => rw [ht] at h; cases h
  | some env1 =>
    rw [ht] at h
    dsimp only at h
    refine ⟨env1, rfl, ?_⟩
    cases hb : tst env1 st with
    | ok b st1 =>
      rw [hb] at h
      cases b with
      | true =>
        have h' : (elt env1 st1).bind cEl3 = .ok o st' := h
        cases he : elt env1 st1 with
        | ok y st2 => rw [he] at h'; cases h'; exact .inl ⟨st1, y, rfl, he, rfl⟩
        | er e s => rw [he] at h'; cases h'
        | no => rw [he] at h'; cases h'
      | false => cases h; exact .inr ⟨rfl, rfl⟩
    | er e s => rw [hb] at h; cases h
    | no => rw [hb] at h; cases h
/-- with changes on the way -/
theorem compL_all {α : Type} {enc : α → D} : ∀ {xs : List α} {acc : List D} {st : Store} {x : Res (List D)} (hx : compL chk tg tst elt own env (xs.map enc) acc st = x) (I : Nat → List D → Store → Prop), I 0 acc st →
    (∀ i ys st, I i ys st → chk st) → acc.length + xs.length ≤ 16777216 → (∀ i a ys st, xs[i]? = some a → I i ys st → Wp (cEl tg tst elt (wipeD env own) (enc a) st) fun o st' => I (i + 1) (ys ++ o.toList) st') → Wp x (I xs.length)
  | [], acc, st, x, hx, I, h0, hc, hl, hs => by
    simp only [List.map_nil] at hx
    unfold compL at hx
    rw [if_pos (hc 0 acc st h0)] at hx
    subst hx; exact h0
  | a :: xs, acc, st, x, hx, I, h0, hc, hl, hs => by
    obtain ⟨o, st', e, h⟩ := (hs 0 a acc st rfl h0).get
    obtain ⟨env1, e1, h1⟩ := cEl_cases e
    simp only [List.map_cons] at hx
    unfold compL at hx
    rw [if_pos (hc 0 acc st h0), e1] at hx
    dsimp only at hx
    have hl' : acc.length + xs.length + 1 ≤ 16777216 := by simpa [Nat.add_assoc] using hl
    rcases h1 with ⟨st1, y, h1, h2, rfl⟩ | ⟨h1, rfl⟩
    · rw [h1] at hx
      dsimp only at hx
      rw [h2] at hx
      dsimp only at hx
      rw [if_pos (show acc.length < szL by rw [szL_16]; omega)] at hx
      exact compL_all (xs := xs) hx (fun i => I (i + 1)) (by simpa using h) (fun i => hc (i + 1)) (by simp; omega) fun i b ys st hi hI => hs (i + 1) b ys st (by simpa using hi) hI
    · rw [h1] at hx
      dsimp only at hx
      exact compL_all (xs := xs) hx (fun i => I (i + 1)) (by simpa using h) (fun i => hc (i + 1)) (by omega) fun i b ys st hi hI => hs (i + 1) b ys st (by simpa using hi) hI
/-- that changes nothing, with tests -/
theorem compL_fm {α : Type} {enc : α → D} {xs : List α} (hx : compL chk tg tst elt own env (xs.map enc) [] st = x) (f : α → Option D) (hc : chk st) (hl : xs.length ≤ 16777216)
    (hs : ∀ a, a ∈ xs → cEl tg tst elt (wipeD env own) (enc a) st = .ok (f a) st) : x = .ok (xs.filterMap f) st := by
  have h := compL_all hx (fun i ys st' => st' = st ∧ ys = (xs.take i).filterMap f) ⟨rfl, by simp⟩ (fun i ys st' h => by rw [h.1]; exact hc) (by simpa using hl) fun i a ys st' hi hI => by
    obtain ⟨rfl, rfl⟩ := hI
    rw [hs a (List.mem_of_getElem? hi)]
    refine ⟨rfl, ?_⟩
    rw [List.take_add_one, hi]
    simp
    cases h : f a <;> simp [h]
  obtain ⟨ys, st', rfl, rfl, rfl⟩ := h.get
  simp
/-- without tests -/
theorem compL_map {α : Type} {enc : α → D} {xs : List α} (hx : compL chk tg tst elt own env (xs.map enc) [] st = x) (f : α → D) (hc : chk st) (hl : xs.length ≤ 16777216)
    (hs : ∀ a, a ∈ xs → cEl tg tst elt (wipeD env own) (enc a) st = .ok (some (f a)) st) : x = .ok (xs.map f) st := by
  have := compL_fm hx (fun a => some (f a)) hc hl hs
  simpa using this
/-- with a test -/
theorem compL_filter {α : Type} {enc : α → D} {xs : List α} (hx : compL chk tg tst elt own env (xs.map enc) [] st = x) (p : α → Bool) (f : α → D) (hc : chk st) (hl : xs.length ≤ 16777216)
    (hs : ∀ a, a ∈ xs → cEl tg tst elt (wipeD env own) (enc a) st = .ok (if p a = true then some (f a) else none) st) : x = .ok ((xs.filter p).map f) st := by
  have := compL_fm hx (fun a => if p a = true then some (f a) else none) hc hl hs
  rw [this]
  congr 1
  clear hx hs this hl
  induction xs with
  | nil => rfl
  | cons a xs ih => by_cases h : p a = true <;> simp [h, ih]
/-- unrolled -/
noncomputable def compK (chk : Store → Prop) (tg : DTg) (tst : SemT) (elt : SemE) (own : List Nat) (env : DEnv) (ds acc : List D) : Res (Option D) → Res (List D)
  | .ok (some y) st => if acc.length < szL then compL chk tg tst elt own env ds (acc ++ [y]) st else .no
  | .ok none st => compL chk tg tst elt own env ds acc st
  | _ => .no
@[simp] theorem compK_some {ds : List D} (h : acc.length < 16777216) : compK chk tg tst elt own env ds acc (.ok (some y) st) = compL chk tg tst elt own env ds (acc ++ [y]) st := if_pos (by rw [szL_16]; exact h)
@[simp] theorem compK_none {ds : List D} : compK chk tg tst elt own env ds acc (.ok none st) = compL chk tg tst elt own env ds acc st := (rfl)
end
@[simp] theorem wipeD_nil {env : DEnv} : wipeD env [] = env := (rfl)
@[simp] theorem wipeD_cons {env : DEnv} {v : Nat} {vs : List Nat} : wipeD env (v :: vs) = (wipeD env vs).set v none := (rfl)
end DY

/-! Evaluation on data: operators, built-in functions. -/
namespace DY
open PySem PySem.Spec PyProof.Rows L2
section
variable {env : DEnv} {st : Store} {i j : Int} {x y : D} {xs ys : List D}
/-! ### whole numbers -/
@[simp] theorem dAdd_int : dAdd (.int i) (.int j) st = .ok (.int (i + j)) st := (rfl)
@[simp] theorem dSub_int : dSub (.int i) (.int j) st = .ok (.int (i - j)) st := dSub_i i j st
theorem dMul_r (h : -(2 ^ 64) < j ∧ j < 2 ^ 64) : dMul (.int i) (.int j) st = .ok (.int (i * j)) st := if_pos (.inl (.inr h))
theorem dMul_l (h : -(2 ^ 64) < i ∧ i < 2 ^ 64) : dMul (.int i) (.int j) st = .ok (.int (i * j)) st := if_pos (.inl (.inl h))
theorem dFdiv_n (h : 0 < j ∧ j < 1073741824) : dFdiv (.int i) (.int j) st = .ok (.int (i / j)) st := if_pos (.inl h)
theorem dFdiv_w (h : 0 < j ∧ j.natAbs.log2 < 9000) : dFdiv (.int i) (.int j) st = .ok (.int (i / j)) st := if_pos (.inr h)
@[simp] theorem dMod_ev (h : 0 < j) : dMod (.int i) (.int j) st = .ok (.int (i % j)) st := if_pos h
theorem dPow_ev (h : CPow i j) : dPow (.int i) (.int j) st = .ok (.int (i ^ j.toNat)) st := if_pos h
@[simp] theorem dPow_9 : dPow (.int 10) (.int 9) st = .ok (.int 1000000000) st := dPow_ev ⟨by decide, by decide, by decide⟩
@[simp] theorem dPow_12 : dPow (.int 10) (.int 12) st = .ok (.int 1000000000000) st := dPow_ev ⟨by decide, by decide, by decide⟩
@[simp] theorem dPow_15 : dPow (.int 10) (.int 15) st = .ok (.int 1000000000000000) st := dPow_ev ⟨by decide, by decide, by decide⟩
@[simp] theorem dPow_18 : dPow (.int 10) (.int 18) st = .ok (.int 1000000000000000000) st := dPow_ev ⟨by decide, by decide, by decide⟩
@[simp] theorem dPow_30 : dPow (.int 10) (.int 30) st = .ok (.int 1000000000000000000000000000000) st := dPow_ev ⟨by decide, by decide, by decide⟩
@[simp] theorem dLt_int : dLt (.int i) (.int j) st = .ok (.bl (decide (i < j))) st := (rfl)
@[simp] theorem dLe_int : dLe (.int i) (.int j) st = .ok (.bl (decide (i ≤ j))) st := (rfl)
@[simp] theorem dGt_int : dGt (.int i) (.int j) st = .ok (.bl (decide (j < i))) st := (rfl)
@[simp] theorem dGe_int : dGe (.int i) (.int j) st = .ok (.bl (decide (j ≤ i))) st := (rfl)
@[simp] theorem dEq_int : dEq (.int i) (.int j) st = .ok (.bl (decide (i = j))) st := (rfl)
@[simp] theorem dNe_int : dNe (.int i) (.int j) st = .ok (.bl (!decide (i = j))) st := (rfl)
@[simp] theorem dEq_str {a b : Str} : dEq (.str a) (.str b) st = .ok (.bl (decide (a = b))) st := (rfl)
@[simp] theorem dNe_str {a b : Str} : dNe (.str a) (.str b) st = .ok (.bl (!decide (a = b))) st := (rfl)
@[simp] theorem dEq_bl {a b : Bool} : dEq (.bl a) (.bl b) st = .ok (.bl (decide (a = b))) st := (rfl)
@[simp] theorem dNe_bl {a b : Bool} : dNe (.bl a) (.bl b) st = .ok (.bl (!decide (a = b))) st := (rfl)
@[simp] theorem dIsN_ev : dIsN x .non st = .ok (.bl (isNon x)) st := (rfl)
@[simp] theorem dNotN_ev : dNotN x .non st = .ok (.bl (!isNon x)) st := (rfl)
@[simp] theorem isNon_int : isNon (.int i) = false := (rfl)
@[simp] theorem isNon_str {a : Str} : isNon (.str a) = false := (rfl)
@[simp] theorem isNon_bl {a : Bool} : isNon (.bl a) = false := (rfl)
@[simp] theorem isNon_nd {t : Hd} : isNon (.nd t xs) = false := (rfl)
@[simp] theorem isNon_h {k : Nat} : isNon (.h k) = false := (rfl)
@[simp] theorem isNon_non : isNon .non = true := (rfl)
@[simp] theorem dIsB_ev {a b : Bool} : dIsB (.bl a) (.bl b) st = .ok (.bl (decide (a = b))) st := (rfl)
@[simp] theorem dNotB_ev {a b : Bool} : dNotB (.bl a) (.bl b) st = .ok (.bl (!decide (a = b))) st := (rfl)
/-! ### built-in functions -/
@[simp] theorem dInt_ev : dInt [.int i] st = .ok (.int i) st := (rfl)
@[simp] theorem dAbs_ev : dAbs [.int i] st = .ok (.int (if i < 0 then -i else i)) st := (rfl)
@[simp] theorem dMax_2 : dMax [.int i, .int j] st = .ok (.int (max i j)) st := by
  have : (if j > i then j else i) = max i j := by omega
  show Res.ok (D.int (if j > i then j else i)) st = _
  rw [this]
@[simp] theorem dMin_2 : dMin [.int i, .int j] st = .ok (.int (min i j)) st := by
  have : (if j < i then j else i) = min i j := by omega
  show Res.ok (D.int (if j < i then j else i)) st = _
  rw [this]
/-- the greatest, the least -/
@[simp] theorem ints_map' (is : List Int) : ints? (is.map D.int) = some is := ints_map is
@[simp] theorem ints_nil : ints? [] = some [] := (rfl)
def consO {α : Type} (a : α) : Option (List α) → Option (List α)
  | some l => some (a :: l)
  | none => none
@[simp] theorem consO_ev {α : Type} {a : α} {l : List α} : consO a (some l) = some (a :: l) := (rfl)
@[simp] theorem ints_cons : ints? (.int i :: xs) = consO i (ints? xs) := by
  show (match ints? xs with | some is => some (i :: is) | none => none) = _
  cases ints? xs <;> rfl
def dMaxC (st : Store) : Option (List Int) → Res D
  | some (i :: is) => .ok (.int (mxL (i :: is))) st
  | _ => .no
def dMinC (st : Store) : Option (List Int) → Res D
  | some (i :: is) => .ok (.int (mnL (i :: is))) st
  | _ => .no
def dSumC (st : Store) : Option (List Int) → Res D
  | some is => .ok (.int is.sum) st
  | _ => .no
@[simp] theorem dMax_1 : dMax [x] st = dMaxC st ((lst? st x).bind ints?) := by
  unfold dMax dMaxC; cases x <;> rfl
@[simp] theorem dMin_1 : dMin [x] st = dMinC st ((lst? st x).bind ints?) := by
  unfold dMin dMinC; cases x <;> rfl
@[simp] theorem dSum_1 : dSum [x] st = dSumC st ((lst? st x).bind ints?) := (rfl)
@[simp] theorem dMaxC_cons {is : List Int} : dMaxC st (some (i :: is)) = .ok (.int (mxL (i :: is))) st := (rfl)
@[simp] theorem dMinC_cons {is : List Int} : dMinC st (some (i :: is)) = .ok (.int (mnL (i :: is))) st := (rfl)
@[simp] theorem dMaxC_ev {is : List Int} (h : is ≠ []) : dMaxC st (some is) = .ok (.int (mxL is)) st := by
  cases is with
  | nil => exact absurd rfl h
  | cons a l => rfl
@[simp] theorem dMinC_ev {is : List Int} (h : is ≠ []) : dMinC st (some is) = .ok (.int (mnL is)) st := by
  cases is with
  | nil => exact absurd rfl h
  | cons a l => rfl
@[simp] theorem dSumC_ev {is : List Int} : dSumC st (some is) = .ok (.int is.sum) st := (rfl)
@[simp] theorem bools_map (bs : List Bool) : bools? (bs.map D.bl) = some bs := by
  induction bs with
  | nil => rfl
  | cons b bs ih => simp [bools?, ih]
@[simp] theorem bools_nil : bools? [] = some [] := (rfl)
@[simp] theorem bools_cons {b : Bool} : bools? (.bl b :: xs) = consO b (bools? xs) := by
  show (match bools? xs with | some is => some (b :: is) | none => none) = _
  cases bools? xs <;> rfl
def dAllC (st : Store) : Option (List Bool) → Res D
  | some is => .ok (.bl (is.all id)) st
  | _ => .no
def dAnyC (st : Store) : Option (List Bool) → Res D
  | some is => .ok (.bl (is.any id)) st
  | _ => .no
@[simp] theorem dAll_1 : dAll [x] st = dAllC st ((lst? st x).bind bools?) := (rfl)
@[simp] theorem dAny_1 : dAny [x] st = dAnyC st ((lst? st x).bind bools?) := (rfl)
@[simp] theorem dAllC_ev {is : List Bool} : dAllC st (some is) = .ok (.bl (is.all id)) st := (rfl)
@[simp] theorem dAnyC_ev {is : List Bool} : dAnyC st (some is) = .ok (.bl (is.any id)) st := (rfl)
def seqC : Option (Hd × List D) → Option (List D)
  | some (.lst, xs) => some xs
  | some (.scr, xs) => some xs
  | some (.tup, xs) => some xs
  | some (.ktp, xs) => some xs
  | _ => none
@[simp] theorem seqC_lst : seqC (some (.lst, xs)) = some xs := (rfl)
@[simp] theorem seqC_scr : seqC (some (.scr, xs)) = some xs := (rfl)
@[simp] theorem seqC_tup : seqC (some (.tup, xs)) = some xs := (rfl)
@[simp] theorem seq_ev : seq? st x = seqC (seen st x) := by
  unfold seq? lst? tup?
  cases seen st x with
  | none => rfl
  | some p =>
    obtain ⟨t, xs⟩ := p
    cases t <;> rfl
def dLenC (st : Store) : Option (List D) → Res D
  | some xs => .ok (.int xs.length) st
  | none => .no
@[simp] theorem dLen_nd {t : Hd} : dLen [.nd t xs] st = dLenC st (seqC (some (t, xs))) := by
  show (match seq? st (.nd t xs) with | some xs => _ | none => _) = _
  simp only [seq_ev, seen_nd]
  cases seqC (some (t, xs)) <;> rfl
@[simp] theorem dLen_h {k : Nat} : dLen [.h k] st = dLenC st (seqC (seenC st[k]?)) := by
  show (match seq? st (.h k) with | some xs => _ | none => _) = _
  simp only [seq_ev, seen_h]
  cases seqC (seenC st[k]?) <;> rfl
@[simp] theorem dLenC_ev : dLenC st (some xs) = .ok (.int xs.length) st := (rfl)
@[simp] theorem dLen_str {z : Str} (h : z.length ≤ 16777216) : dLen [.str z] st = .ok (.int z.length) st := by
  simp [dLen, szL_16, h, seqC]
def dListC (st : Store) : Option (List D) → Res D
  | some xs => .ok (.nd .lst xs) st
  | none => .no
def dListMC (st : Store) : Option (List D) → Res D
  | some xs => .ok (.h st.length) (st ++ [.nd .lst xs])
  | none => .no
@[simp] theorem dList_1 : dList [x] st = dListC st (seq? st x) := (rfl)
@[simp] theorem dListM_1 : dListM [x] st = dListMC st (seq? st x) := (rfl)
@[simp] theorem dListC_ev : dListC st (some xs) = .ok (.nd .lst xs) st := (rfl)
@[simp] theorem dListMC_ev : dListMC st (some xs) = .ok (.h st.length) (st ++ [.nd .lst xs]) := (rfl)
def dTupleC (st : Store) : Option (Hd × List D) → Res D
  | some (.lst, xs) => .ok (.nd .tup xs) st
  | some (.scr, xs) => .ok (.nd .tup xs) st
  | some (.tup, xs) => .ok (.nd .tup xs) st
  | _ => .no
@[simp] theorem dTuple_1 : dTuple [x] st = dTupleC st (seen st x) := by
  unfold dTuple lst? tupX?
  dsimp only
  cases seen st x with
  | none => rfl
  | some p =>
    obtain ⟨t, xs⟩ := p
    cases t <;> rfl
@[simp] theorem dTupleC_lst : dTupleC st (some (.lst, xs)) = .ok (.nd .tup xs) st := (rfl)
@[simp] theorem dTupleC_tup : dTupleC st (some (.tup, xs)) = .ok (.nd .tup xs) st := (rfl)
/-! ### lists and tuples joined, cut, read -/
def dAddC (st : Store) : Option (Hd × List D) → Option (Hd × List D) → Res D
  | some (.lst, xs), some (.lst, ys) => if xs.length + ys.length ≤ szL then .ok (.nd .lst (xs ++ ys)) st else .no
  | some (.tup, xs), some (.tup, ys) => if xs.length + ys.length ≤ szL then .ok (.nd .tup (xs ++ ys)) st else .no
  | _, _ => .no
theorem dAdd_seen (e : dAdd x y st = (match lstX? st x, lstX? st y with
    | some xs, some ys => if xs.length + ys.length ≤ szL then .ok (.nd .lst (xs ++ ys)) st else .no
    | _, _ => match tupX? st x, tupX? st y with
      | some xs, some ys => if xs.length + ys.length ≤ szL then .ok (.nd .tup (xs ++ ys)) st else .no
      | _, _ => .no)) : dAdd x y st = dAddC st (seen st x) (seen st y) := by
  rw [e]
  unfold lstX? tupX?
  cases seen st x with
  | none => rfl
  | some p =>
    obtain ⟨t, xs⟩ := p
    cases seen st y with
    | none => cases t <;> rfl
    | some q =>
      obtain ⟨u, ys⟩ := q
      cases t <;> cases u <;> rfl
@[simp] theorem dAddC_ll (h : xs.length + ys.length ≤ 16777216) : dAddC st (some (.lst, xs)) (some (.lst, ys)) = .ok (.nd .lst (xs ++ ys)) st := if_pos (by rw [szL_16]; exact h)
@[simp] theorem dAddC_tt (h : xs.length + ys.length ≤ 16777216) : dAddC st (some (.tup, xs)) (some (.tup, ys)) = .ok (.nd .tup (xs ++ ys)) st := if_pos (by rw [szL_16]; exact h)
@[simp] theorem dAdd_nn {t u : Hd} : dAdd (.nd t xs) (.nd u ys) st = dAddC st (some (t, xs)) (some (u, ys)) := dAdd_seen rfl
@[simp] theorem dAdd_hn {k : Nat} {u : Hd} : dAdd (.h k) (.nd u ys) st = dAddC st (seenC st[k]?) (some (u, ys)) := by
  rw [dAdd_seen rfl, seen_h, seen_nd]
@[simp] theorem dAdd_nh {k : Nat} {u : Hd} : dAdd (.nd u xs) (.h k) st = dAddC st (some (u, xs)) (seenC st[k]?) := by
  rw [dAdd_seen rfl, seen_h, seen_nd]
@[simp] theorem dAdd_hh {j k : Nat} : dAdd (.h j) (.h k) st = dAddC st (seenC st[j]?) (seenC st[k]?) := by
  rw [dAdd_seen rfl, seen_h, seen_h]
@[simp] theorem dAdd_ss {a b : Str} (h : a.length + b.length ≤ 16777216) : dAdd (.str a) (.str b) st = .ok (.str (a ++ b)) st := by
  simp [dAdd, szL_16, h]
@[simp] theorem dMul_lst (h : (-(2 ^ 63) ≤ j ∧ j < 2 ^ 63) ∧ xs.length * j.toNat ≤ 16777216) : dMul (.nd .lst xs) (.int j) st = .ok (.nd .lst (List.replicate j.toNat xs).flatten) st := by
  have : (-(2 ^ 63) ≤ j ∧ j < 2 ^ 63) ∧ xs.length * j.toNat ≤ szL := by rw [szL_16]; exact h
  simp only [dMul, lstX?, seen_nd]
  rw [if_pos this]
theorem flat_one {d : D} (n : Nat) : (List.replicate n [d]).flatten = List.replicate n d := by
  induction n with
  | zero => rfl
  | succ n ih => simp [List.replicate_succ, ih]
@[simp] theorem dMul_one (h : 0 ≤ j ∧ j ≤ 16777216) {d : D} : dMul (.nd .lst [d]) (.int j) st = .ok (.nd .lst (List.replicate j.toNat d)) st := by
  rw [dMul_lst ⟨by omega, by simp; omega⟩, flat_one]
def dCutC (lo hi : Option Int) (st : Store) : Option (Hd × List D) → Res D
  | some (.lst, xs) => .ok (.nd .lst (cutD xs lo hi)) st
  | some (.scr, xs) => .ok (.nd .lst (cutD xs lo hi)) st
  | some (.tup, xs) => .ok (.nd .tup (cutD xs lo hi)) st
  | _ => .no
@[simp] theorem dCut_ev {lo hi : Option Int} : dCut x lo hi st = dCutC lo hi st (seen st x) := by
  unfold dCut lst? tupX?
  cases seen st x with
  | none => rfl
  | some p =>
    obtain ⟨t, xs⟩ := p
    cases t <;> rfl
@[simp] theorem dCutC_lst {lo hi : Option Int} : dCutC lo hi st (some (.lst, xs)) = .ok (.nd .lst (cutD xs lo hi)) st := (rfl)
@[simp] theorem dCutC_scr {lo hi : Option Int} : dCutC lo hi st (some (.scr, xs)) = .ok (.nd .lst (cutD xs lo hi)) st := (rfl)
@[simp] theorem dCutC_tup {lo hi : Option Int} : dCutC lo hi st (some (.tup, xs)) = .ok (.nd .tup (cutD xs lo hi)) st := (rfl)
def dCutMC (lo hi : Option Int) (st : Store) : Option (List D) → Res D
  | some xs => .ok (.h st.length) (st ++ [.nd .lst (cutD xs lo hi)])
  | _ => .no
@[simp] theorem dCutM_ev {lo hi : Option Int} : dCutM x lo hi st = dCutMC lo hi st (lst? st x) := by
  unfold dCutM dCutMC; cases lst? st x <;> rfl
@[simp] theorem dCutMC_ev {lo hi : Option Int} : dCutMC lo hi st (some xs) = .ok (.h st.length) (st ++ [.nd .lst (cutD xs lo hi)]) := (rfl)
theorem atI_nat {α : Type} {xs : List α} {k : Nat} : atI xs (k : Int) = xs[k]? := by
  unfold atI ixN
  rw [if_pos (by omega)]
  by_cases h : k < xs.length
  · rw [if_pos (by omega)]; simp
  · rw [if_neg (by omega), List.getElem?_eq_none (by omega)]; rfl
theorem atI_int {α : Type} {xs : List α} (h : 0 ≤ i) : atI xs i = xs[i.toNat]? := by
  have e : i = ((i.toNat : Nat) : Int) := by omega
  exact (congrArg (atI xs) e).trans atI_nat
def dIxC (i : Int) (st : Store) : Option (List D) → Res D
  | some xs => itm st (atI xs i)
  | none => .no
@[simp] theorem dIx_nd {t : Hd} : dIx (.nd t xs) (.int i) st = dIxC i st (seqC (some (t, xs))) := by
  show (match seq? st (.nd t xs) with | some xs => _ | none => _) = _
  simp only [seq_ev, seen_nd]
  cases seqC (some (t, xs)) with
  | none => rfl
  | some ys => show (match atI ys i with | some d => _ | none => _) = itm st (atI ys i); cases atI ys i <;> rfl
@[simp] theorem dIx_h {k : Nat} : dIx (.h k) (.int i) st = dIxC i st (seqC (seenC st[k]?)) := by
  show (match seq? st (.h k) with | some xs => _ | none => _) = _
  simp only [seq_ev, seen_h]
  cases seqC (seenC st[k]?) with
  | none => rfl
  | some ys => show (match atI ys i with | some d => _ | none => _) = itm st (atI ys i); cases atI ys i <;> rfl
@[simp] theorem atI_zero {α : Type} {xs : List α} : atI xs 0 = xs[0]? := atI_nat (k := 0)
@[simp] theorem atI_one {α : Type} {xs : List α} : atI xs 1 = xs[1]? := atI_nat (k := 1)
@[simp] theorem atI_two {α : Type} {xs : List α} : atI xs 2 = xs[2]? := atI_nat (k := 2)
@[simp] theorem atI_three {α : Type} {xs : List α} : atI xs 3 = xs[3]? := atI_nat (k := 3)
@[simp] theorem dIxC_ev : dIxC i st (some xs) = itm st (atI xs i) := (rfl)
/-! ### lists changed -/
def appendC (k : Nat) (y : D) (st : Store) : Option D → Res D
  | some (.nd .lst xs) => if xs.length < szL then .ok .non (st.set k (.nd .lst (xs ++ [y]))) else .no
  | _ => .no
@[simp] theorem append_ev {k : Nat} : opAppend (.h k) [y] st = appendC k y st st[k]? := by
  unfold opAppend appendC
  rfl
@[simp] theorem appendC_ev {k : Nat} (h : xs.length < 16777216) : appendC k y st (some (.nd .lst xs)) = .ok .non (st.set k (.nd .lst (xs ++ [y]))) := if_pos (by rw [szL_16]; exact h)
def popAtC (k : Nat) (st : Store) : Option D → Res D
  | some (.nd .lst (d :: xs)) => .ok d (st.set k (.nd .lst xs))
  | _ => .no
@[simp] theorem popAt_h {k : Nat} : opPopAt (.h k) [.int 0] st = popAtC k st st[k]? := by
  unfold opPopAt
  dsimp only
  cases st[k]? with
  | none => rfl
  | some c =>
    cases c with
    | nd t xs =>
      cases t with
      | lst =>
        cases xs with
        | nil => simp [seqIndex?, popAtC]
        | cons d xs => simp [seqIndex?, popAtC]
      | _ => rfl
    | _ => rfl
@[simp] theorem popAtC_ev {k : Nat} {d : D} : popAtC k st (some (.nd .lst (d :: xs))) = .ok d (st.set k (.nd .lst xs)) := (rfl)
/-! ### in -/
theorem dIn_flat {v : V} {vs : List V} (hx : fv x = some v) (hy : (seq? st y).bind fvs = some vs) (hn : ∀ a, y ≠ .str a) : dIn x y st = .ok (.bl (inV v vs)) st := by
  cases y with
  | str a => exact absurd rfl (hn a)
  | _ => simp only [dIn, inD, hx, hy]
end
/-- an attribute's rule -/
theorem se_at {X : Cx} {cl : ClsT} {W : WX} {pos : Pos} {o : Expr} {fo : SemE} {f : Str} (c hint : Nat) (hc : Cls X.K (cl c)) (hf : NoAttr X.K (cl c) f) (ho : SE X cl W o fo) (hb : attributeBase o f X.env (eval o X.env) = eval o X.env := by rfl) : SE X cl W (.Attribute o f pos) (dAt c hint f fo) := se_attr c hint hc hf ho hb
/-! ### a new instance -/
def runInit1 (k : Nat) : D → Store → Res D
  | .non, st => .ok (.h k) st
  | _, _ => .no
@[simp] theorem runInit1_ev {k : Nat} {st : Store} : runInit1 k .non st = .ok (.h k) st := (rfl)
@[simp] theorem runInit_ev {c : Nat} {F : SemF} {ds : List D} {st : Store} : runInit c F ds st = (F (.h st.length :: ds) (st ++ [.nd (.ins c []) []])).bind (runInit1 st.length) := by
  unfold runInit
  congr 1; funext v st1; cases v <;> rfl
@[simp] theorem frzF_ev {F : SemF} {ds : List D} {st : Store} : frzF F ds st = frzR st (F ds st) := (rfl)
@[simp] theorem kwF_ev {n m : Nat} {is : List Nat} {F : SemF} {ds : List D} {st : Store} (h : ds.length = n ∧ is.length = m ∧ (is.all fun i => decide (i < n)) = true) : kwF n m is F ds st = F (pmL is ds) st := if_pos h
theorem dOwn_ok {c : Nat} {F : SemF} {x y : D} {st st' : Store} {ns ms : List Str} {xs ys zs : List D} {t : Hd} (hx : seen st x = some (.ins c ns, xs)) (hy : seen st y = some (.ins c ms, ys)) (e : F [x, y] st = .ok (.nd t zs) st') : dOwn c F x y st = .ok (.nd t zs) st' := by
  simp [dOwn, hx, hy, e]
def pmC {A : Type} : Option A → List A → List A
  | some a, l => a :: l
  | none, l => l
@[simp] theorem pmC_ev {A : Type} {a : A} {l : List A} : pmC (some a) l = a :: l := (rfl)
@[simp] theorem pmL_nil {A : Type} {xs : List A} : pmL [] xs = [] := (rfl)
@[simp] theorem pmL_cons {A : Type} {xs : List A} {i : Nat} {is : List Nat} : pmL (i :: is) xs = pmC xs[i]? (pmL is xs) := by
  unfold pmL pmC
  rw [List.filterMap_cons]
  cases xs[i]? <;> rfl
end DY

/-! while; items of lists stored; comprehensions with two fors. -/
namespace DY
open PySem PySem.Spec PyProof.Rows L2
/-! ### while -/
section
variable {X : Cx} {cl : ClsT} {W : WX} {pos : Pos}
/-! ### xs[i] = e -/
def putL (x y v : D) (st : Store) : Option Store := match x, y with
  | .h k, .int i => match st[k]? with
    | some (.nd .lst xs) => match ixN xs.length i with
      | some j => some (st.set k (.nd .lst (xs.set j v)))
      | none => none
    | _ => none
  | _, _ => none
def lput1 (env : DEnv) : Option Store → SR
  | some st => .nx env st
  | none => .no
def sLPut3 (env : DEnv) (v x : D) : D → Store → SR := fun y st => lput1 env (putL x y v st)
def sLPut2 (fb : SemE) (env : DEnv) (v : D) : D → Store → SR := fun x st => bindE (fb env st) env (sLPut3 env v x)
def sLPut1 (fa fb : SemE) (env : DEnv) : D → Store → SR := fun v st => bindE (fa env st) env (sLPut2 fb env v)
def sLPut (fa fb fe : SemE) : SemS := fun env st => bindE (fe env st) env (sLPut1 fa fb env)
end
end DY

/-! Comprehensions with two fors. -/
namespace DY
open PySem PySem.Spec PyProof.Rows L2
noncomputable def comp2L (chk : Store → Prop) (tg : DTg) (tst : SemT) (fi1 : SemI) (tg1 : DTg) (tst1 : SemT) (elt : SemE) (own own1 : List Nat) (env : DEnv) : List D → List D → Store → Res (List D)
  | [], acc, st => open Classical in if chk st then .ok acc st else .no
  | d :: ds, acc, st => open Classical in if chk st then (match tg d (wipeD env own) st with
      | some env1 => (match tst env1 st with
        | .ok true st1 => (match fi1 env1 st1 with
          | .ok it1 st2 => (match compL it1.chk tg1 tst1 elt own1 env1 it1.items acc st2 with
            | .ok acc' st3 => comp2L chk tg tst fi1 tg1 tst1 elt own own1 env ds acc' st3
            | _ => .no)
          | _ => .no)
        | .ok false st1 => comp2L chk tg tst fi1 tg1 tst1 elt own own1 env ds acc st1
        | _ => .no)
      | none => .no) else .no
noncomputable def dLc2 (fi : SemI) (tg : DTg) (tst : SemT) (fi1 : SemI) (tg1 : DTg) (tst1 : SemT) (elt : SemE) (own own1 : List Nat) : SemE := fun env st => (fi env st).bind fun it st1 => (comp2L it.chk tg tst fi1 tg1 tst1 elt own own1 env it.items [] st1).bind fun xs st2 => .ok (.nd .lst xs) st2
section
variable {X : Cx} {cl : ClsT} {W : WX}
theorem EnvR.extV {g : Gd} {Z r Z1 r1 : List Addr} {H H1 : Hp} {env : DEnv} {sg : L2.St} (e : ExtW Z r H r1 H1) (z : Zs Z H Z1) (E : EnvR g Z r H env sg) : EnvR g Z1 r1 H1 env sg :=
  ⟨E.len, fun i d h => let ⟨v, a, b⟩ := E.at_ i d h; ⟨v, a, Rep.extV e z d b⟩⟩
/-- the inner loop, over the list at p that is being made -/
theorem lc_in {tg : DTg} {tst : SemT} {elt : SemE} {own ws : List Nat} (hw : ∀ w ∈ ws, w ∈ own) {Z r : List Addr} {H : Hp} {it : DIter} {J : It} {p : Addr} (hp : H p = none)
    {r0 : List Addr} {H0 : Hp} {st0 : Store} {env0 : DEnv} {sg0 : L2.St} {acc0 : List D} {vs0 : List V} (e0 : Ext r H r0 H0) (hd0 : H0 p = some (.lst vs0)) (R0 : Rl ⟨X.K, cl⟩ (p :: Z) r0 H0 st0) (q0 : RepL ⟨X.K, cl⟩ (p :: Z) r0 H0 acc0 vs0) (l0 : acc0.length ≤ szL)
    (En : EnvR ⟨X.K, cl⟩ (p :: Z) r0 H0 env0 sg0) (hJ : ItOk ⟨X.K, cl⟩ (p :: Z) r0 H0 it J) {Nx : Hp → Prop}
    (hq : ∀ acc st2 r2 H2 vs, compL it.chk tg tst elt own env0 it.items acc0 st0 = .ok acc st2 → Ext r H r2 H2 → H2 p = some (.lst vs) → Rl ⟨X.K, cl⟩ (p :: Z) r2 H2 st2 → RepL ⟨X.K, cl⟩ (p :: Z) r2 H2 acc vs → Nx H2) (hno : compL it.chk tg tst elt own env0 it.items acc0 st0 ≠ .no) :
    ∃ Wn : Nat → Nat → Hp → Prop, (∃ m, Wn 0 m H0) ∧ ∀ i m H', Wn i m H' →
      (J.stop i H' ∧ Nx H') ∨ (J.go i H' ∧ ∃ N1 : Hp → Prop, (∀ H', N1 H' → ∃ m', m' < m ∧ Wn (i + 1) m' H') ∧ ∀ x H2, J.yld i H' x H2 → rdG ⟨X.K, cl⟩ ws tg x (wipe sg0 own) H2 fun sg2 H3 => wipe sg2 own = wipe sg0 own ∧ rdT ⟨X.K, cl⟩ WF tst sg2 H3 fun b H4 =>
        if b = true then rdE ⟨X.K, cl⟩ WF elt sg2 H4 fun y H5 => ∃ acc, H5 p = some (.lst acc) ∧ acc.length < sizeLine ∧ N1 (upd H5 p (.lst (acc ++ [y]))) else N1 H4) := by
  let g : Gd := ⟨X.K, cl⟩
  let St : Nat → Hp → Prop := fun i H' => ∃ r' st' acc vs, Ext r H r' H' ∧ ExtW (p :: Z) r0 H0 r' H' ∧ H' p = some (.lst vs) ∧ Rl g (p :: Z) r' H' st' ∧ RepL g (p :: Z) r' H' acc vs ∧ acc.length ≤ szL ∧
    compL it.chk tg tst elt own env0 it.items acc0 st0 = compL it.chk tg tst elt own env0 (it.items.drop i) acc st'
  refine ⟨fun i m H' => m + i = it.items.length ∧ St i H', ⟨it.items.length, by omega, r0, st0, acc0, vs0, e0, (Ext.refl _ _).w, hd0, R0, q0, l0, by simp⟩, fun i m H' ⟨hm, r', st', acc, vs, e1, ew, hd, R1, qa, hl, ec⟩ => ?_⟩
  cases hdi : it.items[i]? with
  | none =>
    have hle : it.items.length ≤ i := List.getElem?_eq_none_iff.mp hdi
    rw [List.drop_eq_nil_of_le hle, compL] at ec
    split at ec
    · rename_i hchk
      exact .inl ⟨(hJ (p :: Z) r' H' st' i ew (Zs.refl _ _) R1 hchk).2 hle, hq acc st' r' H' vs ec e1 hd R1 qa⟩
    · exact (hno ec).elim
  | some d =>
    rw [drop_cons hdi, compL] at ec
    split at ec
    · rename_i hchk
      obtain ⟨go, yl⟩ := (hJ (p :: Z) r' H' st' i ew (Zs.refl _ _) R1 hchk).1 d hdi
      refine .inr ⟨go, St (i + 1), fun H2 h2 => ⟨m - 1, by have := (List.getElem?_eq_some_iff.mp hdi).1; omega, by have := (List.getElem?_eq_some_iff.mp hdi).1; omega, h2⟩, fun x H2 hy => ?_⟩
      obtain ⟨e2, R2, q2⟩ := yl x H2 hy
      have En2 : EnvR g (p :: Z) r' H2 (wipeD env0 own) (wipe sg0 own) := wipe_env (EnvR.extV (ew.trans e2.w) (Zs.refl _ _) En) own
      refine ⟨p :: Z, r', wipeD env0 own, st', d, En2, R2, q2, ?_⟩
      cases ht : tg d (wipeD env0 own) st' with
      | none => rw [ht] at ec; exact (hno ec).elim
      | some env1 =>
        rw [ht] at ec
        dsimp only at ec ⊢
        intro sg3 En3 hw3
        refine ⟨by rw [hw3 own hw, wipe_wipe], ?_⟩
        have hd2 : H2 p = some (.lst vs) := (e2.keep p _ hd nx_lst.1 (fun z => (R1.z p List.mem_cons_self).1 z)).1
        refine ⟨p :: Z, r', env1, st', En3, R2, ?_⟩
        cases hts : tst env1 st' with
        | er x s => rw [hts] at ec; exact (hno ec).elim
        | no => rw [hts] at ec; exact (hno ec).elim
        | ok b st2 =>
          rw [hts] at ec
          intro r3 H3 b' e3 R3 hb
          cases hb
          have hd3 : H3 p = some (.lst vs) := (e3.keep p _ hd2 nx_lst.1 fun z => (R2.z p List.mem_cons_self).1 z).1
          cases b with
          | false =>
            rw [if_neg (by decide)]
            exact ⟨r3, st2, acc, vs, (e1.trans e2).trans e3, (ew.trans e2.w).trans e3.w, hd3, R3, RepL.ext (e2.trans e3) _ qa, hl, ec⟩
          | true =>
            rw [if_pos rfl]
            dsimp only at ec
            refine ⟨p :: Z, r3, env1, st2, En3.ext e3, R3, ?_⟩
            cases hel : elt env1 st2 with
            | er x s => rw [hel] at ec; exact (hno ec).elim
            | no => rw [hel] at ec; exact (hno ec).elim
            | ok y st3 =>
              rw [hel] at ec
              dsimp only at ec
              intro r4 H4 w e4 R4 qw
              have hd4 : H4 p = some (.lst vs) := (e4.keep p _ hd3 nx_lst.1 fun z => (R3.z p List.mem_cons_self).1 z).1
              split at ec
              · rename_i hzl
                have qa4 : RepL g (p :: Z) r4 H4 acc vs := RepL.ext ((e2.trans e3).trans e4) _ qa
                refine ⟨vs, hd4, by rw [← qa4.length]; exact hzl, ?_⟩
                have np : ¬ Nin (p :: Z) r4 p := fun n => n.1 List.mem_cons_self
                refine ⟨r4, st3, acc ++ [y], vs ++ [w], ?_, ?_, upd_same, ?_, RepL.off np _ (qa4.append (RepL.one qw)), by simp; omega, ec⟩
                · have e := ((e1.trans e2).trans e3).trans e4
                  exact ⟨e.pre, fun a o h t n => by
                    have ne : a ≠ p := ne_of_none h hp
                    rw [upd_ne ne]; exact e.keep a o h t n⟩
                · have e := ((ew.trans e2.w).trans e3.w).trans e4.w
                  exact ⟨e.pre, fun a o h t n z => by
                    have ne : a ≠ p := fun q => z (q ▸ List.mem_cons_self)
                    rw [upd_ne ne]; exact e.keep a o h t n z⟩
                · refine ⟨R4.len, R4.nd, fun a m => ?_, tabs_upd (fun u e => by rw [hd4] at e; cases e; exact nx_lst) R4.tb, fun k d e => ?_⟩
                  · obtain ⟨n, u, eu, x⟩ := R4.z a m
                    by_cases ha : a = p
                    · subst ha; exact ⟨n, _, upd_same, nx_lst⟩
                    · exact ⟨n, u, by rw [upd_ne ha]; exact eu, x⟩
                  · obtain ⟨a, ea, t, xs, vs', ed, hm, hx⟩ := R4.cell k d e
                    have ha : a ≠ p := fun z => (R4.z p List.mem_cons_self).1 (z ▸ List.mem_of_getElem? ea)
                    exact ⟨a, ea, t, xs, vs', ed, hm.keep (upd_ne ha), RepL.off np _ hx⟩
              · exact (hno ec).elim
    · exact (hno ec).elim
/-- both loops -/
theorem lc2_rd {tg tg1 : DTg} {tst tst1 : SemT} {fi1 : SemI} {elt : SemE} {own ws own1 ws1 : List Nat} (hw : ∀ w ∈ ws, w ∈ own) (hw1 : ∀ w ∈ ws1, w ∈ own1) {Z r : List Addr} {H : Hp} {st : Store} {env : DEnv} {sg : L2.St} {it : DIter} {J : It} {Q : VK} (R : Rl ⟨X.K, cl⟩ Z r H st) (En : EnvR ⟨X.K, cl⟩ Z r H env sg) (hJ : ItOk ⟨X.K, cl⟩ Z r H it J)
    {p : Addr} (hp : H p = none)
    (hq : ∀ xs st2 r2 H2 vs, comp2L it.chk tg tst fi1 tg1 tst1 elt own own1 env it.items [] st = .ok xs st2 → Ext r H r2 H2 → H2 p = some (.lst vs) → Rl ⟨X.K, cl⟩ (p :: Z) r2 H2 st2 → RepL ⟨X.K, cl⟩ (p :: Z) r2 H2 xs vs → Q (.ref p) H2) (hno : comp2L it.chk tg tst fi1 tg1 tst1 elt own own1 env it.items [] st ≠ .no) :
    ∃ Wn : Nat → Nat → Hp → Prop, (∃ m, Wn 0 m (upd H p (.lst []))) ∧ ∀ i m H', Wn i m H' →
      (J.stop i H' ∧ Q (.ref p) H') ∨ (J.go i H' ∧ ∃ Nx : Hp → Prop, (∀ H', Nx H' → ∃ m', m' < m ∧ Wn (i + 1) m' H') ∧ ∀ x H2, J.yld i H' x H2 → rdG ⟨X.K, cl⟩ ws tg x (wipe sg own) H2 fun sg2 H3 => wipe sg2 own = wipe sg own ∧ rdT ⟨X.K, cl⟩ WF tst sg2 H3 fun b H4 =>
        if b = true then rdI ⟨X.K, cl⟩ WF fi1 sg2 H4 fun J1 H5 => ∃ W1 : Nat → Nat → Hp → Prop, (∃ m, W1 0 m H5) ∧ ∀ j k H, W1 j k H →
          (J1.stop j H ∧ Nx H) ∨ (J1.go j H ∧ ∃ N1 : Hp → Prop, (∀ H', N1 H' → ∃ k', k' < k ∧ W1 (j + 1) k' H') ∧ ∀ x H', J1.yld j H x H' → rdG ⟨X.K, cl⟩ ws1 tg1 x (wipe sg2 own1) H' fun sg3 H6 => wipe sg3 own1 = wipe sg2 own1 ∧ rdT ⟨X.K, cl⟩ WF tst1 sg3 H6 fun b H7 =>
            if b = true then rdE ⟨X.K, cl⟩ WF elt sg3 H7 fun y H8 => ∃ acc, H8 p = some (.lst acc) ∧ acc.length < sizeLine ∧ N1 (upd H8 p (.lst (acc ++ [y]))) else N1 H7)
        else Nx H4) := by
  let g : Gd := ⟨X.K, cl⟩
  have hz : Zs Z H (p :: Z) := fun a m => by
    rcases List.mem_cons.mp m with rfl | m
    · exact .inr hp
    · exact .inl m
  have hpr := R.free hp
  let St : Nat → Hp → Prop := fun i H' => ∃ r' st' acc vs, Ext r H r' H' ∧ H' p = some (.lst vs) ∧ Rl g (p :: Z) r' H' st' ∧ RepL g (p :: Z) r' H' acc vs ∧ acc.length ≤ szL ∧
    comp2L it.chk tg tst fi1 tg1 tst1 elt own own1 env it.items [] st = comp2L it.chk tg tst fi1 tg1 tst1 elt own own1 env (it.items.drop i) acc st'
  have R0 : Rl g (p :: Z) r (upd H p (.lst [])) st := by
    have R1 := R.new (o := .lst []) hp
    exact ⟨R1.len, R1.nd, fun a m => by
      rcases List.mem_cons.mp m with rfl | m
      · exact ⟨hpr.2, _, upd_same, nx_lst⟩
      · exact R1.z a m, R1.tb, fun k d e => by
      obtain ⟨a, ea, t, xs, vs, ed, hm, hx⟩ := R.cell k d e
      obtain ⟨u, eu⟩ := hm.some
      exact ⟨a, ea, t, xs, vs, ed, hm.keep (upd_ne (ne_of_none eu hp)), RepL.extZ (Ext.new hp).w hz hx⟩⟩
  refine ⟨fun i m H' => m + i = it.items.length ∧ St i H', ⟨it.items.length, by omega, r, st, [], [], Ext.new hp, upd_same, R0, rfl, by simp, by simp⟩, fun i m H' ⟨hm, r', st', acc, vs, e1, hd, R1, qa, hl, ec⟩ => ?_⟩
  cases hdi : it.items[i]? with
  | none =>
    have hle : it.items.length ≤ i := List.getElem?_eq_none_iff.mp hdi
    rw [List.drop_eq_nil_of_le hle, comp2L] at ec
    split at ec
    · rename_i hchk
      exact .inl ⟨(hJ (p :: Z) r' H' st' i e1.w hz R1 hchk).2 hle, hq acc st' r' H' vs ec e1 hd R1 qa⟩
    · exact (hno ec).elim
  | some d =>
    rw [drop_cons hdi, comp2L] at ec
    split at ec
    · rename_i hchk
      obtain ⟨go, yl⟩ := (hJ (p :: Z) r' H' st' i e1.w hz R1 hchk).1 d hdi
      refine .inr ⟨go, St (i + 1), fun H2 h2 => ⟨m - 1, by have := (List.getElem?_eq_some_iff.mp hdi).1; omega, by have := (List.getElem?_eq_some_iff.mp hdi).1; omega, h2⟩, fun x H2 hy => ?_⟩
      obtain ⟨e2, R2, q2⟩ := yl x H2 hy
      have En2 : EnvR g (p :: Z) r' H2 (wipeD env own) (wipe sg own) := wipe_env (EnvR.extV (e1.trans e2).w hz En) own
      refine ⟨p :: Z, r', wipeD env own, st', d, En2, R2, q2, ?_⟩
      cases ht : tg d (wipeD env own) st' with
      | none => rw [ht] at ec; exact (hno ec).elim
      | some env1 =>
        rw [ht] at ec
        dsimp only at ec ⊢
        intro sg3 En3 hw3
        refine ⟨by rw [hw3 own hw, wipe_wipe], ?_⟩
        have hd2 : H2 p = some (.lst vs) := (e2.keep p _ hd nx_lst.1 (fun z => (R1.z p List.mem_cons_self).1 z)).1
        refine ⟨p :: Z, r', env1, st', En3, R2, ?_⟩
        cases hts : tst env1 st' with
        | er x s => rw [hts] at ec; exact (hno ec).elim
        | no => rw [hts] at ec; exact (hno ec).elim
        | ok b st2 =>
          rw [hts] at ec
          intro r3 H3 b' e3 R3 hb
          cases hb
          have hd3 : H3 p = some (.lst vs) := (e3.keep p _ hd2 nx_lst.1 fun z => (R2.z p List.mem_cons_self).1 z).1
          cases b with
          | false =>
            rw [if_neg (by decide)]
            exact ⟨r3, st2, acc, vs, (e1.trans e2).trans e3, hd3, R3, RepL.ext (e2.trans e3) _ qa, hl, ec⟩
          | true =>
            rw [if_pos rfl]
            dsimp only at ec
            refine ⟨p :: Z, r3, env1, st2, En3.ext e3, R3, ?_⟩
            cases hfi : fi1 env1 st2 with
            | er x s => rw [hfi] at ec; exact (hno ec).elim
            | no => rw [hfi] at ec; exact (hno ec).elim
            | ok it1 st3 =>
              rw [hfi] at ec
              dsimp only at ec
              intro r4 H4 J1 e4 R4 hJ1
              have hd4 : H4 p = some (.lst vs) := (e4.keep p _ hd3 nx_lst.1 fun z => (R3.z p List.mem_cons_self).1 z).1
              refine lc_in (tst := tst1) (elt := elt) hw1 hp (((e1.trans e2).trans e3).trans e4) hd4 R4 (RepL.ext ((e2.trans e3).trans e4) _ qa) hl (En3.ext (e3.trans e4)) hJ1 (fun acc' st5 r5 H5 vs5 hc e5 hd5 R5 q5 => ?_) (fun z => by rw [z] at ec; exact hno ec)
              rw [hc] at ec
              exact ⟨r5, st5, acc', vs5, e5, hd5, R5, q5, compL_len hl hc, ec⟩
    · exact (hno ec).elim
theorem lc2_tLc2 {fi fi1 : SemI} {tg tg1 : DTg} {tst tst1 : SemT} {elt : SemE} {own ws own1 ws1 : List Nat} (hw : ∀ w ∈ ws, w ∈ own) (hw1 : ∀ w ∈ ws1, w ∈ own1) {fin : List D → Store → Res D} (sg : L2.St) (H : Hp) (Q : VK)
    (hfin : ∀ Z r H p, H p = none → p ∉ Z → ∀ xs st2 r2 H2 vs, Ext r H r2 H2 → H2 p = some (.lst vs) → Rl ⟨X.K, cl⟩ (p :: Z) r2 H2 st2 → RepL ⟨X.K, cl⟩ (p :: Z) r2 H2 xs vs → ∀ {W' : Value → Option Addr → Hp → Prop}, Post ⟨X.K, cl⟩ Z r H (RV ⟨X.K, cl⟩ Z) (fin xs st2) Q W' → Q (.ref p) H2)
    (h : rdE ⟨X.K, cl⟩ W (fun env st => (fi env st).bind fun it st1 => (comp2L it.chk tg tst fi1 tg1 tst1 elt own own1 env it.items [] st1).bind fin) sg H Q) :
    tLc2 (rdI ⟨X.K, cl⟩ W fi) (rdG ⟨X.K, cl⟩ ws tg) (rdT ⟨X.K, cl⟩ WF tst) (rdI ⟨X.K, cl⟩ WF fi1) (rdG ⟨X.K, cl⟩ ws1 tg1) (rdT ⟨X.K, cl⟩ WF tst1) (rdE ⟨X.K, cl⟩ WF elt) own own1 sg H Q := by
  obtain ⟨Z, r, env, st, En, R, h⟩ := h
  refine ⟨Z, r, env, st, En, R, Post.bind h fun it st1 r1 H1 J _ e1 R1 q1 h1 => fun p hp => ?_⟩
  refine lc2_rd (env := env) hw hw1 R1 (En.ext e1) q1 hp (fun xs st2 r2 H2 vs hc e2 hd R2 qx => ?_) (fun z => by rw [z] at h1; exact h1)
  rw [hc] at h1
  exact hfin Z r1 H1 p hp (R1.free hp).1 xs st2 r2 H2 vs e2 hd R2 qx h1
variable {pos : Pos} {elt tg iter tg1 iter1 : Expr} {ifs ifs1 : List Expr} {scope : Scope} {fi fi1 : SemI} {g g1 : DTg} {tt tt1 : SemT} {te : SemE} {ws ws1 : List Nat}
theorem se_lc2 (own : List (Str × Nat)) (own1 : List Nat) (hc : X.calm = true) (hN : X.N.Nodup) (hi : SI X cl W tg iter fi) (ok : BlkOk X.N X.env.scope scope own)
    (hg : ∀ (s : Shared) (H : Hp) (C : Addr) (l : List (Str × Addr)) (fp : List Addr), SG (X.blk s H scope (compEnvC scope l C X.env) fp) cl ws tg g) (ht : ∀ (s : Shared) (H : Hp) (C : Addr) (l : List (Str × Addr)) (fp : List Addr), STs (X.blk s H scope (compEnvC scope l C X.env) fp) cl WF ifs tt)
    (hi1 : ∀ (s : Shared) (H : Hp) (C : Addr) (l : List (Str × Addr)) (fp : List Addr), SI (X.blk s H scope (compEnvC scope l C X.env) fp) cl WF tg1 iter1 fi1)
    (hg1 : ∀ (s : Shared) (H : Hp) (C : Addr) (l : List (Str × Addr)) (fp : List Addr), SG (X.blk s H scope (compEnvC scope l C X.env) fp) cl ws1 tg1 g1) (ht1 : ∀ (s : Shared) (H : Hp) (C : Addr) (l : List (Str × Addr)) (fp : List Addr), STs (X.blk s H scope (compEnvC scope l C X.env) fp) cl WF ifs1 tt1)
    (he : ∀ (s : Shared) (H : Hp) (C : Addr) (l : List (Str × Addr)) (fp : List Addr), SE (X.blk s H scope (compEnvC scope l C X.env) fp) cl WF elt te) (hw : ∀ w ∈ ws, w ∈ own.map (·.2) := by decide) (hw1 : ∀ w ∈ ws1, w ∈ own1 := by decide) (hv : ∀ i ∈ own1, i ∈ own.map (·.2) := by decide)
    (hs : ∀ x, foldedSetIterable iter X.env x = pure x := by intro _; rfl) (hs1 : ∀ env x, foldedSetIterable iter1 env x = pure x := by intro _ _; rfl) :
    SE X cl W (.ListComp elt [⟨tg, iter, ifs, 0⟩, ⟨tg1, iter1, ifs1, 0⟩] scope pos) (dLc2 fi g tt fi1 g1 tt1 te (own.map (·.2)) own1) :=
  ⟨(pe_lc2 (vs1 := own1) hc hN hi.run ok hv (fun s H C l fp => (hg s H C l fp).run) (fun s H C l fp => (ht s H C l fp).run) (fun s H C l fp => (hi1 s H C l fp).run) (fun s H C l fp => (hg1 s H C l fp).run) (fun s H C l fp => (ht1 s H C l fp).run) (fun s H C l fp => (he s H C l fp).run) hs hs1).imp fun sg H Q h =>
    lc2_tLc2 hw hw1 sg H Q (fun Z r H p hp hz xs st2 r2 H2 vs e2 hd R2 qx {W'} h => fin_lst Z r H p hp hz r2 H2 vs e2 hd R2 qx h) h⟩
end
end DY

/-! Dict comprehensions with tuples as keys. -/
namespace DY
open PySem PySem.Spec PyProof.Rows L2
section
variable {X : Cx}
end
end DY

/-! Dict comprehensions on data, tuples as keys. -/
namespace DY
open PySem PySem.Spec PyProof.Rows L2
/-- a tuple of keys -/
def tkey? : D → Option (List Key)
  | .nd .tup zs => keys? zs
  | _ => none
/-- the dict behind d[k] = v -/
def putT (ks : List (List Key)) (ds : List D) (k : List Key) (v : D) : List (List Key) × List D := match kIx ks k with
  | some i => (ks, ds.set i v)
  | none => (ks ++ [k], ds ++ [v])
noncomputable def dcL (chk : Store → Prop) (tg : DTg) (tst : SemT) (fk fv : SemE) (own : List Nat) (env : DEnv) : List D → List (List Key) × List D → Store → Res (List (List Key) × List D)
  | [], acc, st => open Classical in if chk st then .ok acc st else .no
  | d :: ds, acc, st => open Classical in if chk st then (match tg d (wipeD env own) st with
      | some env1 => (match tst env1 st with
        | .ok true st1 => (match fk env1 st1 with
          | .ok y st2 => (match fv env1 st2 with
            | .ok z st3 => (match tkey? y with
              | some k => if acc.2.length < szL then dcL chk tg tst fk fv own env ds (putT acc.1 acc.2 k z) st3 else .no
              | none => .no)
            | _ => .no)
          | _ => .no)
        | .ok false st1 => dcL chk tg tst fk fv own env ds acc st1
        | _ => .no)
      | none => .no) else .no
noncomputable def dDc (fi : SemI) (tg : DTg) (tst : SemT) (fk fv : SemE) (own : List Nat) : SemE := fun env st => (fi env st).bind fun it st1 => (dcL it.chk tg tst fk fv own env it.items ([], []) st1).bind fun a st2 => .ok (.nd (.dt a.1) a.2) st2
noncomputable def dDcM (fi : SemI) (tg : DTg) (tst : SemT) (fk fv : SemE) (own : List Nat) : SemE := fun env st => (fi env st).bind fun it st1 => (dcL it.chk tg tst fk fv own env it.items ([], []) st1).bind fun a st2 => .ok (.h st2.length) (st2 ++ [.nd (.dt a.1) a.2])
section
variable {X : Cx} {cl : ClsT} {W : WX}
variable {pos : Pos} {kx vx tg iter : Expr} {ifs : List Expr} {scope : Scope} {fi : SemI} {g : DTg} {tt : SemT} {tk tv : SemE} {ws : List Nat}
end
end DY

/-! What an expression made is frozen behind it. -/
namespace DY
open PySem PySem.Spec PyProof.Rows L2
noncomputable def dFrz (f : SemE) : SemE := fun env st => frzF (fun _ st => f env st) [] st
section
variable {X : Cx} {cl : ClsT} {W : WX} {e : Expr} {fo : SemE}
end
end DY

/-! Evaluation on data: dict comprehensions, what is frozen on the way. -/
namespace DY
open PySem PySem.Spec PyProof.Rows L2
section
variable {env env1 : DEnv} {st : Store} {chk : Store → Prop} {tg : DTg} {tst : SemT} {fk fv fo : SemE} {own : List Nat} {fi : SemI} {x : Res (List (List Key) × List D)} {d y z : D}
@[simp] theorem dFrz_ev : dFrz fo env st = frzR st (fo env st) := (rfl)
def dDc0 : List (List Key) × List D → Store → Res D := fun a st => .ok (.nd (.dt a.1) a.2) st
def dDcM0 : List (List Key) × List D → Store → Res D := fun a st => .ok (.h st.length) (st ++ [.nd (.dt a.1) a.2])
noncomputable def dDc1 (tg : DTg) (tst : SemT) (fk fv : SemE) (own : List Nat) (env : DEnv) : DIter → Store → Res (List (List Key) × List D) := fun it st => dcL it.chk tg tst fk fv own env it.items ([], []) st
@[simp] theorem dDc0_ev {a : List (List Key)} {b : List D} : dDc0 (a, b) st = .ok (.nd (.dt a) b) st := (rfl)
@[simp] theorem dDcM0_ev {a : List (List Key)} {b : List D} : dDcM0 (a, b) st = .ok (.h st.length) (st ++ [.nd (.dt a) b]) := (rfl)
@[simp] theorem dDc1_ev {it : DIter} : dDc1 tg tst fk fv own env it st = dcL it.chk tg tst fk fv own env it.items ([], []) st := (rfl)
@[simp] theorem dDc_ev : dDc fi tg tst fk fv own env st = ((fi env st).bind (dDc1 tg tst fk fv own env)).bind dDc0 := bind_bind.symm
@[simp] theorem dDcM_ev : dDcM fi tg tst fk fv own env st = ((fi env st).bind (dDc1 tg tst fk fv own env)).bind dDcM0 := bind_bind.symm
def dEl4 (y : D) : D → Store → Res (Option (D × D)) := fun z st => .ok (some (y, z)) st
def dEl3 (fv : SemE) (env1 : DEnv) : D → Store → Res (Option (D × D)) := fun y st => (fv env1 st).bind (dEl4 y)
def dEl2 (fk fv : SemE) (env1 : DEnv) : Bool → Store → Res (Option (D × D)) := fun b st => if b = true then (fk env1 st).bind (dEl3 fv env1) else .ok none st
def dEl1 (tst : SemT) (fk fv : SemE) (st : Store) : Option DEnv → Res (Option (D × D))
  | some env1 => (tst env1 st).bind (dEl2 fk fv env1)
  | none => .no
/-- one turn of a dict comprehension -/
def dEl (tg : DTg) (tst : SemT) (fk fv : SemE) (env0 : DEnv) (d : D) (st : Store) : Res (Option (D × D)) := dEl1 tst fk fv st (tg d env0 st)
@[simp] theorem dEl_ev : dEl tg tst fk fv env d st = dEl1 tst fk fv st (tg d env st) := (rfl)
@[simp] theorem dEl1_ev : dEl1 tst fk fv st (some env1) = (tst env1 st).bind (dEl2 fk fv env1) := (rfl)
@[simp] theorem dEl2_ev {b : Bool} : dEl2 fk fv env1 b st = if b = true then (fk env1 st).bind (dEl3 fv env1) else .ok none st := (rfl)
@[simp] theorem dEl3_ev : dEl3 fv env1 y st = (fv env1 st).bind (dEl4 y) := (rfl)
@[simp] theorem dEl4_ev : dEl4 y z st = .ok (some (y, z)) st := (rfl)
end
end DY

/-! max of a tuple. -/
namespace DY
open PySem PySem.Spec PyProof.Rows L2
def dMaxT : SemF := fun ds st => match ds with
  | [x] => match (tup? st x).bind ints? with
    | some (i :: is) => .ok (.int (mxL (i :: is))) st
    | _ => .no
  | _ => .no
section
variable {X : Cx} {cl : ClsT} {W : WX}
end
end DY

/-! zip whose pairs are kept under one name. -/
namespace DY
open PySem PySem.Spec PyProof.Rows L2
/-- a zip, whatever pair it gave out last -/
abbrev ZipAt (g : Heap) (z tin tout : Addr) (v : Value) (f : Bool) : Prop := g.get? z = some { cls := .type "zip", dict := none, data := .fields #[v, .bool f, .bool false, .ref tin, .ref tout], slots := #[] }
section
variable {prog : Program} {w : World} {A : Around} {E : Value → Shared → Prop} {s : Shared}
theorem free_dead {z tin tout T : Addr} {f : Bool} {Q : Bool → Shared → Prop} (hz : ZipAt s.heap z tin tout (rawInt T) f) (no : s.heap.get? T = none) (q : Q true s) : wpAny (model prog w) A (Builtin.SmallTypes.ownedTupleIsFree (.ref z)) Q E s := by
  unfold Builtin.SmallTypes.ownedTupleIsFree
  refine wpAny_bind (wpAny_field hz rfl (x := rawInt T) rfl ?_)
  show wpAny _ _ (loadIfAlive ((T : Int).toNat) >>= _) _ _ _
  rw [Int.toNat_natCast]
  refine wpAny_bind ?_
  have dead : (fun o (s' : Shared) => wpAny (model prog w) A (if o.isNone = true then pure true else (do
      if (← field (.ref z) 1) != .bool true then setField (.ref z) 1 (.bool true)
      return false)) Q E s') (s.heap.get? T) s := by
    rw [no]; exact wpAny_pure q
  exact fun _ _ _ => dead
theorem free_none {z tin tout : Addr} {f : Bool} {Q : Bool → Shared → Prop} (hz : ZipAt s.heap z tin tout .none f) (q : Q true s) : wpAny (model prog w) A (Builtin.SmallTypes.ownedTupleIsFree (.ref z)) Q E s := by
  unfold Builtin.SmallTypes.ownedTupleIsFree
  exact wpAny_bind (wpAny_field hz rfl (x := .none) rfl (wpAny_pure q))
/-- the pair given out last is gone, or there is none -/
def Loose (g : Heap) (v : Value) : Prop := v = .none ∨ ∃ T : Addr, v = rawInt T ∧ g.get? T = none
theorem Loose.free {z tin tout : Addr} {v : Value} {f : Bool} (hz : ZipAt s.heap z tin tout v f) (l : Loose s.heap v) (Q : Bool → Shared → Prop) (q : Q true s) : wpAny (model prog w) A (Builtin.SmallTypes.ownedTupleIsFree (.ref z)) Q E s := by
  rcases l with rfl | ⟨T, rfl, no⟩
  · exact free_none hz q
  · exact free_dead hz no q
end
section
variable {X : Cx} {cl : ClsT} {W : WX}
def iZipNC (x y : D) (st : Store) : Option (List D) → Option (List D) → Res DIter
  | some xs, some ys => .ok ⟨zipD xs ys, fun st2 => lst? st2 x = some xs ∧ lst? st2 y = some ys⟩ st
  | _, _ => .no
def iZipN1 : List D → Store → Res DIter
  | [x, y], st => iZipNC x y st (lst? st x) (lst? st y)
  | _, _ => .no
def iZipN (f : SemA) : SemI := fun env st => (f env st).bind iZipN1
end
end DY

/-! Evaluation on data: max of a tuple, items of lists that are stored. -/
namespace DY
open PySem PySem.Spec PyProof.Rows L2
section
variable {env : DEnv} {st : Store} {x y v : D} {xs : List D}
@[simp] theorem dMaxT_1 : dMaxT [x] st = dMaxC st ((tup? st x).bind ints?) := by
  generalize h : (tup? st x).bind ints? = o
  simp only [dMaxT, dMaxC, h]
  try (rcases o with _ | _ | ⟨i, is⟩ <;> rfl)
@[simp] theorem iZipN_ev {fs : SemA} : iZipN fs env st = (fs env st).bind iZipN1 := (rfl)
@[simp] theorem iZipN1_ev : iZipN1 [x, y] st = iZipNC x y st (lst? st x) (lst? st y) := (rfl)
@[simp] theorem iZipNC_ev {ys : List D} : iZipNC x y st (some xs) (some ys) = .ok ⟨zipD xs ys, bothS (lstIs x xs) (lstIs y ys)⟩ st := (rfl)
@[simp] theorem sLPut_ev {fa fb fe : SemE} : sLPut fa fb fe env st = bindE (fe env st) env (sLPut1 fa fb env) := (rfl)
@[simp] theorem sLPut1_ev {fa fb : SemE} : sLPut1 fa fb env v st = bindE (fa env st) env (sLPut2 fb env v) := (rfl)
@[simp] theorem sLPut2_ev {fb : SemE} : sLPut2 fb env v x st = bindE (fb env st) env (sLPut3 env v x) := (rfl)
@[simp] theorem sLPut3_ev : sLPut3 env v x y st = lput1 env (putL x y v st) := (rfl)
@[simp] theorem lput1_some : lput1 env (some st) = .nx env st := (rfl)
end
end DY

/-! f'..'. -/
namespace DY
open PySem PySem.Spec PyProof.Rows L2
def dFmt1 : D → Store → Res D
  | .str y, st => if y.length ≤ szL then .ok (.str y) st else .no
  | .int i, st => if i.natAbs.log2 < 1920 then .ok (.str (toString i)) st else .no
  | _, _ => .no
def dFmt (f : SemE) : SemE := fun env st => (f env st).bind dFmt1
def dJ1 (k : Str → Store → Res D) (acc : Str) : D → Store → Res D
  | .str y, st => if (acc ++ y).length ≤ szL then k (acc ++ y) st else .no
  | _, _ => .no
/-- the texts one behind the other -/
def dJ : List SemE → Str → SemE
  | [], acc => fun _ st => .ok (.str acc) st
  | f :: fs, acc => fun env st => (f env st).bind (dJ1 (fun a st1 => dJ fs a env st1) acc)
def dJn (fs : List SemE) : SemE := dJ fs Str.empty
section
variable {X : Cx} {cl : ClsT} {W : WX} {e v1 v2 : Expr} {fo : SemE} {pos : Pos}
inductive SJ (X : Cx) (cl : ClsT) (W : WX) : List Expr → List SemE → Prop where
  | nil : SJ X cl W [] []
  | cons {e : Expr} {f : SemE} {es : List Expr} {fs : List SemE} (h : SE X cl W e f) (r : SJ X cl W es fs) : SJ X cl W (e :: es) (f :: fs)
end
end DY

/-! Methods of texts: join. -/
namespace DY
open PySem PySem.Spec PyProof.Rows L2
def dBMT1 (op : D → List D → Store → Res D) (fa : SemA) (env : DEnv) : D → Store → Res D
  | .str z, st => (fa env st).bind (op (.str z))
  | _, _ => .no
/-- a method of a text -/
def dBMT (op : D → List D → Store → Res D) (fo : SemE) (fa : SemA) : SemE := fun env st => (fo env st).bind (dBMT1 op fa env)
def strs? : List D → Option (List Str)
  | [] => some []
  | .str s :: ds => match strs? ds with
    | some r => some (s :: r)
    | none => none
  | _ => none
def opJoinC (a : Str) (st : Store) : Option (List Str) → Res D
  | some ys => if (ys.map (·.length)).sum + ys.length * a.length ≤ 16777216 then .ok (.str (Txt.join a ys)) st else .no
  | none => .no
/-- sep.join(texts) -/
def opJoin (x : D) (ds : List D) (st : Store) : Res D := match x, ds with
  | .str a, [d] => opJoinC a st ((seq? st d).bind strs?)
  | _, _ => .no
section
variable {X : Cx} {cl : ClsT} {W : WX} {o e : Expr} {es : List Expr} {fo : SemE} {fa : SemA} {apos pos : Pos}
end
end DY

/-! == by a class's own __eq__. -/
namespace DY
open PySem PySem.Spec PyProof.Rows L2
/-- the class c has an __eq__ of its own -/
structure OwnEq (K : PySem.W.Frag) (C : Addr) (f : Addr) : Prop where
  first : PySem.W.notFirst K C (.ref C) = true
  at_ : PySem.W.findIn K (.ref C) (cmpInfo .Eq).2.1 = some (some (.ref f))
  fn : PySem.W.isFn K (.ref f) = true
def dEqO1 : Res D → Res D
  | .ok (.bl b) st => .ok (.bl b) st
  | _ => .no
def dEqOC (c : Nat) (F : SemF) (x y : D) (st : Store) : Option (Hd × List D) → Option (Hd × List D) → Res D
  | some (.ins c1 _, _), some (.ins c2 _, _) => if c1 = c ∧ c2 = c then dEqO1 (F [x, y] st) else .no
  | _, _ => .no
def dEqO (c : Nat) (F : SemF) (x y : D) (st : Store) : Res D := dEqOC c F x y st (seen st x) (seen st y)
section
variable {X : Cx} {cl : ClsT} {W : WX} {F : SemF}
end
end DY

/-! != by a class's own __eq__. -/
namespace DY
open PySem PySem.Spec PyProof.Rows L2
/-- a def that is called within a built-in function -/
structure CalI (X : Cx) (cl : ClsT) (W : WX) (u : Value) (F : SemF) : Prop where
  code : ∀ (pins : List (Addr × Obj)) (s : Shared) (sg : L2.St) (H : Hp) (Q : VK) (vs : List V) (us : List Value), Inv X pins sg H s → Vals vs us → rdC ⟨X.K, cl⟩ W F vs sg H Q → codeAny (model X.prog X.w) X.A.in1 (.call u ⟨us, []⟩) (RcP X pins sg Q) s
structure OwnNe (K : PySem.W.Frag) (C : Addr) (f : Addr) : Prop extends OwnEq K C f where
  ne_ : PySem.W.findIn K (.ref C) "__ne__" = some (some (.builtin "object.__ne__"))
  obj : PySem.W.mroIn K C (.type "object") = some true
section
variable {X : Cx} {cl : ClsT} {W : WX} {F : SemF}
end
section
variable {prog : Program} {w : World} {A : Around} {E : Value → Shared → Prop} {s : Shared} {K : PySem.W.Frag} {x C y f : Addr} {h₀ : Heap} {L : Addr} {m : Str → Option Value} {ox : Obj} {od : Option Obj} {tb : Value}
end
section
variable {X : Cx} {cl : ClsT} {W : WX} {F : SemF}
def dNeO1 : Res D → Res D
  | .ok (.bl b) st => .ok (.bl (!b)) st
  | _ => .no
def dNeOC (c : Nat) (F : SemF) (x y : D) (st : Store) : Option (Hd × List D) → Option (Hd × List D) → Res D
  | some (.ins c1 _, _), some (.ins c2 _, _) => if c1 = c ∧ c2 = c then dNeO1 (F [x, y] st) else .no
  | _, _ => .no
def dNeO (c : Nat) (F : SemF) (x y : D) (st : Store) : Res D := dNeOC c F x y st (seen st x) (seen st y)
end
section
variable {X : Cx} {cl : ClsT} {W : WX} {fa : Nat → Addr} {fd : Nat → FuncData} {ps : Nat → List Str} {n k : Nat} {c : Nat → SemF}
end
end DY

/-! isinstance of a class of the program. -/
namespace DY
open PySem PySem.Spec PyProof.Rows L2
/-- what isinstance asks of the class -/
structure IsC (K : PySem.W.Frag) (C : Addr) : Prop where
  cl : Cls K C
  ha : PySem.W.findIn K (.ref C) "__class__" = some (some (.builtin "object.__class__"))
  hn : PySem.W.specialIn K (.builtin "object.__class__") "__get__" = some (some (.builtin "getset_descriptor.__get__"))
  htk : PySem.W.takesIn K (.builtin "object.__class__") = some true
  hm : PySem.W.mroIn K C (.type "object") = some true
def dIsiOC (c : Nat) (st : Store) : Option (Hd × List D) → Res D
  | some (.ins c1 _, _) => if c1 = c then .ok (.bl true) st else .no
  | _ => .no
def dIsiO1 (c : Nat) : D → Store → Res D := fun x st => dIsiOC c st (seen st x)
/-- isinstance(x, C) of an instance of C -/
def dIsiO (c : Nat) (f : SemE) : SemE := fun env st => (f env st).bind (dIsiO1 c)
section
variable {X : Cx} {cl : ClsT} {W : WX} {e : Expr} {fo : SemE} {p p2 pos : Pos}
end
end DY

/-! Evaluation on data: f'..', join. -/
namespace DY
open PySem PySem.Spec PyProof.Rows L2
section
variable {env : DEnv} {st : Store} {fo : SemE} {fa : SemA} {f : SemE} {fs : List SemE} {acc y a : Str}
@[simp] theorem dFmt_ev : dFmt fo env st = (fo env st).bind dFmt1 := (rfl)
@[simp] theorem dFmt1_str (h : y.length ≤ 16777216) : dFmt1 (.str y) st = .ok (.str y) st := if_pos (by rw [szL_16]; exact h)
@[simp] theorem dFmt1_int {i : Int} (h : i.natAbs.log2 < 1920) : dFmt1 (.int i) st = .ok (.str (toString i)) st := if_pos h
/-- what comes behind a part -/
def dJ2 (fs : List SemE) (env : DEnv) : Str → Store → Res D := fun a st => dJ fs a env st
@[simp] theorem dJn_ev : dJn fs env st = dJ fs Str.empty env st := (rfl)
@[simp] theorem dJ_nil : dJ [] acc env st = .ok (.str acc) st := (rfl)
@[simp] theorem dJ_cons : dJ (f :: fs) acc env st = (f env st).bind (dJ1 (dJ2 fs env) acc) := (rfl)
@[simp] theorem dJ1_ev {k : Str → Store → Res D} (h : (acc ++ y).length ≤ 16777216) : dJ1 k acc (.str y) st = k (acc ++ y) st := if_pos (by rw [szL_16]; exact h)
@[simp] theorem dJ2_ev : dJ2 fs env acc st = dJ fs acc env st := (rfl)
@[simp] theorem dBMT_ev {op : D → List D → Store → Res D} : dBMT op fo fa env st = (fo env st).bind (dBMT1 op fa env) := (rfl)
@[simp] theorem dBMT1_ev {op : D → List D → Store → Res D} : dBMT1 op fa env (.str y) st = (fa env st).bind (op (.str y)) := (rfl)
@[simp] theorem opJoin_ev {d : D} : opJoin (.str a) [d] st = opJoinC a st ((seq? st d).bind strs?) := (rfl)
@[simp] theorem opJoinC_ev {ys : List Str} (h : (ys.map (·.length)).sum + ys.length * a.length ≤ 16777216) : opJoinC a st (some ys) = .ok (.str (Txt.join a ys)) st := if_pos h
@[simp] theorem strs_map (ys : List Str) : strs? (ys.map D.str) = some ys := by
  induction ys with
  | nil => rfl
  | cons y ys ih => simp [strs?, ih]
@[simp] theorem dIsiO_ev {c : Nat} : dIsiO c fo env st = (fo env st).bind (dIsiO1 c) := (rfl)
@[simp] theorem dIsiO1_ev {c : Nat} {x : D} : dIsiO1 c x st = dIsiOC c st (seen st x) := (rfl)
@[simp] theorem dIsiOC_ev {c : Nat} {ns : List Str} {xs : List D} : dIsiOC c st (some (.ins c ns, xs)) = .ok (.bl true) st := if_pos rfl
@[simp] theorem dEqO_ev {c : Nat} {F : SemF} {x y : D} : dEqO c F x y st = dEqOC c F x y st (seen st x) (seen st y) := (rfl)
@[simp] theorem dNeO_ev {c : Nat} {F : SemF} {x y : D} : dNeO c F x y st = dNeOC c F x y st (seen st x) (seen st y) := (rfl)
@[simp] theorem dEqOC_ev {c : Nat} {F : SemF} {x y : D} {ns ms : List Str} {xs ys : List D} : dEqOC c F x y st (some (.ins c ns, xs)) (some (.ins c ms, ys)) = dEqO1 (F [x, y] st) := if_pos ⟨rfl, rfl⟩
@[simp] theorem dNeOC_ev {c : Nat} {F : SemF} {x y : D} {ns ms : List Str} {xs ys : List D} : dNeOC c F x y st (some (.ins c ns, xs)) (some (.ins c ms, ys)) = dNeO1 (F [x, y] st) := if_pos ⟨rfl, rfl⟩
@[simp] theorem dEqO1_ev {b : Bool} : dEqO1 (.ok (.bl b) st) = .ok (.bl b) st := (rfl)
@[simp] theorem dNeO1_ev {b : Bool} : dNeO1 (.ok (.bl b) st) = .ok (.bl (!b)) st := (rfl)
end
end DY

/-! Tables of sets with up to 8192 slots. -/
namespace DY.KS
open PySem PySem.Spec PyProof.Rows L2
/-! ### the round by fives, for each power of two -/
def fv : Nat → Nat
  | 0 => 0
  | n + 1 => fv n * 5 + 1
theorem fv_step (a : Nat) : ∀ b, fv (a + b) = 5 ^ b * fv a + fv b
  | 0 => by simp [fv]
  | b + 1 => by
    show fv (a + b) * 5 + 1 = 5 ^ (b + 1) * fv a + (fv b * 5 + 1)
    rw [fv_step a b, Nat.pow_succ, Nat.add_mul, Nat.mul_right_comm]; omega
theorem fv_twice (b : Nat) : fv (b + b) = (5 ^ b + 1) * fv b := by
  rw [fv_step, Nat.add_mul, Nat.one_mul]
theorem five_pow (k : Nat) : ∃ q, 5 ^ 2 ^ k = 2 ^ (k + 2) * q + 1 := by
  induction k with
  | zero => exact ⟨1, rfl⟩
  | succ k ih =>
    obtain ⟨q, e⟩ := ih
    refine ⟨q * (2 * 2 ^ k * q + 1), ?_⟩
    have e0 : (2 : Nat) ^ (k + 1) = 2 ^ k * 2 := Nat.pow_succ ..
    have e1 : (2 : Nat) ^ (k + 1 + 2) = 8 * 2 ^ k := by rw [Nat.pow_add, e0]; omega
    have e2 : (2 : Nat) ^ (k + 2) = 4 * 2 ^ k := by rw [Nat.pow_add]; omega
    rw [e0, Nat.pow_mul, e, e1, e2]
    generalize 2 ^ k = z
    rw [Nat.pow_two, Nat.mul_add (4 * z * q + 1), Nat.add_mul, Nat.mul_one, Nat.one_mul, Nat.mul_add q, Nat.mul_one, Nat.mul_add (8 * z)]
    have a1 : 8 * z * (q * (2 * z * q)) = 4 * z * q * (4 * z * q) := by
      rw [show 8 * z = 2 * (4 * z) by omega, show 4 * z * q * (4 * z * q) = 4 * z * q * (2 * (2 * z * q)) by rw [show 2 * (2 * z * q) = 4 * z * q by rw [show 4 * z = 2 * (2 * z) by omega]; simp only [Nat.mul_assoc]]]
      simp only [Nat.mul_assoc, Nat.mul_left_comm, Nat.mul_comm]
    have a2 : 8 * z * q = 4 * z * q + 4 * z * q := by rw [← Nat.add_mul]; congr 1; omega
    omega
theorem fv_pow (k : Nat) : ∃ q, fv (2 ^ k) = 2 ^ k * (2 * q + 1) := by
  induction k with
  | zero => exact ⟨0, rfl⟩
  | succ k ih =>
    obtain ⟨q, e⟩ := ih
    obtain ⟨p, e5⟩ := five_pow k
    have e1 : 2 ^ (k + 1) = 2 ^ k + 2 ^ k := by rw [Nat.pow_succ]; omega
    have e2 : (2 : Nat) ^ (k + 2) = 2 ^ k * 4 := by rw [Nat.pow_add]
    refine ⟨q + 2 ^ k * p * (2 * q + 1), ?_⟩
    rw [e1, fv_twice, e, e5, e2]
    generalize 2 ^ k = z
    have a : (z * 4 * p + 1 + 1) * (z * (2 * q + 1)) = (z * 4 * p) * (z * (2 * q + 1)) + 2 * (z * (2 * q + 1)) := by
      rw [Nat.add_assoc, Nat.add_mul]
    rw [a]
    have b : (z + z) * (2 * (q + z * p * (2 * q + 1)) + 1) = 2 * (z * (2 * q + 1)) + (z * 4 * p) * (z * (2 * q + 1)) := by
      have c : (z + z) = 2 * z := by omega
      have d : 2 * (q + z * p * (2 * q + 1)) + 1 = (2 * q + 1) + 2 * (z * p * (2 * q + 1)) := by omega
      rw [c, d, Nat.mul_add]
      congr 1
      · rw [Nat.mul_assoc]
      · generalize 2 * q + 1 = y
        have : z * 4 = 2 * (2 * z) := by omega
        rw [this]
        simp only [Nat.mul_assoc, Nat.mul_left_comm, Nat.mul_comm]
    rw [b, Nat.add_comm]
/-- each rest comes within a round -/
theorem fv_all : ∀ (k j : Nat), j < 2 ^ k → ∃ n, n < 2 ^ k ∧ fv n % 2 ^ k = j
  | 0, j, h => ⟨0, by simp, by simp at h; subst h; rfl⟩
  | k + 1, j, h => by
    have e1 : 2 ^ (k + 1) = 2 * 2 ^ k := by rw [Nat.pow_succ]; omega
    have zp : 0 < 2 ^ k := Nat.pow_pos (by decide)
    obtain ⟨n, hn, e⟩ := fv_all k (j % 2 ^ k) (Nat.mod_lt _ zp)
    obtain ⟨q, eq⟩ := fv_pow k
    obtain ⟨p, e5⟩ := five_pow k
    by_cases c : fv n % 2 ^ (k + 1) = j
    · exact ⟨n, by omega, c⟩
    · refine ⟨n + 2 ^ k, by omega, ?_⟩
      rw [fv_step, eq, e5, e1]
      have e2 : (2 : Nat) ^ (k + 2) = 2 * 2 ^ k * 2 := by rw [Nat.pow_add]; omega
      rw [e2]
      rw [e1] at c h
      generalize 2 ^ k = z at *
      generalize fv n = f at *
      have a : (2 * z * 2 * p + 1) * f + z * (2 * q + 1) = (f + z) + 2 * z * (2 * p * f + q) := by
        rw [Nat.add_mul, Nat.one_mul, Nat.mul_add, Nat.mul_add]
        have : 2 * z * 2 * p * f = 2 * z * (2 * p * f) := by simp only [Nat.mul_assoc]
        have : z * (2 * q) = 2 * z * q := by rw [← Nat.mul_assoc, Nat.mul_comm z 2]
        omega
      rw [a, Nat.add_mul_mod_self_left]
      have d1 := Nat.div_add_mod f (2 * z)
      have d2 := Nat.div_add_mod f z
      have m1 := Nat.mod_lt f (show 0 < 2 * z by omega)
      have md : f % (2 * z) % z = f % z := Nat.mod_mod_of_dvd f ⟨2, by omega⟩
      have jd : j = z * (j / z) + j % z := (Nat.div_add_mod j z).symm
      have jl : j / z < 2 := Nat.div_lt_of_lt_mul (by omega)
      have rd : f % (2 * z) = z * (f % (2 * z) / z) + f % (2 * z) % z := (Nat.div_add_mod _ z).symm
      have rl : f % (2 * z) / z < 2 := Nat.div_lt_of_lt_mul (by omega)
      rw [md, e] at rd
      generalize f % (2 * z) / z = x1 at *
      generalize j / z = x2 at *
      have fz : (f + z) % (2 * z) = (f % (2 * z) + z) % (2 * z) := by rw [Nat.mod_add_mod]
      rw [fz]
      generalize f % (2 * z) = r at *
      rcases (by omega : x1 = 0 ∨ x1 = 1) with rfl | rfl <;> rcases (by omega : x2 = 0 ∨ x2 = 1) with rfl | rfl
      · omega
      · rw [Nat.mod_eq_of_lt (by omega)]; omega
      · rw [show r + z = (j % z) + 2 * z by omega, Nat.add_mod_right, Nat.mod_eq_of_lt (by omega)]; omega
      · omega
/-- the masks that come: a power of two less one -/
def MaskB (m : Nat) : Prop := m = 7 ∨ m = 31 ∨ m = 127 ∨ m = 511 ∨ m = 2047 ∨ m = 8191 ∨ m = 32767
theorem MaskB.odd {m : Nat} (h : MaskB m) : m % 2 = 1 := by
  unfold MaskB at h; omega
theorem MaskB.top {m : Nat} (h : MaskB m) : m ≤ 32767 := by
  unfold MaskB at h; omega
theorem MaskB.pow {m : Nat} (h : MaskB m) : ∃ k, m + 1 = 2 ^ k := by
  rcases h with rfl | rfl | rfl | rfl | rfl | rfl | rfl
  · exact ⟨3, rfl⟩
  · exact ⟨5, rfl⟩
  · exact ⟨7, rfl⟩
  · exact ⟨9, rfl⟩
  · exact ⟨11, rfl⟩
  · exact ⟨13, rfl⟩
  · exact ⟨15, rfl⟩
theorem lcg_fv (m i : Nat) : ∀ n, i ≤ m → lcgI m i n = (5 ^ n * i + fv n) % (m + 1)
  | 0, h => by
    show i = _
    rw [Nat.pow_zero, Nat.one_mul, show fv 0 = 0 from rfl, Nat.add_zero, Nat.mod_eq_of_lt (Nat.lt_succ_of_le h)]
  | n + 1, h => by
    show (lcgI m i n * 5 + 1) % (m + 1) = (5 ^ (n + 1) * i + (fv n * 5 + 1)) % (m + 1)
    rw [lcg_fv m i n h]
    have e : 5 ^ (n + 1) * i + (fv n * 5 + 1) = (5 ^ n * i + fv n) * 5 + 1 := by
      rw [Nat.pow_succ, Nat.add_mul, Nat.mul_right_comm]; omega
    rw [e, Nat.add_mod, Nat.mul_mod, Nat.mod_mod, ← Nat.mul_mod, ← Nat.add_mod]
/-- from each slot each other one is met within a round -/
theorem round_all {m i j : Nat} (hm : MaskB m) (hi : i ≤ m) (hj : j ≤ m) : ∃ n, n ≤ m ∧ lcgI m i n = j := by
  obtain ⟨k, e⟩ := hm.pow
  obtain ⟨a, a1, a2⟩ := fv_all k i (by omega)
  obtain ⟨b, b1, b2⟩ := fv_all k j (by omega)
  have key : ∀ n, lcgI m i n = fv (a + n) % (m + 1) := fun n => by
    rw [lcg_fv m i n hi, fv_step, ← a2, e, Nat.add_mod, Nat.mul_mod, Nat.mod_mod, ← Nat.mul_mod, ← Nat.add_mod]
  obtain ⟨q, eq⟩ := fv_pow k
  obtain ⟨p, e5⟩ := five_pow k
  by_cases c : a ≤ b
  · exact ⟨b - a, by omega, by rw [key, show a + (b - a) = b by omega, e]; exact b2⟩
  · refine ⟨b + 2 ^ k - a, by omega, ?_⟩
    rw [key, show a + (b + 2 ^ k - a) = b + 2 ^ k by omega, e, fv_step, eq, e5]
    have e2 : (2 : Nat) ^ (k + 2) = 2 ^ k * 4 := by rw [Nat.pow_add]
    rw [e2]
    have : (2 ^ k * 4 * p + 1) * fv b + 2 ^ k * (2 * q + 1) = fv b + 2 ^ k * (4 * p * fv b + (2 * q + 1)) := by
      have a1 : 2 ^ k * 4 * p * fv b = 2 ^ k * (4 * p * fv b) := by simp only [Nat.mul_assoc]
      have a2 : 2 ^ k * (4 * p * fv b + (2 * q + 1)) = 2 ^ k * (4 * p * fv b) + 2 ^ k * (2 * q + 1) := Nat.mul_add ..
      rw [Nat.add_mul, Nat.one_mul, a1, a2]
      omega
    rw [this, Nat.add_mul_mod_self_left]
    exact b2
theorem run_there {m : Nat} (hm : MaskB m) (x : Int) {j : Nat} (hj : j ≤ m) : ∃ n, n ≤ m + 12 ∧ runI m (SetTable.bits x) n = j := by
  obtain ⟨n, h1, h2⟩ := round_all hm (runI_le m (SetTable.bits x) 12) hj
  exact ⟨12 + n, Nat.add_comm 12 n ▸ Nat.add_le_add_right h1 12, (runI_tail (bits_lt x) n).trans h2⟩
theorem way_in {m : Nat} {x : Int} {c : Nat} : way m x c ≤ m := by
  have b : SetTable.bits x % (m + 1) ≤ m := Nat.le_of_lt_succ (Nat.mod_lt (SetTable.bits x) (Nat.succ_pos m))
  have r := runEnd_bd b
  have q := nth_in (m := m) c (runAt m (SetTable.bits x % (m + 1)) (SetTable.bits x)) (by
    show SetTable.bits x % (m + 1) + (SetTable.runEnd m (SetTable.bits x % (m + 1)) - SetTable.bits x % (m + 1)) ≤ m
    omega)
  exact Nat.le_trans (Nat.le_add_right _ _) q
/-- a table in which each hash leads to its slot -/
structure TabB (t : SetTable) (xs : List Int) : Prop where
  ris : Ris t.place.toList
  dm : t.dummies = #[]
  sz : t.place.size = xs.length
  mok : MaskB t.mask
  low : ∀ j ∈ t.place.toList, j ≤ t.mask
  lead : ∀ (i : Nat) (x : Int) (j : Nat), xs[i]? = some x → t.place.toList[i]? = some j → ∃ c, way t.mask x c = j ∧ ∀ d, d < c → way t.mask x d ∈ t.place.toList
section
variable {t : SetTable} {xs : List Int}
/-- the starts of the runs of a round are all different -/
theorem starts_nodup {m i : Nat} (hm : MaskB m) (hi : i ≤ m) : ((List.range (m + 1)).map fun n => lcgI m i n).Nodup := by
  have p := perm_range (m + 1) ((List.range (m + 1)).map fun n => lcgI m i n) (by simp) fun k hk => by
    obtain ⟨n, n1, n2⟩ := round_all hm hi (Nat.lt_succ_iff.mp hk)
    exact List.mem_map.mpr ⟨n, List.mem_range.mpr (Nat.lt_succ_of_le n1), n2⟩
  exact p.nodup_iff.mpr List.nodup_range
theorem TabB.first (T : TabB t xs) (few : xs.length ≤ t.mask) (x : Int) : ∃ c, (c < 10 * SetTable.turns t.mask ∧ c < 10 * (xs.length + 13)) ∧ way t.mask x c ∉ t.place.toList ∧ ∀ d, d < c → way t.mask x d ∈ t.place.toList := by
  have start := runI_le t.mask (SetTable.bits x) 12
  have nd := starts_nodup T.mok start
  have sub : ((List.range (xs.length + 1)).map fun n => lcgI t.mask (runI t.mask (SetTable.bits x) 12) n).Nodup := by
    exact nd.sublist (List.Sublist.map _ (List.range_sublist.mpr (by omega)))
  obtain ⟨n, n1, n2⟩ : ∃ n, n ≤ xs.length ∧ lcgI t.mask (runI t.mask (SetTable.bits x) 12) n ∉ t.place.toList := Classical.byContradiction fun no => by
    have all := nat_nodup_len _ t.place.toList sub fun j hj => by
      obtain ⟨n, hn, rfl⟩ := List.mem_map.mp hj
      exact Classical.byContradiction fun z => no ⟨n, Nat.lt_succ_iff.mp (List.mem_range.mp hn), z⟩
    have := T.sz
    simp only [List.length_map, List.length_range, Array.length_toList] at all
    omega
  obtain ⟨c, c1, c2⟩ := run_nth t.mask (SetTable.bits x) (12 + n)
  have c3 : way t.mask x c = lcgI t.mask (runI t.mask (SetTable.bits x) 12) n := by
    show (nth t.mask _ c).j = _
    rw [c2]
    exact runI_tail (bits_lt x) n
  obtain ⟨b, b1, b2, b3⟩ := st_least (p := fun d => way t.mask x d ∉ t.place.toList) c (c3.symm ▸ n2)
  refine ⟨b, ⟨?_, ?_⟩, b2, fun d hd => Classical.byContradiction (b3 d hd)⟩
  · unfold SetTable.turns; omega
  · omega
theorem TabB.before (T : TabB t xs) {x : Int} {c i j : Nat} (free : way t.mask x c ∉ t.place.toList) (hi : xs[i]? = some x) (hj : t.place.toList[i]? = some j) : ∃ d, d < c ∧ way t.mask x d = j := by
  obtain ⟨d, e, b⟩ := T.lead i x j hi hj
  by_cases h : d < c
  · exact ⟨d, h, e⟩
  · exfalso
    by_cases h2 : d = c
    · subst h2
      exact free (e ▸ List.mem_of_getElem? hj)
    · exact free (b c (by omega))
theorem TabB.put (T : TabB t xs) {x : Int} {c : Nat} (free : way t.mask x c ∉ t.place.toList) (busy : ∀ d, d < c → way t.mask x d ∈ t.place.toList) {p : Nat} (hp : SetTable.below t.place (way t.mask x c) = p) :
    (t.put (way t.mask x c)).2 = p ∧ p ≤ xs.length ∧ TabB (t.put (way t.mask x c)).1 (xs.take p ++ x :: xs.drop p) ∧ (t.put (way t.mask x c)).1.mask = t.mask ∧ (t.put (way t.mask x c)).1.led = t.led ∧ (t.put (way t.mask x c)).1.plain = t.plain ∧
      (t.put (way t.mask x c)).1.fill = xs.length + 1 := by
  have jl : way t.mask x c ≤ t.mask := way_in
  generalize hj : way t.mask x c = j at *
  have cut := (below_cut T.ris j).1
  rw [hp] at cut
  have sz := T.sz
  have pl : p ≤ t.place.toList.length := by rw [Array.length_toList]; exact cut
  have ph : p ≤ xs.length := sz ▸ cut
  have new := put_place t j
  rw [hp] at new
  have more : ∀ {y : Nat}, y ∈ t.place.toList → y ∈ (t.put j).1.place.toList := fun {y} hy => new ▸ mem_ins.mpr (.inr hy)
  have len : (t.put j).1.place.size = xs.length + 1 := by
    have := congrArg List.length new
    rw [len_ins _ pl, Array.length_toList, Array.length_toList] at this
    omega
  have odd : t.place[SetTable.below t.place j]? ≠ some j := fun e => free (List.mem_of_getElem? (l := t.place.toList) (Array.getElem?_toList.trans e))
  refine ⟨hp, ph, ⟨ris_insert T.ris odd, put_dm T.dm j, len.trans (len_ins _ ph x).symm, T.mok, fun y hy => ?_, fun i y k h1 h2 => ?_⟩, rfl, rfl, rfl, ?_⟩
  · rw [new] at hy
    exact (mem_ins.mp hy).elim (fun e => e ▸ jl) (T.low y)
  · rw [tins_get xs ph] at h1
    rw [new, tins_get _ pl] at h2
    show ∃ c, way t.mask y c = k ∧ ∀ d, d < c → way t.mask y d ∈ (t.put j).1.place.toList
    have from' : ∀ i, xs[i]? = some y → t.place.toList[i]? = some k → ∃ c, way t.mask y c = k ∧ ∀ d, d < c → way t.mask y d ∈ (t.put j).1.place.toList := fun i a b =>
      let ⟨c, e, z⟩ := T.lead i y k a b
      ⟨c, e, fun d hd => more (z d hd)⟩
    by_cases i1 : i < p
    · rw [if_pos i1] at h1 h2; exact from' i h1 h2
    · rw [if_neg i1] at h1 h2
      by_cases i2 : i = p
      · rw [if_pos i2] at h1 h2
        cases h1; cases h2
        exact ⟨c, hj, fun d hd => more (busy d hd)⟩
      · rw [if_neg i2] at h1 h2; exact from' _ h1 h2
  · show _ + (t.put j).1.dummies.size = _
    rw [len, put_dm T.dm j]; rfl
end
/-! ### laid anew -/
section
variable {m : Nat} {own : Array (Option Nat)}
theorem spot_free (hm : MaskB m) (x : Int) {j : Nat} (hj : j ≤ m) (e : oAt own j = none) :
    ∃ c, SetTable.layClean.free m own (SetTable.turns m) (SetTable.bits x % (m + 1)) (SetTable.bits x) = some (way m x c) ∧ oAt own (way m x c) = none ∧ ∀ d, d < c → oAt own (way m x d) ≠ none := by
  obtain ⟨n, n1, n2⟩ := run_there hm x hj
  have at' : way m x (off m (SetTable.bits x % (m + 1)) (SetTable.bits x) n) = j := by
    show (nth m (runAt m _ _) (off m _ _ n)).j = j
    rw [nth_off, itL_run]; exact n2
  obtain ⟨c, c1, c2, c3⟩ := st_least (p := fun d => oAt own (way m x d) = none) (off m (SetTable.bits x % (m + 1)) (SetTable.bits x) n) (at'.symm ▸ e)
  refine ⟨c, free_spec m own (SetTable.turns m) n _ _ c ?_ c1 (fun d hd => ?_) (Option.isNone_iff_eq_none.mpr c2), c2, c3⟩
  · unfold SetTable.turns; omega
  · rcases z : oAt own (way m x d) with _ | _
    · exact absurd z (c3 d hd)
    · rfl
theorem own_next (hm : MaskB m) {ds : List Int} (W : Own m ds own) (few : ds.length ≤ m) (x : Int) :
    ∃ j, SetTable.layClean.free m own (SetTable.turns m) (SetTable.bits x % (m + 1)) (SetTable.bits x) = some j ∧ Own m (ds ++ [x]) (own.setIfInBounds j (some ds.length)) := by
  obtain ⟨ps, p1, p2⟩ := W.ps
  obtain ⟨z, z1, z2⟩ := st_missing ps (m + 1) (by omega)
  have zf : oAt own z = none := Classical.byContradiction fun n => z2 (p2 z (Nat.lt_succ_iff.mp z1) n)
  obtain ⟨c, f1, f2, f3⟩ := spot_free hm x (Nat.lt_succ_iff.mp z1) zf
  have jm : way m x c ≤ m := way_in
  have js : way m x c < own.size := W.sz.symm ▸ Nat.lt_succ_of_le jm
  have self := oAt_set_self (some ds.length) js
  have still : ∀ i, oAt own i ≠ none → oAt (own.setIfInBounds (way m x c) (some ds.length)) i ≠ none := fun i hi => by
    by_cases e : i = way m x c
    · rw [e, self]; simp
    · rw [oAt_set_ne _ e]; exact hi
  refine ⟨_, f1, ?_⟩
  constructor
  · simpa using W.sz
  · intro j k hj e
    by_cases q : j = way m x c
    · rw [q, self] at e
      cases e
      exact ⟨x, c, by simp, q.symm, fun d hd => still _ (f3 d hd)⟩
    · rw [oAt_set_ne _ q] at e
      obtain ⟨y, d, a1, a2, a3⟩ := W.at_ j k hj e
      exact ⟨y, d, by rw [List.getElem?_append_left (List.getElem?_eq_some_iff.mp a1).1, a1], a2, fun d' hd => still _ (a3 d' hd)⟩
  · intro k hk
    simp only [List.length_append, List.length_cons, List.length_nil] at hk
    by_cases q : k = ds.length
    · subst q; exact ⟨_, jm, self⟩
    · obtain ⟨j, hj, e⟩ := W.all k (by omega)
      exact ⟨j, hj, by rw [oAt_set_ne _ fun z => by rw [z, f2] at e; cases e]; exact e⟩
  · refine ⟨way m x c :: ps, by simp [p1], fun j hj e => ?_⟩
    by_cases q : j = way m x c
    · simp [q]
    · rw [oAt_set_ne _ q] at e
      exact List.mem_cons_of_mem _ (p2 j hj e)
theorem own_fold (hm : MaskB m) : ∀ (xs ds : List Int) (own : Array (Option Nat)), Own m ds own → ds.length + xs.length ≤ m → ∃ own', xs.foldl (stepF m) (some (own, ds.length)) = some (own', ds.length + xs.length) ∧ Own m (ds ++ xs) own'
  | [], ds, own, W, _ => ⟨own, rfl, by simpa using W⟩
  | x :: xs, ds, own, W, few => by
    simp only [List.length_cons] at few
    obtain ⟨j, e, W1⟩ := own_next hm W (by omega) x
    obtain ⟨own', f, W2⟩ := own_fold hm xs (ds ++ [x]) _ W1 (by simp; omega)
    refine ⟨own', ?_, by simpa using W2⟩
    rw [List.foldl_cons, stepF_some e]
    simp only [List.length_append, List.length_cons, List.length_nil] at f ⊢
    rw [show ds.length + (xs.length + 1) = ds.length + (0 + 1) + xs.length by omega]
    exact f
theorem laid_ok (hm : MaskB m) {xs : Array Int} (few : xs.size ≤ m) : ∃ own, SetTable.layClean m xs = some own ∧ Own m xs.toList own := by
  obtain ⟨own, f, W⟩ := own_fold hm xs.toList [] _ (Own.init m) (by simpa using few)
  refine ⟨own, ?_, by simpa using W⟩
  rw [layClean_eq]
  rw [show (some (Array.replicate (m + 1) none, 0) : Option (Array (Option Nat) × Nat)) = some (Array.replicate (m + 1) none, ([] : List Int).length) from rfl, f]; rfl
theorem anew_ok (t : SetTable) {xs : Array Int} {want : Nat} (hw : SetTable.sizeAbove want - 1 = m) (hm : MaskB m) (few : xs.size ≤ m) :
    ∃ t' ord, t.relaid xs want = some (t', ord) ∧ ord.toList.Perm (List.range xs.size) ∧ TabB t' (ord.toList.map fun i => xs.getD i 0) ∧ t'.mask = m ∧ t'.led = t.led ∧ t'.plain = t.plain := by
  obtain ⟨own, e, W⟩ := laid_ok hm few
  have whole : t.relaid xs want = some (tabOf t m own, ((liveOf m own).map (·.2)).toArray) := by
    rw [relaid_eq, hw, e]; rfl
  have two := ris_live (fun j => own.getD j none) (List.range (m + 1)) (by unfold Ris; first | exact List.pairwise_lt_range | exact List.pairwise_lt_range _)
  have up : Ris ((liveOf m own).map (·.1)) := two.1
  have inR : ∀ j ∈ (liveOf m own).map (·.1), j ∈ List.range (m + 1) := two.2
  have dist : ((liveOf m own).map (·.1)).Nodup := up.imp fun h => Nat.ne_of_lt h
  have full : ∀ k, k < xs.size → k ∈ (liveOf m own).map (·.2) := fun k hk => by
    obtain ⟨j, a, b⟩ := W.all k (by simpa using hk)
    exact List.mem_map.mpr ⟨(j, k), (mem_live W.sz).mpr ⟨a, b⟩, rfl⟩
  have count : (liveOf m own).length = xs.size := by
    obtain ⟨ps, p1, p2⟩ := W.ps
    have a := nat_nodup_len _ ps dist fun j hj => by
      obtain ⟨⟨y, k⟩, hq, rfl⟩ := List.mem_map.mp hj
      have := (mem_live W.sz).mp hq
      exact p2 y this.1 (by rw [this.2]; simp)
    have b := nat_nodup_len (List.range xs.size) ((liveOf m own).map (·.2)) List.nodup_range fun k hk => full k (List.mem_range.mp hk)
    simp only [List.length_map, List.length_range, Array.length_toList] at a b p1
    omega
  refine ⟨_, _, whole, perm_range xs.size _ (by simpa using count) full, ⟨up, rfl, by simp [tabOf], hm, fun j hj => Nat.lt_succ_iff.mp (List.mem_range.mp (inR j hj)), fun i x j h1 h2 => ?_⟩, rfl, rfl, rfl⟩
  have g1 : (((liveOf m own).map (·.2)).map fun i => xs.getD i 0)[i]? = some x := h1
  have g2 : ((liveOf m own).map (·.1))[i]? = some j := h2
  simp only [List.getElem?_map] at g1 g2
  rcases hq : (liveOf m own)[i]? with _ | ⟨y, k⟩
  · rw [hq] at g2; cases g2
  · rw [hq] at g1 g2
    simp only [Option.map_some, Option.some.injEq] at g1 g2
    subst g2
    obtain ⟨b1, b2⟩ := (mem_live W.sz).mp (List.mem_of_getElem? hq)
    obtain ⟨x', c, a1, a2, a3⟩ := W.at_ y k b1 b2
    obtain rfl : x' = x := by
      rw [← g1, Array.getD_eq_getD_getElem?, ← Array.getElem?_toList, a1]; rfl
    refine ⟨c, a2, fun d hd => ?_⟩
    rcases z : oAt own (way m x' d) with _ | k2
    · exact absurd z (a3 d hd)
    · exact List.mem_map.mpr ⟨(way m x' d, k2), (mem_live W.sz).mpr ⟨way_in, z⟩, rfl⟩
end
theorem grown_4 : SetTable.sizeAbove (SetTable.grown 5) = 32 := by decide +kernel
theorem grown_18 : SetTable.sizeAbove (SetTable.grown 19) = 128 := by decide +kernel
theorem grown_76 : SetTable.sizeAbove (SetTable.grown 77) = 512 := by decide +kernel
theorem grown_306 : SetTable.sizeAbove (SetTable.grown 307) = 2048 := by decide +kernel
theorem grown_1228 : SetTable.sizeAbove (SetTable.grown 1229) = 8192 := by decide +kernel
theorem grown_4914 : SetTable.sizeAbove (SetTable.grown 4915) = 32768 := by decide +kernel
end DY.KS

/-! Sets whose members are nested tuples of whole numbers: the table. -/
namespace DY.KS
open PySem PySem.Spec PyProof.Rows L2
/-- made of numbers alone -/
def nums : NestedKey → Bool
  | .num _ => true
  | .tup ks => numsAll ks
  | _ => false
where numsAll : List NestedKey → Bool
  | [] => true
  | k :: ks => nums k && numsAll ks
/-- a key stands at an address -/
structure At (h : Heap) (k : NestedKey) (a : Addr) : Prop where
  is : NestedIs h k (.ref a)
  deep : k.depth ≤ 8
  num : nums k = true
section
variable {P : Program} {w : World}
/-- v is of no class statement, n levels down -/
def NoCls (P : Program) (w : World) (n : Nat) (s : Shared) (v : Value) : Prop := ∀ (A : Around) (E : Value → Shared → Prop) (Q : Bool → Shared → Prop), Q false s → wpAny (model P w) A (ofAClassStatement n v) Q E s
/-- v's hash hangs on its value alone -/
def HashV (P : Program) (w : World) (n : Nat) (s : Shared) (v : Value) : Prop := ∀ (A : Around) (E : Value → Shared → Prop) (Q : Bool → Shared → Prop), Q true s → wpAny (model P w) A (hashByValue n v) Q E s
theorem NoCls.tup {n : Nat} {s : Shared} {a : Addr} {o : Obj} {vs : Array Value} {m : Nat} (ho : s.heap.get? a = some o) (hc : o.cls = .type "tuple") (hd : o.data = .seq vs m) (hq : ∀ v ∈ vs.toList, NoCls P w n s v) : NoCls P w (n + 1) s (.ref a) := fun A E Q h => by
  have hT : s.TypeIs (.ref a) "tuple" := ⟨o, ho, hc⟩
  have same : (("tuple" : String) == "tuple") = true := by decide
  unfold ofAClassStatement
  refine wpAny_bind (wpAny_typeOf hT ?_)
  dsimp only
  simp only [same, if_true, Bool.not_true, Bool.false_eq_true, if_false]
  try refine wpAny_bind (wpAny_pure ?_)
  try simp only [Bool.not_true, Bool.false_eq_true, if_false]
  show wpAny _ _ (seqItems? (.ref a) >>= _) _ _ s
  refine wpAny_bind (wpAny_seqItems ho hd ?_)
  dsimp only
  refine wpAny_bind ?_
  show wpAny _ _ (forIn vs _ _) _ _ s
  rw [← Array.forIn_toList]
  refine wpAny_forIn_list _ (fun left r s1 => r.1 = none ∧ s1 = s ∧ ∀ v ∈ left, NoCls P w n s v) _ ?_ ?_ _ _ ⟨rfl, rfl, hq⟩
  · rintro v left r s1 ⟨hr, rfl, all⟩
    refine wpAny_bind (all v List.mem_cons_self _ _ _ ?_)
    simp only [Bool.false_eq_true, if_false]
    exact wpAny_pure ⟨rfl, rfl, fun u m => all u (List.mem_cons_of_mem _ m)⟩
  · rintro ⟨r1, r2⟩ s1 ⟨hr, rfl, _⟩
    simp only at hr
    subst hr
    exact wpAny_pure h
theorem HashV.tup {n : Nat} {s : Shared} {a : Addr} {o : Obj} {vs : Array Value} {m : Nat} (ho : s.heap.get? a = some o) (hc : o.cls = .type "tuple") (hd : o.data = .seq vs m) (hq : ∀ v ∈ vs.toList, HashV P w n s v) : HashV P w (n + 1) s (.ref a) := fun A E Q h => by
  have hT : s.TypeIs (.ref a) "tuple" := ⟨o, ho, hc⟩
  unfold hashByValue
  refine wpAny_bind (wpAny_specialOf hT F.slot_tuple_hash.lookup ?_)
  show wpAny _ _ (seqItems? (.ref a) >>= _) _ _ s
  refine wpAny_bind (wpAny_seqItems ho hd ?_)
  refine wpAny_bind ?_
  show wpAny _ _ (forIn vs _ _) _ _ s
  rw [← Array.forIn_toList]
  refine wpAny_forIn_list _ (fun left r s1 => r.1 = none ∧ s1 = s ∧ ∀ v ∈ left, HashV P w n s v) _ ?_ ?_ _ _ ⟨rfl, rfl, hq⟩
  · rintro v left r s1 ⟨hr, rfl, all⟩
    refine wpAny_bind (all v List.mem_cons_self _ _ _ ?_)
    simp only [Bool.not_true, Bool.false_eq_true, if_false]
    exact wpAny_pure ⟨rfl, rfl, fun u m => all u (List.mem_cons_of_mem _ m)⟩
  · rintro ⟨r1, r2⟩ s1 ⟨hr, rfl, _⟩
    simp only at hr
    subst hr
    exact wpAny_pure h
theorem ofCls_num (n : Nat) {i : Int} {v : Value} {h : Heap} (x : NestedIs h (.num i) v) : ofAClassStatement n v = pure false := by
  cases x <;> cases n <;> rfl
theorem hashV_num (n : Nat) {i : Int} {v : Value} {h : Heap} (x : NestedIs h (.num i) v) : hashByValue n v = pure true := by
  cases x <;> cases n <;> rfl
mutual
theorem noCls_key : ∀ (k : NestedKey) (v : Value) (n : Nat) (s : Shared), NestedIs s.heap k v → k.depth ≤ n → nums k = true → NoCls P w n s v
  | .num i, _, n, s, x, _, _ => fun A E Q h => by rw [ofCls_num n x]; exact wpAny_pure h
  | .none, _, _, _, _, _, z => by simp [nums] at z
  | .text _, _, _, _, _, _, z => by simp [nums] at z
  | .tup ks, _, n, s, x, hn, z => by
    cases x with
    | tup hg hc hd hk =>
      simp only [NestedKey.depth] at hn
      cases n with
      | zero => omega
      | succ n => exact .tup hg hc hd (noCls_keys ks _ n s hk (by omega) (by simpa [nums] using z))
theorem noCls_keys : ∀ (ks : List NestedKey) (vs : List Value) (n : Nat) (s : Shared), NestedAll s.heap ks vs → NestedKey.depthAll ks ≤ n → nums.numsAll ks = true → ∀ v ∈ vs, NoCls P w n s v
  | [], _, n, s, x, _, _, v, hv => by cases x; cases hv
  | k :: ks, _, n, s, x, hn, z, v, hv => by
    cases x with
    | cons x1 x2 =>
      simp only [NestedKey.depthAll] at hn
      simp only [nums.numsAll, Bool.and_eq_true] at z
      rcases List.mem_cons.mp hv with e | hv
      · rw [e]; exact noCls_key k _ n s x1 (by omega) z.1
      · exact noCls_keys ks _ n s x2 (by omega) z.2 v hv
end
mutual
theorem hashV_key : ∀ (k : NestedKey) (v : Value) (n : Nat) (s : Shared), NestedIs s.heap k v → k.depth ≤ n → nums k = true → HashV P w n s v
  | .num i, _, n, s, x, _, _ => fun A E Q h => by rw [hashV_num n x]; exact wpAny_pure h
  | .none, _, _, _, _, _, z => by simp [nums] at z
  | .text _, _, _, _, _, _, z => by simp [nums] at z
  | .tup ks, _, n, s, x, hn, z => by
    cases x with
    | tup hg hc hd hk =>
      simp only [NestedKey.depth] at hn
      cases n with
      | zero => omega
      | succ n => exact .tup hg hc hd (hashV_keys ks _ n s hk (by omega) (by simpa [nums] using z))
theorem hashV_keys : ∀ (ks : List NestedKey) (vs : List Value) (n : Nat) (s : Shared), NestedAll s.heap ks vs → NestedKey.depthAll ks ≤ n → nums.numsAll ks = true → ∀ v ∈ vs, HashV P w n s v
  | [], _, n, s, x, _, _, v, hv => by cases x; cases hv
  | k :: ks, _, n, s, x, hn, z, v, hv => by
    cases x with
    | cons x1 x2 =>
      simp only [NestedKey.depthAll] at hn
      simp only [nums.numsAll, Bool.and_eq_true] at z
      rcases List.mem_cons.mp hv with e | hv
      · rw [e]; exact hashV_key k _ n s x1 (by omega) z.1
      · exact hashV_keys ks _ n s x2 (by omega) z.2 v hv
end
end
abbrev kh (w : World) (k : NestedKey) : Int := NestedKey.hash w k
theorem At.inj {h : Heap} {x y : NestedKey} {a : Addr} (p : At h x a) (q : At h y a) : x = y := NestedIs.inj _ _ _ p.is q.is
theorem At.move {h h' : Heap} {k : NestedKey} {a : Addr} (f : ∀ b o vs n, h.get? b = some o → o.data = .seq vs n → h'.get? b = some o) (p : At h k a) : At h' k a := ⟨NestedIs.at f k _ p.is, p.deep, p.num⟩
theorem At.keep {h h' : Heap} {k : NestedKey} {a : Addr} (p : At h k a) (f : ∀ b o, h.get? b = some o → h'.get? b = some o) : At h' k a := p.move fun b o _ _ e _ => f b o e
theorem At.same {h h' : Heap} {k : NestedKey} {a b : Addr} {o : Obj} {es : Array (Int × Value)} {ep : Nat} {t : SetTable} (p : At h k a) (ho : h.get? b = some o) (hd : o.data = .set es ep t) (hs : Heap.SameBut b h h') : At h' k a :=
  p.move fun c u vs n e z => (hs.2 c fun i => by subst i; rw [ho] at e; cases e; rw [hd] at z; cases z).trans e
section
variable {P : Program} {w : World} {A : Around} {E : Value → Shared → Prop} {s : Shared}
theorem At.kind {k : NestedKey} {a : Addr} (p : At s.heap k a) : (nestedKind P w).is s.heap k a := ⟨p.is, p.deep⟩
/-- nothing is seen of a search -/
theorem unseen {k : NestedKey} {b : Addr} {Q : Bool → Shared → Prop} (hk : At s.heap k b) {ys : List Value} (hy : ∀ y ∈ ys, ∃ k' c, y = Value.ref c ∧ At s.heap k' c) (h : Q false s) :
    wpAny (model P w) A (searchCouldBeSeen (.ref b) ys) Q E s := by
  unfold searchCouldBeSeen
  refine wpAny_bind ?_
  refine wpAny_forIn_list _ (fun left r s1 => r.1 = none ∧ s1 = s ∧ ∀ y ∈ left, ∃ k' c, y = Value.ref c ∧ At s.heap k' c) _ ?_ ?_ _ _ ⟨rfl, rfl, hy⟩
  · rintro v left r s1 ⟨hr, rfl, all⟩
    obtain ⟨k', c, rfl, hc⟩ := all v List.mem_cons_self
    have tail : ∀ y ∈ left, ∃ k' c, y = Value.ref c ∧ At s1.heap k' c := fun u m => all u (List.mem_cons_of_mem _ m)
    dsimp only
    by_cases hv : (b == c || (carriedByValue (.ref b) && carriedByValue (.ref c))) = true
    · exact wp_if_pos hv (wpAny_pure ⟨rfl, rfl, tail⟩)
    · refine wp_if_neg hv (wpAny_bind ((nestedKind P w).quiet hk.kind ?_))
      simp only [Bool.not_true, Bool.false_eq_true, if_false]
      refine wpAny_bind ((nestedKind P w).quiet hc.kind ?_)
      simp only [Bool.not_true, Bool.false_eq_true, if_false]
      refine wpAny_bind (noCls_key k _ 8 _ hk.is hk.deep hk.num _ _ _ ?_)
      simp only [Bool.false_eq_true, if_false]
      refine wpAny_bind (noCls_key k' _ 8 _ hc.is hc.deep hc.num _ _ _ ?_)
      simp only [Bool.false_eq_true, if_false]
      exact wpAny_pure ⟨rfl, rfl, tail⟩
  · rintro ⟨r1, r2⟩ s1 ⟨hr, rfl, _⟩
    simp only at hr
    subst hr
    exact wpAny_pure h
end
/-- members: where they stand, what they are -/
abbrev Ms := List (Addr × NestedKey)
def rowsM (w : World) (L : Ms) : List (Int × Value) := L.map fun p => (kh w p.2, Value.ref p.1)
abbrev hashM (w : World) (L : Ms) : List Int := L.map fun p => kh w p.2
theorem rowsM_len (w : World) (L : Ms) : (rowsM w L).length = L.length := List.length_map ..
/-- the set at a -/
structure Set1 (w : World) (h : Heap) (a : Addr) (L : Ms) (es : Array (Int × Value)) (ep : Nat) (t : SetTable) : Prop where
  ob : ∃ o, h.get? a = some o ∧ o.ExactSet ∧ o.data = .set es ep t
  rows : es.toList = rowsM w L
  tab : TabB t (hashM w L)
  nd : (L.map (·.2)).Nodup
  key : ∀ p ∈ L, At h p.2 p.1
  plain : t.plain = true
  led : w.params.followText "set-order" = true ∨ t.led = true
  room : L.length * 5 < t.mask * 3
  few : L.length < 8000
section
variable {P : Program} {w : World} {A : Around} {E : Value → Shared → Prop} {s : Shared} {h : Heap} {a : Addr} {L : Ms} {es : Array (Int × Value)} {ep : Nat} {t : SetTable}
theorem size_of_rows (e : es.toList = rowsM w L) : es.size = L.length := by
  rw [← Array.length_toList, e, rowsM_len]
theorem Set1.size (R : Set1 w h a L es ep t) : es.size = L.length := size_of_rows R.rows
theorem fits_of (T : TabB t (hashM w L)) (e : es.size = L.length) (r : L.length ≤ t.mask) : t.fits es.size = true := by
  have h1 := T.sz
  rw [List.length_map] at h1
  simp only [SetTable.fits, SetTable.fill, T.dm, Bool.and_eq_true, beq_iff_eq, decide_eq_true_eq]
  show t.place.size = es.size ∧ t.place.size + 0 ≤ t.mask
  omega
theorem Set1.fits (R : Set1 w h a L es ep t) : t.fits es.size = true := fits_of R.tab R.size (by have := R.room; omega)
theorem row_at (e : es.toList = rowsM w L) {i : Nat} {p : Addr × NestedKey} (q : L[i]? = some p) : es[i]? = some (kh w p.2, Value.ref p.1) := by
  rw [← Array.getElem?_toList, e, rowsM, List.getElem?_map, q] <;> rfl
theorem Set1.entry (R : Set1 w h a L es ep t) {i : Nat} {p : Addr × NestedKey} (q : L[i]? = some p) : es[i]? = some (kh w p.2, Value.ref p.1) := row_at R.rows q
/-- what is asked at a place of the search -/
def hAt (es : Array (Int × Value)) : Nat → Int := fun i => (es[i]?.map (·.1)).getD 0
theorem Set1.hAt (R : Set1 w h a L es ep t) {i : Nat} {p : Addr × NestedKey} (q : L[i]? = some p) : KS.hAt es i = kh w p.2 := by
  simp only [KS.hAt, R.entry q, Option.map_some, Option.getD_some]
/-- the search's states -/
abbrev stp (m : Nat) (x : Int) (c : Nat) : SetTable.Probe := nth m (runAt m (SetTable.bits x % (m + 1)) (SetTable.bits x)) c
theorem stp_add (m : Nat) (x : Int) (c q : Nat) : nth m (stp m x c) q = stp m x (c + q) := (nth_add m c _ q).symm
theorem stp_dummy (m : Nat) (x : Int) (c : Nat) : (stp m x c).dummy = none := by
  have : ∀ (n : Nat) (p : SetTable.Probe), p.dummy = none → (nth m p n).dummy = none := fun n => by
    induction n with
    | zero => exact fun p z => z
    | succ n ih =>
      intro p z
      refine ih (adv m p) ?_
      unfold adv
      split <;> exact z
  exact this c _ rfl
/-- THE SEARCH, from its c-th step on -/
theorem seek (R : Set1 w s.heap a L es ep t) {x : Addr} {k : NestedKey} (hx : At s.heap k x) (hu : A.units + 8 < cLine) {K : Nat} (kf : K < 10 * SetTable.turns t.mask)
    (free : way t.mask (kh w k) K ∉ t.place.toList) (busy : ∀ c, c < K → way t.mask (kh w k) c ∈ t.place.toList) {Q : SetFound → Shared → Prop}
    (hin : k ∈ L.map (·.2) → Q (.there none) s) (hout : k ∉ L.map (·.2) → Q (.free (way t.mask (kh w k) K) false) s) :
    ∀ (f c : Nat) (stand : Option SetTable.Probe), stand.getD (t.probeStart (kh w k)) = stp t.mask (kh w k) c → c ≤ K → K - c < f →
      (∀ (i : Nat) p, L[i]? = some p → p.2 = k → ∃ c', c ≤ c' ∧ c' < K ∧ t.place.toList[i]? = some (way t.mask (kh w k) c')) →
      wpAny (model P w) A (setSearchFrom a (.ref x) (kh w k) true f stand) Q E s
  | 0, c, stand, _, _, hf, _ => absurd hf (Nat.not_lt_zero _)
  | f + 1, c, stand, hst, hc, hf, ahead => by
    obtain ⟨o, ho, hex, hd⟩ := R.ob
    have gw : ¬ t.gaveWay = true := by
      unfold SetTable.gaveWay
      rw [R.tab.mok.odd]; decide
    rw [setSearchFrom_succ]
    refine wpAny_bind (wpAny_setState_of ho hd R.fits ?_)
    dsimp only
    refine wp_if_neg gw ?_
    try refine wpAny_bind (wpAny_pure ?_)
    have jw : ∀ q, (nth t.mask (stp t.mask (kh w k) c) q).j = way t.mask (kh w k) (c + q) := fun q => by rw [stp_add]
    have back : c + (K - c) = K := by omega
    have spec := go_spec t R.tab.ris R.tab.dm (KS.hAt es) (kh w k) (10 * SetTable.turns t.mask) (K - c) _ (stp_dummy t.mask (kh w k) c) (by omega)
      (fun q hq => by rw [jw]; exact busy (c + q) (by omega)) (by rw [jw, back]; exact free)
    rcases spec with ⟨q, i, hq, hi, hh, before, pr⟩ | ⟨before, pr⟩
    · have pr' : t.probe (fun i => (es[i]?.map (·.1)).getD 0) (kh w k) (stand.getD (t.probeStart (kh w k))) = some (.candidate (way t.mask (kh w k) (c + q)) i (stp t.mask (kh w k) (c + (q + 1)))) := by
        rw [hst, ← jw, ← stp_add]; exact pr
      rw [pr']
      dsimp only
      rw [jw] at hi
      have hil : i < L.length := by
        have h1 := (List.getElem?_eq_some_iff.mp hi).1
        have h2 := R.tab.sz
        rw [List.length_map] at h2
        rw [Array.length_toList] at h1
        omega
      obtain ⟨p, hp⟩ : ∃ p, L[i]? = some p := ⟨_, List.getElem?_eq_getElem hil⟩
      have mem : p ∈ L := List.mem_of_getElem? hp
      have slot : t.slot (way t.mask (kh w k) (c + q)) = .live i := slot_live R.tab.ris hi
      have go : wpAny (model P w) A (searchRest a (.ref x) (kh w k) true f es t (way t.mask (kh w k) (c + q)) i (stp t.mask (kh w k) (c + (q + 1)))) Q E s := by
        unfold searchRest
        rw [R.entry hp]
        dsimp only
        refine wpAny_bind (wpAny_holding ((nestedKind P w).eqBool hu (R.key p mem).kind hx.kind ?_))
        refine wpAny_bind (wpAny_setState_of ho hd R.fits ?_)
        dsimp only
        by_cases kk : p.2 = k
        · exact wp_if_pos (by simp [kk]) (wpAny_pure (hin (List.mem_map.mpr ⟨p, mem, kk⟩)))
        · refine wp_if_neg (by simp [kk]) ?_
          try refine wpAny_bind (wpAny_pure ?_)
          rw [L2.sameMem]
          dsimp only
          simp only [if_true, slot, R.entry hp]
          refine wpAny_bind (wpAny_isSame_ref_self (wpAny_bind (wpAny_pure ?_)))
          simp only [if_true]
          refine wp_if_neg (by simp [kk]) ?_
          refine seek R hx hu kf free busy hin hout f (c + (q + 1)) _ rfl (by omega) (by omega) fun j r hr er => ?_
          obtain ⟨c', a1, a2, a3⟩ := ahead j r hr er
          refine ⟨c', ?_, a2, a3⟩
          rcases Nat.lt_trichotomy c' (c + q) with z | z | z
          · exact absurd ((R.hAt hr).trans (congrArg (kh w) er)) (before (c' - c) j (by omega) (by rw [jw, show c + (c' - c) = c' by omega]; exact a3))
          · subst z
            have s0 := slot_live R.tab.ris a3
            rw [slot] at s0
            injection s0 with s0
            rw [← s0, hp] at hr
            exact absurd ((congrArg Prod.snd (Option.some.inj hr)).trans er) kk
          · omega
      by_cases hl : t.led = true
      · refine wp_if_neg (by simp [hl]) ?_
        try refine wpAny_bind (wpAny_pure ?_)
        exact go
      · refine wp_if_pos (by simp [hl]) (wpAny_bind (unseen hx (fun y hy => ?_) ?_))
        · obtain ⟨e, he, ee⟩ := List.mem_map.mp hy
          have h1 : e ∈ es ∧ e.1 = kh w k := by simpa using he
          have h2 : e ∈ es.toList := by simpa using h1.1
          rw [R.rows] at h2
          obtain ⟨r, hr, e2⟩ := List.mem_map.mp h2
          exact ⟨r.2, r.1, by rw [← ee, ← e2], R.key r hr⟩
        · refine wp_if_neg (by decide) ?_
          try refine wpAny_bind (wpAny_pure ?_)
          exact go
    · have pr' : t.probe (fun i => (es[i]?.map (·.1)).getD 0) (kh w k) (stand.getD (t.probeStart (kh w k))) = some (.empty (way t.mask (kh w k) K) none) := by
        have e2 : way t.mask (kh w k) K = (nth t.mask (stp t.mask (kh w k) c) (K - c)).j := by rw [jw, back]
        rw [hst, e2]; exact pr
      rw [pr']
      dsimp only
      refine wpAny_pure (hout fun m => ?_)
      obtain ⟨r, hr, er⟩ := List.mem_map.mp m
      obtain ⟨j, hj, e0⟩ := List.getElem_of_mem hr
      have hj' : L[j]? = some r := by rw [List.getElem?_eq_getElem hj, e0]
      obtain ⟨c', a1, a2, a3⟩ := ahead j r hj' er
      exact before (c' - c) j (by omega) (by rw [jw, show c + (c' - c) = c' by omega]; exact a3) ((R.hAt hj').trans (congrArg (kh w) er))
/-- the search as adding asks for it -/
theorem seek0 (R : Set1 w s.heap a L es ep t) {x : Addr} {k : NestedKey} (hx : At s.heap k x) (hu : A.units + 8 < cLine) {Q : SetFound → Shared → Prop}
    (hin : k ∈ L.map (·.2) → Q (.there none) s)
    (hout : ∀ K, k ∉ L.map (·.2) → way t.mask (kh w k) K ∉ t.place.toList → (∀ c, c < K → way t.mask (kh w k) c ∈ t.place.toList) → Q (.free (way t.mask (kh w k) K) false) s) :
    wpAny (model P w) A (setSearch a (.ref x) (kh w k) true) Q E s := by
  have hroom := R.room
  obtain ⟨K, ⟨kf, kf2⟩, free, busy⟩ := R.tab.first (by rw [List.length_map]; omega) (kh w k)
  have few := R.few
  rw [List.length_map] at kf2
  unfold setSearch
  refine seek R hx hu kf free busy hin (fun n => hout K n free busy) 100000 0 none rfl (Nat.zero_le _) (by omega) fun i p hp hk => ?_
  have hi : (hashM w L)[i]? = some (kh w k) := by rw [List.getElem?_map, hp, ← hk] <;> rfl
  have hil : i < t.place.toList.length := by
    have h1 := (List.getElem?_eq_some_iff.mp hp).1
    have h2 := R.tab.sz
    rw [List.length_map] at h2
    rw [Array.length_toList]; omega
  obtain ⟨c, hc, e⟩ := R.tab.before free hi (List.getElem?_eq_getElem hil)
  exact ⟨c, Nat.zero_le _, hc, by rw [List.getElem?_eq_getElem hil, e]⟩
end
end DY.KS

/-! Sets whose members are nested tuples of whole numbers: adding, set(xs). -/
namespace DY.KS
open PySem PySem.Spec PyProof.Rows L2
theorem rowsM_put (w : World) (L : Ms) (p : Nat) (x : Addr) (k : NestedKey) : rowsM w (L.take p ++ (x, k) :: L.drop p) = (rowsM w L).take p ++ (kh w k, Value.ref x) :: (rowsM w L).drop p := by
  simp only [rowsM, List.map_append, List.map_cons, List.map_take, List.map_drop]
theorem hashM_put (w : World) (L : Ms) (p : Nat) (x : Addr) (k : NestedKey) : hashM w (L.take p ++ (x, k) :: L.drop p) = (hashM w L).take p ++ kh w k :: (hashM w L).drop p := by
  simp only [hashM, List.map_append, List.map_cons, List.map_take, List.map_drop]
/-- all of a list, taken by their places -/
theorem range_all {α : Type} (l : List α) : ∀ n, n ≤ l.length → (List.range n).filterMap (fun i => l[i]?) = l.take n
  | 0, _ => rfl
  | n + 1, h => by
    have e := List.getElem?_eq_getElem (l := l) (i := n) h
    rw [List.range_succ, List.filterMap_append, range_all l n (by omega), List.take_succ, e, List.filterMap_cons_some e]
    rfl
theorem placed {w : World} {L : Ms} {es : Array (Int × Value)} (e : es.toList = rowsM w L) {ord : Array Nat} (hp : ord.toList.Perm (List.range L.length)) :
    ∃ L2, (ord.filterMap (es[·]?)).toList = rowsM w L2 ∧ L2.Perm L ∧ hashM w L2 = ord.toList.map fun i => (es.map (·.1)).getD i 0 := by
  have one : ∀ l : List Nat, (∀ i ∈ l, i < L.length) → l.filterMap (fun i => es[i]?) = rowsM w (l.filterMap fun i => L[i]?) ∧ hashM w (l.filterMap fun i => L[i]?) = l.map fun i => (es.map (·.1)).getD i 0 := by
    intro l
    induction l with
    | nil => exact fun _ => ⟨rfl, rfl⟩
    | cons i l ih =>
      intro hl
      have hi := hl i List.mem_cons_self
      obtain ⟨e1, e2⟩ := ih fun j hj => hl j (List.mem_cons_of_mem _ hj)
      have at1 := List.getElem?_eq_getElem hi
      have at2 := row_at e at1
      rw [List.filterMap_cons_some at2, List.filterMap_cons_some at1, e1]
      refine ⟨rfl, ?_⟩
      rw [hashM, List.map_cons, List.map_cons, ← e2]
      congr 1
      simp [Array.getD_eq_getD_getElem?, at2]
  obtain ⟨e1, e2⟩ := one ord.toList fun i hi => List.mem_range.mp (hp.mem_iff.mp hi)
  refine ⟨_, by first | (rw [Array.toList_filterMap]; exact e1) | simpa using e1, ?_, e2⟩
  have h1 := hp.filterMap fun i => L[i]?
  rw [range_all L L.length (Nat.le_refl _), List.take_length] at h1
  exact h1
section
variable {P : Program} {w : World} {A : Around} {E : Value → Shared → Prop} {s : Shared} {a : Addr} {L : Ms} {es : Array (Int × Value)} {ep : Nat} {t : SetTable}
/-- the table laid anew -/
theorem relay {o : Obj} (ho : s.heap.get? a = some o) (hex : o.ExactSet) (hd : o.data = .set es ep t) (rows : es.toList = rowsM w L) (hsz : t.place.size = es.size) (hdm : t.dummies = #[]) (hfl : es.size ≤ t.mask)
    (nd : (L.map (·.2)).Nodup) (key : ∀ p ∈ L, At s.heap p.2 p.1) (pl : t.plain = true) (ld : w.params.followText "set-order" = true ∨ t.led = true) (few : L.length < 8000) {want M : Nat}
    (hw : SetTable.sizeAbove want - 1 = M) (hM : MaskB M) (hw2 : SetTable.sizeAbove want ≤ 32768) (hn : L.length * 5 < M * 3) {Q : Unit → Shared → Prop}
    (hQ : ∀ h' L' es' ep' t', Heap.SameBut a s.heap h' → Set1 w h' a L' es' ep' t' → L'.Perm L → Q () { s with heap := h' }) : wpAny (model P w) A (setRelay a want) Q E s := by
  have hsl := size_of_rows rows
  have fit : t.fits es.size = true := by
    simp only [SetTable.fits, SetTable.fill, hdm, Bool.and_eq_true, beq_iff_eq, decide_eq_true_eq]
    show t.place.size = es.size ∧ t.place.size + 0 ≤ t.mask
    omega
  obtain ⟨t', ord, e, hp, T, em, el, ep'⟩ := anew_ok t (xs := es.map (·.1)) (want := want) hw hM (by rw [Array.size_map, hsl]; omega)
  rw [Array.size_map, hsl] at hp
  obtain ⟨L2, r1, r2, r3⟩ := placed rows hp
  rw [← r3] at T
  have hs2 : (ord.filterMap (es[·]?)).size = es.size := by rw [size_of_rows r1, r2.length_eq, hsl]
  rw [setRelay_eq]
  refine wpAny_bind (wpAny_setState_of ho hd fit ?_)
  dsimp only
  refine wp_if_neg (by rw [sizeLine_eq]; omega) ?_
  try refine wpAny_bind (wpAny_pure ?_)
  rw [e]
  dsimp only
  refine wpAny_bind (wp_if_neg (by rw [hs2]; simp) ?_)
  try refine wpAny_bind (wpAny_pure ?_)
  refine wpAny_pure ?_
  dsimp only
  refine wpAny_storeSet_of ho hd ?_ (by rw [hs2, hsl, sizeLine_eq]; omega)
  have sb : Heap.SameBut a s.heap (s.heap.update a (Obj.putSet (ord.filterMap (es[·]?)) t')) := Heap.SameBut.update ..
  refine hQ _ L2 (ord.filterMap (es[·]?)) (ep + 1) t' sb ⟨⟨_, store_at ho hd, ⟨hex.1, hex.2.1, hex.2.2⟩, rfl⟩, r1, T, (r2.map (·.2)).nodup_iff.mpr nd, fun p m => (key p (r2.mem_iff.mp m)).same ho hd sb, ep'.trans pl, by rw [el]; exact ld, ?_, by rw [r2.length_eq]; exact few⟩ r2
  rw [r2.length_eq, em]; exact hn
/-- ADDING -/
theorem add (R : Set1 w s.heap a L es ep t) {x : Addr} {k : NestedKey} (hx : At s.heap k x) (hu : A.units + 8 < cLine) (hfew : L.length + 1 < 8000) {Q : Bool → Shared → Prop}
    (hQ : ∀ b h' L' es' ep' t', Heap.SameBut a s.heap h' → Set1 w h' a L' es' ep' t' → (k ∈ L.map (·.2) → L' = L) → (k ∉ L.map (·.2) → L'.Perm ((x, k) :: L)) → Q b { s with heap := h' }) :
    wpAny (model P w) A (setAddHashed a (.ref x) (kh w k)) Q E s := by
  obtain ⟨o, ho, hex, hd⟩ := R.ob
  have hsl := R.size
  have hroom := R.room
  unfold setAddHashed
  refine wpAny_holding ?_
  rw [show (100000 : Nat) = 99999 + 1 from rfl, setAddHashedIn_succ]
  refine wpAny_bind (wpAny_setState_of ho hd R.fits ?_)
  dsimp only
  refine wp_if_neg (by simp [byScan, Value.scannable]) ?_
  try refine wpAny_bind (wpAny_pure ?_)
  refine wpAny_bind (seek0 R hx hu (fun hm => ?_) fun K hm free busy => ?_)
  · dsimp only
    exact wpAny_pure (hQ false s.heap L es ep t (Heap.SameBut.refl a s.heap) R (fun _ => rfl) fun z => absurd hm z)
  · dsimp only
    refine wpAny_bind (wpAny_setState_of ho hd R.fits ?_)
    dsimp only
    obtain ⟨q1, q2, q3, q4, q5, q6, q9⟩ := R.tab.put free busy rfl
    have pl1 : (t.put (way t.mask (kh w k) K)).1.plain = true := q6.trans R.plain
    generalize hpt : t.put (way t.mask (kh w k) K) = pt at q1 q3 q4 q5 q6 q9 pl1 ⊢
    obtain ⟨t1, p⟩ := pt
    dsimp only at q1 q3 q4 q5 q6 q9 pl1 ⊢
    subst q1
    first
      | (refine wpAny_bind ?_; refine wp_if_pos pl1 ?_; refine hashV_key k _ 8 _ hx.is hx.deep hx.num _ _ _ ?_)
      | refine wp_if_pos pl1 (wpAny_bind (hashV_key k _ 8 _ hx.is hx.deep hx.num _ _ _ ?_))
    simp only [if_true]
    generalize hpp : SetTable.below t.place (way t.mask (kh w k) K) = p at q2 q3 ⊢
    have rows1 : (SetTable.insertAt es p (kh w k, Value.ref x)).toList = rowsM w (L.take p ++ (x, k) :: L.drop p) := by
      rw [SetTable.toList_insertAt, rowsM_put, R.rows]
    have pm := put_perm L p (x, k)
    have hlen : (L.take p ++ (x, k) :: L.drop p).length = L.length + 1 := pm.length_eq
    rw [← hashM_put w L p x k] at q3
    have nd1 : ((L.take p ++ (x, k) :: L.drop p).map (·.2)).Nodup := (pm.map (·.2)).nodup_iff.mpr (List.nodup_cons.mpr ⟨hm, R.nd⟩)
    generalize SetTable.insertAt es p (kh w k, Value.ref x) = es1 at rows1 ⊢
    generalize L.take p ++ (x, k) :: L.drop p = L1 at pm hlen q3 nd1 rows1
    have hes : es1.size = L.length + 1 := (size_of_rows rows1).trans hlen
    refine wpAny_bind (wpAny_storeSet_of ho hd ?_ (by rw [hes, sizeLine_eq]; omega))
    have sb : Heap.SameBut a s.heap (s.heap.update a (Obj.putSet es1 t1)) := Heap.SameBut.update ..
    have ho1 := store_at (es' := es1) (t' := t1) ho hd
    generalize s.heap.update a (Obj.putSet es1 t1) = h1 at sb ho1 ⊢
    have key1 : ∀ p ∈ L1, At h1 p.2 p.1 := fun p hp => by
      rcases List.mem_cons.mp (pm.mem_iff.mp hp) with e | hp
      · rw [e]; exact hx.same ho hd sb
      · exact (R.key p hp).same ho hd sb
    have ld1 : w.params.followText "set-order" = true ∨ t1.led = true := by rw [q5]; exact R.led
    by_cases hf : t1.tooFull = true
    · first
        | (refine wpAny_bind ?_; refine wp_if_pos (by simp [hf]) ?_)
        | (refine wp_if_pos (by simp [hf]) ?_; refine wpAny_bind ?_)
      have full : (L.length + 1) * 5 ≥ t1.mask * 3 := by
        have z := hf
        unfold SetTable.tooFull at z
        rw [decide_eq_true_eq, q9, List.length_map] at z
        exact z
      rw [hsl]
      have hsz1 : t1.place.size = es1.size := by
        have z := q3.sz
        rw [List.length_map, hlen] at z
        rw [z, hes]
      have which : (t.mask = 7 ∧ L.length = 4) ∨ (t.mask = 31 ∧ L.length = 18) ∨ (t.mask = 127 ∧ L.length = 76) ∨ (t.mask = 511 ∧ L.length = 306) ∨ (t.mask = 2047 ∧ L.length = 1228) ∨ (t.mask = 8191 ∧ L.length = 4914) := by
        rw [q4] at full
        rcases R.tab.mok with e | e | e | e | e | e | e <;> rw [e] at full hroom <;> rw [e] <;> omega
      have go : ∀ M, SetTable.sizeAbove (SetTable.grown (L.length + 1)) - 1 = M → MaskB M → SetTable.sizeAbove (SetTable.grown (L.length + 1)) ≤ 32768 → (L.length + 1) * 5 < M * 3 →
          wpAny (model P w) A (setRelay a (SetTable.grown (L.length + 1))) (fun _ s' => wpAny (model P w) A (pure true) Q E s') E { s with heap := h1 } := fun M m1 m2 m3 m4 => by
        refine relay (s := { s with heap := h1 }) ho1 ⟨hex.1, hex.2.1, hex.2.2⟩ rfl rows1 hsz1 q3.dm (by rw [hes, q4]; rcases which with ⟨e, e2⟩ | ⟨e, e2⟩ | ⟨e, e2⟩ | ⟨e, e2⟩ | ⟨e, e2⟩ | ⟨e, e2⟩ <;> omega) nd1 key1 pl1 ld1 (by rw [hlen]; exact hfew) m1 m2 m3 (by rw [hlen]; exact m4) ?_
        intro h2 L2 es2 ep2 t2 sb2 R2 pm2
        exact wpAny_pure (hQ true h2 L2 es2 ep2 t2 (sb.trans sb2) R2 (fun z => absurd z hm) fun _ => pm2.trans pm)
      rcases which with ⟨_, e2⟩ | ⟨_, e2⟩ | ⟨_, e2⟩ | ⟨_, e2⟩ | ⟨_, e2⟩ | ⟨_, e2⟩
      · exact go 31 (by rw [e2, grown_4]) (.inr (.inl rfl)) (by rw [e2, grown_4]; decide) (by omega)
      · exact go 127 (by rw [e2, grown_18]) (.inr (.inr (.inl rfl))) (by rw [e2, grown_18]; decide) (by omega)
      · exact go 511 (by rw [e2, grown_76]) (.inr (.inr (.inr (.inl rfl)))) (by rw [e2, grown_76]; decide) (by omega)
      · exact go 2047 (by rw [e2, grown_306]) (.inr (.inr (.inr (.inr (.inl rfl))))) (by rw [e2, grown_306]; decide) (by omega)
      · exact go 8191 (by rw [e2, grown_1228]) (.inr (.inr (.inr (.inr (.inr (.inl rfl)))))) (by rw [e2, grown_1228]; decide) (by omega)
      · exact go 32767 (by rw [e2, grown_4914]) (.inr (.inr (.inr (.inr (.inr (.inr rfl)))))) (by rw [e2, grown_4914]; decide) (by omega)
    · first
        | refine wp_if_neg (by simp [hf]) ?_
        | (refine wpAny_bind ?_; refine wp_if_neg (by simp [hf]) ?_; refine wpAny_pure ?_)
      refine wpAny_pure (hQ true h1 L1 es1 (ep + 1) t1 sb ⟨⟨_, ho1, ⟨hex.1, hex.2.1, hex.2.2⟩, rfl⟩, rows1, q3, nd1, key1, pl1, ld1, ?_, by rw [hlen]; exact hfew⟩ (fun z => absurd z hm) fun _ => pm)
      have z := hf
      unfold SetTable.tooFull at z
      rw [decide_eq_true_eq, q9, List.length_map] at z
      rw [hlen]; omega
end
/-- what has come of the first i items -/
structure Came (ks : Ms) (i : Nat) (L : Ms) : Prop where
  sub : ∀ p ∈ L, p ∈ ks.take i
  all : ∀ p ∈ ks.take i, p.2 ∈ L.map (·.2)
  len : L.length ≤ i
theorem Came.zero (ks : Ms) : Came ks 0 [] := ⟨fun _ z => by simp at z, fun _ z => by simp at z, Nat.le_refl _⟩
theorem Came.next {ks L L' : Ms} {i : Nat} {x : Addr × NestedKey} (g : Came ks i L) (e : ks[i]? = some x) (c1 : x.2 ∈ L.map (·.2) → L' = L) (c2 : x.2 ∉ L.map (·.2) → L'.Perm (x :: L)) : Came ks (i + 1) L' := by
  have tk : ks.take (i + 1) = ks.take i ++ [x] := take_next e
  by_cases c : x.2 ∈ L.map (·.2)
  · rw [c1 c]
    refine ⟨fun p m => by rw [tk]; exact List.mem_append_left _ (g.sub p m), fun p m => ?_, Nat.le_succ_of_le g.len⟩
    rw [tk] at m
    rcases List.mem_append.mp m with z | z
    · exact g.all p z
    · rw [List.mem_singleton.mp z]; exact c
  · have pm := c2 c
    refine ⟨fun p m => ?_, fun p m => ?_, by rw [pm.length_eq]; exact Nat.succ_le_succ g.len⟩
    · rw [tk]
      rcases List.mem_cons.mp (pm.mem_iff.mp m) with z | z
      · exact List.mem_append_right _ (List.mem_singleton.mpr z)
      · exact List.mem_append_left _ (g.sub p z)
    · rw [(pm.map (·.2)).mem_iff, List.map_cons]
      rw [tk] at m
      rcases List.mem_append.mp m with z | z
      · exact List.mem_cons_of_mem _ (g.all p z)
      · rw [List.mem_singleton.mp z]; exact List.mem_cons_self
section
variable {P : Program} {w : World} {A : Around} {E : Value → Shared → Prop} {s : Shared}
theorem Set1.keep {h h' : Heap} {a : Addr} {L : Ms} {es : Array (Int × Value)} {ep : Nat} {t : SetTable} (R : Set1 w h a L es ep t) (f : ∀ o, h.get? a = some o → h'.get? a = some o) (k : ∀ p ∈ L, At h' p.2 p.1) : Set1 w h' a L es ep t := by
  obtain ⟨o, ho, r⟩ := R.ob
  exact ⟨⟨o, f o ho, r⟩, R.rows, R.tab, R.nd, k, R.plain, R.led, R.room, R.few⟩
/-- a new set's object -/
abbrev newSet (w : World) : Obj := { cls := .type "set", dict := none, data := .set #[] 0 (.fresh 0 0 (!w.params.followText "set-order")) }
theorem Set1.new {h : Heap} {a : Addr} (ho : h.get? a = some (newSet w)) : Set1 w h a [] #[] 0 (.fresh 0 0 (!w.params.followText "set-order")) := by
  refine ⟨⟨_, ho, ⟨rfl, rfl, rfl⟩, rfl⟩, rfl, ⟨List.Pairwise.nil, rfl, rfl, .inl rfl, fun x z => (by cases z), fun i x j z => (by simp at z)⟩, List.nodup_nil, fun p z => (by cases z), rfl, ?_, ?_, ?_⟩
  · show _ ∨ (!w.params.followText "set-order") = true
    cases w.params.followText "set-order"
    · exact .inr rfl
    · exact .inl rfl
  · show 0 * 5 < 7 * 3
    decide
  · show 0 < 8000
    decide
/-- set.update's loop -/
theorem updates {I : Addr} {fp wr : List Addr} {G : Array GenState → Array GenState → Prop} {n : Nat} {Pv : Nat → Value → Prop} {St : Nat → Shared → Prop} {R : Result → Shared → Prop}
    (W : WalksS P w A.in1 I fp wr G n Pv St) (S : Addr) (sf : S ∉ fp) (ks : Ms) (hn : n = ks.length) (few : ks.length < 8000) (val : ∀ i v, Pv i v → ∃ p, ks[i]? = some p ∧ v = .ref p.1)
    (h0 : Heap) (hk : ∀ p ∈ ks, At h0 p.2 p.1) (s0 : h0.get? S = none) (w0 : ∀ b ∈ wr, h0.get? b = none) (hu : A.in1.units + 8 < cLine) :
    ∀ (k i : Nat) (s : Shared), n - i = k → i ≤ n → St i s → (∀ b o, h0.get? b = some o → s.heap.get? b = some o) → (∃ L es ep t, Set1 w s.heap S L es ep t ∧ Came ks i L) →
      (∀ s' L es ep t, Moved (S :: wr) G s s' → Set1 w s'.heap S L es ep t → Came ks n L → (∀ b o, h0.get? b = some o → s'.heap.get? b = some o) → R (.ok (.ret .none)) s') →
      codeAny (model P w) A (.builtin "set.update.loop" ⟨[.ref S, .ref I], []⟩) R s := by
  have sw : S ∉ wr := fun z => sf (W.sub _ z)
  have wide : ∀ b ∈ wr, b ∈ S :: wr := fun b z => List.mem_cons_of_mem _ z
  have old : ∀ {s s' : Shared}, Moved wr G s s' → (∀ b o, h0.get? b = some o → s.heap.get? b = some o) → ∀ b o, h0.get? b = some o → s'.heap.get? b = some o := fun hm f b o e =>
    hm.heap b o (fun z => by rw [w0 b z] at e; cases e) (f b o e)
  have memk : ∀ {i : Nat} {L : Ms}, Came ks i L → ∀ p ∈ L, p ∈ ks := fun g p hp => List.mem_of_mem_take (g.sub p hp)
  intro k
  induction k with
  | zero =>
    intro i s hk' hi hst f ⟨L, es, ep, t, hS, g⟩ hR
    obtain rfl : i = n := by omega
    refine codeAny_builtin F.entry_set_update_loop ?_
    rw [Around.under_plainId F.plain_set_update_loop _]
    show wpAny _ A.in1 (pyNext (.ref I) >>= _) _ _ s
    refine wpAny_bind (W.done s _ _ hst fun s' hm => ?_)
    show wpAny _ A.in1 (ret Value.none) _ _ s'
    exact wpAny_pure (hR s' L es ep t (hm.mono wide) (hS.keep (fun o e => hm.heap S o sw e) fun p hp => (hk p (memk g p hp)).keep (old hm f)) g (old hm f))
  | succ k ih =>
    intro i s hk' hi hst f ⟨L, es, ep, t, hS, g⟩ hR
    have lt : i < n := by omega
    refine codeAny_builtin F.entry_set_update_loop ?_
    rw [Around.under_plainId F.plain_set_update_loop _]
    show wpAny _ A.in1 (pyNext (.ref I) >>= _) _ _ s
    refine wpAny_bind (W.item i s _ _ lt hst fun v s' hP hst' hm => ?_)
    obtain ⟨p, hp, rfl⟩ := val i v hP
    have f' := old hm f
    have hS' : Set1 w s'.heap S L es ep t := hS.keep (fun o e => hm.heap S o sw e) fun q hq => (hk q (memk g q hq)).keep f'
    have hx : At s'.heap p.2 p.1 := (hk p (List.mem_of_getElem? hp)).keep f'
    show wpAny _ A.in1 (holding [Value.ref p.1] (setAdd S (.ref p.1)) >>= _) _ _ s'
    refine wpAny_bind (wpAny_holding ?_)
    unfold setAdd
    refine wpAny_holding (wpAny_bind ((nestedKind P w).pyHash hu hx.kind ?_))
    refine add (s := { s' with toks := s'.toks + p.2.draws }) hS' hx hu (by have := g.len; omega) fun b h' L' es' ep' t' sb hS2 c1 c2 => ?_
    have g' := g.next hp c1 c2
    have f2 : ∀ b o, h0.get? b = some o → h'.get? b = some o := fun b o e => (sb.2 b (fun z => by rw [z, s0] at e; cases e)).trans (f' b o e)
    refine wpAny_pure ⟨plainId_quiet F.plain_set_update_loop _, ih (i + 1) _ (by omega) lt (W.frame _ s' _ _ hst' (Nat.le_add_right _ _) fun b hb o e => ?_) f2 ⟨L', es', ep', t', hS2, g'⟩ fun s2 L2 es2 ep2 t2 hm2 hS3 g2 f3 => ?_⟩
    · rw [sb.2 b (fun z : b = S => sf (by rw [← z]; exact hb))]; exact e
    · refine hR s2 L2 es2 ep2 t2 (Moved.trans W.gtrans ((hm.mono wide).then_heap (Nat.le_add_right _ _) fun b o hb e => ?_) hm2) hS3 g2 f3
      rw [sb.2 b (fun z : b = S => hb (by rw [z]; exact List.mem_cons_self))]; exact e
set_option maxHeartbeats 8000000 in
/-- set(xs) -/
theorem call_set {l : Addr} {items : Array Value} (ks : Ms) {Q : Value → Shared → Prop} (hh : A.handled = none) (hl : s.heap.IsList l items) (hit : items.toList = ks.map fun p => Value.ref p.1)
    (hk : ∀ p ∈ ks, At s.heap p.2 p.1) (few : ks.length < 8000) (hu : A.units + 20 < cLine)
    (hQ : ∀ (h' : Heap) (tk : Nat) L es ep t, Set1 w h' s.heap.objs.size L es ep t → Came ks ks.length L → (∀ b o, s.heap.get? b = some o → h'.get? b = some o) → Q (.ref s.heap.objs.size) { s with heap := h', toks := tk }) :
    wpAny (model P w) A (call (.type "set") [.ref l]) Q E s := by
  have isz : items.size = ks.length := by
    have q := congrArg List.length hit
    rw [Array.length_toList, List.length_map] at q; exact q
  obtain ⟨c, tl, hmro⟩ := F.called_set.mro
  have hmade := F.called_set.made
  have hsub := F.called_set.sub
  refine wpAny_call (codeAny_of_tree ?_)
  show wpAny _ _ (callAny (.type "set") _) _ _ _
  refine wpAny_pure ⟨Code.quiet_builtin _ (by decide +kernel), codeAny_builtin F.entry_type_call ?_⟩
  rw [Around.under_plain (weight_type_call_type "set" [.ref l] []) rfl]
  have h1 := F.called_set.notType
  have h2 := F.called_set.canCreate
  have hct := F.typeCall_set_1 (.ref l)
  repeat (any_goals (first | assumption | wp_step))
  refine codeAny_mono (code_set_led1 (.ref l) (E := E) (Q₁ := fun obj s₁ => obj = .ref s.heap.objs.size ∧ s₁ = { s with heap := s.heap.push (newSet w) }) ⟨rfl, rfl⟩) fun r s₁ hr => ?_
  cases r with
  | error e => exact hr
  | ok fl =>
    cases fl with
    | ret obj =>
      obtain ⟨rfl, rfl⟩ := hr
      have hS : (s.heap.push (newSet w)).get? s.heap.objs.size = some (newSet w) := Heap.get?_push_size _ rfl
      have hT : Shared.TypeIs { s with heap := s.heap.push (newSet w) } (.ref s.heap.objs.size) "set" := ⟨_, hS, rfl⟩
      have hli := F.called_set.init.lookup
      have hbi := F.called_set.init.bind (.ref s.heap.objs.size)
      repeat (any_goals (first | assumption | wp_step))
      refine codeAny_mono (codeAny_call_builtin (R := wants (fun r s₂ => r = .none ∧ ∃ h' tk L es ep t, s₂ = { s with heap := h', toks := tk } ∧ Set1 w h' s.heap.objs.size L es ep t ∧ Came ks ks.length L ∧
          (∀ b o, s.heap.get? b = some o → h'.get? b = some o)) E) F.called_set.init.plain F.entry_set_init (check_set_init_1 hT ?_)) fun r₂ s₂ hr₂ => ?_
      · obtain ⟨ol, hol, hcl, nl, hdl⟩ := hl
        obtain ⟨ocls, odict, odata, oslots⟩ := ol
        simp only at hcl hdl
        subst hcl; subst hdl
        have hol' : (s.heap.push (newSet w)).get? l = some { cls := .type "list", dict := odict, data := .seq items nl, slots := oslots } := Heap.get?_push_of_some _ hol
        have hsls := F.sub_list_set
        have hslf := F.sub_list_frozenset
        have hne : (Value.type "list" == Value.type "dict") = false := by decide
        have hl1 : (s.heap.push (newSet w)).IsList l items := ⟨_, hol', rfl, nl, rfl⟩
        unfold Builtin.«set.__init__» noKeywords Builtin.Frozenset.updateFrom
        generalize hPI : pyIter = PI
        wp_walk
        subst hPI
        refine wpAny_pyIter_list hl1 (wpAny_bind (wpAny_runValue ?_))
        have hlS : l < s.heap.objs.size := Heap.lt_size hol
        have hh3 : A.in1.in1.in1.handled = none := by simp [hh]
        have hz1 : (s.heap.push (newSet w)).objs.size = s.heap.objs.size + 1 := Heap.size_push ..
        have neI : l ≠ (s.heap.push (newSet w)).objs.size := by rw [hz1]; exact Nat.ne_of_lt (Nat.lt_succ_of_lt hlS)
        have sf : s.heap.objs.size ∉ [(s.heap.push (newSet w)).objs.size, l] := by
          rw [hz1]; simp only [List.mem_cons, List.not_mem_nil, or_false, not_or]
          exact ⟨Nat.ne_of_lt (Nat.lt_succ_self _), Nat.ne_of_gt hlS⟩
        have val : ∀ (i : Nat) (v : Value), items[i]? = some v → ∃ p, ks[i]? = some p ∧ v = .ref p.1 := fun i v hv => by
          have q : items.toList[i]? = some v := by rw [Array.getElem?_toList]; exact hv
          rw [hit, List.getElem?_map] at q
          cases hq : ks[i]? with
          | none => rw [hq] at q; cases q
          | some p => rw [hq] at q; exact ⟨p, rfl, (Option.some.inj q).symm⟩
        have gone : ∀ b, s.heap.objs.size ≤ b → s.heap.get? b = none := fun b hb => by
          cases q : s.heap.get? b with
          | none => rfl
          | some o => exact absurd (Nat.lt_of_lt_of_le (Heap.lt_size q) hb) (Nat.lt_irrefl _)
        refine updates ((Walks.list hh3 _ l neI items).toS) s.heap.objs.size
          sf ks isz few val s.heap hk (gone _ (Nat.le_refl _)) (fun b hb => gone b (by rw [List.mem_singleton.mp hb, hz1]; exact Nat.le_succ _)) (by simp only [Around.in1_units]; omega) (items.size - 0) 0 _ (by omega) (Nat.zero_le _)
          ⟨⟨_, Heap.get?_push_size _ rfl, rfl, rfl⟩, (hl1.push _)⟩ (fun b o e => Heap.get?_push_of_some _ (Heap.get?_push_of_some _ e)) ?hS0 ?hR
        case hS0 => exact ⟨[], #[], 0, _, Set1.new (Heap.get?_push_of_some _ hS), Came.zero ks⟩
        case hR =>
          intro s' L es ep t hm hS' g' f
          obtain ⟨h', g2, d', tk', os'⟩ := s'
          have eg : g2 = s.gens := hm.gens
          have ed : d' = s.drawn := hm.drawn
          have eo : os' = s.os := hm.os
          subst eg; subst ed; subst eo
          show wpAny _ _ _ _ _ _
          refine wpAny_pure ?_
          show wpAny _ _ (ret Value.none) _ _ _
          rw [isz] at g'
          exact wpAny_pure ⟨rfl, h', tk', L, es, ep, t, rfl, hS', g', f⟩
      · cases r₂ with
        | error e => exact hr₂
        | ok fl₂ =>
          cases fl₂ with
          | ret r =>
            obtain ⟨rfl, h', tk, L, es, ep, t, rfl, hS', g', f⟩ := hr₂
            repeat (any_goals (first | assumption | wp_step))
            exact hQ _ _ _ _ _ _ hS' g' f
          | _ => exact hr₂.elim
    | _ => exact hr.elim
set_option maxHeartbeats 8000000 in
/-- set(xs), xs a tuple -/
theorem call_setT {l : Addr} {items : Array Value} (ks : Ms) {Q : Value → Shared → Prop} (hh : A.handled = none) (hl : s.heap.IsTuple l items) (hit : items.toList = ks.map fun p => Value.ref p.1)
    (hk : ∀ p ∈ ks, At s.heap p.2 p.1) (few : ks.length < 8000) (hu : A.units + 20 < cLine)
    (hQ : ∀ (h' : Heap) (tk : Nat) L es ep t, Set1 w h' s.heap.objs.size L es ep t → Came ks ks.length L → (∀ b o, s.heap.get? b = some o → h'.get? b = some o) → Q (.ref s.heap.objs.size) { s with heap := h', toks := tk }) :
    wpAny (model P w) A (call (.type "set") [.ref l]) Q E s := by
  have isz : items.size = ks.length := by
    have q := congrArg List.length hit
    rw [Array.length_toList, List.length_map] at q; exact q
  obtain ⟨c, tl, hmro⟩ := F.called_set.mro
  have hmade := F.called_set.made
  have hsub := F.called_set.sub
  refine wpAny_call (codeAny_of_tree ?_)
  show wpAny _ _ (callAny (.type "set") _) _ _ _
  refine wpAny_pure ⟨Code.quiet_builtin _ (by decide +kernel), codeAny_builtin F.entry_type_call ?_⟩
  rw [Around.under_plain (weight_type_call_type "set" [.ref l] []) rfl]
  have h1 := F.called_set.notType
  have h2 := F.called_set.canCreate
  have hct := F.typeCall_set_1 (.ref l)
  repeat (any_goals (first | assumption | wp_step))
  refine codeAny_mono (code_set_led1 (.ref l) (E := E) (Q₁ := fun obj s₁ => obj = .ref s.heap.objs.size ∧ s₁ = { s with heap := s.heap.push (newSet w) }) ⟨rfl, rfl⟩) fun r s₁ hr => ?_
  cases r with
  | error e => exact hr
  | ok fl =>
    cases fl with
    | ret obj =>
      obtain ⟨rfl, rfl⟩ := hr
      have hS : (s.heap.push (newSet w)).get? s.heap.objs.size = some (newSet w) := Heap.get?_push_size _ rfl
      have hT : Shared.TypeIs { s with heap := s.heap.push (newSet w) } (.ref s.heap.objs.size) "set" := ⟨_, hS, rfl⟩
      have hli := F.called_set.init.lookup
      have hbi := F.called_set.init.bind (.ref s.heap.objs.size)
      repeat (any_goals (first | assumption | wp_step))
      refine codeAny_mono (codeAny_call_builtin (R := wants (fun r s₂ => r = .none ∧ ∃ h' tk L es ep t, s₂ = { s with heap := h', toks := tk } ∧ Set1 w h' s.heap.objs.size L es ep t ∧ Came ks ks.length L ∧
          (∀ b o, s.heap.get? b = some o → h'.get? b = some o)) E) F.called_set.init.plain F.entry_set_init (check_set_init_1 hT ?_)) fun r₂ s₂ hr₂ => ?_
      · obtain ⟨ol, hol, hcl, nl, hdl⟩ := hl
        obtain ⟨ocls, odict, odata, oslots⟩ := ol
        simp only at hcl hdl
        subst hcl; subst hdl
        have hol' : (s.heap.push (newSet w)).get? l = some { cls := .type "tuple", dict := odict, data := .seq items nl, slots := oslots } := Heap.get?_push_of_some _ hol
        have hsls := F.sub_tuple_set
        have hslf := F.sub_tuple_frozenset
        have hne : (Value.type "tuple" == Value.type "dict") = false := by decide
        have hl1 : (s.heap.push (newSet w)).IsTuple l items := ⟨_, hol', rfl, nl, rfl⟩
        unfold Builtin.«set.__init__» noKeywords Builtin.Frozenset.updateFrom
        generalize hPI : pyIter = PI
        wp_walk
        subst hPI
        refine wpAny_pyIter_tuple hl1 (wpAny_bind (wpAny_runValue ?_))
        have hlS : l < s.heap.objs.size := Heap.lt_size hol
        have hh3 : A.in1.in1.in1.handled = none := by simp [hh]
        have hz1 : (s.heap.push (newSet w)).objs.size = s.heap.objs.size + 1 := Heap.size_push ..
        have neI : l ≠ (s.heap.push (newSet w)).objs.size := by rw [hz1]; exact Nat.ne_of_lt (Nat.lt_succ_of_lt hlS)
        have sf : s.heap.objs.size ∉ [(s.heap.push (newSet w)).objs.size, l] := by
          rw [hz1]; simp only [List.mem_cons, List.not_mem_nil, or_false, not_or]
          exact ⟨Nat.ne_of_lt (Nat.lt_succ_self _), Nat.ne_of_gt hlS⟩
        have val : ∀ (i : Nat) (v : Value), items[i]? = some v → ∃ p, ks[i]? = some p ∧ v = .ref p.1 := fun i v hv => by
          have q : items.toList[i]? = some v := by rw [Array.getElem?_toList]; exact hv
          rw [hit, List.getElem?_map] at q
          cases hq : ks[i]? with
          | none => rw [hq] at q; cases q
          | some p => rw [hq] at q; exact ⟨p, rfl, (Option.some.inj q).symm⟩
        have gone : ∀ b, s.heap.objs.size ≤ b → s.heap.get? b = none := fun b hb => by
          cases q : s.heap.get? b with
          | none => rfl
          | some o => exact absurd (Nat.lt_of_lt_of_le (Heap.lt_size q) hb) (Nat.lt_irrefl _)
        refine updates ((Walks.tuple hh3 _ l neI items).toS) s.heap.objs.size
          sf ks isz few val s.heap hk (gone _ (Nat.le_refl _)) (fun b hb => gone b (by rw [List.mem_singleton.mp hb, hz1]; exact Nat.le_succ _)) (by simp only [Around.in1_units]; omega) (items.size - 0) 0 _ (by omega) (Nat.zero_le _)
          ⟨⟨_, Heap.get?_push_size _ rfl, rfl, rfl⟩, (hl1.push _)⟩ (fun b o e => Heap.get?_push_of_some _ (Heap.get?_push_of_some _ e)) ?hS0 ?hR
        case hS0 => exact ⟨[], #[], 0, _, Set1.new (Heap.get?_push_of_some _ hS), Came.zero ks⟩
        case hR =>
          intro s' L es ep t hm hS' g' f
          obtain ⟨h', g2, d', tk', os'⟩ := s'
          have eg : g2 = s.gens := hm.gens
          have ed : d' = s.drawn := hm.drawn
          have eo : os' = s.os := hm.os
          subst eg; subst ed; subst eo
          show wpAny _ _ _ _ _ _
          refine wpAny_pure ?_
          show wpAny _ _ (ret Value.none) _ _ _
          rw [isz] at g'
          exact wpAny_pure ⟨rfl, h', tk', L, es, ep, t, rfl, hS', g', f⟩
      · cases r₂ with
        | error e => exact hr₂
        | ok fl₂ =>
          cases fl₂ with
          | ret r =>
            obtain ⟨rfl, h', tk, L, es, ep, t, rfl, hS', g', f⟩ := hr₂
            repeat (any_goals (first | assumption | wp_step))
            exact hQ _ _ _ _ _ _ hS' g' f
          | _ => exact hr₂.elim
    | _ => exact hr.elim
end
end DY.KS

/-! A set whose table is plain, gathered into a list: any number of members that fits. -/
namespace DY.KS
open PySem PySem.Spec PyProof.Rows L2
section
variable {P : Program} {w : World} {A : Around} {E : Value → Shared → Prop} {s : Shared} {a : Addr} {xs : Array (Int × Value)} {ep : Nat} {t : SetTable}
theorem iter_wide {Q : Value → Shared → Prop} (S : SetAt s.heap a xs ep t) (fit : t.fits xs.size = true) (pl : t.plain = true) (up : Ris t.place.toList) (led : w.params.followText "set-order" = true ∨ t.led = true)
    (K : ∀ s₂ I, SetIt P w s a xs s₂ I → Q (.ref I) s₂) : wpAny (model P w) A (pyIter (.ref a)) Q E s := by
  obtain ⟨ob, ho, cl, dt⟩ := id S
  have old : a < s.heap.objs.size := Heap.lt_size ho
  have away : a ≠ s.heap.objs.size := Nat.ne_of_lt old
  have ty : s.TypeIs (.ref a) "set" := ⟨ob, ho, cl⟩
  have two : ∀ {b : Addr}, b ∈ [s.heap.objs.size, a] → b = a ∨ s.heap.objs.size ≤ b := fun {b} m => by
    simp only [List.mem_cons, List.not_mem_nil, or_false] at m
    exact m.elim (fun e => .inr (e ▸ Nat.le_refl _)) .inl
  refine wpAny_pyIter_slot ty F.slot_set_iter (wpAny_call_entry F.slot_set_iter ty entry_s_iter ?_ (F.args_set_iter_1 _))
  unfold Builtin.«frozenset.__iter__»
  refine wpAny_bind (m := Builtin.Frozenset.slot0 "__iter__" _) (wpAny_of_eq (a := a) (by rfl) ?_)
  refine wpAny_bind (m := Builtin.Frozenset.sizeOf a) ?_
  unfold Builtin.Frozenset.sizeOf
  refine wpAny_bind (wpAny_setEntries_of ho dt fit (wpAny_pure ?_))
  first | refine wpAny_bind (setDrawn_at S fit ?_) | refine wpAny_bind (wpAny_bind (setDrawn_at S fit ?_))
  have quiet : (!t.plain && decide (xs.size > 1)) = false := by rw [pl]; rfl
  rcases tx : w.params.followText "set-order" with _ | _
  · have ld : t.led = true := led.resolve_left (by simp [tx])
    rw [quiet]
    refine wp_if_neg (by simp) ?_
    first | refine wpAny_bind (wpAny_pure ?_) | refine wpAny_pure ?_
    refine wpAny_bind (wpAny_setEpoch_of ho dt fit ?_)
    refine wpAny_bind (wpAny_newObj_type (wpAny_pure ⟨_, rfl, "set_iterator", _, ⟨_, Heap.get?_push_size _ rfl, rfl⟩, slot_si_next.lookup, ?_⟩))
    refine K _ _ (SetIt.of (out := xs.toList.map (·.2)) (fun A1 h1 => walks_led (P := P) (ep := ep) h1 away fit up tx quiet ld) (by simp) (fun b u e => Heap.get?_push_of_some _ e) rfl rfl rfl (Nat.le_refl _) (fun b m => two m) (.refl _) (fun j v e => ?_) ⟨⟨_, Heap.get?_push_size _ rfl, rfl, rfl⟩, S.at fun u e => Heap.get?_push_of_some _ e⟩)
    simpa using e
  · refine wp_if_neg (by simp) ?_
    first | refine wpAny_bind (wpAny_pure ?_) | refine wpAny_pure ?_
    refine wpAny_bind (wpAny_setEpoch_of ho dt fit ?_)
    refine wpAny_bind (wpAny_newObj_type (wpAny_pure ⟨_, rfl, "set_iterator", _, ⟨_, Heap.get?_push_size _ rfl, rfl⟩, slot_si_next.lookup, ?_⟩))
    refine K _ _ (SetIt.of (out := (pickOrder (w.params.setOrder a ep) xs).toList.map (·.2)) (fun A1 h1 => walks_text (P := P) (ep := ep) h1 away fit tx) (by simp) (fun b u e => Heap.get?_push_of_some _ e) rfl rfl rfl (Nat.le_refl _) (fun b m => two m) ((pick_perm _ xs).map _) (fun j v e => ?_) ⟨⟨_, Heap.get?_push_size _ rfl, rfl, rfl⟩, S.at fun u e => Heap.get?_push_of_some _ e⟩)
    simpa using e
theorem collect_wide {Q : List Value → Shared → Prop} (hh : A.handled = none) (S : SetAt s.heap a xs ep t) (fit : t.fits xs.size = true) (pl : t.plain = true) (room : xs.size ≤ sizeLine) (up : Ris t.place.toList) (led : w.params.followText "set-order" = true ∨ t.led = true)
    (K : ∀ s' out, (∀ b o, s.heap.get? b = some o → s'.heap.get? b = some o) → s.heap.objs.size ≤ s'.heap.objs.size → s'.gens = s.gens → s'.os = s.os → out.Perm (xs.toList.map (·.2)) → Q out s') : wpAny (model P w) A (collect (.ref a)) Q E s := by
  obtain ⟨ob, ho, cl, dt⟩ := id S
  have old : a < s.heap.objs.size := Heap.lt_size ho
  have away : s.heap.objs.size ≠ a := Nat.ne_of_gt old
  generalize hn : s.heap.objs.size = n at *
  unfold collect
  refine wpAny_bind (wpAny_runValue (codeAny_builtin F.entry_proto_collect ?_))
  rw [Around.under_plainId F.plain_proto_collect _]
  show wpAny _ A.in1 (newList [] >>= fun l => again (.builtin "list.__iadd__" ⟨[l, .ref a], []⟩)) _ _ s
  refine wpAny_bind (wpAny_newObj_type ?_)
  rw [hn]
  refine wpAny_pure ⟨plainId_quiet F.plain_list_iadd _, codeAny_builtin F.entry_list_iadd ?_⟩
  rw [Around.under_plainId F.plain_list_iadd _]
  generalize hob : ({ cls := .type "list", data := .seq ([] : List Value).toArray } : Obj) = lo
  have new1 : (s.heap.push lo).get? n = some lo := by
    rw [← hob, ← hn]; exact Heap.get?_push_size _ rfl
  have S1 : SetAt (s.heap.push lo) a xs ep t := S.at fun u e => Heap.get?_push_of_some _ e
  have size1 : (s.heap.push lo).objs.size = n + 1 := hn ▸ size_push' _ _
  show wpAny _ A.in1 (Builtin.List.listExtendWith (.ref n) (.ref a) (.ref n)) _ _ _
  unfold Builtin.List.listExtendWith
  refine wpAny_bind (wpAny_typeOf (T := "set") ⟨ob, Heap.get?_push_of_some _ ho, cl⟩ ?_)
  simp only [show Builtin.List.listSameRef (.ref n) (.ref a) = false by simp [Builtin.List.listSameRef, away], show (Value.type "set" == Value.type "list") = false by decide, show (Value.type "set" == Value.type "tuple") = false by decide, Bool.or_false, Bool.false_eq_true, if_false]
  refine wpAny_bind (iter_wide (s := { s with heap := s.heap.push lo }) S1 fit pl up led fun s₂ I it => ?_)
  obtain ⟨fp, St, out, Pv, k2, g2, o2, t2, hI, hfp, pm, wk, hPv, st0⟩ := it
  have hI1 : n + 1 ≤ I := size1 ▸ hI
  have nfp : n ∉ fp := fun m => (hfp _ m).elim away fun z => by
    have z : n + 1 ≤ n := size1 ▸ z
    omega
  have ho2 := k2 a ob (Heap.get?_push_of_some _ ho)
  have ty2 : s₂.TypeIs (.ref a) "set" := ⟨ob, ho2, cl⟩
  refine wpAny_bind (wpAny_holding ?_)
  unfold Builtin.List.listLengthHint
  refine wpAny_bind (wpAny_specialOf ty2 F.slot_set_len.lookup ?_)
  (generalize hid : ("set.__len__" : String) = id0; (fail_if_success (clear hid id0)); wp_delta; rw [show splitId id0 = some ("set", "__len__") from by subst hid; decide +kernel]; subst hid)
  refine wpAny_bind (wpAny_isInstance (b := true) ty2 sub_set_self ?_)
  show wpAny _ A.in1 (typeOf (.ref a) >>= _) _ _ _
  refine wpAny_bind (wpAny_typeOf ty2 (wpAny_pure ?_))
  show wpAny _ A.in1 (rule "list.extend.makes-room" >>= fun _ => Builtin.List.listTouch (.ref n) >>= fun _ => again (.builtin "list.extend.loop" ⟨[.ref n, .ref I, .ref n], []⟩)) _ _ _
  refine wpAny_bind (wpAny_rule ?_)
  have new2 := k2 _ _ new1
  subst hob
  refine wpAny_bind ?_
  show wpAny _ A.in1 (updateSeq n (·.push .none) >>= fun _ => updateSeq n (·.pop)) _ _ _
  refine wpAny_bind (wpAny_updateSeq new2 rfl ?_)
  have new3 := Heap.get?_update_self (Obj.mapSeq (·.push Value.none)) new2 rfl
  refine wpAny_updateSeq new3 rfl ?_
  have new4 := Heap.get?_update_self (Obj.mapSeq (·.pop)) new3 rfl
  have rest : ∀ b u, b ≠ n → s₂.heap.get? b = some u → ((s₂.heap.update n (Obj.mapSeq (·.push Value.none))).update n (Obj.mapSeq (·.pop))).get? b = some u := fun b u hb e => by
    rw [Heap.get?_update_other _ _ (Ne.symm hb), Heap.get?_update_other _ _ (Ne.symm hb)]; exact e
  have few : out.length ≤ sizeLine := by
    have := pm.length_eq
    simp only [List.length_map, Array.length_toList] at this
    omega
  have W := wk A.in1 hh
  have st1 := W.frame 0 _ ((s₂.heap.update n (Obj.mapSeq (·.push Value.none))).update n (Obj.mapSeq (·.pop))) st0 fun b hb u e => rest b u (fun z => nfp (z ▸ hb)) e
  refine wpAny_pure ⟨plainId_quiet F.plain_extend_loop _, codeAny_extend_loopS W.toS few _ nfp _ out.length 0 _ _ _ rfl (Nat.zero_le _) st1 new4 (ItemsOf.nil Pv) fun s' acc c' mv at' all => ?_⟩
  show wpAny _ A (load n >>= _) _ _ s'
  refine wpAny_bind (wpAny_load at' (wpAny_pure ?_))
  show Q acc.toList s'
  rw [items_out all hPv]
  refine K s' out (fun b u e => ?_) (Nat.le_of_lt (Heap.lt_size at')) (mv.gens.trans g2) (mv.os.trans o2) pm
  have lt : b < n := hn ▸ Heap.lt_size e
  refine mv.heap b u (fun z => ?_) (rest b u (Nat.ne_of_lt lt) (k2 b u (Heap.get?_push_of_some _ e)))
  simp only [List.mem_cons, List.not_mem_nil, or_false] at z
  rcases z with z | z
  · exact Nat.lt_irrefl n (z ▸ lt)
  · exact Nat.lt_irrefl n (Nat.lt_of_lt_of_le (Nat.lt_succ_self n) (Nat.le_trans hI1 (Nat.le_of_lt (z ▸ lt))))
end
end DY.KS

/-! sorted of tuples of which some may be empty. -/
namespace PySem.SeqAt
theorem call_tuple_lt {A : Around} {s : Shared} {prog : Program} {w : World} {E : Value → Shared → Prop} {Q : Value → Shared → Prop} {l b : Addr} {items items2 : Array Value} {e r : Nat → Bool} (hl : s.heap.IsTuple l items) (hb : s.heap.IsTuple b items2)
    (he : ∀ j (h1 : j < items.size) (h2 : j < items2.size), EqAt A.in1 s items[j] items2[j] (e j)) (hr : ∀ j (h1 : j < items.size) (h2 : j < items2.size), e j = false → RcLt A.in1 s items[j] items2[j] (r j))
    (h : Q (.bool (firstLt e r (decide (items.size < items2.size)) (List.range (min items.size items2.size)))) s) : wpAny (model prog w) A (call (.builtin "tuple.__lt__") [.ref l, .ref b]) Q E s := by
  obtain ⟨⟨cls, dd, data, sl⟩, ho, hc, n, hd⟩ := id hl
  obtain ⟨⟨cls2, dd2, data2, sl2⟩, ho2, hc2, n2, hd2⟩ := id hb
  simp only at hc hd hc2 hd2
  subst hc hd hc2 hd2
  exact call_meets F.slot_tuple_lt ⟨_, ho, rfl⟩ F.entry_tuple_lt (F.args_tuple_lt_2 _ _) (tuple_ltAt l b items items2 n n2 dd dd2 sl sl2 e r) ⟨ho, ho2, he, hr, h⟩
end PySem.SeqAt
namespace PySem.W
open PySem PySem.Calls PyProof.Rows PySem.SeqAt
section
variable {prog : Program} {w : World} {A : Around} {E : Value → Shared → Prop} {s : Shared}
/-- two tuples against one another, of one type -/
theorem oneLt_tups {xs ys : List PyData} {a b : Value} {as bs : List Addr} {Q : Bool → Shared → Prop} (ra : Reads s.heap a (.tuple xs) as) (rb : Reads s.heap b (.tuple ys) bs) (hal : alikeAll xs ys = true)
    (hu : A.units + min (PyData.tuple xs).depth (PyData.tuple ys).depth < cLine) (hq : Q (dataLt (.tuple xs) (.tuple ys)) s) : wpAny (model prog w) A (oneLt' true a b) Q E s := by
  cases ra with
  | @tuple l o vs n _ as₁ h1 h2 h3 h4 =>
    cases rb with
    | @tuple l' o' vs' n' _ bs₁ k1 k2 k3 k4 =>
      have n1 : vs.size = xs.length := by simpa using ReadsAll.length _ _ _ h4
      have n2 : vs'.size = ys.length := by simpa using ReadsAll.length _ _ _ k4
      rw [dataLt_tuple, ← firstLt_toks xs ys hal, ← n1, ← n2] at hq
      rw [oneLt'_eq]
      simp only [if_true]
      refine wpAny_bind (wpAny_cRoomFor (room_here hu) ?_)
      refine wpAny_bind (wpAny_callSpecialIfBound?_slot (T := "tuple") ⟨_, h1, h2⟩ F.slot_tuple_lt (call_tuple_lt (e := pairEq xs ys) (r := fun j => dataLt (xs.getD j .none) (ys.getD j .none)) ⟨_, h1, h2, _, h3⟩ ⟨_, k1, k2, _, k3⟩ (fun j j1 j2 => ?_) (fun j j1 j2 hj => ?_) ?_))
      · have := eqAt_alikeAll xs ys A.in1 s vs.toList vs'.toList _ _ h4 k4 hal (room_in hu) j (by simpa using j1) (by simpa using j2)
        simpa using this
      · have := rcLt_alikeAll xs ys A.in1 s vs.toList vs'.toList _ _ h4 k4 hal (room_in hu) j (by simpa using j1) (by simpa using j2) hj
        simpa using this
      · exact wpAny_truthy_bool hq
/-- a tuple with an item -/
def fullT : PyData → Bool
  | .tuple [] => false
  | _ => true
/-- the first items of tuples, if any -/
theorem firsts_tups {M : Model} : ∀ {vs : List Value} {ds : List PyData}, EachIs (fun v d => ∃ as, Reads s.heap v d as) vs ds → (∀ d, d ∈ ds → ∃ xs, d = .tuple xs) → ∃ os : List (Option Value), os.map Option.isSome = ds.map fullT ∧ os.length = vs.length ∧
    ∀ {Q : List (Option Value) → Shared → Prop}, Q os s → wpAny M A (vs.mapM firstOfTuple') Q E s
  | _, _, .nil, _ => ⟨[], rfl, rfl, fun h => by rw [List.mapM_nil]; exact wpAny_pure h⟩
  | _, _, .cons (b := d) ⟨as, r⟩ t, ht => by
    obtain ⟨os, h1, h2, h3⟩ := firsts_tups (M := M) t fun d hd => ht d (List.mem_cons_of_mem _ hd)
    obtain ⟨xs, rfl⟩ := ht d (List.mem_cons_self ..)
    cases r with
    | @tuple a o its n _ _ ho hc hd hr =>
      refine ⟨its[0]? :: os, ?_, by simp [h2], fun h => ?_⟩
      · rw [List.map_cons, List.map_cons, h1]
        congr 1
        have n1 : its.size = xs.length := by simpa using ReadsAll.length _ _ _ hr
        show its[0]?.isSome = fullT _
        cases xs with
        | nil => have : its[0]? = none := by rw [Array.getElem?_eq_none_iff]; have : its.size = 0 := n1; omega
                 rw [this]; rfl
        | cons x xs => have : its[0]? = some (its[0]'(by have : its.size = xs.length + 1 := n1; omega)) := Array.getElem?_eq_getElem _
                       rw [this]; rfl
      · rw [List.mapM_cons]
        refine wpAny_bind ?_
        rw [kas_first_eq]
        refine wpAny_bind (Looks.here (show Looks M s.heap (typeOf (.ref a)) o.cls from (Looks.ld ho).andThen .now) ?_)
        rw [hc, if_neg (by first | decide | simp)]
        refine wpAny_bind (listItems_at ho hd (wpAny_pure ?_))
        exact wpAny_bind (h3 (Q := fun bs s' => wpAny M A (pure (its[0]? :: bs)) _ E s') (wpAny_pure h))
/-- tuples of which some are empty can be sorted -/
theorem SortsAt.tups {vs : List Value} {ds : List PyData} (e : EachIs (fun v d => ∃ as, Reads s.heap v d as) vs ds) (hal : AllAlike ds) (ht : ∀ d, d ∈ ds → ∃ xs, d = .tuple xs) (hu : ∀ d, d ∈ ds → A.units + d.depth < cLine) : SortsAt prog w A s (dataKind s.heap ds) vs := by
  by_cases hne : ∀ d, d ∈ ds → ∃ x r, d = PyData.tuple (x :: r)
  · exact SortsAt.data e hal (.inl hne) hu
  have room : ∀ {d d' : PyData}, d ∈ ds → A.units + min d.depth d'.depth < cLine := fun {d d'} hd => Nat.lt_of_le_of_lt (Nat.add_le_add_left (Nat.min_le_left _ _) _) (hu d hd)
  refine ⟨fun v hv => ?_, ?_⟩
  · obtain ⟨d, hd, as, r⟩ := e.left v hv
    exact ⟨_, dataKind_some hal hd r⟩
  cases ds with
  | nil => exact absurd (fun d hd => absurd hd (by simp)) hne
  | cons d₀ ds₀ =>
    have nall : ¬ ((d₀ :: ds₀).map fullT).all id = true := by
      intro h
      refine hne fun d hd => ?_
      obtain ⟨xs, rfl⟩ := ht d hd
      rw [List.all_map, List.all_eq_true] at h
      have := h _ hd
      cases xs with
      | nil => cases this
      | cons x r => exact ⟨x, r, rfl⟩
    have kindOf : ∀ (E : Value → Shared → Prop) {Q : SortKind → Shared → Prop}, Q (if fullT d₀ = false then oneType' else general') s → wpAny (model prog w) A (keyKind' vs.toArray) Q E s := by
      intro E Q hq
      obtain ⟨os, h1, h2, h3⟩ := firsts_tups (M := model prog w) (A := A) (E := E) e ht
      rw [kat_kind_eq, List.mapM_toArray, map_eq_pure_bind]
      refine wpAny_bind (wpAny_bind (h3 (wpAny_pure ?_)))
      have na : ¬ (os.toArray.all fun x => x.isSome) = true := by
        intro h
        refine nall ?_
        rw [← h1, List.all_map]
        simpa using h
      rw [if_neg na]
      cases os with
      | nil => cases e; simp at h2
      | cons o os =>
        have ho : o.isSome = fullT d₀ := by simpa using congrArg List.head? h1
        by_cases hd : fullT d₀ = false
        · rw [if_pos hd] at hq
          have hon : o = none := by
            rw [hd] at ho
            cases o with
            | none => rfl
            | some x => simp at ho
          subst hon
          have : ¬ (((none :: os : List (Option Value)).toArray[0]?.bind id).isSome) = true := by simp
          rw [if_neg this]
          rw [oneTypeOnly'_eq, List.mapM_toArray, map_eq_pure_bind]
          refine wpAny_bind (wpAny_bind (wpAny_bind (kas_mapM (r := Value.type "tuple") _ (fun v hv Q' hq => ?_) (wpAny_pure ?_))))
          · obtain ⟨d, hd, as, r⟩ := e.left v hv
            obtain ⟨xs, rfl⟩ := ht d hd
            exact (looks_reads r).here hq
          · obtain ⟨v, vs', rfl⟩ : ∃ v vs', vs = v :: vs' := by
              cases e with
              | cons a b => exact ⟨_, _, rfl⟩
            have hall : ((List.map (fun _ => Value.type "tuple") (v :: vs')).toArray.all fun x => x == Value.type "tuple") = true := by
              simp only [List.all_toArray, List.all_map, List.all_eq_true]
              intro _ _
              exact beq_self_eq_true _
            have h0 : (List.map (fun _ => Value.type "tuple") (v :: vs')).toArray[0]? = some (Value.type "tuple") := by simp
            rw [h0]
            simp only [hall, if_true]
            exact wpAny_pure (wpAny_pure hq)
        · rw [if_neg hd] at hq
          have : (((o :: os : List (Option Value)).toArray[0]?.bind id).isSome) = true := by
            simp [ho, hd]
          rw [if_pos this]
          exact wpAny_pure hq
    refine ⟨if fullT d₀ = false then oneType' else general', ?_, fun _ E Q hq => kindOf E hq⟩
    intro E x y a b Q ha hb hq
    obtain ⟨d, as, hd, ra, rfl⟩ := dataKind_inv ha
    obtain ⟨d', as', hd', rb, rfl⟩ := dataKind_inv hb
    have hdd := hal d hd d' hd'
    have hroom := room (d' := d') hd
    obtain ⟨xs, rfl⟩ := ht d hd
    obtain ⟨ys, rfl⟩ := ht d' hd'
    by_cases hz : fullT d₀ = false
    · rw [if_pos hz, keyLt'_oneType]
      exact oneLt_tups ra rb (by simpa [alike] using hdd) hroom hq
    · rw [if_neg hz]
      have : keyLt' general' x y = oneLt' false x y := rfl
      rw [this]
      exact oneLt_alike (fun h => absurd h (by simp)) ra rb hdd (by simp) hroom hq
end
end PySem.W
namespace DY
open PySem PySem.Spec PyProof.Rows L2
section
variable {X : Cx} {cl : ClsT}
end
end DY

/-! sorted(set(xs)), xs nested tuples of whole numbers. -/
namespace DY.KS
open PySem PySem.Spec PyProof.Rows L2
section
variable {P : Program} {w : World} {A : Around} {E : Value → Shared → Prop} {s : Shared}
abbrev leK (a b : NestedKey) : Bool := PySem.W.dataLe false NestedKey.data a b
/-- a rearrangement of what is mapped -/
theorem perm_lift {α β : Type} (f : α → β) : ∀ {l : List α} {m : List β}, m.Perm (l.map f) → ∃ l' : List α, m = l'.map f ∧ l'.Perm l
  | [], m, h => ⟨[], by simpa using h, .nil⟩
  | a :: l, m, h => by
    obtain ⟨m1, m2, rfl⟩ := List.append_of_mem (h.mem_iff.mpr (List.mem_cons_self (a := f a) (l := l.map f)))
    have h2 : (m1 ++ m2).Perm (l.map f) := (List.perm_middle.symm.trans h).cons_inv
    obtain ⟨l', e, p⟩ := perm_lift f h2
    refine ⟨l'.take m1.length ++ a :: l'.drop m1.length, ?_, ?_⟩
    · rw [List.map_append, List.map_cons, List.map_take, List.map_drop, ← e]
      simp
    · refine List.perm_middle.trans (.cons _ ?_)
      rw [List.take_append_drop]; exact p
/-- what may be sorted: as the kit has it, or tuples of which some may be empty -/
def SortOr (ds : List PyData) : Prop := PySem.W.Sortable ds ∨ ∀ d, d ∈ ds → ∃ xs, d = PyData.tuple xs
theorem sortsOr {P : Program} {w : World} {A : Around} {s : Shared} {vs : List Value} {ds : List PyData} (e : PySem.W.EachIs (fun v d => ∃ as, Reads s.heap v d as) vs ds) (hal : PySem.W.AllAlike ds) (so : SortOr ds) (hu : ∀ d, d ∈ ds → A.units + d.depth < cLine) : PySem.W.SortsAt P w A s (PySem.W.dataKind s.heap ds) vs := by
  rcases so with h | h
  · exact PySem.W.SortsAt.data e hal h hu
  · exact PySem.W.SortsAt.tups e hal h hu
/-- sorted(set) -/
theorem sorted_set {a : Addr} {L : Ms} {es : Array (Int × Value)} {ep : Nat} {t : SetTable} {Q : Value → Shared → Prop} (R : Set1 w s.heap a L es ep t) (hh : A.handled = none) (hu : A.units + 40 < cLine)
    (rd : ∀ p ∈ L, ∃ as, Reads s.heap (.ref p.1) p.2.data as) (al : PySem.W.AllAlike (L.map fun p => p.2.data)) (so : SortOr (L.map fun p => p.2.data)) (dp : ∀ p ∈ L, p.2.data.depth ≤ 20)
    (hQ : ∀ s' p (out : Array Value) (c : Nat) (L' : Ms), (∀ b o, s.heap.get? b = some o → s'.heap.get? b = some o) → s'.gens = s.gens → s'.os = s.os → s.heap.objs.size ≤ p →
      s'.heap.get? p = some (seqObj "list" out c) → out.toList = L'.map (fun q => Value.ref q.1) → L'.Perm L → L'.Pairwise (fun q r => leK q.2 r.2 = true) → Q (.ref p) s') :
    wpAny (model P w) A (call (.builtin "sorted") [.ref a]) Q E s := by
  obtain ⟨o, ho, hex, hd⟩ := R.ob
  have hsz := R.size
  have few := R.few
  refine Calls.call_function_entry kind_sorted plain_sorted entry_sorted (args_sorted1 _) ?_
  unfold Builtin.«sorted»
  refine wpAny_bind (m := checkCount "sorted" 1 1 _) (wpAny_pure ?_)
  refine wpAny_bind (collect_wide (A := A.in1) hh ⟨o, ho, hex.1, hd⟩ R.fits R.plain (by rw [sizeLine_eq]; omega) R.tab.ris R.led fun s1 vs k1 hz g1 o1 pm => ?_)
  have hes : es.toList.map (·.2) = L.map fun q => Value.ref q.1 := by
    rw [R.rows, rowsM, List.map_map] <;> rfl
  rw [hes] at pm
  obtain ⟨L1, rfl, p1⟩ := perm_lift _ pm
  have l1 : L1.length < 8000 := by rw [p1.length_eq]; exact few
  refine wpAny_bind (wpAny_newList ?_ (by simp [sizeLine_eq]; omega))
  generalize hvs : (L1.map fun q => Value.ref q.1) = vs
  have lv : vs.length = L1.length := by rw [← hvs, List.length_map]
  have hoL : (s1.heap.push (seqObj "list" vs.toArray 0)).get? s1.heap.objs.size = some (seqObj "list" vs.toArray 0) := Heap.get?_push_size _ rfl
  have old : ∀ b u, s1.heap.get? b = some u → (PySem.W.sortingHeap (s1.heap.push (seqObj "list" vs.toArray 0)) s1.heap.objs.size vs).get? b = some u := fun b u e => by
    rw [PySem.W.sortingHeap_old (Nat.ne_of_lt (Heap.lt_size e)) (Heap.get?_push_of_some _ e)]
  have each : ∀ (M : Ms), (∀ p ∈ M, p ∈ L) → PySem.W.EachIs (fun v (q : Addr × NestedKey) => v = Value.ref q.1 ∧ q ∈ L) (M.map fun q => Value.ref q.1) M := fun M => by
    induction M with
    | nil => exact fun _ => .nil
    | cons q M ih => exact fun h => .cons ⟨rfl, h q List.mem_cons_self⟩ (ih fun p m => h p (List.mem_cons_of_mem _ m))
  have e1 : PySem.W.EachIs (fun v (q : Addr × NestedKey) => v = Value.ref q.1 ∧ q ∈ L) vs L1 := by rw [← hvs]; exact each L1 fun p m => p1.mem_iff.mp m
  have r1 : PySem.W.EachIs (fun v (q : Addr × NestedKey) => ∃ as, Reads (PySem.W.sortingHeap (s1.heap.push (seqObj "list" vs.toArray 0)) s1.heap.objs.size vs) v q.2.data as) vs L1 := e1.mono fun v q ⟨e, m⟩ => by
    subst e
    obtain ⟨as, r⟩ := rd q m
    exact ⟨as, PyProof.Rows.Reads.keeps (fun b u e => old b u (k1 b u e)) r⟩
  have al1 : PySem.W.AllAlike (L1.map fun p => p.2.data) := fun x hx y hy => al x ((p1.map _).mem_iff.mp hx) y ((p1.map _).mem_iff.mp hy)
  have so1 : SortOr (L1.map fun p => p.2.data) := by
    rcases so with (h | h) | h
    · exact .inl (.inl fun x hx => h x ((p1.map _).mem_iff.mp hx))
    · exact .inl (.inr fun x hx => h x ((p1.map _).mem_iff.mp hx))
    · exact .inr fun x hx => h x ((p1.map _).mem_iff.mp hx)
  refine wpAny_bind (wpAny_holding (wpAny_call_entry slot_list_sort ⟨_, hoL, rfl⟩ entry_list_sort (PySem.W.list_sort_vals (κ := PySem.W.dataKind (PySem.W.sortingHeap (s1.heap.push (seqObj "list" vs.toArray 0)) s1.heap.objs.size vs) (L1.map fun p => p.2.data)) (s := { s1 with heap := s1.heap.push (seqObj "list" vs.toArray 0) }) hoL
    (sortsOr (s := { s1 with heap := PySem.W.sortingHeap (s1.heap.push (seqObj "list" vs.toArray 0)) s1.heap.objs.size vs }) (PySem.W.each_map (R := fun v d => ∃ as, Reads (PySem.W.sortingHeap (s1.heap.push (seqObj "list" vs.toArray 0)) s1.heap.objs.size vs) v d as) (fun p : Addr × NestedKey => p.2.data) r1) al1 so1 (fun d hd => ?_)) (by rw [lv, sizeLine_eq]; omega) ⟨.none, rfl, ?_⟩) (args_list_sort _)))
  · obtain ⟨p, hp, rfl⟩ := List.mem_map.mp hd
    have := dp p (p1.mem_iff.mp hp)
    simp only [Around.in1_units]
    omega
  · have res := PySem.W.sortVals_data (R := fun v (q : Addr × NestedKey) => v = Value.ref q.1 ∧ q ∈ L) (enc := fun p : Addr × NestedKey => p.2.data) false e1 r1 al1
    generalize hout : PySem.W.sortVals _ _ _ _ = out at res ⊢
    obtain ⟨c, hc⟩ := sortedHeap_at (vs := vs) (out := out.toArray) hoL
    have back : ∀ {us : List Value} {M : Ms}, PySem.W.EachIs (fun v (q : Addr × NestedKey) => v = Value.ref q.1 ∧ q ∈ L) us M → us = M.map fun q => Value.ref q.1 := fun {us M} z => by
      induction z with
      | nil => rfl
      | cons z1 _ ih => rw [ih, z1.1]; rfl
    have srt := PySem.W.sortLe_total (listOrd itemOrd) false fun p : Addr × NestedKey => PySem.W.keyToks p.2.data
    refine wpAny_pure ⟨_, rfl, hQ _ s1.heap.objs.size out.toArray c (L1.mergeSort (PySem.W.dataLe false fun p => p.2.data)) (fun b u e => ?_) g1 o1 hz hc (by simpa using back res) ((List.mergeSort_perm _ _).trans p1) ?_⟩
    · have e2 := k1 b u e
      have lt := Heap.lt_size e2
      show (sortedHeap (s1.heap.push (seqObj "list" vs.toArray 0)) s1.heap.objs.size vs out.toArray).get? b = some u
      rw [sortedHeap_old (Nat.ne_of_lt lt) (by rw [size_push']; exact Nat.lt_succ_of_lt lt)]
      exact Heap.get?_push_of_some _ e2
    · exact List.pairwise_mergeSort (fun a b c => srt.trans a b c) (fun a b => by rw [Bool.or_eq_true]; exact srt.total a b) L1
end
end DY.KS

/-! sorted(set(xs)), xs nested tuples of whole numbers, on data. -/
namespace DY
open PySem PySem.Spec PyProof.Rows L2
open KS
/-- a key as data -/
def kD : NestedKey → D
  | .num i => .int i
  | .tup ks => .nd .tup (kDL ks)
  | .none => .non
  | .text s => .str s
where kDL : List NestedKey → List D
  | [] => []
  | k :: ks => kD k :: kDL ks
theorem kDL_map : ∀ ks : List NestedKey, kD.kDL ks = ks.map kD
  | [] => rfl
  | k :: ks => by rw [kD.kDL, kDL_map ks]; rfl
mutual
theorem toPg_kD (dr : Nat → Option PyData) : ∀ k : NestedKey, toPg dr (kD k) = some k.data
  | .none => rfl
  | .num _ => rfl
  | .text _ => rfl
  | .tup ks => by simp only [kD, toPg, toPgL_kD dr ks, NestedKey.data]; rfl
theorem toPgL_kD (dr : Nat → Option PyData) : ∀ ks : List NestedKey, toPgL dr (kD.kDL ks) = some (NestedKey.datas ks)
  | [] => rfl
  | k :: ks => by simp only [kD.kDL, toPgL, toPg_kD dr k, toPgL_kD dr ks, NestedKey.datas]
end
mutual
theorem data_depth : ∀ k : NestedKey, k.data.depth = k.depth
  | .none => rfl
  | .num _ => rfl
  | .text _ => rfl
  | .tup ks => by simp only [NestedKey.data, NestedKey.depth, PyData.depth, datas_depth ks]
theorem datas_depth : ∀ ks : List NestedKey, PyData.depthAll (NestedKey.datas ks) = NestedKey.depthAll ks
  | [] => rfl
  | k :: ks => by simp only [NestedKey.datas, NestedKey.depthAll, PyData.depthAll, data_depth k, datas_depth ks]
end
/-- a key that may be a member -/
structure Good (k : NestedKey) : Prop where
  top : ∃ l, k = .tup l
  deep : k.depth ≤ 8
  num : nums k = true
section
variable {X : Cx} {cl : ClsT} {Z r : List Addr} {st : Store} {pins : List (Addr × Obj)} {sg : L2.St} {H : Hp} {s : Shared}
mutual
theorem key_is (I : Inv X pins sg H s) : ∀ (k : NestedKey) {v : V} {u : Value}, nums k = true → Rep ⟨X.K, cl⟩ Z r H (kD k) v → RelV v u → NestedIs s.heap k u
  | .num i, v, u, _, h, q => by
    cases (show v = .int i from h)
    obtain ⟨t, rfl⟩ := q
    exact .int i t
  | .none, _, _, z, _, _ => by simp [nums] at z
  | .text _, _, _, z, _, _ => by simp [nums] at z
  | .tup ks, v, u, z, h, q => by
    obtain ⟨a, vs, rfl, h1, h2⟩ := h
    obtain ⟨its, rv, ⟨o, ho, hc, n, hd⟩, _⟩ := I.tuple (Hat.tup h1)
    cases q
    exact .tup ho hc hd (by simpa using keys_is I ks (by simpa [nums] using z) h2 rv)
theorem keys_is (I : Inv X pins sg H s) : ∀ (ks : List NestedKey) {vs : List V} {us : List Value}, nums.numsAll ks = true → RepL ⟨X.K, cl⟩ Z r H (kD.kDL ks) vs → Vals vs us → NestedAll s.heap ks us
  | [], vs, us, _, h, q => by cases (show vs = [] from h); cases q; exact .nil
  | k :: ks, vs, us, z, h, q => by
    simp only [nums.numsAll, Bool.and_eq_true] at z
    obtain ⟨v, w, rfl, h1, h2⟩ := h
    cases q with
    | cons a b => exact .cons (key_is I k z.1 h1 a) (keys_is I ks z.2 h2 b)
end
theorem key_at (I : Inv X pins sg H s) {k : NestedKey} {a : Addr} (g : Good k) (h : Rep ⟨X.K, cl⟩ Z r H (kD k) (.ref a)) : KS.At s.heap k a := ⟨key_is I k g.num h rfl, g.deep, g.num⟩
theorem key_reads (I : Inv X pins sg H s) (R : Rl ⟨X.K, cl⟩ Z r H st) {k : NestedKey} {a : Addr} (h : Rep ⟨X.K, cl⟩ Z r H (kD k) (.ref a)) : ∃ as, Reads s.heap (.ref a) k.data as :=
  Dp.reads I k.data (.ref a) (.ref a) (toP_ok (st := st) R deepP (kD k) (show toPg _ _ = _ from toPg_kD _ k) h) rfl
end
/-- the set at a, without its members themselves -/
structure Set0 (w : World) (h : Heap) (a : Addr) (L : Ms) : Prop where
  ex : ∃ (es : Array (Int × Value)) (ep : Nat) (t : SetTable), (∃ o, h.get? a = some o ∧ o.ExactSet ∧ o.data = .set es ep t) ∧ es.toList = rowsM w L ∧ TabB t (hashM w L) ∧ (L.map (·.2)).Nodup ∧ t.plain = true ∧
    (w.params.followText "set-order" = true ∨ t.led = true) ∧ L.length * 5 < t.mask * 3 ∧ L.length < 8000
def SetHO (w : World) (a : Addr) (L : Ms) : HO := .ext fun h => Set0 w h a L
theorem Set0.of {w : World} {h : Heap} {a : Addr} {L : Ms} {es : Array (Int × Value)} {ep : Nat} {t : SetTable} (R : Set1 w h a L es ep t) : Set0 w h a L := ⟨es, ep, t, R.ob, R.rows, R.tab, R.nd, R.plain, R.led, R.room, R.few⟩
theorem Set0.full {w : World} {h : Heap} {a : Addr} {L : Ms} (R : Set0 w h a L) (k : ∀ p ∈ L, KS.At h p.2 p.1) : ∃ es ep t, Set1 w h a L es ep t := by
  obtain ⟨es, ep, t, h1, h2, h3, h4, h5, h6, h7, h8⟩ := R.ex
  exact ⟨es, ep, t, h1, h2, h3, h4, k, h5, h6, h7, h8⟩
theorem setHO_new {P : Program} {w : World} {H : Hp} {h : Heap} {a : Addr} {L : Ms} (R : Set0 w h a L) : ObjOk P w H h a (SetHO w a L) := by
  have ⟨es, ep, t, ⟨o, ho, _⟩, _⟩ := R.ex
  refine ⟨R, ⟨o, ho⟩, fun h1 h2 p k => ?_⟩
  have ⟨es', ep', t', ⟨o', ho', r'⟩, q'⟩ := Set0.ex p
  exact ⟨es', ep', t', ⟨o', k o' ho', r'⟩, q'⟩
section
variable {X : Cx} {cl : ClsT} {W : WX} {pos : Pos} {p p2 p3 : Pos} {e : Expr} {fo : SemE}
/-- the items as addresses -/
theorem items_at {g : Gd} {Z r : List Addr} {H : Hp} : ∀ {ks : List NestedKey} {vs : List V} {us : List Value}, (∀ k ∈ ks, Good k) → RepL g Z r H (ks.map kD) vs → Vals vs us → ∃ L : Ms, us = L.map (fun p => Value.ref p.1) ∧ L.map (·.2) = ks ∧ ∀ p ∈ L, Rep g Z r H (kD p.2) (.ref p.1)
  | [], vs, us, _, h, q => by cases (show vs = [] from h); cases q; exact ⟨[], rfl, rfl, by simp⟩
  | k :: ks, vs, us, gd, h, q => by
    obtain ⟨v, w, rfl, h1, h2⟩ := h
    cases q with
    | cons a b =>
      obtain ⟨L, e1, e2, e3⟩ := items_at (fun k m => gd k (List.mem_cons_of_mem _ m)) h2 b
      obtain ⟨l, el⟩ := (gd k List.mem_cons_self).top
      subst el
      obtain ⟨x, ws, rfl, h3, h4⟩ := id h1
      cases a
      refine ⟨(x, .tup l) :: L, by rw [List.map_cons, ← e1], by rw [List.map_cons, e2], fun p m => ?_⟩
      rcases List.mem_cons.mp m with rfl | m
      · exact h1
      · exact e3 p m
def rSetN (cl : ClsT) (K : PySem.W.Frag) (w : World) : List V → Hp → VK → Prop := fun vs H Q => ∃ (Z r : List Addr) (st : Store) (l : Addr) (ks : List NestedKey) (us : List V), Rl ⟨K, cl⟩ Z r H st ∧ vs = [V.ref l] ∧ (SqL K H l us ∨ SqT K H l us) ∧ RepL ⟨K, cl⟩ Z r H (ks.map kD) us ∧ ks.length < 8000 ∧ (∀ k ∈ ks, Good k) ∧
  ∀ a L, H a = none → (∀ p ∈ L, p.2 ∈ ks ∧ Rep ⟨K, cl⟩ Z r H (kD p.2) (.ref p.1)) → (L.map (·.2)).Nodup → (∀ k ∈ ks, k ∈ L.map (·.2)) → Q (.ref a) (upd H a (SetHO w a L))
theorem cr_setN (hc : X.calm = true) (hu : X.A.units + 64 < cLine) : CallR X (.type "set") (rSetN cl X.K X.w) := by
  intro pins s sg H vs us Q I rv h
  obtain ⟨Z, r, st, l, ks, ys, R, rfl, sq, rx, few, gd, q⟩ := h
  rw [Vals.ref1 rv]
  have hn : H s.heap.objs.size = none := I.hok.fresh (Nat.le_refl _)
  rcases sq with sq | sq
  · obtain ⟨its, rw', pl, hz⟩ := I.list sq
    obtain ⟨L, rfl, rfl, at'⟩ := items_at gd rx rw'
    refine call_set (P := X.prog) (w := X.w) L (I.ok.hd hc) pl.isList rfl (fun p m => key_at I (gd p.2 (List.mem_map_of_mem m)) (at' p m)) (by simpa using few) (by omega) fun h' tk M es ep t S g k => ?_
    refine ⟨.ref s.heap.objs.size, upd H s.heap.objs.size (SetHO X.w s.heap.objs.size M), I.laid (t' := tk) k (Nat.le_refl _) (setHO_new (Set0.of S)), rfl, q _ M hn (fun p m => ?_) S.nd fun y hy => ?_⟩
    · have := List.mem_of_mem_take (g.sub p m)
      exact ⟨List.mem_map_of_mem this, at' p this⟩
    · obtain ⟨p, hp, rfl⟩ := List.mem_map.mp hy
      exact g.all p (by rw [List.take_length]; exact hp)
  · obtain ⟨its, rw', pt, hz⟩ := I.tuple sq
    obtain ⟨L, rfl, rfl, at'⟩ := items_at gd rx rw'
    refine call_setT (P := X.prog) (w := X.w) L (I.ok.hd hc) (show s.heap.IsTuple l _ from pt) rfl (fun p m => key_at I (gd p.2 (List.mem_map_of_mem m)) (at' p m)) (by simpa using few) (by omega) fun h' tk M es ep t S g k => ?_
    refine ⟨.ref s.heap.objs.size, upd H s.heap.objs.size (SetHO X.w s.heap.objs.size M), I.laid (t' := tk) k (Nat.le_refl _) (setHO_new (Set0.of S)), rfl, q _ M hn (fun p m => ?_) S.nd fun y hy => ?_⟩
    · have := List.mem_of_mem_take (g.sub p m)
      exact ⟨List.mem_map_of_mem this, at' p this⟩
    · obtain ⟨p, hp, rfl⟩ := List.mem_map.mp hy
      exact g.all p (by rw [List.take_length]; exact hp)
def rSortN (cl : ClsT) (K : PySem.W.Frag) (w : World) : List V → Hp → VK → Prop := fun vs H Q => ∃ (Z r : List Addr) (st : Store) (a : Addr) (L : Ms), Rl ⟨K, cl⟩ Z r H st ∧ vs = [V.ref a] ∧ H a = some (SetHO w a L) ∧ (∀ p ∈ L, Good p.2 ∧ Rep ⟨K, cl⟩ Z r H (kD p.2) (.ref p.1)) ∧
  PySem.W.AllAlike (L.map fun p => p.2.data) ∧ SortOr (L.map fun p => p.2.data) ∧ ∀ (L' : Ms) (q : Addr), H q = none → L'.Perm L → L'.Pairwise (fun x y => leK x.2 y.2 = true) → Q (.ref q) (upd H q (.lst (L'.map fun p => V.ref p.1)))
theorem cr_sortN (hc : X.calm = true) (hu : X.A.units + 64 < cLine) : CallR X (.builtin "sorted") (rSortN cl X.K X.w) := by
  intro pins s sg H vs us Q I rv h
  obtain ⟨Z, r, st, a, L, R, rfl, ha, gd, al, so, q⟩ := h
  have S0 : Set0 X.w s.heap a L := (I.hok a _ ha).1
  obtain ⟨es, ep, t, S⟩ := S0.full fun p m => key_at I (gd p m).1 (gd p m).2
  rw [Vals.ref1 rv]
  refine sorted_set S (I.ok.hd hc) (by omega) (fun p m => key_reads I R (gd p m).2) al so (fun p m => by rw [data_depth]; have := (gd p m).1.deep; omega) fun s' x out c L' k g o hp hg hout pm pw => ?_
  have few : L'.length < 8000 := by rw [pm.length_eq]; exact S.few
  have hlen : (L'.map fun p => V.ref p.1).length ≤ sizeLine := by rw [List.length_map, sizeLine_eq]; omega
  have hn : H x = none := I.hok.fresh hp
  have hv : Vals (L'.map fun p => V.ref p.1) out.toList := by
    rw [hout]
    clear pm pw hout hlen few
    induction L' with
    | nil => exact .nil
    | cons p L' ih => exact .cons rfl ih
  have J : Inv X pins sg (upd H x (.lst (L'.map fun p => V.ref p.1))) { s with heap := s'.heap, gens := s'.gens, drawn := s'.drawn, toks := s'.toks } :=
    I.call (ch := []) (Un.laid k hp hn) (I.hok.laid k hp ⟨hlen, out.toList, c, hv, hg⟩) (by rw [g]; exact I.bare) (fun _ z => nomatch z)
  have e : s' = { s with heap := s'.heap, gens := s'.gens, drawn := s'.drawn, toks := s'.toks } := by
    cases s'; cases s; cases o; rfl
  rw [e]
  exact ⟨.ref x, _, J, rfl, q L' x hn pm pw⟩
/-- a datum as a key -/
def nkey? : D → Option NestedKey
  | .int i => some (.num i)
  | .nd .tup xs => (keyL? xs).map .tup
  | _ => none
where keyL? : List D → Option (List NestedKey)
  | [] => some []
  | d :: ds => match nkey? d, keyL? ds with
    | some k, some ks => some (k :: ks)
    | _, _ => none
mutual
theorem key_back : ∀ (d : D) {k : NestedKey}, nkey? d = some k → d = kD k
  | .int i, k, e => by simp only [nkey?, Option.some.injEq] at e; subst e; rfl
  | .nd .tup xs, k, e => by
    simp only [nkey?, Option.map_eq_some_iff] at e
    obtain ⟨ks, e1, rfl⟩ := e
    simp only [kD, ← keyL_back xs e1]
  | .non, _, e => by simp [nkey?] at e
  | .bl _, _, e => by simp [nkey?] at e
  | .str _, _, e => by simp [nkey?] at e
  | .h _, _, e => by simp [nkey?] at e
  | .nd .lst _, _, e => by simp [nkey?] at e
  | .nd .scr _, _, e => by simp [nkey?] at e
  | .nd .ktp _, _, e => by simp [nkey?] at e
  | .nd (.dk _) _, _, e => by simp [nkey?] at e
  | .nd (.dt _) _, _, e => by simp [nkey?] at e
  | .nd (.ins _ _) _, _, e => by simp [nkey?] at e
theorem keyL_back : ∀ (ds : List D) {ks : List NestedKey}, nkey?.keyL? ds = some ks → ds = kD.kDL ks
  | [], ks, e => by simp only [nkey?.keyL?, Option.some.injEq] at e; subst e; rfl
  | d :: ds, ks, e => by
    simp only [nkey?.keyL?] at e
    split at e
    · rename_i k l e1 e2
      cases e
      rw [kD.kDL, ← key_back d e1, ← keyL_back ds e2]
    · cases e
end
/-- what may be sorted without repetitions -/
structure SetOk (ks : List NestedKey) : Prop where
  few : ks.length < 8000
  good : ∀ k ∈ ks, Good k
  alike : PySem.W.AllAlike (ks.map NestedKey.data)
  sorts : SortOr (ks.map NestedKey.data)
  anti : ∀ a ∈ ks, ∀ b ∈ ks, leK a b = true → leK b a = true → a = b
structure Sorted (ks ys : List NestedKey) : Prop where
  nd : ys.Nodup
  mem : ∀ z, z ∈ ys ↔ z ∈ ks
  le : ys.Pairwise (fun a b => leK a b = true)
theorem sorted_one {ks : List NestedKey} (h : SetOk ks) : ∀ {ys zs : List NestedKey}, (∀ z ∈ ys, z ∈ ks) → ys.Nodup → zs.Nodup → (∀ z, z ∈ ys ↔ z ∈ zs) → ys.Pairwise (fun a b => leK a b = true) → zs.Pairwise (fun a b => leK a b = true) → ys = zs
  | [], [], _, _, _, _, _, _ => rfl
  | [], b :: m, _, _, _, q, _, _ => by have := (q b).mpr List.mem_cons_self; simp at this
  | a :: l, [], _, _, _, q, _, _ => by have := (q a).mp List.mem_cons_self; simp at this
  | a :: l, b :: m, sub, na, nb, q, pa, pb => by
    rw [List.pairwise_cons] at pa pb
    rw [List.nodup_cons] at na nb
    have e : a = b := by
      rcases List.mem_cons.mp ((q a).mp List.mem_cons_self) with z | z
      · exact z
      · rcases List.mem_cons.mp ((q b).mpr List.mem_cons_self) with y | y
        · exact y.symm
        · exact h.anti a (sub a List.mem_cons_self) b (sub b (List.mem_cons_of_mem _ y)) (pa.1 b y) (pb.1 a z)
    subst e
    rw [sorted_one h (fun z m => sub z (List.mem_cons_of_mem _ m)) na.2 nb.2 (fun z => ⟨fun hz => ?_, fun hz => ?_⟩) pa.2 pb.2]
    · rcases List.mem_cons.mp ((q z).mp (List.mem_cons_of_mem _ hz)) with y | y
      · subst y; exact absurd hz na.1
      · exact y
    · rcases List.mem_cons.mp ((q z).mpr (List.mem_cons_of_mem _ hz)) with y | y
      · subst y; exact absurd hz nb.1
      · exact y
open Classical in
noncomputable def dSortN1 (st : Store) : Option (List NestedKey) → Res D
  | some ks => if h : SetOk ks ∧ ∃ ys, Sorted ks ys then .ok (.nd .lst (h.2.choose.map kD)) st else .no
  | none => .no
noncomputable def dSortN0 : D → Store → Res D := fun x st => dSortN1 st ((seq? st x).bind nkey?.keyL?)
noncomputable def dSortN (f : SemE) : SemE := fun env st => (f env st).bind dSortN0
open Classical in
theorem dSortN_of {ks ys : List NestedKey} {st : Store} (h : SetOk ks) (y : Sorted ks ys) : dSortN1 st (some ks) = .ok (.nd .lst (ys.map kD)) st := by
  have h2 : SetOk ks ∧ ∃ ys, Sorted ks ys := ⟨h, ys, y⟩
  have c := h2.2.choose_spec
  show (if h : SetOk ks ∧ ∃ ys, Sorted ks ys then Res.ok (D.nd .lst (h.2.choose.map kD)) st else .no) = _
  rw [dif_pos h2]
  rw [sorted_one h (fun z m => (c.mem z).mp m) c.nd y.nd (fun z => (c.mem z).trans (y.mem z).symm) c.le y.le]
theorem rd_sortN (sg : L2.St) (H : Hp) (Q : VK) (h : rdE ⟨X.K, cl⟩ W (dSortN fo) sg H Q) : tCB (rSortN cl X.K X.w) (tCons (tCB (rSetN cl X.K X.w) (tCons (rdE ⟨X.K, cl⟩ W fo) tNil)) tNil) sg H Q := by
  obtain ⟨Z, r, env, st, E, R, h⟩ := h
  refine ⟨Z, r, env, st, E, R, Post.bind h fun a st1 r1 H1 v _ e1 R1 q1 h1 => ?_⟩
  unfold dSortN0 dSortN1 at h1
  split at h1
  · rename_i ks hks
    split at h1
    · rename_i hc
      obtain ⟨ok, hy⟩ := hc
      cases hl : seq? st1 a with
      | none => rw [hl] at hks; cases hks
      | some xs =>
        rw [hl] at hks
        obtain ⟨l, us, rfl, q, sq⟩ := seq_ok R1 q1 hl
        have ex := keyL_back xs hks
        rw [kDL_map] at ex
        subst ex
        refine ⟨Z, r1, st1, l, ks, us, R1, rfl, sq, q, ok.few, ok.good, fun b L hb sub nd cov => ?_⟩
        have e2 : Ext r1 H1 r1 (upd H1 b (SetHO X.w b L)) := Ext.new hb
        have R2 : Rl ⟨X.K, cl⟩ Z r1 (upd H1 b (SetHO X.w b L)) st1 := R1.new hb
        have rep2 : ∀ y ∈ L, Rep ⟨X.K, cl⟩ Z r1 (upd H1 b (SetHO X.w b L)) (kD y.2) (.ref y.1) := fun y m => Rep.ext e2 _ (sub y m).2
        have inK : ∀ x ∈ L.map (fun p => p.2.data), x ∈ ks.map NestedKey.data := fun x m => by
          obtain ⟨p, hp, rfl⟩ := List.mem_map.mp m
          exact List.mem_map_of_mem (sub p hp).1
        refine ⟨Z, r1, st1, b, L, R2, rfl, upd_same, fun y m => ⟨ok.good _ (sub y m).1, rep2 y m⟩, fun x hx y hy => ok.alike x (inK x hx) y (inK y hy), ?_, fun L' t ht pm pw => ?_⟩
        · rcases ok.sorts with (z | z) | z
          · exact .inl (.inl fun x hx => z x (inK x hx))
          · exact .inl (.inr fun x hx => z x (inK x hx))
          · exact .inr fun x hx => z x (inK x hx)
        have c := hy.choose_spec
        have eL : hy.choose = L'.map (·.2) := by
          refine sorted_one ok (fun z m => (c.mem z).mp m) c.nd ((pm.map (·.2)).nodup_iff.mpr nd) (fun z => (c.mem z).trans ⟨fun m => (pm.map (·.2)).mem_iff.mpr (cov z m), fun m => ?_⟩) c.le (List.pairwise_map.mpr pw)
          obtain ⟨p, hp, rfl⟩ := List.mem_map.mp m
          exact (sub p (pm.mem_iff.mp hp)).1
        have rl : ∀ M : Ms, (∀ p ∈ M, p ∈ L) → RepL ⟨X.K, cl⟩ Z r1 (upd H1 b (SetHO X.w b L)) ((M.map (·.2)).map kD) (M.map fun p => V.ref p.1) := fun M => by
          induction M with
          | nil => exact fun _ => rfl
          | cons p M ih => exact fun z => ⟨_, _, rfl, rep2 p (z p List.mem_cons_self), ih fun y m => z y (List.mem_cons_of_mem _ m)⟩
        have rl' := rl L' fun p m => pm.mem_iff.mp m
        rw [← eL] at rl'
        exact h1 r1 _ _ (e2.trans (Ext.new ht)) (R2.new ht) (new_lst R2 rl' ht)
    · exact h1.elim
  · exact h1.elim
theorem se_sortN (hc : X.calm = true) (hu : X.A.units + 64 < cLine) (hm : X.mg "sorted" = none) (hm2 : X.mg "set" = none) (ho : SE X cl W e fo) (hg : Gl X "sorted" := by rfl) (hg2 : Gl X "set" := by rfl)
    (h1 : starEach [e] X.env = (false, eval e X.env) :: starEach [] X.env := by rfl)
    (h2 : starEach [.Call (.Name "set" p2) [e] [] p3] X.env = (false, eval (.Call (.Name "set" p2) [e] [] p3) X.env) :: starEach [] X.env := by rfl) :
    SE X cl W (.Call (.Name "sorted" p) [.Call (.Name "set" p2) [e] [] p3] [] pos) (dSortN fo) :=
  ⟨(pe_callB (cr_sortN (cl := cl) hc hu) hg hm (by rfl) (pa_cons (pe_callTy (cr_setN (cl := cl) hc hu) hg2 hm2 (by rfl) (pa_cons ho.run pa_nil h1) (by decide +kernel) (by decide +kernel) h1 (by rfl)) pa_nil h2) (by decide +kernel) (by decide +kernel) h2 (by rfl)).imp fun sg H Q h => rd_sortN sg H Q h⟩
end
end DY

/-! Evaluation on data: sorted(set(..)). -/
namespace DY
open PySem PySem.Spec PyProof.Rows L2
@[simp] theorem dSortN_ev {f : SemE} {env : DEnv} {st : Store} : dSortN f env st = (f env st).bind dSortN0 := (rfl)
@[simp] theorem dSortN0_ev {x : D} {st : Store} : dSortN0 x st = dSortN1 st ((seq? st x).bind nkey?.keyL?) := (rfl)
section
variable {env : DEnv} {st : Store} {chk : Store → Prop} {tg tg1 : DTg} {tst tst1 : SemT} {elt : SemE} {own own1 : List Nat} {fi fi1 : SemI}
noncomputable def dLc21 (tg : DTg) (tst : SemT) (fi1 : SemI) (tg1 : DTg) (tst1 : SemT) (elt : SemE) (own own1 : List Nat) (env : DEnv) : DIter → Store → Res (List D) := fun it st => comp2L it.chk tg tst fi1 tg1 tst1 elt own own1 env it.items [] st
@[simp] theorem dLc21_ev {it : DIter} : dLc21 tg tst fi1 tg1 tst1 elt own own1 env it st = comp2L it.chk tg tst fi1 tg1 tst1 elt own own1 env it.items [] st := (rfl)
@[simp] theorem dLc2_ev : dLc2 fi tg tst fi1 tg1 tst1 elt own own1 env st = ((fi env st).bind (dLc21 tg tst fi1 tg1 tst1 elt own own1 env)).bind dLst0 := bind_bind.symm
theorem compL_acc {α : Type} {enc : α → D} {xs : List α} {acc : List D} (f : α → D) (hc : chk st) (hl : acc.length + xs.length ≤ 16777216)
    (hs : ∀ a, a ∈ xs → cEl tg tst elt (wipeD env own) (enc a) st = .ok (some (f a)) st) : compL chk tg tst elt own env (xs.map enc) acc st = .ok (acc ++ xs.map f) st := by
  generalize hx : compL chk tg tst elt own env (xs.map enc) acc st = x
  have h := compL_all hx (fun i ys st' => st' = st ∧ ys = acc ++ (xs.take i).map f) ⟨rfl, by simp⟩ (fun i ys st' h => by rw [h.1]; exact hc) hl fun i a ys st' hi hI => by
    obtain ⟨rfl, rfl⟩ := hI
    rw [hs a (List.mem_of_getElem? hi)]
    refine ⟨rfl, ?_⟩
    rw [List.take_add_one, hi]
    simp
  obtain ⟨ys, st', rfl, rfl, rfl⟩ := h.get
  simp
/-- two fors, nothing changes -/
theorem comp2L_map {α β : Type} {enc : α → D} {encb : α → β → D} (g : α → List β) (f : α → β → D) (chkI : α → Store → Prop) (hc : chk st) : ∀ {xs : List α} {acc : List D}, acc.length + (xs.flatMap g).length ≤ 16777216 →
    (∀ a, a ∈ xs → ∃ env1, tg (enc a) (wipeD env own) st = some env1 ∧ tst env1 st = .ok true st ∧ fi1 env1 st = .ok ⟨(g a).map (encb a), chkI a⟩ st ∧ chkI a st ∧ ∀ b, b ∈ g a → cEl tg1 tst1 elt (wipeD env1 own1) (encb a b) st = .ok (some (f a b)) st) →
    comp2L chk tg tst fi1 tg1 tst1 elt own own1 env (xs.map enc) acc st = .ok (acc ++ xs.flatMap fun a => (g a).map (f a)) st
  | [], acc, _, _ => by
    rw [List.map_nil, comp2L, if_pos hc]; simp
  | a :: xs, acc, hl, hs => by
    obtain ⟨env1, e1, e2, e3, e4, e5⟩ := hs a List.mem_cons_self
    simp only [List.flatMap_cons, List.length_append] at hl
    have inn := compL_acc (chk := chkI a) (env := env1) (acc := acc) (f a) e4 (by omega) e5
    rw [List.map_cons, comp2L, if_pos hc, e1]
    dsimp only
    rw [e2]
    dsimp only
    rw [e3]
    dsimp only
    rw [inn]
    dsimp only
    rw [comp2L_map g f chkI hc (by rw [List.length_append, List.length_map]; omega) fun b m => hs b (List.mem_cons_of_mem _ m)]
    simp
end
end DY

/-! (a, b, ..) = a list. -/
namespace DY
open PySem PySem.Spec PyProof.Rows L2
section
variable {X : Cx} {cl : ClsT} {pos : Pos}
def gL (n : Nat) (b : DTgs) : DTg := fun d env st => match lst? st d with
  | some xs => if xs.length = n then b xs env st else none
  | none => none
end
@[simp] theorem gL_ev {n : Nat} {b : DTgs} {d : D} {env : DEnv} {st : Store} : gL n b d env st = gTC n b env st (lst? st d) := by
  unfold gL gTC
  rfl
end DY

/-! list.count over data. -/
namespace DY
open PySem PySem.Spec PyProof.Rows L2
def rCntP (K : PySem.W.Frag) : V → List V → Hp → VK → Prop := fun x xs H Q => ∃ (p : Addr) (vs : List V) (ds : List PyData) (y : V) (d : PyData), x = .ref p ∧ xs = [y] ∧ SqL K H p vs ∧ DpAll K H vs ds ∧ Dp K H y d ∧ shp d = true ∧ shp (.list ds) = true ∧ Q (.int (ds.countP fun z => PyData.eqv z d : Nat)) H
section
variable {X : Cx} {cl : ClsT}
theorem mt_countP (hu : X.A.units + 64 < cLine) : MtR X "list.count" (rCntP X.K) := by
  intro pins s σ H x xs v us Q I rx rxs h
  obtain ⟨p, vs, ds, y, d, rfl, rfl, hs, ha, hd, sd, sl, q⟩ := h
  cases rx
  obtain ⟨u, rfl, ru⟩ := rxs.one
  obtain ⟨its, rv, hl, _⟩ := I.list hs
  obtain ⟨as, r1⟩ := Dp.readsAll I ds vs its ha rv
  obtain ⟨bs, r2⟩ := Dp.reads I d y u hd ru
  refine PySem.SeqAt.count_list_data hl.isList (by simpa using r1) r2 (by simpa [PyData.plain] using shp_plain sl) (shp_plain sd) (by have := shp_depth sd; omega) ?_
  exact ⟨.int _, H, I.tok _, ⟨s.toks, rfl⟩, q⟩
end
def opCount (x : D) (ds : List D) (st : Store) : Res D := match ds with
  | [y] => match toPgL (fun _ => none) ((lst? st x).getD []), toP deepP st y with
    | some ps, some d => if (lst? st x).isSome && shp d && shp (.list ps) then .ok (.int (ps.countP fun z => PyData.eqv z d : Nat)) st else .no
    | _, _ => .no
  | _ => .no
theorem ms_count {X : Cx} {cl : ClsT} (hu : X.A.units + 64 < cLine) : MS X cl "list.count" opCount := by
  refine ⟨_, mt_countP hu, fun {Z r H st x ds v vs Q W'} R qx qd h => ?_⟩
  unfold opCount at h
  split at h
  · rename_i y
    obtain ⟨w, q, rfl, a1, rfl⟩ := qd
    split at h
    · rename_i ps d e1 e2
      split at h
      · rename_i hb
        simp only [Bool.and_eq_true] at hb
        obtain ⟨⟨h1, h2⟩, h3⟩ := hb
        obtain ⟨xs, hs⟩ := Option.isSome_iff_exists.mp h1
        rw [hs] at e1
        obtain ⟨a, us, rfl, qs, sl⟩ := lst_ok R qx hs
        exact ⟨a, us, ps, _, d, rfl, rfl, sl, toPgL_ok (fun k p v e _ => by cases e) xs e1 qs, toP_ok R deepP y e2 a1, h2, h3, h r _ _ (Ext.refl _ _) R rfl⟩
      · exact h.elim
    · exact h.elim
  · exact h.elim
end DY

/-! x[i] by a class's own __getitem__. -/
namespace DY
open PySem PySem.Spec PyProof.Rows L2
structure GetO (K : PySem.W.Frag) (C : Addr) (f : Addr) : Prop where
  at_ : PySem.W.findIn K (.ref C) "__getitem__" = some (some (.ref f))
  fi : PySem.W.fnIn K f = true
  fn : PySem.W.isFn K (.ref f) = true
section
variable {X : Cx} {cl : ClsT} {W : WX} {F : SemF} {a b : Expr} {fo fb : SemE} {pos : Pos}
def dGetOC (c : Nat) (F : SemF) (x y : D) (st : Store) : Option (Hd × List D) → Res D
  | some (.ins c1 _, _) => if c1 = c then F [x, y] st else .no
  | _ => .no
def dGetO (c : Nat) (F : SemF) (x y : D) (st : Store) : Res D := dGetOC c F x y st (seen st x)
end
@[simp] theorem dGetO_ev {c : Nat} {F : SemF} {x y : D} {st : Store} : dGetO c F x y st = dGetOC c F x y st (seen st x) := (rfl)
@[simp] theorem dGetOC_ev {c : Nat} {F : SemF} {x y : D} {st : Store} {ns : List Str} {xs : List D} : dGetOC c F x y st (some (.ins c ns, xs)) = F [x, y] st := if_pos rfl
end DY

/-! Exceptions of one's own: raised, caught, kept as values. -/
namespace DY
open PySem PySem.Spec PyProof.Rows L2

/-! ### raise C(e), C's own __init__ keeping it under one name -/
/-- the promise of an __init__ that keeps its argument as f -/
def spI1 (K : PySem.W.Frag) (f : Str) : Sp := fun vs H Q _ => ∃ (a C : Addr) (v : V), vs = [.ref a, v] ∧ OexC K C ∧ PySem.W.findIn K (.ref C) f = some none ∧ H a = some (exo a C none) ∧
  ∀ dx, H dx = none → dx ≠ a → Q .non (upd (upd H dx (exd dx [(f, v)])) a (exo a C (some dx)))
theorem init1 {P : Program} {w : World} {K : PySem.W.Frag} {mg : Str → Option Value} {base : Heap} {qual : Str} {st : Stmt} {fI : Addr} {fd : FuncData} {x f : Str} {k : Nat} {p1 p2 p3 p4 : Pos} (F : Fun K "__init__" qual st fI fd)
    (S : FnScope ["self", x] ["self", x] (defScope st)) (hb : defBody st = [.Assign [.Attribute (.Name "self" p1) f p2] (.Name x p3) p4]) (hv1 : Vis (defScope st) "self") (hv2 : Vis (defScope st) x)
    (hd : (x == ("__debug__" : Str)) = false) (hcd : (x == ("__classdict__" : Str)) = false)
    (hs : ∀ (L f0 : Addr) (cd : Value), swapsWith (.Name x p3) (some (.Attribute (.Name "self" p1) f p2)) p4.line (envOfC qual (defScope st) L f0 cd) = pure false) : FnOk P w K mg base (L2.CX P w) (k + 1) fI fd ["self", x] (spI1 K f) := by
  obtain ⟨oc, od, kV, doc, pm, an, cdv, ct, osl, rfl, lk, hc⟩ := F.ex
  refine fn_of lk hc S (fun vs H Q E ⟨a, C, v, e, _⟩ => by rw [e]; rfl) fun A outer s H vs Q E hr ⟨a, C, v, ev, T, hno, ha, hq⟩ => ?_
  subst ev
  rw [hb]
  refine ⟨_, pss_one (ps_ost (pe_var (i := 0) rfl hv1 (by decide) (by decide)) (pe_var (i := 1) rfl hv2 hd hcd) (hs _ _ _)), ?_⟩
  refine ⟨v, rfl, .ref a, rfl, a, C, rfl, T, hno, .inl ⟨ha, fun dx h1 h2 => hq dx h1 h2⟩⟩

section
variable {X : Cx} {cl : ClsT} {W : WX} {pos : Pos} {x : Str} {p apos : Pos} {e o : Expr} {es : List Expr} {fa : SemA} {fo fe : SemE}
def sRaise (c : Nat) (ns : List Str) (fa : SemA) : SemS := fun env st => bindE (fa env st) env fun ds st1 => if ds.length = ns.length then .er ⟨c, ns, ds⟩ env st1 else .no
/-- what a class of exceptions with one name says -/
structure Rai (X : Cx) (C : Addr) (f : Str) (k : Nat) : Prop where
  oex : OexC X.K C
  no : PySem.W.findIn X.K (.ref C) f = some none
  ex : ∃ (fI : Addr) (fd : FuncData) (ps : List Str), PySem.W.findIn X.K (.ref C) "__init__" = some (some (.ref fI)) ∧ PySem.W.typeIn X.K (.ref fI) = some (.type "function") ∧ FnOk X.prog X.w X.K X.mg X.base (L2.CX X.prog X.w) k fI fd ps (spI1 X.K f) ∧ L2.Binds X.K fd ps []
theorem ss_raise1 {k : Nat} {f : Str} {rpos : Pos} (c : Nat) (T : Rai X (cl c) f k) (D : DF X W k) (hm : X.mg x = some (.ref (cl c))) (ha : SA X cl W [e] fa) (hg : Gl X x := by rfl) (hdb : (x == ("__debug__" : Str)) = false := by decide +kernel)
    (he : starEach [e] X.env = (false, eval e X.env) :: starEach [] X.env := by rfl) : SS X cl W (.Raise (some (.Call (.Name x p) [e] [] pos)) none rpos) (sRaise c [f] fa) := by
  obtain ⟨fI, fd, ps, h1, h2, h3, h4⟩ := T.ex
  refine ⟨(ps_raise D.calm D.tk (pmk_oex T.oex h1 h2 h3 D.room h4 .nil (passes_call D.tk fun _ _ _ _ z => z.elim) hg hm ha.run hdb he (by rfl))).imp fun E sg H ⟨Z, r, env, st, En, R, h⟩ => ?_⟩
  refine ⟨Z, r, env, st, En, R, PostS.bindE h En fun ds st1 r1 H1 vs _ e1 R1 q1 h1 => ?_⟩
  split at h1
  · rename_i hl
    have hl2 : vs.length = 1 := by rw [← q1.length]; exact hl
    refine ⟨by omega, fun a hna => ?_⟩
    obtain ⟨v, rfl⟩ : ∃ v, vs = [v] := by
      match vs, hl2 with
      | [v], _ => exact ⟨v, rfl⟩
    refine ⟨a, cl c, v, rfl, T.oex, T.no, upd_same, fun dx hdx ne => ?_⟩
    have hdx1 : H1 dx = none := by rwa [upd_ne ne] at hdx
    refine ⟨rfl, dx, [(f, v)], upd_same, by rw [upd_ne ne, upd_same], hdx1, ?_⟩
    have eH : upd (del (upd (upd (upd H1 a (exo a (cl c) none)) dx (exd dx [(f, v)])) a (exo a (cl c) (some dx))) a) dx (.xd [(f, v)]) = upd H1 dx (.xd [(f, v)]) := by
      funext b
      by_cases hb : b = dx
      · rw [hb, upd_same, upd_same]
      · rw [upd_ne hb, upd_ne hb]
        by_cases hb2 : b = a
        · rw [hb2, del_same, hna]
        · rw [del_ne hb2, upd_ne hb2, upd_ne hb, upd_ne hb2]
    rw [eH]
    have fr := R1.free hdx1
    exact h1 r1 _ sg _ _ (Ext.new hdx1) (R1.new hdx1) ((En.ext e1).ext (Ext.new hdx1)) ⟨rfl, .inr ⟨dx, [v], rfl, rfl, fr, upd_same, RepL.ext (Ext.new hdx1) _ q1⟩⟩
  · exact h1.elim

/-! ### a caught exception, kept -/
theorem exK_ok {P : Program} {w : World} {H : Hp} {h : Heap} {a : Addr} {cls : Value} {d : Option Addr} {oe : Obj} {fv : Array Value} (e : h.get? a = some oe) (z : Zc cls d oe) (hd : oe.data = .fields fv) : ObjOk P w H h a (ExK cls d a) :=
  ⟨⟨oe, fv, e, z, hd⟩, ⟨oe, e⟩, fun _ _ ⟨o, v, q, r⟩ k => ⟨o, v, k o q, r⟩⟩
theorem exK_at {P : Program} {w : World} {H : Hp} {h : Heap} {a : Addr} {cls : Value} {d : Option Addr} (ok : HOk P w H h) (e : H a = some (ExK cls d a)) : ∃ (oe : Obj) (fv : Array Value), h.get? a = some oe ∧ Zc cls d oe ∧ oe.data = .fields fv := by
  have z : ObjOk P w H h a (.ext fun h => ∃ (oe : Obj) (fv : Array Value), h.get? a = some oe ∧ Zc cls d oe ∧ oe.data = .fields fv) := ok a _ e
  exact z.1
/-- a pinned exception that is new since the entry is tracked from now on -/
theorem track {pins : List (Addr × Obj)} {sg : L2.St} {H : Hp} {s : Shared} {a : Addr} {oe : Obj} {cls : Value} {d : Option Addr} {fv : Array Value} (I : L2.Inv X ((a, oe) :: pins) sg H s) (n0 : X.s_0.heap.get? a = none) (np : ∀ q ∈ X.pn ++ pins, q.1 ≠ a)
    (hz : Zc cls d oe) (hd : oe.data = .fields fv) : L2.Inv X pins sg (upd H a (ExK cls d a)) s := by
  obtain ⟨ha, hn, hl, hf, hc⟩ := I.pin (a, oe) (List.mem_append_right _ List.mem_cons_self)
  have ne : ∀ {b : Addr} {u : HO}, H b = some u → b ≠ a := fun e => ne_of_none e hn
  have n0' : ∀ {b : Addr} {u : Obj}, X.s_0.heap.get? b = some u → b ≠ a := fun {b u} e z => by rw [z, n0] at e; cases e
  have nc : ∀ y c, X.env.cells.lookup y = some c → c ≠ a := fun y c e z => by
    obtain ⟨v, oc, h1, h2⟩ := I.cell y c e
    rw [z, ha] at h1; cases h1
    exact hc v h2
  refine ⟨I.ok, I.os, I.bare, ⟨fun b u e => I.base.keep b u e, fun b u e => I.base.slot b u e, fun b u e h1 h2 => ?_, fun b u e => I.base.there b u e, fun b xs e => ?_, fun b u v e => ?_, fun b ps e => ?_⟩, I.loc, I.cell, ?_, fun y c e => ?_, fun q hq => ?_, fun b u e => ?_, I.len⟩
  · rw [upd_ne (n0' e)]; exact I.base.free b u e h1 h2
  · have := I.base.tups b xs e; rw [upd_ne (ne this)]; exact this
  · have := I.base.frzs b u v e; rw [upd_ne (ne this)]; exact this
  · obtain ⟨more, z⟩ := I.base.tbls b ps e
    exact ⟨more, by rw [upd_ne (ne z)]; exact z⟩
  · rw [upd_ne (Ne.symm hl)]; exact I.free
  · rw [upd_ne (nc y c e)]; exact I.freeC y c e
  · have hq' : q ∈ X.pn ++ ((a, oe) :: pins) := by
      rcases List.mem_append.mp hq with z | z
      · exact List.mem_append_left _ z
      · exact List.mem_append_right _ (List.mem_cons_of_mem _ z)
    obtain ⟨h1, h2, h3, h4, h5⟩ := I.pin q hq'
    exact ⟨h1, by rw [upd_ne (np q hq)]; exact h2, h3, h4, h5⟩
  · by_cases hb : b = a
    · subst hb
      rw [upd_same] at e; cases e
      exact exK_ok ha hz hd
    · rw [upd_ne hb] at e
      exact (I.hok b u e).stay (fun c v _ q => q) (fun c q => by rw [upd_ne (ne q)]; exact q) fun c xs q => by rw [upd_ne (ne q)]; exact q

/-- what try: body / except x as n: m = n wishes of the body's exceptions -/
def wKeep (K : PySem.W.Frag) (c : Value) (i m : Nat) (Dn : Ends) : WX := fun cls d sg H =>
  PySem.W.exmOne K cls c = some true ∧ ∀ a, H a = none → Dn.nx (((sg.set i (some (.ref a))).set m (some (.ref a))).set i none) (upd H a (ExK cls d a))
variable {y n mm : Str} {c : Value} {i m : Nat} {body : List Stmt} {np npos q1 q2 q3 pos' : Pos} {tb : WX → TS}
theorem ps_try_keep (hex : X.ex = []) (hs : X.stack = X.env :: X.outer) (hf : X.env.frame = some X.env.locals) (hN : X.N.Nodup) (hi : X.N[i]? = some n) (hm : X.N[m]? = some mm) (hln : X.env.kindOf n = some .local) (hlm : X.env.kindOf mm = some .local) (hc : Names X y c)
    (hdn : (n == ("__debug__" : Str)) = false) (hcn : (n == ("__classdict__" : Str)) = false) (hsw : swapsWith (.Name n q1) (some (.Name mm q2)) q3.line X.env = pure false)
    (hb : ∀ (V : WX) (pn : List (Addr × Obj)) (xe : Value → Shared → Prop), Takes (X.tr pn xe) V → PassesOwn (model X.prog X.w) X.A X.env xe → PSs (X.tr pn xe) body (tb V)) :
    PS X (.Try body [.ExceptHandler (some (.Name y np)) (some n) [.Assign [.Name mm q2] (.Name n q1) q3] pos'] [] [] pos) (fun Dn sg H => tb (wKeep X.K c i m Dn) Dn sg H) := by
  refine ⟨fun pins s sg H Dn I want => ?_⟩
  have fine := I.ok
  have frs0 : X.A.frames = some (X.env :: X.outer) := by rw [fine.frames, hs]
  refine wpAny_Try_except ?_
  let hd : List ExceptHandler := [.ExceptHandler (some (.Name y np)) (some n) [.Assign [.Name mm q2] (.Name n q1) q3] pos']
  let xe1 : Value → Shared → Prop := fun u t1 => wpAny (model X.prog X.w) X.A (noteFrame u X.env) (fun _ t2 => wpAny (model X.prog X.w) X.A (setFlight u none) (fun _ t3 => wpAny (model X.prog X.w) X.A (handleBy u X.env hd) (SP X pins Dn) X.xe t3) X.xe t2) X.xe t1
  have taken : Takes (X.tr (X.pn ++ pins) xe1) (wKeep X.K c i m Dn) := by
    intro u s' air
    obtain ⟨a, G, sA, pinsA, sgA, HA, cls, d, rfl, JA, ground, up0, sky0, none0, osA, bareA, matches_, fin⟩ := air
    have J : L2.Inv X pins sgA HA sA := JA.ofTry fine
    have sky1 : Sky G (X.env :: X.outer) a (Zc cls d) X.env.locals s'.heap := by rw [← hs]; exact sky0
    have goneG : G.get? a = none := by
      rcases sky1 with ⟨_, z, _⟩ | z | z
      · exact z
      · exact z.2.1
      · exact z.2.1
    show wpAny (model X.prog X.w) X.A (noteFrame (.ref a) X.env) _ _ _
    refine Sky.land Zc.steady frs0 hf sky1 fun hA flA upA => ?_
    have JL : L2.Inv X pins sgA HA { s' with heap := hA } := J.landed ground flA.1 (up0.trans upA) osA bareA
    obtain ⟨oA, vA, atA, zA, fA⟩ := flA.there
    have off : ∀ {h : Heap} {o : Obj} {vs : Array Value}, h.FunFrames G (X.env :: X.outer) → h.get? a = some o → o.data = .fields vs → a ∉ frs (X.env :: X.outer) := fun {h o vs} ff e1 e2 mem => by
      obtain ⟨_, o2, e3, nofields⟩ := ff.mem mem
      rw [e1] at e3; cases e3
      exact nofields _ e2
    have offF := off flA.2.2.1 atA fA
    have offL : a ≠ X.env.locals := fun z => offF (List.mem_filterMap.mpr ⟨X.env, List.mem_cons_self, by rw [hf, z]⟩)
    have offO : a ∉ X.fs := fun mem => by
      obtain ⟨e0, m0, q0⟩ := List.mem_filterMap.mp mem
      exact offF (List.mem_filterMap.mpr ⟨e0, List.mem_cons_of_mem _ m0, q0⟩)
    have offS : a ∉ frs X.stack := by rw [hs]; exact offF
    have newS : ∀ (b : Addr) (o : Obj), sA.heap.get? b = some o → b ≠ a := fun b o e z => by
      subst z
      have := ground b o e offS
      rw [goneG] at this; cases this
    have new0 : X.s_0.heap.get? a = none := by
      cases e : X.s_0.heap.get? a with
      | none => rfl
      | some o =>
        obtain ⟨o1, e1⟩ := J.base.there a o e (by rw [hex]; exact List.not_mem_nil)
        exact absurd rfl (newS a o1 e1)
    have apart : ∀ q ∈ X.pn ++ pins, q.1 ≠ a := fun q mem => newS q.1 q.2 (J.pin q mem).1
    have SL := JL.suite atA fA none0 offL offO
    refine wpAny_handleBy_cons (codeAny_handlers_test ?_) (by intro z; cases z)
    have typ : PySem.W.Looks (model X.prog X.w) hA (typeOf (.ref a)) cls := fun A2 Q2 E2 t k q => wpAny_typeOf_ref (k _ _ atA) (by rw [zA.1]; exact q)
    have hit := PySem.W.exm_one (M := model X.prog X.w) JL.kIn typ matches_
    have named : ∀ {Q2 E2 : Value → Shared → Prop}, Q2 c { s' with heap := hA } → wpAny (model X.prog X.w) (X.A.mark (some (.ref a))) (eval (.Name y np) X.env) Q2 E2 { s' with heap := hA } := fun {Q2 E2} q => by
      obtain ⟨g1, g2, g3 | ⟨g3, g4, g5⟩⟩ := hc
      · exact ld_glob (X := X.suite a ((a, oA) :: (X.pn ++ pins))) SL g1 g3 q g2
      · exact ld_blt (X := X.suite a ((a, oA) :: (X.pn ++ pins))) SL g1 g3 g4 q g5 g2
    refine named (hit.here (codeAny_handlers_suite_as ?_))
    refine HandSPX.lands_againZ flA fun hB flB upB => ?_
    have JB : L2.Inv X pins sgA HA { s' with heap := hB } := J.landed ground flB.1 ((up0.trans upA).trans upB) osA bareA
    obtain ⟨oB, vB, atB, zB, fB⟩ := flB.there
    have SB2 := JB.suite atB fB none0 offL offO
    refine store_ok (X := X.suite a ((a, oB) :: (X.pn ++ pins))) (v := .ref a) SB2 hN hi (.inl hln) rfl (fun s5 S5 => ?_) (.inr hln)
    have lenA : sgA.length = X.N.length := J.len
    have iLt : i < sgA.length := by rw [lenA]; exact (List.getElem?_eq_some_iff.mp hi).1
    have line : PSs (X.suite a ((a, oB) :: (X.pn ++ pins))) [.Assign [.Name mm q2] (.Name n q1) q3] _ := pss_one (ps_set (X := X.suite a ((a, oB) :: (X.pn ++ pins))) hN hm (.inl hlm) (pe_var (i := i) hi (.inl hln) hdn hcn) hsw (.inr hlm))
    refine wpAny_mono (line.run [] s5 _ HA { nx := fun sg6 H6 => sg6 = (sgA.set i (some (.ref a))).set m (some (.ref a)) ∧ H6 = HA, rt := fun _ _ => False, bk := fun _ _ => False, ct := fun _ _ => False } S5 ⟨.ref a, by rw [List.getElem?_set_self iLt], rfl, rfl⟩) (fun f s6 got => ?_) (fun _ _ z => False.elim z)
    cases f with
    | next =>
      obtain ⟨sg6, H6, S6, e6, e7⟩ := got
      subst e6 e7
      have pinned : L2.Inv X ((a, oB) :: pins) ((sgA.set i (some (.ref a))).set m (some (.ref a))) H6 s6 := ⟨fine, S6.os, S6.bare, S6.base, S6.loc, S6.cell, S6.free, S6.freeC, fun q mem => S6.pin q (by
        rcases List.mem_append.mp mem with z | z
        · exact List.mem_append_left _ (List.mem_cons_of_mem _ (List.mem_append_left _ z))
        · rcases List.mem_cons.mp z with z | z
          · exact List.mem_append_left _ (by rw [z]; exact List.mem_cons_self)
          · exact List.mem_append_left _ (List.mem_cons_of_mem _ (List.mem_append_right _ z))), S6.hok, S6.len⟩
      exact gone_ok pinned hN hi hln fun s7 J7 => ⟨_, _, track J7 new0 apart zB fB, fin a none0⟩
    | brk =>
      obtain ⟨_, _, _, z⟩ := got
      exact False.elim z
    | cont =>
      obtain ⟨_, _, _, z⟩ := got
      exact False.elim z
    | ret u =>
      obtain ⟨_, _, _, _, _, z⟩ := got
      exact False.elim z
  refine wpAny_mono ((hb (wKeep X.K c i m Dn) (X.pn ++ pins) xe1 taken PassesOwn.looking).run [] s sg H Dn (I.toTry _) want) (fun f s1 got => ?_) (fun u s1 z => z)
  cases f with
  | next =>
    obtain ⟨sg1, H1, J1, q⟩ := got
    exact wpAny_execs_nil ⟨sg1, H1, J1.ofTry fine, q⟩
  | brk =>
    obtain ⟨sg1, H1, J1, q⟩ := got
    exact ⟨sg1, H1, J1.ofTry fine, q⟩
  | cont =>
    obtain ⟨sg1, H1, J1, q⟩ := got
    exact ⟨sg1, H1, J1.ofTry fine, q⟩
  | ret u =>
    obtain ⟨v, sg1, H1, J1, rv, q⟩ := got
    exact ⟨v, sg1, H1, J1.ofTry fine, rv, q⟩
end
end DY

/-! try on data; what a caught exception answers. -/
namespace DY
open PySem PySem.Spec PyProof.Rows L2
section
variable {X : Cx} {cl : ClsT} {W : WX} {pos : Pos} {x : Str} {p p2 apos : Pos} {e o : Expr} {es : List Expr} {fa : SemA} {fo fe : SemE} {k : Nat}
theorem DF.tr {pn : List (Addr × Obj)} {xe : Value → Shared → Prop} {V : WX} (D : DF X W k) (tk : Takes (X.tr pn xe) V) (ow : PassesOwn (model X.prog X.w) X.A X.env xe) : DF (X.tr pn xe) V k := ⟨D.calm, ow, tk, D.room, D.gd⟩
theorem EnvR.clear {g : Gd} {Z r : List Addr} {H : Hp} {env : DEnv} {sg : L2.St} (E : EnvR g Z r H env sg) (i : Nat) : EnvR g Z r H (env.set i none) (sg.set i none) := by
  refine ⟨by simp [E.len], fun j d hj => ?_⟩
  by_cases hij : j = i
  · subst hij
    have hl : j < env.length := by
      have := (List.getElem?_eq_some_iff.mp hj).1
      simpa using this
    rw [List.getElem?_set_self hl] at hj; cases hj
  · rw [List.getElem?_set_ne (Ne.symm hij)] at hj ⊢
    exact E.at_ j d hj
/-- try: body / except L as n: m = n; good: the classes below L that are told -/
def sTryK (good : List Nat) (i m : Nat) (fb : SemS) : SemS := fun env st => match fb env st with
  | .er e env' st' => if e.c ∈ good then .nx (((env'.set i (some (.nd (.exc e.c e.ns) e.xs))).set m (some (.nd (.exc e.c e.ns) e.xs))).set i none) st' else .no
  | q => q
theorem rep_exc {g : Gd} {Z r : List Addr} {H : Hp} {st : Store} {ex : Ex} {cls : Value} {d : Option Addr} {a : Addr} (R : Rl g Z r H st) (h : RepX g Z r H ex cls d) (ha : H a = none) : Rep g Z r (upd H a (ExK cls d a)) (.nd (.exc ex.c ex.ns) ex.xs) (.ref a) := by
  obtain ⟨rfl, h⟩ := h
  have na := R.free ha
  rcases h with ⟨e1, e2, e3⟩ | ⟨dx, vs, e1, e2, n, e3, e4⟩
  · exact ⟨a, [], rfl, ⟨na, d, upd_same, .inl ⟨e1, e2, rfl⟩⟩, by rw [e3]; rfl⟩
  · exact ⟨a, vs, rfl, ⟨na, d, upd_same, .inr ⟨dx, e1, e2, n, by rw [upd_ne (ne_of_none e3 ha)]; exact e3⟩⟩, RepL.ext (Ext.new ha) _ e4⟩
theorem ss_tryK {y n mm : Str} {c : Value} {body : List Stmt} {np q1 q2 q3 pos' : Pos} {fb : SemS} (good : List Nat) (i m : Nat) (hN : X.N.Nodup) (D : DF X W k) (hg : ∀ j ∈ good, PySem.W.exmOne X.K (.ref (cl j)) c = some true) (hc : Names X y c)
    (hb : ∀ (V : WX) (pn : List (Addr × Obj)) (xe : Value → Shared → Prop), Takes (X.tr pn xe) V → PassesOwn (model X.prog X.w) X.A X.env xe → SB (X.tr pn xe) cl V body fb)
    (hex : X.ex = [] := by rfl) (hs : X.stack = X.env :: X.outer := by rfl) (hf : X.env.frame = some X.env.locals := by rfl) (hi : X.N[i]? = some n := by rfl) (hm : X.N[m]? = some mm := by rfl) (hln : X.env.kindOf n = some .local := by rfl) (hlm : X.env.kindOf mm = some .local := by rfl)
    (hdn : (n == ("__debug__" : Str)) = false := by decide +kernel) (hcn : (n == ("__classdict__" : Str)) = false := by decide +kernel) (hsw : swapsWith (.Name n q1) (some (.Name mm q2)) q3.line X.env = pure false := by rfl) :
    SS X cl W (.Try body [.ExceptHandler (some (.Name y np)) (some n) [.Assign [.Name mm q2] (.Name n q1) q3] pos'] [] [] pos) (sTryK good i m fb) := by
  refine ⟨(ps_try_keep hex hs hf hN hi hm hln hlm hc hdn hcn hsw (tb := fun V => rdS ⟨X.K, cl⟩ V fb) fun V pn xe tk ow => (hb V pn xe tk ow).run).imp fun E sg H ⟨Z, r, env, st, En, R, h⟩ => ?_⟩
  refine ⟨Z, r, env, st, En, R, ?_⟩
  unfold sTryK at h
  cases hfb : fb env st with
  | nx env' st' => rw [hfb] at h; exact h
  | rt d st' => rw [hfb] at h; exact h
  | bk env' st' => rw [hfb] at h; exact h
  | ct env' st' => rw [hfb] at h; exact h
  | no => rw [hfb] at h; exact h
  | er ex env' st' =>
    rw [hfb] at h
    dsimp only at h
    split at h
    · rename_i hgood
      intro r' H' sg' cls d e1 R1 En1 q1
      obtain ⟨hcls, _⟩ := id q1
      refine ⟨by rw [hcls]; exact hg _ hgood, fun a ha => ?_⟩
      have rp := rep_exc R1 q1 ha
      have En2 : EnvR ⟨X.K, cl⟩ Z r' (upd H' a (ExK cls d a)) env' sg' := En1.ext (Ext.new ha)
      exact h r' _ _ (e1.trans (Ext.new ha)) (R1.new ha) (((En2.set i rp).set m rp).clear i)
    · exact h.elim
/-- try: body / except L: return b -/
def sTryR (good : List Nat) (b : D) (fb : SemS) : SemS := fun env st => match fb env st with
  | .er e _ st' => if e.c ∈ good then .rt b st' else .no
  | q => q
/-! ### isinstance(e, C) -/
def DxOk (H : Hp) (d : Option Addr) (dv : Option (List (Str × V))) : Prop := match d, dv with
  | none, none => True
  | some dx, some fs => H dx = some (.xd fs)
  | _, _ => False
/-- a caught exception as an instance -/
theorem exc_inst {pins : List (Addr × Obj)} {sg : L2.St} {H : Hp} {s : Shared} {C a : Addr} {d : Option Addr} {dv : Option (List (Str × V))} (I : L2.Inv X pins sg H s) (h : H a = some (ExK (.ref C) d a)) (hd : DxOk H d dv) : ∃ oe od, PySem.W.InstAt s.heap a oe C od ∧ (∃ fv, oe.data = .fields fv) := by
  obtain ⟨oe, fv, h1, h2, h3⟩ := exK_at I.hok h
  have no : PySem.W.notCls oe = true := by unfold PySem.W.notCls; rw [h3] <;> rfl
  cases d with
  | none => exact ⟨oe, none, ⟨h1, h2.1, no, by rw [h2.2]; exact trivial⟩, fv, h3⟩
  | some dx =>
    cases dv with
    | none => exact hd.elim
    | some fs =>
      have q : ObjOk X.prog X.w H s.heap dx (.xd fs) := I.hok dx _ hd
      obtain ⟨mA, hns, _⟩ := q
      obtain ⟨od, ho, _⟩ := lookIn_ns hns
      exact ⟨oe, some od, ⟨h1, h2.1, no, by rw [h2.2]; exact ho⟩, fv, h3⟩
/-- what isinstance asks of the exception's class -/
structure ExI (K : PySem.W.Frag) (C : Addr) : Prop where
  cl : (PySem.W.clsIn K C).isSome = true
  ga : PySem.W.findIn K (.ref C) "__getattribute__" = some (some (.builtin "BaseException.__getattribute__"))
  gg : PySem.W.findIn K (.ref C) "__getattr__" = some none
  sb : PySem.W.subIn K (.ref C) (.type "BaseException") = some true
  cc : PySem.W.findIn K (.ref C) "__class__" = some (some (.builtin "object.__class__"))
  cg : PySem.W.specialIn K (.builtin "object.__class__") "__get__" = some (some (.builtin "getset_descriptor.__get__"))
  ct : PySem.W.takesIn K (.builtin "object.__class__") = some true
  mr : PySem.W.mroIn K C (.type "object") = some true
  hd : PySem.W.hasDictIn K C = true
def rIsX (K : PySem.W.Frag) : List V → Hp → VK → Prop := fun xs H Q => ∃ (a C : Addr) (d : Option Addr) (dv : Option (List (Str × V))) (c : V) (cv : Value) (b : Bool), xs = [.ref a, c] ∧ (∀ u, RelV c u → u = cv) ∧ ExI K C ∧ H a = some (ExK (.ref C) d a) ∧
  DxOk H d dv ∧ PySem.W.kitOne K (.ref C) cv = some b ∧ Q (.bl b) H
theorem call_isX : CallR X (.builtin "isinstance") (rIsX X.K) := by
  intro pins s sg H xs us Q I r h
  obtain ⟨a, C, d, dv, c, cv, b, rfl, hcv, T, ha, hd, e, q⟩ := h
  cases r with
  | cons rx rr =>
    cases rr with
    | cons rt rr =>
      cases rr
      cases rx
      have ec := hcv _ rt
      subst ec
      obtain ⟨oe, od, J, _⟩ := exc_inst I ha hd
      exact PySem.W.kia_one (PySem.W.kitx_exc (od := od) T.cl T.ga T.gg T.sb T.cc T.cg T.ct T.mr) I.kIn J e (fun z => nomatch z) fun tk => ⟨.bl b, H, I.kept (t' := tk) fun _ _ z => z, rfl, q⟩
def isxF (tab : List (Nat × Bool)) : D → Store → Res D
  | .nd (.exc c _) _, st1 => match tab.lookup c with
    | some b => .ok (.bl b) st1
    | none => .no
  | _, _ => .no
def dIsx (tab : List (Nat × Bool)) (f : SemE) : SemE := fun env st => (f env st).bind (isxF tab)
theorem lookup_mem {α : Type} : ∀ {l : List (Nat × α)} {c : Nat} {b : α}, l.lookup c = some b → (c, b) ∈ l
  | [], _, _, h => by cases h
  | (k, v) :: l, c, b, h => by
    rw [List.lookup_cons] at h
    cases e : c == k with
    | true => rw [e] at h; cases h; rw [eq_of_beq e]; exact List.mem_cons_self
    | false => rw [e] at h; exact List.mem_cons_of_mem _ (lookup_mem h)
theorem isx_rd {tab : List (Nat × Bool)} {cv : Value} {t : V} (ht : ∀ u, RelV t u → u = cv) (hI : ∀ q ∈ tab, ExI X.K (cl q.1)) (hk : ∀ q ∈ tab, PySem.W.kitOne X.K (.ref (cl q.1)) cv = some q.2) {Z r : List Addr} {H : Hp} {st1 : Store} {a : D} {v : V} {Q : VK} {W' : Value → Option Addr → Hp → Prop} (R1 : Rl ⟨X.K, cl⟩ Z r H st1) (q1 : Rep ⟨X.K, cl⟩ Z r H a v)
    (h1 : Post ⟨X.K, cl⟩ Z r H (RV ⟨X.K, cl⟩ Z) (isxF tab a st1) Q W') : rIsX X.K [v, t] H Q := by
  unfold isxF at h1
  split at h1
  · rename_i c ns xs st2
    split at h1
    · rename_i b hb
      have mem := lookup_mem hb
      obtain ⟨ad, vs, rfl, ⟨_, d, ha, hq⟩, _⟩ := q1
      rcases hq with ⟨e1, _, _⟩ | ⟨dx, e1, _, _, hdx⟩
      · exact ⟨ad, _, d, none, _, cv, b, rfl, ht, hI _ mem, ha, by rw [e1]; trivial, hk _ mem, post_ok h1 R1 rfl⟩
      · exact ⟨ad, _, d, some _, _, cv, b, rfl, ht, hI _ mem, ha, by rw [e1]; exact hdx, hk _ mem, post_ok h1 R1 rfl⟩
    · exact h1.elim
  · exact h1.elim
theorem se_isx {y : Str} {C : Addr} (tab : List (Nat × Bool)) (hI : ∀ q ∈ tab, ExI X.K (cl q.1)) (hk : ∀ q ∈ tab, PySem.W.kitOne X.K (.ref (cl q.1)) (.ref C) = some q.2) (hm : X.mg "isinstance" = none) (hmy : X.mg y = some (.ref C)) (ho : SE X cl W e fo) (hg : Gl X "isinstance" := by rfl) (hgy : Gl X y := by rfl)
    (hd : (y == ("__debug__" : Str)) = false := by decide +kernel)
    (h1 : starEach [e, .Name y p2] X.env = (false, eval e X.env) :: starEach [.Name y p2] X.env := by rfl) (h2 : (backTo pos (starEach [.Name y p2] X.env)).any (·.1) = false := by rfl) (h3 : starEach [.Name y p2] X.env = (false, eval (.Name y p2) X.env) :: starEach [] X.env := by rfl) :
    SE X cl W (.Call (.Name "isinstance" p) [e, .Name y p2] [] pos) (dIsx tab fo) := by
  refine ⟨(pe_callB call_isX hg hm (by rfl) (pa_cons ho.run (pa_cons (pe_glob (v := V.ref C) hgy hmy rfl hd) pa_nil h3) h1) (by decide +kernel) (by decide +kernel) h1 h2).imp fun sg H Q ⟨Z, r, env, st, E, R, h⟩ => ?_⟩
  exact ⟨Z, r, env, st, E, R, Post.bind h fun a st1 r1 H1 v _ e1 R1 q1 h1 => isx_rd (t := V.ref C) (fun u z => z) hI hk R1 q1 h1⟩
/-- isinstance(e, T), T a built-in class -/
theorem se_isxB {y : Str} {T : String} (tab : List (Nat × Bool)) (hI : ∀ q ∈ tab, ExI X.K (cl q.1)) (hk : ∀ q ∈ tab, PySem.W.kitOne X.K (.ref (cl q.1)) (.type T) = some q.2) (hm : X.mg "isinstance" = none) (hmy : X.mg y = none) (hv : bootBuiltins y = some (.type T)) (ho : SE X cl W e fo) (hg : Gl X "isinstance" := by rfl) (hgy : Gl X y := by rfl)
    (hn : y ≠ "__name__" := by decide +kernel) (hd : (y == ("__debug__" : Str)) = false := by decide +kernel)
    (h1 : starEach [e, .Name y p2] X.env = (false, eval e X.env) :: starEach [.Name y p2] X.env := by rfl) (h2 : (backTo pos (starEach [.Name y p2] X.env)).any (·.1) = false := by rfl) (h3 : starEach [.Name y p2] X.env = (false, eval (.Name y p2) X.env) :: starEach [] X.env := by rfl) :
    SE X cl W (.Call (.Name "isinstance" p) [e, .Name y p2] [] pos) (dIsx tab fo) := by
  refine ⟨(pe_callB call_isX hg hm (by rfl) (pa_cons ho.run (pa_cons (pe_bltn (v := V.ty T) hgy hmy hv rfl hn hd) pa_nil h3) h1) (by decide +kernel) (by decide +kernel) h1 h2).imp fun sg H Q ⟨Z, r, env, st, E, R, h⟩ => ?_⟩
  exact ⟨Z, r, env, st, E, R, Post.bind h fun a st1 r1 H1 v _ e1 R1 q1 h1 => isx_rd (t := V.ty T) (fun u z => z) hI hk R1 q1 h1⟩
/-! ### e.f -/
def dXat (cs : List Nat) (f : Str) (fe : SemE) : SemE := fun env st => (fe env st).bind fun x st1 => match x with
  | .nd (.exc c ns) xs => if c ∈ cs then (match (ns.zip xs).lookup f with
    | some d => .ok d st1
    | none => .no) else .no
  | _ => .no
theorem zip_rep {g : Gd} {Z r : List Addr} {H : Hp} {f : Str} : ∀ {ns : List Str} {xs : List D} {vs : List V} {d : D}, RepL g Z r H xs vs → (ns.zip xs).lookup f = some d → ∃ v, (ns.zip vs).lookup f = some v ∧ Rep g Z r H d v
  | [], _, _, _, _, h => by cases h
  | n :: ns, [], _, _, _, h => by cases h
  | n :: ns, x :: xs, vs, d, q, h => by
    obtain ⟨v, w, rfl, h1, h2⟩ := q
    rw [List.zip_cons_cons, List.lookup_cons] at h ⊢
    cases e : f == n with
    | true => rw [e] at h; cases h; exact ⟨v, rfl, h1⟩
    | false => rw [e] at h; exact zip_rep h2 h
theorem se_xat {n : Str} (cs : List Nat) (hI : ∀ j ∈ cs, ExI X.K (cl j)) (hno : ∀ j ∈ cs, PySem.W.findIn X.K (.ref (cl j)) n = some none) (he : SE X cl W e fe) (hb : attributeBase e n X.env (eval e X.env) = eval e X.env := by rfl) : SE X cl W (.Attribute e n pos) (dXat cs n fe) := by
  refine ⟨⟨fun pins s sg H Q I h => ?_⟩⟩
  have h' : rdE ⟨X.K, cl⟩ W fe sg H fun x H1 => ∃ (a C dd : Addr) (fs : List (Str × V)) (v : V), x = .ref a ∧ ExI X.K C ∧ PySem.W.findIn X.K (.ref C) n = some none ∧ H1 a = some (ExK (.ref C) (some dd) a) ∧ H1 dd = some (.xd fs) ∧ fs.lookup n = some v ∧ Q v H1 := by
    obtain ⟨Z, r, env, st, E, R, h⟩ := h
    refine ⟨Z, r, env, st, E, R, Post.bind h fun x st1 r1 H1 v _ e1 R1 q1 h1 => ?_⟩
    split at h1
    · rename_i c ns xs q1
      split at h1
      · rename_i hc
        split at h1
        · rename_i d hl
          obtain ⟨a, vs, rfl, ⟨_, dd, ha, hq⟩, hx⟩ := q1
          rcases hq with ⟨_, rfl, _⟩ | ⟨dx, rfl, _, _, hdx⟩
          · cases hl
          · obtain ⟨v, hv, qv⟩ := zip_rep hx hl
            exact ⟨a, cl c, dx, _, v, rfl, hI c hc, hno c hc, ha, hdx, hv, post_ok h1 R1 qv⟩
        · exact h1.elim
      · exact h1.elim
    · exact h1.elim
  refine attr_of hb (thn (he.run.run pins s sg H _ I h') fun u s1 got => ?_)
  obtain ⟨y, H1, I1, ry, a, C, dd, fs, v, rfl, T, nn, ha, hd, hl, q⟩ := got
  obtain rfl : u = Value.ref a := ry
  obtain ⟨oe, fv, g1, g2, g3⟩ := exK_at I1.hok ha
  have hx : ObjOk X.prog X.w H1 s1.heap dd (.xd fs) := I1.hok dd _ hd
  obtain ⟨mA, hns, hr⟩ := hx
  obtain ⟨od, ho, hlk⟩ := lookIn_ns hns
  obtain ⟨u, hu, ru⟩ := RelO.some_of (v := v) (o := mA n) (by rw [← hl]; exact hr n)
  have J : PySem.W.InstAt s1.heap a oe C (some od) := ⟨g1, g2.1, by unfold PySem.W.notCls; rw [g3] <;> rfl, by rw [g2.2]; exact ho⟩
  exact HandSPX.exc_get I1.kIn J T.ga T.gg T.sb (PySem.W.findObj_own T.hd nn rfl (by rw [hlk, hu])) (handed_of ru) ⟨v, H1, I1.tok _, ru, q⟩
end
end DY

/-! A lambda without parameters, handed on through defs, called in the last one. -/
namespace DY
open PySem PySem.Spec PyProof.Rows L2
/-- what a lambda computes: from the defs, from what it holds -/
abbrev LamF := (Nat → SemF) → List D → Store → Res D
/-- what is held -/
def capt (env : DEnv) : List Nat → Option (List D)
  | [] => some []
  | i :: is => match env[i]?, capt env is with
    | some (some d), some ds => some (d :: ds)
    | _, _ => none
def Caps (sg : L2.St) : List Nat → List V → Prop
  | [], vs => vs = []
  | i :: is, vs => ∃ v q, vs = v :: q ∧ sg[i]? = some (some v) ∧ Caps sg is q
theorem capt_ok {g : Gd} {Z r : List Addr} {H : Hp} {env : DEnv} {sg : L2.St} (E : EnvR g Z r H env sg) : ∀ {ix : List Nat} {xs : List D}, capt env ix = some xs → ∃ caps, RepL g Z r H xs caps ∧ Caps sg ix caps
  | [], xs, h => by cases h; exact ⟨[], rfl, rfl⟩
  | i :: is, xs, h => by
    simp only [capt] at h
    split at h
    · rename_i d ds e1 e2
      cases h
      obtain ⟨v, hv, q⟩ := E.at_ i d e1
      obtain ⟨caps, c1, c2⟩ := capt_ok E e2
      exact ⟨v :: caps, ⟨v, caps, rfl, q, c1⟩, v, caps, rfl, hv, c2⟩
    · cases h
def spread (N : Nat) : List Nat → List D → DEnv
  | i :: is, d :: ds => (spread N is ds).set i (some d)
  | _, _ => List.replicate N none
theorem spread_len (N : Nat) : ∀ (ix : List Nat) (xs : List D), (spread N ix xs).length = N
  | i :: is, d :: ds => by simp [spread, spread_len N is ds]
  | [], _ => by simp [spread]
  | _ :: _, [] => by simp [spread]
theorem spread_ok {g : Gd} {Z r : List Addr} {H : Hp} {sg : L2.St} {N : Nat} (hl : sg.length = N) : ∀ {ix : List Nat} {xs : List D} {caps : List V}, RepL g Z r H xs caps → Caps sg ix caps → EnvR g Z r H (spread N ix xs) sg
  | [], xs, caps, _, _ => ⟨by rw [spread_len, hl], fun i d h => by
      simp only [spread, List.getElem?_replicate] at h
      split at h <;> cases h⟩
  | i :: is, xs, caps, q, c => by
    obtain ⟨v, w, rfl, hv, cw⟩ := c
    cases xs with
    | nil => cases q
    | cons d ds =>
      obtain ⟨v', w', e, h1, h2⟩ := q
      cases e
      have E := spread_ok hl h2 cw
      refine ⟨by simp [spread, E.len], fun j y hj => ?_⟩
      simp only [spread] at hj
      by_cases hij : j = i
      · subst hij
        have hlt : j < (spread N is ds).length := by
          have := (List.getElem?_eq_some_iff.mp hj).1
          simpa using this
        rw [List.getElem?_set_self hlt] at hj
        cases hj
        exact ⟨v, hv, h1⟩
      · rw [List.getElem?_set_ne (Ne.symm hij)] at hj
        exact E.at_ j y hj

/-! ### the lambda's promise -/
section
variable (P : Program) (w : World) (K : PySem.W.Frag) (mg : Str → Option Value) (base : Heap) (cl : ClsT) (fa : Nat → Addr) (fd : Nat → FuncData) (ps : Nat → List Str) (nF : Nat)
/-- f, a lambda that was made, computes L of what it holds, from the frames fs, the state s, H on -/
structure ActOk (fs : List Addr) (s : Shared) (H : Hp) (f c0 : Addr) (q : Str) (caps : List V) (L : LamF) : Prop where
  obj : ∃ (n1 n2 : Str) (params : Arguments) (body : Expr) (scope : Scope) (clos : List (Str × Addr)) (pm : Value) (c' : Addr) (ctv : Value), s.heap.get? f = some (PySem.W.kla_obj n1 n2 params body scope clos pm c' ctv)
  off : H f = none ∧ f ∉ fs
  run : ∀ (k : Nat) (c : Nat → SemF), TX P w K mg base cl fa fd ps nF k c → ∀ (A : Around) (outer : List Env) (s' : Shared) (H' : Hp) (Q : VK) (E : XK), Room (k + 2) A → A.guards = some [] → Env0 P w K mg base A outer s' H' → Un fs [] H H' s.heap s'.heap →
    H' c0 = some (LamX.CodeO c0 q) → (∃ Z r st xs, RepL ⟨K, cl⟩ Z r H' xs caps ∧ Rl ⟨K, cl⟩ Z r H' st ∧ Post ⟨K, cl⟩ Z r H' (RV ⟨K, cl⟩ Z) (L c xs st) Q E) →
    codeAny (model P w) A (.call (.ref f) ⟨[], []⟩) (CR (L2.CX P w) outer P w H' s' Q E) s'
/-- a def that gets a lambda first -/
structure FnL (k : Nat) (g : Addr) (gd : FuncData) (qs : List Str) (n : Nat) (FL : LamF → SemF) : Prop where
  run : ∀ (A : Around) (outer : List Env) (s : Shared) (H : Hp) (args : Args) (us : List Value) (vs : List V) (Q : VK) (E : XK) (f c0 : Addr) (q : Str) (caps : List V) (L : LamF), Room k A → A.guards = some [] → Env0 P w K mg base A outer s H → BindsTo s gd args (qs.zip us) → Vals vs us →
    ActOk P w K mg base cl fa fd ps nF (frs outer) s H f c0 q caps L → vs.length = n → (∃ Z r st xs ds, RepL ⟨K, cl⟩ Z r H (.nd (.fn f c0 q caps) xs :: ds) vs ∧ Rl ⟨K, cl⟩ Z r H st ∧ Post ⟨K, cl⟩ Z r H (RV ⟨K, cl⟩ Z) (FL L (.nd (.fn f c0 q caps) xs :: ds) st) Q E) →
    codeAny (model P w) A (.call (.ref g) args) (CR (L2.CX P w) outer P w H s Q E) s
end
section
variable {P : Program} {w : World} {K : PySem.W.Frag} {mg : Str → Option Value} {base : Heap} {cl : ClsT} {fa : Nat → Addr} {fd : Nat → FuncData} {ps : Nat → List Str} {nF : Nat}
theorem FnL.none {k : Nat} {g : Addr} {gd : FuncData} {qs : List Str} {n : Nat} : FnL P w K mg base cl fa fd ps nF k g gd qs n fun _ _ _ => .no :=
  ⟨fun _ _ _ _ _ _ _ _ _ _ _ _ _ _ _ _ _ _ _ _ _ ⟨_, _, _, _, _, _, _, z⟩ => z.elim⟩
theorem FnL.mono {j k : Nat} {g : Addr} {gd : FuncData} {qs : List Str} {n : Nat} {FL : LamF → SemF} (F : FnL P w K mg base cl fa fd ps nF j g gd qs n FL) (h : j ≤ k) : FnL P w K mg base cl fa fd ps nF k g gd qs n FL :=
  ⟨fun A outer s H args us vs Q E f c0 q caps L hr => F.run A outer s H args us vs Q E f c0 q caps L (hr.mono h)⟩
/-- what the result of a def with a lambda takes out of the store -/
theorem FnL.frz {k : Nat} {g : Addr} {gd : FuncData} {qs : List Str} {n : Nat} {FL : LamF → SemF} (F : FnL P w K mg base cl fa fd ps nF k g gd qs n FL) : FnL P w K mg base cl fa fd ps nF k g gd qs n fun L => frzF (FL L) :=
  ⟨fun A outer s H args us vs Q E f c0 q caps L hr hg e0 hb rv act hl ⟨Z, r, st, xs, ds, qd, R, h⟩ => F.run A outer s H args us vs Q E f c0 q caps L hr hg e0 hb rv act hl ⟨Z, r, st, xs, ds, qd, R, frz_post R h⟩⟩
/-- deeper, the same lambda -/
theorem ActOk.deeper {X : Cx} {pins : List (Addr × Obj)} {sg : L2.St} {H : Hp} {s : Shared} {f c0 : Addr} {q : Str} {caps : List V} {L : LamF} (act : ActOk X.prog X.w X.K X.mg X.base cl fa fd ps nF X.fs X.s_0 X.H_0 f c0 q caps L) (I : L2.Inv X pins sg H s) (hex : X.ex = []) :
    ActOk X.prog X.w X.K X.mg X.base cl fa fd ps nF (frs X.stack) s H f c0 q caps L := by
  obtain ⟨n1, n2, pa, bo, sc, clos, pm, c', ctv, ho⟩ := act.obj
  have nex : ∀ b, b ∉ X.ex := fun b => by rw [hex]; exact List.not_mem_nil
  have h1 := I.base.keep f _ ho act.off.1 act.off.2 (nex f)
  have ff : H f = none := I.base.free f _ ho act.off.1 (nex f)
  have nst : f ∉ frs X.stack := fun m => by
    rcases List.mem_cons.mp (I.stkSub f m) with z | z
    · have l1 := Heap.lt_size ho
      have l2 := I.ok.above
      rw [z] at l1
      exact absurd (Nat.lt_of_lt_of_le l1 l2) (Nat.lt_irrefl _)
    · exact act.off.2 z
  refine ⟨⟨n1, n2, pa, bo, sc, clos, pm, c', ctv, h1⟩, ⟨ff, nst⟩, fun k c T A outer s' H' Q E hr hg e0 un hc hx => act.run k c T A outer s' H' Q E hr hg e0 ?_ hc hx⟩
  have J := I.call (ch := []) (h' := s'.heap) (g' := s'.gens) (d' := s.drawn) (t' := s.toks) un e0.hok e0.bare (fun b z => absurd z (by simp))
  have B := J.base
  rw [hex] at B
  exact B
section
variable {X : Cx} {W : WX} {pos p1 p2 : Pos} {k : Nat} {c : Nat → SemF}
/-- x(), x the lambda -/
def dAct (f c0 : Addr) (q : Str) (caps : List V) (i : Nat) (L : List D → Store → Res D) : SemE := fun env st => match env[i]? with
  | some (some (.nd (.fn f' c' q' caps') xs)) => if f' = f ∧ c' = c0 ∧ q' = q ∧ caps' = caps then L xs st else .no
  | _ => .no
theorem se_act {f c0 : Addr} {q : Str} {caps : List V} {L : LamF} {a : Str} {k' : Nat} {c' : Nat → SemF} (i : Nat) (D : DF X W k) (act : ActOk X.prog X.w X.K X.mg X.base cl fa fd ps nF X.fs X.s_0 X.H_0 f c0 q caps L) (T' : TX X.prog X.w X.K X.mg X.base cl fa fd ps nF k' c') (hk : k' + 2 ≤ k + 1) (hex : X.ex = [] := by rfl)
    (hN : X.N[i]? = some a := by rfl) (hv : Vis X.env.scope a := by first | exact Or.inl rfl | exact Or.inr (Or.inl rfl) | exact Or.inr (Or.inr rfl)) (hd : (a == ("__debug__" : Str)) = false := by decide +kernel) (hcd : (a == ("__classdict__" : Str)) = false := by decide +kernel) :
    SE X cl W (.Call (.Name a p1) [] [] p2) (dAct f c0 q caps i (L c')) := by
  refine ⟨⟨fun pins s sg H Q I h => ?_⟩⟩
  obtain ⟨Z, r, env, st, E, R, h⟩ := h
  unfold dAct at h
  split at h
  · rename_i f' c1 q' caps' xs he
    split at h
    · rename_i heq
      obtain ⟨h1, h2, h3, h4⟩ := heq
      obtain ⟨v, hv0, a0, vs, ev, ⟨ea, evs, _, hcode0⟩, hx0⟩ := E.at_ i _ he
      have hv1 : sg[i]? = some (some (.ref f)) := by rw [hv0, ev, ea, h1]
      have hcode : H c0 = some (LamX.CodeO c0 q) := by rw [← h2, ← h3]; exact hcode0
      have hx : RepL ⟨X.K, cl⟩ Z r H xs caps := by rw [← h4, ← evs]; exact hx0
      refine wpAny_Call_Name_kw (thn ((pe_var (pos := p1) (i := i) hN hv hd hcd).run pins s sg H (fun v H1 => v = .ref f ∧ H1 = H) I ⟨.ref f, hv1, rfl, rfl⟩) fun u s1 ⟨v, H1, I1, r1, e1, e2⟩ => ?_)
      subst e1
      rw [e2] at I1
      obtain rfl : u = Value.ref f := r1
      have act1 := act.deeper I1 hex
      obtain ⟨n1, n2, pa, bo, sc, clos, pm, cc, ctv, ho⟩ := act1.obj
      refine PySem.W.callWith_F0 ⟨_, _, _, _, ho⟩ (wpAny_call (codeAny_mono (act1.run k' c' T' X.A X.stack s1 H Q (fun c d H' => W c d sg H') (D.room.mono hk) D.gd I1.env0 ?_ hcode ⟨Z, r, st, xs, hx, R, h⟩) fun rr s' hq => ?_))
      · exact Un.kept fun b o e => e
      · cases rr with
        | error e => exact D.tk e s' (XE.of_call I1 (fun _ _ _ z => z) hq)
        | ok fl =>
          cases fl with
          | ret u => exact I1.after hq
          | next => exact False.elim hq
          | brk => exact False.elim hq
          | cont => exact False.elim hq
    · exact h.elim
  · exact h.elim
end
end
end DY

/-! Defs that get a lambda; a def called with one. -/
namespace DY
open PySem PySem.Spec PyProof.Rows L2
section
variable {P : Program} {w : World} {K : PySem.W.Frag} {mg : Str → Option Value} {base : Heap} {cl : ClsT} {fa : Nat → Addr} {fd : Nat → FuncData} {ps : Nat → List Str} {nF : Nat}
/-- the body of a def that gets a lambda first -/
def BodyL (P : Program) (w : World) (K : PySem.W.Frag) (mg : Str → Option Value) (base : Heap) (cl : ClsT) (fa : Nat → Addr) (fd : Nat → FuncData) (ps : Nat → List Str) (nF k : Nat) (N : List Str) (qual : Str) (st : Stmt) (body : Addr → Addr → Str → List V → LamF → SemS) : Prop :=
  ∀ (g : Addr) (cdv : Value) (A : Around) (outer : List Env) (s : Shared) (H : Hp) (E : XK) (f c0 : Addr) (q : Str) (caps : List V) (L : LamF), Room (k + 1) (A.deeper (envOfC qual (defScope st) s.heap.objs.size g cdv)) → A.guards = some [] → ActOk P w K mg base cl fa fd ps nF (frs outer) s H f c0 q caps L →
    SB (cxOf (L2.CX P w) P w K mg base N qual (defScope st) g cdv A outer s H E) cl (fun c d _ H' => E c d H') (defBody st) (body f c0 q caps L)
/-- its body as a function -/
def runL (n : Nat) (body : Addr → Addr → Str → List V → LamF → SemS) : LamF → SemF := fun L ds st => match ds with
  | .nd (.fn f c0 q caps) xs :: es => runB n (body f c0 q caps L) (.nd (.fn f c0 q caps) xs :: es) st
  | _ => .no
theorem BodyL.fn {k : Nat} {N qs : List Str} {x qual : Str} {st : Stmt} {g : Addr} {gd : FuncData} {body : Addr → Addr → Str → List V → LamF → SemS} (h : BodyL P w K mg base cl fa fd ps nF k N qual st body) (F : Fun K x qual st g gd) (S : FnScope N qs (defScope st)) :
    FnL P w K mg base cl fa fd ps nF (k + 2) g gd qs qs.length (runL N.length body) := by
  refine ⟨fun A outer s H args us vs Q E f c0 q caps L hr hg e0 hb rv act hlen ⟨Z, ra, sta, xs, ds, qd, R, hp⟩ => ?_⟩
  obtain ⟨oc, od, kV, doc, pm, an, cdv, ct, osl, rfl, lk, hcd⟩ := F.ex
  have KX : K.In s.heap := e0.mod.kin.keeps fun b o e => (e0.bs b o e).1
  have lim : s.heap.NoLimit := e0.mod.nolimit.keeps fun b o e => (e0.bs b o e).1
  have hk : ∀ y ∈ qs.zip us, (defScope st).names.lookup y.1 = some .local ∨ ((defScope st).names.lookup y.1 = some .cell ∧ ((cellsFrom (s.heap.objs.size + 1) (defScope st).names []).lookup y.1).isSome = true) := by
    intro y hy
    obtain ⟨n, v⟩ := y
    rcases S.par n (List.of_mem_zip hy).1 with z | z
    · exact .inl z
    · exact .inr ⟨z, PySem.W.cellsFrom_some _ _ _ (.inl z)⟩
  refine codeAny_call_function hr.depth (KX _ _ lk) rfl S.co S.gen rfl (PySem.W.codeRec_of KX hcd) (hb _ _ _ _ ?_)
  refine wpAny_newFunctionEnv_cells S.kind hk fun env he s1 x1 => ?_
  subst he
  refine ⟨lim.keeps x1.toInCall.keep, codeAny_func ?_⟩
  have B := (h g cdv A outer s H E f c0 q caps L (hr.deeper _) hg act).run
  have I : L2.Inv (cxOf (L2.CX P w) P w K mg base N qual (defScope st) g cdv A outer s H E) [] (L2.start N vs) H s1 := inv_start S hr.hd e0 hlen rv x1
  have hq : rdS ⟨K, cl⟩ (fun c d _ H' => E c d H') (body f c0 q caps L) { nx := fun _ H' => Q .non H', rt := Q } (L2.start N vs) H := by
    refine ⟨Z, ra, _, sta, start_env qd, R, ?_⟩
    unfold runL at hp
    dsimp only at hp
    unfold runB at hp
    split at hp
    · rename_i env' st' hb'
      rw [hb']
      exact fun r' H' sg e R' _ => hp r' H' .non e R' rfl
    · rename_i d st' hb'
      rw [hb']
      exact fun r' H' v e R' q => hp r' H' v e R' q
    · rename_i e' env' st' hb'
      rw [hb']
      exact fun r' H' sg c d e R' _ q => hp r' H' c d e R' q
    · exact hp.elim
  refine wpAny_mono (B.run [] s1 (L2.start N vs) H _ I hq) (fun fl s' hs => ?_) fun e s' hs => hs
  cases fl with
  | ret u =>
    obtain ⟨v, sg', H', J, rv, q⟩ := hs
    exact ⟨v, H', J.os, J.bare, J.base, J.hok, rv, q⟩
  | next =>
    obtain ⟨sg', H', J, q⟩ := hs
    exact ⟨.non, H', J.os, J.bare, J.base, J.hok, rfl, q⟩
  | brk =>
    obtain ⟨_, _, _, q⟩ := hs
    exact False.elim q
  | cont =>
    obtain ⟨_, _, _, q⟩ := hs
    exact False.elim q
/-- a body that makes lambdas: its code object is told -/
def BodyT (P : Program) (w : World) (K : PySem.W.Frag) (mg : Str → Option Value) (base : Heap) (cl : ClsT) (k : Nat) (N : List Str) (qual : Str) (st : Stmt) (c0 : Addr) (body : SemS) : Prop :=
  ∀ (f : Addr) (A : Around) (outer : List Env) (s : Shared) (H : Hp) (E : XK), Room (k + 1) (A.deeper (envOfC qual (defScope st) s.heap.objs.size f (.ref c0))) → A.guards = some [] →
    SB (cxOf (L2.CX P w) P w K mg base N qual (defScope st) f (.ref c0) A outer s H E) cl (fun c d _ H' => E c d H') (defBody st) body
theorem BodyT.fn {k : Nat} {N qs : List Str} {x qual : Str} {st : Stmt} {f c0 : Addr} {gd : FuncData} {body : SemS} (h : BodyT P w K mg base cl k N qual st c0 body) (F : Fun K x qual st f gd) (hc : gd.code = .ref c0) (S : FnScope N qs (defScope st)) :
    FnG P w K mg base (k + 2) f gd qs (spF ⟨K, cl⟩ qs.length (runB N.length body)) := by
  refine fnG_of F S fun cdv A outer s H E hr hg e => ?_
  obtain rfl : cdv = .ref c0 := e.symm.trans hc
  exact h f A outer s H E hr hg
section
variable {X : Cx} {W : WX} {pos p pa p1 p2 lpos : Pos} {k : Nat} {c : Nat → SemF} {x a : Str} {es : List Expr} {ft : SemA}
/-- g(x, e, ..), x the lambda that is handed on -/
def dCallL (f c0 : Addr) (q : Str) (caps : List V) (n : Nat) (F : SemF) (ft : SemA) : SemE := fun env st => (ft env st).bind fun ds st1 => match ds with
  | .nd (.fn f' c' q' caps') xs :: es => if (f' = f ∧ c' = c0 ∧ q' = q ∧ caps' = caps) ∧ es.length + 1 = n then F (.nd (.fn f c0 q caps) xs :: es) st1 else .no
  | _ => .no
theorem se_callL {f c0 g : Addr} {q : Str} {caps : List V} {L : LamF} {gd : FuncData} {qs : List Str} {FL : LamF → SemF} {e : Expr} (D : DF X W k) (act : ActOk X.prog X.w X.K X.mg X.base cl fa fd ps nF X.fs X.s_0 X.H_0 f c0 q caps L)
    (F : FnL X.prog X.w X.K X.mg X.base cl fa fd ps nF k g gd qs qs.length FL) (hb : L2.Binds X.K gd qs []) (hk : PySem.W.keepIn X.K (.ref g) = true) (hm : X.mg x = some (.ref g)) (ha : SA X cl W (e :: es) ft) (hex : X.ex = [] := by rfl) (hg : Gl X x := by rfl)
    (hdx : (x == ("__debug__" : Str)) = false := by decide +kernel)
    (he : starEach (e :: es) X.env = (false, eval e X.env) :: starEach es X.env := by rfl) (hpl : (backTo pos (starEach es X.env)).any (·.1) = false := by rfl) :
    SE X cl W (.Call (.Name x p) (e :: es) [] pos) (dCallL f c0 q caps qs.length (FL L) ft) := by
  refine ⟨⟨fun pins s sg H Q I h => ?_⟩⟩
  have h' : rdA ⟨X.K, cl⟩ W ft sg H fun vs H1 => vs.length = qs.length ∧ ∃ Z r st xs ds, RepL ⟨X.K, cl⟩ Z r H1 (.nd (.fn f c0 q caps) xs :: ds) vs ∧ Rl ⟨X.K, cl⟩ Z r H1 st ∧ Post ⟨X.K, cl⟩ Z r H1 (RV ⟨X.K, cl⟩ Z) (FL L (.nd (.fn f c0 q caps) xs :: ds) st) Q (fun c d H' => W c d sg H') := by
    obtain ⟨Z, r, env, st, E, R, h⟩ := h
    refine ⟨Z, r, env, st, E, R, Post.bind h fun ds st1 r1 H1 vs _ e1 R1 q1 h1 => ?_⟩
    split at h1
    · rename_i f' c' q' caps' xs ds' _
      split at h1
      · rename_i heq
        obtain ⟨⟨h1', h2', h3', h4'⟩, hl⟩ := heq
        rw [h1', h2', h3', h4'] at q1
        exact ⟨by rw [← q1.length, ← hl]; rfl, Z, r1, st1, xs, ds', q1, R1, h1⟩
      · exact h1.elim
    · exact h1.elim
  refine wpAny_Call_Name_kw (ld_glob I hg hm ?_ hdx)
  refine PySem.W.callWith_K (h₀ := X.base) I.ok.mod.kin hk (thn (ha.run.run pos pins s sg H _ I h') fun us s1 ⟨vs, H1, I1, rv, hl, hp⟩ => ⟨I1.kIn, ?_⟩) he hpl
  have hl2 : (us ++ []).length = qs.length := by rw [List.append_nil, ← rv.length]; exact hl
  have hbd := hb s1 us I1.kIn hl2
  rw [List.append_nil] at hbd
  refine wpAny_call (codeAny_mono (F.run X.A X.stack s1 H1 ⟨us, []⟩ us vs Q (fun c d H' => W c d sg H') f c0 q caps L (D.room.mono (Nat.le_succ k)) D.gd I1.env0 hbd rv (act.deeper I1 hex) hl hp) fun rr s' hq => ?_)
  cases rr with
  | error er => exact D.tk er s' (XE.of_call I1 (fun _ _ _ z => z) hq)
  | ok fl =>
    cases fl with
    | ret u => exact I1.after hq
    | next => exact False.elim hq
    | brk => exact False.elim hq
    | cont => exact False.elim hq
/-! ### g(lambda: body, e, ..) -/
noncomputable def dLam (ix : List Nat) (N n : Nat) (lam : (Nat → SemF) → SemE) (FL : LamF → SemF) (ft : SemA) : SemE := fun env st => open Classical in match capt env ix with
  | some xs => (ft env st).bind fun ds st1 => if ds.length + 1 = n ∧ ∀ (f c0 : Addr) (q : Str) (caps : List V), FL (fun c ys st => lam c (spread N ix ys) st) (.nd (.fn f c0 q caps) xs :: ds) st1 = FL (fun c ys st => lam c (spread N ix ys) st) (.nd (.fn 0 0 "" []) xs :: ds) st1 then
      FL (fun c ys st => lam c (spread N ix ys) st) (.nd (.fn 0 0 "" []) xs :: ds) st1 else .no
  | none => .no
/-- room where a generator is drained -/
structure RG (k : Nat) (A : Around) : Prop where
  hd : A.handled = none
  dp : A.depth + 3 * k + 9 < recursionLimit
  un : A.units + 16 * k + 222 < cLine
theorem RG.of {k : Nat} {A : Around} {env : Env} (h : Room (k + 2) A) : RG k (A.deeper env) := ⟨h.hd, by have := h.dp; show A.depth + 1 + 3 * k + 9 < _; omega, by have := h.un; show A.units + 3 + 16 * k + 222 < _; omega⟩
/-- the lambda's context may be worked in -/
theorem DF.lam {A : Around} {outer : List Env} {s : Shared} {H : Hp} {E : XK} {scope : Scope} {f c0 : Addr} {k' : Nat} (hr : Room (k' + 2) A) (hg : A.guards = some []) : DF (LamX.lamCx X A outer s H E scope f c0) (fun c d _ H' => E c d H') k' :=
  ⟨rfl, passes_of rfl, takes_of rfl rfl rfl rfl, (hr.deeper _), deeper_guards hg⟩
/-- a lambda that was made keeps its promise -/
theorem act_of {pins : List (Addr × Obj)} {sg : L2.St} {H : Hp} {s : Shared} {f c0 : Addr} {pm ctv : Value} {params : Arguments} {body : Expr} {scope : Scope} {ix : List Nat} {caps : List V} {lam : (Nat → SemF) → SemE} (I : L2.Inv X pins sg H s) (L : LamX.LamS X.env.scope scope)
    (hf : s.heap.get? f = some (PySem.W.kla_obj "<lambda>" (X.env.qual ++ "<lambda>") params body scope (cloFrom X.env.cells scope.names []) pm c0 ctv)) (hfn : H f = none) (hfr : f ∉ frs X.stack) (hc : Caps sg ix caps)
    (hbind : bindArgs (PySem.W.kla_fn "<lambda>" (X.env.qual ++ "<lambda>") params body scope (cloFrom X.env.cells scope.names []) pm (.ref c0) ctv) ⟨[], []⟩ = pure [])
    (hbody : ∀ (k' : Nat) (c' : Nat → SemF), TX X.prog X.w X.K X.mg X.base cl fa fd ps nF k' c' → ∀ (A : Around) (outer : List Env) (s : Shared) (H : Hp) (E : XK), DF (LamX.lamCx X A outer s H E scope f c0) (fun c d _ H' => E c d H') k' → RG k' (LamX.lamCx X A outer s H E scope f c0).A → SE (LamX.lamCx X A outer s H E scope f c0) cl (fun c d _ H' => E c d H') body (lam c')) :
    ActOk X.prog X.w X.K X.mg X.base cl fa fd ps nF (frs X.stack) s H f c0 (X.env.qual ++ "<lambda>") caps (fun c ys st => lam c (spread X.N.length ix ys) st) := by
  refine ⟨⟨_, _, _, _, _, _, _, _, _, hf⟩, ⟨hfn, hfr⟩, fun k' c' T A outer s1 H1 Q E hr hg e0 un hcode ⟨Z, r, st, xs, hx, R, hp⟩ => ?_⟩
  have there := un.keep f _ hf hfn hfr List.not_mem_nil
  have codeAt : ObjOk X.prog X.w H1 s1.heap c0 (.ext fun h => ∃ (oc : Obj) (vs : Array Value) (t : Tok), h.get? c0 = some oc ∧ oc.data = .fields vs ∧ vs[1]? = some (.str (X.env.qual ++ "<lambda>") t)) := e0.hok c0 _ hcode
  obtain ⟨⟨oc, vs, t, hoc, hdc, hvc⟩, _, _⟩ := codeAt
  have limit : s1.heap.NoLimit := e0.mod.nolimit.keeps fun b o e => (e0.bs b o e).1
  refine PySem.W.kla_callFunE hr.depth there rfl L.co L.gen rfl ⟨c0, oc, vs, t, rfl, hoc, hdc, hvc⟩ ?_
  rw [hbind]
  refine wpAny_pure (wpAny_newFunctionEnv (fun y hy => (L.own y hy).2) (fun y hy => absurd hy (by simp)) (fun h1 hns hsb => ⟨limit.fresh _ hsb, ?_⟩) L.kind)
  have stay : ∀ b o, s1.heap.get? b = some o → h1.get? b = some o := fun b o e => hsb.extBut b o (Nat.ne_of_lt (Heap.lt_size e)) (Heap.get?_push_of_some _ e)
  have J : L2.Inv (LamX.lamCx X A outer s1 H1 E scope f c0) [] sg H1 { s1 with heap := h1, toks := s1.toks + ([] : List (Str × Value)).length } := LamX.lam_start2 I L e0 hr.hd un hns stay
  have run := (hbody k' c' T A outer s1 H1 E (DF.lam hr hg) (RG.of hr)).run.run [] _ sg H1 Q J ⟨Z, r, spread X.N.length ix xs, st, spread_ok I.len hx hc, R, hp⟩
  refine PySem.W.kla_codeExpr (wpAny_mono run (fun v s2 got => ?_) fun e s2 got => got)
  obtain ⟨v', H2, J2, rv, q⟩ := got
  exact ⟨v', H2, J2.os, J2.bare, J2.base, J2.hok, rv, q⟩
theorem se_lam {g c1 Pt : Addr} {gd : FuncData} {qs : List Str} {FL : LamF → SemF} {params : Arguments} {body : Expr} {scope : Scope} {lam : (Nat → SemF) → SemE} (ix : List Nat) (n N : Nat) (D : DF X W k) (hq : qs.length = n) (hN : X.N.length = N)
    (F : FnL X.prog X.w X.K X.mg X.base cl fa fd ps nF k g gd qs qs.length FL) (hb : L2.Binds X.K gd qs []) (hk : PySem.W.keepIn X.K (.ref g) = true) (hm : X.mg x = some (.ref g)) (ha : SA X cl W es ft)
    (TB : LamX.TabB X.base X.mg c1 Pt) (hcode : X.env.code = .ref c1) (hT : (Pt, X.env.qual ++ "<lambda>") ∈ cl.tb) (hu : ∀ p ∈ cl.tb, p.1 = Pt → p.2 = X.env.qual ++ "<lambda>") (L : LamX.LamS X.env.scope scope)
    (hbody : ∀ (k' : Nat) (c' : Nat → SemF), TX X.prog X.w X.K X.mg X.base cl fa fd ps nF k' c' → ∀ (A : Around) (outer : List Env) (s : Shared) (H : Hp) (E : XK) (f c0 : Addr), DF (LamX.lamCx X A outer s H E scope f c0) (fun c d _ H' => E c d H') k' → RG k' (LamX.lamCx X A outer s H E scope f c0).A → SE (LamX.lamCx X A outer s H E scope f c0) cl (fun c d _ H' => E c d H') body (lam c'))
    (hdef : defaultsOf params X.env = ([], []) := by rfl) (hbind : ∀ (q : Str) (cl : List (Str × Addr)) (pm cv ctv : Value), bindArgs (PySem.W.kla_fn "<lambda>" q params body scope cl pm cv ctv) ⟨[], []⟩ = pure [] := by intros; rfl)
    (hs : X.stack = X.env :: X.outer := by rfl) (hf : X.env.frame = some X.env.locals := by rfl) (hg : Gl X x := by rfl) (hdx : (x == ("__debug__" : Str)) = false := by decide +kernel)
    (he : starEach (.Lambda params body scope lpos :: es) X.env = (false, eval (.Lambda params body scope lpos) X.env) :: starEach es X.env := by rfl) (hpl : (backTo pos (starEach es X.env)).any (·.1) = false := by rfl) :
    SE X cl W (.Call (.Name x p) (.Lambda params body scope lpos :: es) [] pos) (dLam ix N n lam FL ft) := by
  refine ⟨⟨fun pins s sg H Q I h => ?_⟩⟩
  obtain ⟨Z, r, env, st, E, R, h⟩ := h
  unfold dLam at h
  split at h
  · rename_i xs hcap
    obtain ⟨caps, cx, cs⟩ := capt_ok E hcap
    refine wpAny_Call_Name_kw (ld_glob I hg hm ?_ hdx)
    refine PySem.W.callWith_K (h₀ := X.base) I.ok.mod.kin hk ?_ he hpl
    rw [he]
    show wpAny _ _ (spliced ((false, eval (.Lambda params body scope lpos) X.env) :: backTo pos (starEach es X.env))) _ _ s
    refine Calls.spliced_cons (LamX.lam_make2 I TB hcode hT hu R.tb hdef (L.has I.ok) fun f c0 pm ctv H1 s1 I1 eN T1 hob hfn hfr hco => ?_)
    have fL : f ≠ X.env.locals := fun z => hfr (by rw [hs]; exact List.mem_filterMap.mpr ⟨X.env, List.mem_cons_self, by rw [hf, z]⟩)
    have fO : f ∉ X.fs := fun mem => hfr (by
      rw [hs]
      obtain ⟨e0, m0, q0⟩ := List.mem_filterMap.mp mem
      exact List.mem_filterMap.mpr ⟨e0, List.mem_cons_of_mem _ m0, q0⟩)
    have IP : L2.Inv X ((f, PySem.W.kla_obj "<lambda>" (X.env.qual ++ "<lambda>") params body scope (cloFrom X.env.cells scope.names []) pm c0 ctv) :: pins) sg H1 s1 := ⟨I1.ok, I1.os, I1.bare, I1.base, I1.loc, I1.cell, I1.free, I1.freeC, fun p mem => by
      rcases List.mem_append.mp mem with z | z
      · exact I1.pin p (List.mem_append_left _ z)
      · rcases List.mem_cons.mp z with z | z
        · rw [z]; exact ⟨hob, hfn, fL, fO, fun v z => by cases z⟩
        · exact I1.pin p (List.mem_append_right _ z), I1.hok, I1.len⟩
    have e1 : Ext r H r H1 := ⟨⟨[], by simp⟩, fun a o ha ht hn => ⟨eN a o ha ht, hn⟩⟩
    have R1 : Rl ⟨X.K, cl⟩ Z r H1 st := ⟨R.len, R.nd, fun a m => by
      obtain ⟨n, o, ho, x⟩ := R.z a m
      exact ⟨n, o, eN a o ho x.1, x⟩, T1, fun j d hj => by
      obtain ⟨a, ea, t, ys, vs, ed, hm', hx'⟩ := R.cell j d hj
      obtain ⟨o, ho⟩ := hm'.some
      exact ⟨a, ea, t, ys, vs, ed, hm'.keep (by rw [ho]; exact eN a o ho (hm'.nx o ho).1), RepL.ext e1 ys hx'⟩⟩
    have fit : rdA ⟨X.K, cl⟩ W ft sg H1 fun vs H2 => vs.length + 1 = qs.length ∧ H2 c0 = some (LamX.CodeO c0 (X.env.qual ++ "<lambda>")) ∧ ∃ Z r st ds, RepL ⟨X.K, cl⟩ Z r H2 (.nd (.fn f c0 (X.env.qual ++ "<lambda>") caps) xs :: ds) (.ref f :: vs) ∧ Rl ⟨X.K, cl⟩ Z r H2 st ∧
        Post ⟨X.K, cl⟩ Z r H2 (RV ⟨X.K, cl⟩ Z) (FL (fun c ys st => lam c (spread N ix ys) st) (.nd (.fn f c0 (X.env.qual ++ "<lambda>") caps) xs :: ds) st) Q (fun c d H' => W c d sg H') := by
      refine ⟨Z, r, env, st, E.ext e1, R1, Post.bind (Post.ext e1 h) fun ds st2 r2 H2 vs _ e2 R2 q2 h2 => ?_⟩
      split at h2
      · rename_i hgood
        obtain ⟨hln, hsame⟩ := hgood
        have nZ : c0 ∉ Z := fun mem => by
          obtain ⟨_, o, ho, x⟩ := R1.z c0 mem
          rw [hco] at ho; cases ho
          exact x.2 _ rfl
        have nr : c0 ∉ r := fun mem => by
          obtain ⟨j, hj, ej⟩ := List.getElem_of_mem mem
          have hj' : j < st.length := by rw [← R1.len]; exact hj
          obtain ⟨a, ea, t, ys, us, ed, hm', _⟩ := R1.cell j _ (List.getElem?_eq_getElem hj')
          rw [List.getElem?_eq_getElem hj, ej] at ea; cases ea
          exact (hm'.nx _ hco).2 _ rfl
        obtain ⟨hco2, nr2⟩ := e2.keep c0 _ hco (fun ps z => by cases z) nr
        refine ⟨by rw [← q2.length, hq]; exact hln, hco2, Z, r2, st2, ds, ⟨_, _, rfl, ⟨f, caps, rfl, ⟨rfl, rfl, ⟨nZ, nr2⟩, hco2⟩, RepL.ext (e1.trans e2) xs cx⟩, q2⟩, R2, ?_⟩
        rw [hsame]
        exact h2
      · exact h2.elim
    refine thn (ha.run.run pos _ s1 sg H1 _ IP fit) fun us s2 ⟨vs, H2, I2, rv, hl, hco2, Z2, r2, st2, ds, qd, R2, hp⟩ => ?_
    obtain ⟨fAt, fN, _, _, _⟩ := I2.pin (f, _) (List.mem_append_right _ List.mem_cons_self)
    have I3 : L2.Inv X pins sg H2 s2 := ⟨I2.ok, I2.os, I2.bare, I2.base, I2.loc, I2.cell, I2.free, I2.freeC, fun p mem => I2.pin p (by
      rcases List.mem_append.mp mem with z | z
      · exact List.mem_append_left _ z
      · exact List.mem_append_right _ (List.mem_cons_of_mem _ z)), I2.hok, I2.len⟩
    refine ⟨I3.kIn, ?_⟩
    have act := act_of (lam := lam) I3 L fAt fN hfr cs (hbind _ _ _ _ _) fun k' c' T A outer s H E D' => hbody k' c' T A outer s H E f c0 D'
    rw [hN] at act
    have r3 : Vals (V.ref f :: vs) (Value.ref f :: us) := .cons rfl rv
    have hl2 : ((Value.ref f :: us) ++ []).length = qs.length := by rw [List.append_nil, ← r3.length]; exact hl
    have hbd := hb s2 (Value.ref f :: us) I3.kIn hl2
    rw [List.append_nil] at hbd
    refine wpAny_call (codeAny_mono (F.run X.A X.stack s2 H2 ⟨Value.ref f :: us, []⟩ (Value.ref f :: us) (V.ref f :: vs) Q (fun c d H' => W c d sg H') f c0 _ caps _ (D.room.mono (Nat.le_succ k)) D.gd I3.env0 hbd r3 act hl ⟨Z2, r2, st2, xs, ds, qd, R2, hp⟩) fun rr s' hq => ?_)
    cases rr with
    | error er => exact D.tk er s' (XE.of_call I3 (fun _ _ _ z => z) hq)
    | ok fl =>
      cases fl with
      | ret u => exact I3.after hq
      | next => exact False.elim hq
      | brk => exact False.elim hq
      | cont => exact False.elim hq
  · exact h.elim
end
end
end DY

/-! repr of a text beside a dict; where a truth stands first in a list; {}. -/
namespace DY
open PySem PySem.Spec PyProof.Rows L2
/-! ### repr((text, {..})) -/
def kyP : Key → PyData
  | .inl i => .int i
  | .inr x => .str x
/-- a value that is no thing -/
def scP : D → Option PyData
  | .non => some .none
  | .bl b => some (.bool b)
  | .int i => some (.int i)
  | .str s => some (.str s)
  | _ => none
def scPs : List D → Option (List PyData)
  | [] => some []
  | d :: ds => match scP d, scPs ds with
    | some p, some ps => some (p :: ps)
    | _, _ => none
def scV : V → PyData → Prop
  | .non, p => p = .none
  | .bl b, p => p = .bool b
  | .int i, p => p = .int i
  | .str s, p => p = .str s
  | _, _ => False
theorem scP_ok {g : Gd} {Z r : List Addr} {H : Hp} : ∀ {d : D} {p : PyData} {v : V}, scP d = some p → Rep g Z r H d v → scV v p
  | .non, _, _, e, h => by cases e; rw [show _ = V.non from h]; rfl
  | .bl b, _, _, e, h => by cases e; rw [show _ = V.bl b from h]; rfl
  | .int i, _, _, e, h => by cases e; rw [show _ = V.int i from h]; rfl
  | .str s, _, _, e, h => by cases e; rw [show _ = V.str s from h]; rfl
  | .h _, _, _, e, _ => by cases e
  | .nd _ _, _, _, e, _ => by cases e
inductive ScVs : List V → List PyData → Prop
  | nil : ScVs [] []
  | cons {v : V} {p : PyData} {vs : List V} {ps : List PyData} : scV v p → ScVs vs ps → ScVs (v :: vs) (p :: ps)
theorem scPs_ok {g : Gd} {Z r : List Addr} {H : Hp} : ∀ {ds : List D} {ps : List PyData} {vs : List V}, scPs ds = some ps → RepL g Z r H ds vs → ScVs vs ps
  | [], _, _, e, h => by cases e; cases (show _ = [] from h); exact .nil
  | d :: ds, ps, vs, e, h => by
    simp only [scPs] at e
    split at e
    · rename_i p qs e1 e2
      cases e
      obtain ⟨v, w, rfl, h1, h2⟩ := h
      exact .cons (scP_ok e1 h1) (scPs_ok e2 h2)
    · cases e
theorem scV_reads {h : Heap} {v : V} {p : PyData} {u : Value} (e : scV v p) (r : RelV v u) : Reads h u p [] := by
  cases v with
  | non => cases e; cases r; exact .none
  | bl b => cases e; cases r; exact .bool b
  | int i => cases e; obtain ⟨t, rfl⟩ := r; exact .int i t
  | str s => cases e; obtain ⟨t, rfl⟩ := r; exact .str s t
  | byt b => exact e.elim
  | flt b => exact e.elim
  | ref a => exact e.elim
  | ty n => exact e.elim
theorem kyP_reads {h : Heap} {k : Key} {u : Value} (e : keyIs k u = true) : Reads h u (kyP k) [] := by
  rcases keyIs_shape e with ⟨i, t, rfl, rfl⟩ | ⟨x, t, rfl, rfl⟩
  · exact .int i t
  · exact .str x t
theorem dictP_reads {P : Program} {w : World} {h : Heap} : ∀ {ks : List Key} {vs : List V} {ps : List PyData} {kus : List (Key × Value)} {es : List DictEntry}, ks.length = vs.length → ScVs vs ps → KV (ks.zip vs) kus → Pairs (mixKind P w) es kus →
    ReadsAll h (es.map (·.key)) (((ks.map kyP).zip ps).map (·.1)) [] ∧ ReadsAll h (es.map (·.val)) (((ks.map kyP).zip ps).map (·.2)) []
  | [], [], _, _, _, _, .nil, kv, pr => by cases kv; cases pr; exact ⟨.nil, .nil⟩
  | k :: ks, v :: vs, _, _, _, hl, .cons (p := p) (ps := ps) e1 e2, kv, pr => by
    cases kv with
    | cons h1 h2 =>
      cases pr with
      | cons q1 q2 q3 =>
        obtain ⟨f1, f2⟩ := dictP_reads (by simpa using hl) e2 h2 q3
        obtain ⟨a1, a2⟩ := h1
        dsimp only at a1 a2
        rw [← a1] at q1
        rw [← q2] at a2
        have g1 : Reads h _ (kyP k) [] := kyP_reads q1
        have g2 : Reads h _ p [] := scV_reads e1 a2
        exact ⟨ReadsAll.cons (as := []) (bs := []) g1 f1, ReadsAll.cons (as := []) (bs := []) g2 f2⟩
section
variable {X : Cx} {cl : ClsT} {W : WX} {pos : Pos}
/-- repr of (text, dict) -/
def rReprTD (K : PySem.W.Frag) : List V → Hp → VK → Prop := fun vs H Q => ∃ (a b : Addr) (x : Str) (ks : List Key) (ws : List V) (ps : List PyData), vs = [.ref a] ∧ SqT K H a [.str x, .ref b] ∧ ks.length = ws.length ∧ H b = some (.dK (ks.zip ws)) ∧ ScVs ws ps ∧
  (PyData.tuple [.str x, .dict ((ks.map kyP).zip ps)]).showable = true ∧ (PyData.tuple [.str x, .dict ((ks.map kyP).zip ps)]).shown.length ≤ sizeLine ∧ (PyData.tuple [.str x, .dict ((ks.map kyP).zip ps)]).depth ≤ 60 ∧ Q (.str (PyData.tuple [.str x, .dict ((ks.map kyP).zip ps)]).shown) H
theorem cr_reprTD (hu : X.A.units + 64 < cLine) (hg : X.A.guards = some []) : CallR X (.builtin "repr") (rReprTD X.K) := by
  intro pins s sg H vs us Q I r h
  obtain ⟨a, b, x, ks, ws, ps, rfl, hs, hl, hd, hsc, h1, h2, h3, q⟩ := h
  obtain ⟨u, rfl, rv⟩ := vals1 r
  obtain rfl : u = Value.ref a := rv
  obtain ⟨its, rt, ⟨o, ho, hc, n, hdat⟩, _⟩ := I.tuple hs
  obtain ⟨_, hsm, kus, kv, ob, es, ep, ho2, hx2, hd2, _, pr, _⟩ := dk_of I.hok hd
  obtain ⟨f1, f2⟩ := dictP_reads (h := s.heap) hl hsc kv pr
  cases rt with
  | cons r1 r2 =>
    cases r2 with
    | cons r3 r4 =>
      cases r4
      obtain ⟨t, rfl⟩ := r1
      cases r3
      have rd2 : Reads s.heap (.ref b) (.dict ((ks.map kyP).zip ps)) (b :: [] ++ []) := .dict ho2 hx2.1 hd2 f1 f2
      have rd : Reads s.heap (.ref a) (.tuple [.str x, .dict ((ks.map kyP).zip ps)]) ([] ++ ((b :: [] ++ []) ++ [])) := .tuple ho hc hdat (.cons (.str x t) (.cons rd2 .nil))
      refine PySem.repr_of_reads' rd h1 (fun _ => ?_) hg (by omega) (fun _ _ e => e) (fun h' u tk hk => ⟨.str _, H, I.kept hk, ⟨_, rfl⟩, q⟩) h2
      simp only [List.nil_append, List.append_nil, List.cons_append, List.mem_singleton]
      intro z
      rw [z] at hsm
      simp at hsm
/-- repr of a dict -/
def rReprD : List V → Hp → VK → Prop := fun vs H Q => ∃ (b : Addr) (ks : List Key) (ws : List V) (ps : List PyData), vs = [.ref b] ∧ ks.length = ws.length ∧ H b = some (.dK (ks.zip ws)) ∧ ScVs ws ps ∧
  (PyData.dict ((ks.map kyP).zip ps)).showable = true ∧ (PyData.dict ((ks.map kyP).zip ps)).shown.length ≤ sizeLine ∧ (PyData.dict ((ks.map kyP).zip ps)).depth ≤ 60 ∧ Q (.str (PyData.dict ((ks.map kyP).zip ps)).shown) H
theorem cr_reprD (hu : X.A.units + 64 < cLine) (hg : X.A.guards = some []) : CallR X (.builtin "repr") rReprD := by
  intro pins s sg H vs us Q I r h
  obtain ⟨b, ks, ws, ps, rfl, hl, hd, hsc, h1, h2, h3, q⟩ := h
  obtain ⟨u, rfl, rv⟩ := vals1 r
  obtain rfl : u = Value.ref b := rv
  obtain ⟨_, hsm, kus, kv, ob, es, ep, ho2, hx2, hd2, _, pr, _⟩ := dk_of I.hok hd
  obtain ⟨f1, f2⟩ := dictP_reads (h := s.heap) hl hsc kv pr
  have rd2 : Reads s.heap (.ref b) (.dict ((ks.map kyP).zip ps)) (b :: [] ++ []) := .dict ho2 hx2.1 hd2 f1 f2
  refine PySem.repr_of_reads' rd2 h1 (fun _ => ?_) hg (by omega) (fun _ _ e => e) (fun h' u tk hk => ⟨.str _, H, I.kept hk, ⟨_, rfl⟩, q⟩) h2
  simp only [List.nil_append, List.append_nil, List.cons_append, List.mem_singleton]
  intro z
  rw [z] at hsm
  simp at hsm
/-- repr of a value that is no thing -/
def reprS : V → Option Str
  | .non => some "None"
  | .bl b => some (if b then "True" else "False")
  | .str x => if (reprText x).length ≤ sizeLine then some (reprText x) else none
  | _ => none
def rReprS : List V → Hp → VK → Prop := fun vs H Q => ∃ (v : V) (x : Str), vs = [v] ∧ reprS v = some x ∧ Q (.str x) H
theorem cr_reprS : CallR X (.builtin "repr") rReprS := by
  intro pins s sg H vs us Q I r h
  obtain ⟨v, x, rfl, hv, q⟩ := h
  obtain ⟨u, rfl, rv⟩ := vals1 r
  cases v with
  | non => cases hv; cases rv; exact PySem.P.repr_of_none ⟨.str _, H, I.tok _, ⟨_, rfl⟩, q⟩
  | bl b => cases hv; cases rv; exact PySem.P.repr_of_bool ⟨.str _, H, I.tok _, ⟨_, rfl⟩, q⟩
  | str y =>
    obtain ⟨t, rfl⟩ := rv
    simp only [reprS] at hv
    split at hv
    · rename_i hl
      cases hv
      exact PySem.P.repr_of_str ⟨.str _, H, I.tok _, ⟨_, rfl⟩, q⟩ hl
    · cases hv
  | int i => cases hv
  | byt b => cases hv
  | flt b => cases hv
  | ref a => cases hv
  | ty n => cases hv
/-- repr, also of a text beside a dict, of None, of a truth, of a text -/
def dReprX : SemF := fun ds st => match ds with
  | [.nd .tup [.str x, .nd (.dk ks) ys]] => match scPs ys with
    | some ps => if (PyData.tuple [.str x, .dict ((ks.map kyP).zip ps)]).showable = true ∧ (PyData.tuple [.str x, .dict ((ks.map kyP).zip ps)]).shown.length ≤ szL ∧ (PyData.tuple [.str x, .dict ((ks.map kyP).zip ps)]).depth ≤ 60 then .ok (.str (PyData.tuple [.str x, .dict ((ks.map kyP).zip ps)]).shown) st else .no
    | none => .no
  | [.nd (.dk ks) ys] => match scPs ys with
    | some ps => if (PyData.dict ((ks.map kyP).zip ps)).showable = true ∧ (PyData.dict ((ks.map kyP).zip ps)).shown.length ≤ szL ∧ (PyData.dict ((ks.map kyP).zip ps)).depth ≤ 60 then .ok (.str (PyData.dict ((ks.map kyP).zip ps)).shown) st else .no
    | none => .no
  | [.non] => .ok (.str "None") st
  | [.bl b] => .ok (.str (if b then "True" else "False")) st
  | [.str x] => if (reprText x).length ≤ szL then .ok (.str (reprText x)) st else .no
  | ds => dRepr ds st
theorem CallR.or' {f : Value} {r r' : List V → Hp → VK → Prop} (h : CallR X f r) (h' : CallR X f r') : CallR X f (fun vs H Q => r vs H Q ∨ r' vs H Q) := fun pins s sg H vs us Q I rr q => q.elim (h pins s sg H vs us Q I rr) (h' pins s sg H vs us Q I rr)
theorem cs_reprX (hu : X.A.units + 64 < cLine) (hg : X.A.guards = some []) : CS X cl (.builtin "repr") dReprX := by
  obtain ⟨rr, h1, h2⟩ := (cs_repr (X := X) (cl := cl) hu hg).ex
  refine ⟨_, CallR.or' (cr_reprTD hu hg) (CallR.or' (cr_reprD hu hg) (CallR.or' cr_reprS h1)), fun {Z r H st ds vs Q W'} R qd h => ?_⟩
  unfold dReprX at h
  split at h
  · rename_i x ks ys
    split at h
    · rename_i ps hps
      split at h
      · rename_i hc
        left
        obtain ⟨v, q, rfl, ⟨a, us, rfl, ⟨_, ha⟩, hu'⟩, rfl⟩ := qd
        obtain ⟨v1, q1, rfl, e1, v2, q2, rfl, ⟨b, ws, rfl, ⟨_, ⟨hl, _⟩, hb⟩, hw⟩, rfl⟩ := hu'
        rw [show v1 = .str x from e1] at ha
        exact ⟨a, b, x, ks, ws, ps, rfl, .inl (.inl ha), hl, hb, scPs_ok hps hw, hc.1, hc.2.1, hc.2.2, post_ok h R rfl⟩
      · exact h.elim
    · exact h.elim
  · rename_i ks ys
    split at h
    · rename_i ps hps
      split at h
      · rename_i hc
        right; left
        obtain ⟨v, q, rfl, ⟨b, ws, rfl, ⟨_, ⟨hl, _⟩, hb⟩, hw⟩, rfl⟩ := qd
        exact ⟨b, ks, ws, ps, rfl, hl, hb, scPs_ok hps hw, hc.1, hc.2.1, hc.2.2, post_ok h R rfl⟩
      · exact h.elim
    · exact h.elim
  · obtain ⟨v, q, rfl, a1, rfl⟩ := qd
    right; right; left
    rw [show v = V.non from a1]
    exact ⟨_, _, rfl, rfl, post_ok h R rfl⟩
  · rename_i b
    obtain ⟨v, q, rfl, a1, rfl⟩ := qd
    right; right; left
    rw [show v = V.bl b from a1]
    exact ⟨_, _, rfl, rfl, post_ok h R rfl⟩
  · rename_i x
    split at h
    · rename_i hc
      obtain ⟨v, q, rfl, a1, rfl⟩ := qd
      right; right; left
      rw [show v = V.str x from a1]
      exact ⟨_, _, rfl, if_pos hc, post_ok h R rfl⟩
    · exact h.elim
  · exact .inr (.inr (.inr (h2 R qd h)))
/-! ### xs.index(b), xs truths -/
def bls? : List D → Option (List Bool)
  | [] => some []
  | .bl b :: ds => match bls? ds with
    | some bs => some (b :: bs)
    | none => none
  | _ => none
theorem bls_ok {g : Gd} {Z r : List Addr} {H : Hp} : ∀ {ds : List D} {vs : List V} {bs : List Bool}, bls? ds = some bs → RepL g Z r H ds vs → vs = bs.map V.bl
  | [], _, _, e, h => by cases e; exact h
  | .bl b :: ds, _, _, e, h => by
    simp only [bls?] at e
    split at e
    · rename_i bs e1
      cases e
      obtain ⟨v, q, rfl, a1, h2⟩ := h
      rw [show v = .bl b from a1, bls_ok e1 h2]; rfl
    · cases e
  | .non :: _, _, _, e, _ => by cases e
  | .int _ :: _, _, _, e, _ => by cases e
  | .str _ :: _, _, _, e, _ => by cases e
  | .h _ :: _, _, _, e, _ => by cases e
  | .nd _ _ :: _, _, _, e, _ => by cases e
def opIndexB (x : D) (ds : List D) (st : Store) : Res D := match ds with
  | [.bl b] => match (lst? st x).bind bls? with
    | some bs => match bs.findIdx? (· == b) with
      | some j => .ok (.int (j : Nat)) st
      | none => .no
    | none => .no
  | _ => .no
theorem ms_indexB : MS X cl "list.index" opIndexB := by
  refine ⟨_, mt_index, fun {Z r H st x ds v vs Q W'} R qx qd h => ?_⟩
  unfold opIndexB at h
  split at h
  · rename_i b
    obtain ⟨w, q, rfl, a1, rfl⟩ := qd
    cases hl : lst? st x with
    | none => rw [hl] at h; exact h.elim
    | some xs =>
      rw [hl, Option.bind_some] at h
      obtain ⟨a, us, rfl, qs, sl⟩ := lst_ok R qx hl
      split at h
      · rename_i bs hbs
        have := bls_ok hbs qs
        subst this
        split at h
        · rename_i j hj
          obtain ⟨hlt, hb, hno⟩ := List.findIdx?_eq_some_iff_getElem.mp hj
          refine ⟨a, _, w, j, .bl bs[j], rfl, rfl, sl, by rw [show w = .bl b from a1]; rfl, ?_, by simp [hlt], ?_, fun m z' hm hz => ?_, post_ok h R rfl⟩
          · rw [List.all_map, List.all_eq_true]; intro _ _; rfl
          · rw [show w = .bl b from a1]
            have : bs[j] = b := by simpa using hb
            rw [this]; simp [eqV]
          · rw [show w = .bl b from a1]
            rw [List.getElem?_map, List.getElem?_eq_getElem (by omega)] at hz
            cases hz
            have := hno m hm
            simp at this
            simp [eqV]
            simpa using this
        · exact h.elim
      · exact h.elim
  · exact h.elim
/-! ### {} -/
end
end DY

/-! What the printed texts want of exceptions and lambdas. -/
namespace DY
open PySem PySem.Spec PyProof.Rows L2
theorem fa0 {α : Type} {p : α → Prop} : ∀ j ∈ ([] : List α), p j := fun _ h => nomatch h
theorem fa1 {α : Type} {p : α → Prop} {a : α} {l : List α} (h : p a) (t : ∀ j ∈ l, p j) : ∀ j ∈ a :: l, p j := fun j hj => by
  rcases List.mem_cons.mp hj with rfl | hj
  · exact h
  · exact t j hj
/-- how an exception's __init__ stands -/
def InitAt (K : PySem.W.Frag) (C : Addr) (qual : Str) (st : Stmt) (ps : List Str) : Prop :=
  ∃ (fI : Addr) (fd : FuncData), PySem.W.findIn K (.ref C) "__init__" = some (some (.ref fI)) ∧ PySem.W.typeIn K (.ref fI) = some (.type "function") ∧ Fun K "__init__" qual st fI fd ∧ L2.Binds K fd ps []
theorem rai_mk {X : Cx} {C : Addr} {f x qual : Str} {st : Stmt} {k : Nat} {p1 p2 p3 p4 : Pos} (o : OexC X.K C) (n : PySem.W.findIn X.K (.ref C) f = some none) (r : InitAt X.K C qual st ["self", x])
    (S : FnScope ["self", x] ["self", x] (defScope st)) (hk : 1 ≤ k) (hb : defBody st = [.Assign [.Attribute (.Name "self" p1) f p2] (.Name x p3) p4] := by rfl)
    (hv1 : Vis (defScope st) "self" := by exact Or.inl rfl) (hv2 : Vis (defScope st) x := by exact Or.inl rfl)
    (hd : (x == ("__debug__" : Str)) = false := by decide +kernel) (hcd : (x == ("__classdict__" : Str)) = false := by decide +kernel)
    (hs : ∀ (L f0 : Addr) (cd : Value), swapsWith (.Name x p3) (some (.Attribute (.Name "self" p1) f p2)) p4.line (envOfC qual (defScope st) L f0 cd) = pure false := by intros; rfl) : Rai X C f k := by
  obtain ⟨fI, fd, h1, h2, h3, h4⟩ := r
  obtain ⟨k, rfl⟩ : ∃ j, k = j + 1 := ⟨k - 1, by omega⟩
  exact ⟨o, n, fI, fd, _, h1, h2, init1 h3 S hb hv1 hv2 hd hcd fun L f0 cd => hs L f0 cd, h4⟩
/-- the name that lambdas of a def bear -/
def lamN (qual : Str) : Str := (envOfC qual default 0 0 .none).qual ++ "<lambda>"
section
variable {P : Program} {w : World} {K : PySem.W.Frag} {mg : Str → Option Value} {base : Heap}
/-- the table of the defs that get a lambda -/
structure TXL (P : Program) (w : World) (K : PySem.W.Frag) (mg : Str → Option Value) (base : Heap) (cl : ClsT) (fa : Nat → Addr) (fd : Nat → FuncData) (ps : Nat → List Str) (nF : Nat) (ga : Nat → Addr) (gd : Nat → FuncData) (qs : Nat → List Str) (n k : Nat) (cL : Nat → LamF → SemF) : Prop where
  fn : ∀ i, i < n → FnL P w K mg base cl fa fd ps nF k (ga i) (gd i) (qs i) (qs i).length (cL i)
  bd : ∀ i, i < n → L2.Binds K (gd i) (qs i) []
  kp : ∀ i, i < n → PySem.W.keepIn K (.ref (ga i)) = true
theorem TX.no {cl : ClsT} {fa : Nat → Addr} {fd : Nat → FuncData} {ps : Nat → List Str} {n k k2 : Nat} {c : Nat → SemF} (T : TX P w K mg base cl fa fd ps n k c) : TX P w K mg base cl fa fd ps n k2 fun _ _ _ => .no :=
  ⟨fun _ _ => FnG.none, fun _ _ _ _ => rfl, T.bd, T.kp⟩
end
section
variable {P : Program} {w : World} {K : PySem.W.Frag} {mg : Str → Option Value} {base : Heap} {cl : ClsT} {fa : Nat → Addr} {fd : Nat → FuncData} {ps : Nat → List Str} {nF : Nat} {ga : Nat → Addr} {gd : Nat → FuncData} {qs : Nat → List Str} {nL k k' : Nat} {cL : Nat → LamF → SemF} {X : Cx} {W : WX} {pos p p1 p2 lpos : Pos} {c c' : Nat → SemF} {x a : Str} {e : Expr} {es : List Expr} {ft : SemA}
theorem TXL.callL {f c0 : Addr} {q : Str} {caps : List V} {L : LamF} (TL : TXL X.prog X.w X.K X.mg X.base cl fa fd ps nF ga gd qs nL k cL) (D : DF X W k) (act : ActOk X.prog X.w X.K X.mg X.base cl fa fd ps nF X.fs X.s_0 X.H_0 f c0 q caps L) (i n : Nat) (hi : i < nL) (hn : (qs i).length = n) (hm : X.mg x = some (.ref (ga i))) (ha : SA X cl W (e :: es) ft)
    (hex : X.ex = [] := by rfl) (hg : Gl X x := by rfl) (hdx : (x == ("__debug__" : Str)) = false := by decide +kernel)
    (he : starEach (e :: es) X.env = (false, eval e X.env) :: starEach es X.env := by rfl) (hpl : (backTo pos (starEach es X.env)).any (·.1) = false := by rfl) :
    SE X cl W (.Call (.Name x p) (e :: es) [] pos) (dCallL f c0 q caps n (cL i L) ft) := by
  subst hn
  exact se_callL D act (TL.fn i hi) (TL.bd i hi) (TL.kp i hi) hm ha hex hg hdx he hpl
theorem TXL.lam {c1 Pt : Addr} {params : Arguments} {body : Expr} {scope : Scope} {lam : (Nat → SemF) → SemE} (TL : TXL X.prog X.w X.K X.mg X.base cl fa fd ps nF ga gd qs nL k cL) (D : DF X W k) (ix : List Nat) (n N i : Nat) (hi : i < nL) (hn : (qs i).length = n) (hN : X.N.length = N) (hm : X.mg x = some (.ref (ga i))) (ha : SA X cl W es ft)
    (TB : LamX.TabB X.base X.mg c1 Pt) (hcode : X.env.code = .ref c1) (hT : (Pt, X.env.qual ++ "<lambda>") ∈ cl.tb) (hu : ∀ p ∈ cl.tb, p.1 = Pt → p.2 = X.env.qual ++ "<lambda>") (L : LamX.LamS X.env.scope scope)
    (hbody : ∀ (k' : Nat) (c' : Nat → SemF), TX X.prog X.w X.K X.mg X.base cl fa fd ps nF k' c' → ∀ (A : Around) (outer : List Env) (s : Shared) (H : Hp) (E : XK) (f c0 : Addr), DF (LamX.lamCx X A outer s H E scope f c0) (fun c d _ H' => E c d H') k' → RG k' (LamX.lamCx X A outer s H E scope f c0).A → SE (LamX.lamCx X A outer s H E scope f c0) cl (fun c d _ H' => E c d H') body (lam c'))
    (hdef : defaultsOf params X.env = ([], []) := by rfl) (hbind : ∀ (q : Str) (cl : List (Str × Addr)) (pm cv ctv : Value), bindArgs (PySem.W.kla_fn "<lambda>" q params body scope cl pm cv ctv) ⟨[], []⟩ = pure [] := by intros; rfl)
    (hs : X.stack = X.env :: X.outer := by rfl) (hf : X.env.frame = some X.env.locals := by rfl) (hg : Gl X x := by rfl) (hdx : (x == ("__debug__" : Str)) = false := by decide +kernel)
    (he : starEach (.Lambda params body scope lpos :: es) X.env = (false, eval (.Lambda params body scope lpos) X.env) :: starEach es X.env := by rfl) (hpl : (backTo pos (starEach es X.env)).any (·.1) = false := by rfl) :
    SE X cl W (.Call (.Name x p) (.Lambda params body scope lpos :: es) [] pos) (dLam ix N n lam (cL i) ft) :=
  se_lam ix n N D hn hN (TL.fn i hi) (TL.bd i hi) (TL.kp i hi) hm ha TB hcode hT hu L hbody hdef hbind hs hf hg hdx he hpl
end
end DY

/-! Evaluation of what raises, catches, hands on. -/
namespace DY
open PySem PySem.Spec PyProof.Rows L2
section
variable {env : DEnv} {st st' : Store} {fa : SemA} {fe : SemE} {fb : SemS} {c i m n : Nat} {ns : List Str} {ds xs es : List D} {d : D} {e : Ex} {good cs : List Nat} {tab : List (Nat × Bool)} {f c0 : Addr} {q x : Str} {caps : List V} {F : SemF} {L : List D → Store → Res D} {b : Bool}
def sRaise1 (c : Nat) (ns : List Str) (env : DEnv) : List D → Store → SR := fun ds st => if ds.length = ns.length then .er ⟨c, ns, ds⟩ env st else .no
@[simp] theorem sRaise_ev : sRaise c ns fa env st = bindE (fa env st) env (sRaise1 c ns env) := (rfl)
@[simp] theorem sRaise1_ev : sRaise1 c [x] env [d] st = .er ⟨c, [x], [d]⟩ env st := (rfl)
def tryK (good : List Nat) (i m : Nat) : SR → SR
  | .er e env' st' => if e.c ∈ good then .nx (((env'.set i (some (.nd (.exc e.c e.ns) e.xs))).set m (some (.nd (.exc e.c e.ns) e.xs))).set i none) st' else .no
  | q => q
@[simp] theorem sTryK_ev : sTryK good i m fb env st = tryK good i m (fb env st) := by
  unfold sTryK tryK; cases fb env st <;> rfl
@[simp] theorem tryK_nx : tryK good i m (.nx env st) = .nx env st := (rfl)
@[simp] theorem tryK_rt : tryK good i m (.rt d st) = .rt d st := (rfl)
@[simp] theorem tryK_er : tryK good i m (.er e env st) = if e.c ∈ good then .nx (((env.set i (some (.nd (.exc e.c e.ns) e.xs))).set m (some (.nd (.exc e.c e.ns) e.xs))).set i none) st else .no := (rfl)
def tryR (good : List Nat) (b : D) : SR → SR
  | .er e _ st' => if e.c ∈ good then .rt b st' else .no
  | q => q
@[simp] theorem sTryR_ev : sTryR good d fb env st = tryR good d (fb env st) := by
  unfold sTryR tryR; cases fb env st <;> rfl
@[simp] theorem tryR_nx : tryR good d (.nx env st) = .nx env st := (rfl)
@[simp] theorem tryR_rt {y : D} : tryR good d (.rt y st) = .rt y st := (rfl)
@[simp] theorem tryR_er : tryR good d (.er e env st) = if e.c ∈ good then .rt d st else .no := (rfl)
@[simp] theorem dIsx_ev : dIsx tab fe env st = (fe env st).bind (isxF tab) := (rfl)
theorem isx_hit : isxF ((c, b) :: tab) (.nd (.exc c ns) xs) st = .ok (.bl b) st := by
  simp [isxF]
def xatF (cs : List Nat) (f : Str) : D → Store → Res D
  | .nd (.exc c ns) xs, st1 => if c ∈ cs then (match (ns.zip xs).lookup f with
    | some d => .ok d st1
    | none => .no) else .no
  | _, _ => .no
@[simp] theorem dXat_ev : dXat cs x fe env st = (fe env st).bind (xatF cs x) := by
  unfold dXat
  congr 1; funext y st1
  unfold xatF
  rcases y with _ | _ | _ | _ | _ | ⟨t, _⟩ <;> try rfl
  cases t <;> rfl
theorem xat_hit (h : c ∈ cs) : xatF cs x (.nd (.exc c [x]) [d]) st = .ok d st := by
  simp [xatF, h]
def actF (f c0 : Addr) (q : Str) (caps : List V) (L : List D → Store → Res D) : Option (Option D) → Store → Res D
  | some (some (.nd (.fn f' c' q' caps') xs)), st => if f' = f ∧ c' = c0 ∧ q' = q ∧ caps' = caps then L xs st else .no
  | _, _ => .no
@[simp] theorem dAct_ev : dAct f c0 q caps i L env st = actF f c0 q caps L env[i]? st := by
  unfold dAct actF
  rcases env[i]? with _ | _ | y <;> try rfl
  rcases y with _ | _ | _ | _ | _ | ⟨t, _⟩ <;> try rfl
  cases t <;> rfl
@[simp] theorem actF_ev : actF f c0 q caps L (some (some (.nd (.fn f c0 q caps) xs))) st = L xs st := by
  simp [actF]
def callLF (f c0 : Addr) (q : Str) (caps : List V) (n : Nat) (F : SemF) : List D → Store → Res D
  | .nd (.fn f' c' q' caps') xs :: es, st1 => if (f' = f ∧ c' = c0 ∧ q' = q ∧ caps' = caps) ∧ es.length + 1 = n then F (.nd (.fn f c0 q caps) xs :: es) st1 else .no
  | _, _ => .no
@[simp] theorem dCallL_ev : dCallL f c0 q caps n F fa env st = (fa env st).bind (callLF f c0 q caps n F) := by
  unfold dCallL
  congr 1; funext y st1
  unfold callLF
  rcases y with _ | ⟨y, ys⟩ <;> try rfl
  rcases y with _ | _ | _ | _ | _ | ⟨t, _⟩ <;> try rfl
  cases t <;> rfl
theorem callLF_go (h : es.length + 1 = n) : callLF f c0 q caps n F (.nd (.fn f c0 q caps) xs :: es) st = F (.nd (.fn f c0 q caps) xs :: es) st := by
  simp [callLF, h]
@[simp] theorem callLF_1 : callLF f c0 q caps 1 F [.nd (.fn f c0 q caps) xs] st = F [.nd (.fn f c0 q caps) xs] st := callLF_go rfl
@[simp] theorem callLF_2 : callLF f c0 q caps 2 F [.nd (.fn f c0 q caps) xs, d] st = F [.nd (.fn f c0 q caps) xs, d] st := callLF_go rfl
@[simp] theorem callLF_3 {d' : D} : callLF f c0 q caps 3 F [.nd (.fn f c0 q caps) xs, d, d'] st = F [.nd (.fn f c0 q caps) xs, d, d'] st := callLF_go rfl
theorem rl_runL {body : Addr → Addr → Str → List V → LamF → SemS} {L : LamF} {env : DEnv} (he : (D.nd (.fn f c0 q caps) xs :: es).map some ++ List.replicate (n - (D.nd (.fn f c0 q caps) xs :: es).length) none = env) : runL n body L (.nd (.fn f c0 q caps) xs :: es) st = finB (body f c0 q caps L env st) := by
  show runB n (body f c0 q caps L) _ st = _
  rw [runB_fin, he]
theorem dLam_ev {ix : List Nat} {N : Nat} {lam : (Nat → SemF) → SemE} {FL : LamF → SemF} {st1 : Store} {r : Res D} (h1 : capt env ix = some xs) (h2 : fa env st = .ok ds st1) (h3 : ds.length + 1 = n)
    (h4 : ∀ (f c0 : Addr) (q : Str) (caps : List V), FL (fun c ys st => lam c (spread N ix ys) st) (.nd (.fn f c0 q caps) xs :: ds) st1 = r) : dLam ix N n lam FL fa env st = r := by
  unfold dLam
  rw [h1]
  dsimp only
  rw [h2]
  simp only [Res.bind]
  rw [if_pos ⟨h3, fun f c0 q caps => by rw [h4, h4]⟩, h4]
end
end DY

/-! sorted(set(xs)), xs nested tuples of whole numbers, as a list that may change later. -/
namespace DY
open PySem PySem.Spec PyProof.Rows L2 KS
def newM : Res D → Res D
  | .ok (.nd .lst ys) st => .ok (.h st.length) (st ++ [.nd .lst ys])
  | _ => .no
noncomputable def dSortNM (f : SemE) : SemE := fun env st => (f env st).bind fun x st1 => newM (dSortN0 x st1)
section
variable {X : Cx} {cl : ClsT} {W : WX} {pos : Pos} {p p2 p3 : Pos} {e : Expr} {fo : SemE}
theorem rd_sortNM (sg : L2.St) (H : Hp) (Q : VK) (h : rdE ⟨X.K, cl⟩ W (dSortNM fo) sg H Q) : tCB (rSortN cl X.K X.w) (tCons (tCB (rSetN cl X.K X.w) (tCons (rdE ⟨X.K, cl⟩ W fo) tNil)) tNil) sg H Q := by
  obtain ⟨Z, r, env, st, E, R, h⟩ := h
  refine ⟨Z, r, env, st, E, R, Post.bind h fun a st1 r1 H1 v _ e1 R1 q1 h1 => ?_⟩
  unfold dSortN0 dSortN1 at h1
  split at h1
  · rename_i ks hks
    split at h1
    · rename_i hc
      obtain ⟨ok, hy⟩ := hc
      cases hl : seq? st1 a with
      | none => rw [hl] at hks; cases hks
      | some xs =>
        rw [hl] at hks
        obtain ⟨l, us, rfl, q, sq⟩ := seq_ok R1 q1 hl
        have ex := keyL_back xs hks
        rw [kDL_map] at ex
        subst ex
        refine ⟨Z, r1, st1, l, ks, us, R1, rfl, sq, q, ok.few, ok.good, fun b L hb sub nd cov => ?_⟩
        have e2 : Ext r1 H1 r1 (upd H1 b (SetHO X.w b L)) := Ext.new hb
        have R2 : Rl ⟨X.K, cl⟩ Z r1 (upd H1 b (SetHO X.w b L)) st1 := R1.new hb
        have rep2 : ∀ y ∈ L, Rep ⟨X.K, cl⟩ Z r1 (upd H1 b (SetHO X.w b L)) (kD y.2) (.ref y.1) := fun y m => Rep.ext e2 _ (sub y m).2
        have inK : ∀ x ∈ L.map (fun p => p.2.data), x ∈ ks.map NestedKey.data := fun x m => by
          obtain ⟨p, hp, rfl⟩ := List.mem_map.mp m
          exact List.mem_map_of_mem (sub p hp).1
        refine ⟨Z, r1, st1, b, L, R2, rfl, upd_same, fun y m => ⟨ok.good _ (sub y m).1, rep2 y m⟩, fun x hx y hy => ok.alike x (inK x hx) y (inK y hy), ?_, fun L' t ht pm pw => ?_⟩
        · rcases ok.sorts with (z | z) | z
          · exact .inl (.inl fun x hx => z x (inK x hx))
          · exact .inl (.inr fun x hx => z x (inK x hx))
          · exact .inr fun x hx => z x (inK x hx)
        have c := hy.choose_spec
        have eL : hy.choose = L'.map (·.2) := by
          refine sorted_one ok (fun z m => (c.mem z).mp m) c.nd ((pm.map (·.2)).nodup_iff.mpr nd) (fun z => (c.mem z).trans ⟨fun m => (pm.map (·.2)).mem_iff.mpr (cov z m), fun m => ?_⟩) c.le (List.pairwise_map.mpr pw)
          obtain ⟨p, hp, rfl⟩ := List.mem_map.mp m
          exact (sub p (pm.mem_iff.mp hp)).1
        have rl : ∀ M : Ms, (∀ p ∈ M, p ∈ L) → RepL ⟨X.K, cl⟩ Z r1 (upd H1 b (SetHO X.w b L)) ((M.map (·.2)).map kD) (M.map fun p => V.ref p.1) := fun M => by
          induction M with
          | nil => exact fun _ => rfl
          | cons p M ih => exact fun z => ⟨_, _, rfl, rep2 p (z p List.mem_cons_self), ih fun y m => z y (List.mem_cons_of_mem _ m)⟩
        have rl' := rl L' fun p m => pm.mem_iff.mp m
        rw [← eL] at rl'
        obtain ⟨x1, x2⟩ := new_lstM R2 rl' ht
        exact h1 _ _ _ (e2.trans (Ext.grow ht)) x1 x2
    · exact h1.elim
  · exact h1.elim
theorem se_sortNM (hc : X.calm = true) (hu : X.A.units + 64 < cLine) (hm : X.mg "sorted" = none) (hm2 : X.mg "set" = none) (ho : SE X cl W e fo) (hg : Gl X "sorted" := by rfl) (hg2 : Gl X "set" := by rfl)
    (h1 : starEach [e] X.env = (false, eval e X.env) :: starEach [] X.env := by rfl)
    (h2 : starEach [.Call (.Name "set" p2) [e] [] p3] X.env = (false, eval (.Call (.Name "set" p2) [e] [] p3) X.env) :: starEach [] X.env := by rfl) :
    SE X cl W (.Call (.Name "sorted" p) [.Call (.Name "set" p2) [e] [] p3] [] pos) (dSortNM fo) :=
  ⟨(pe_callB (cr_sortN (cl := cl) hc hu) hg hm (by rfl) (pa_cons (pe_callTy (cr_setN (cl := cl) hc hu) hg2 hm2 (by rfl) (pa_cons ho.run pa_nil h1) (by decide +kernel) (by decide +kernel) h1 (by rfl)) pa_nil h2) (by decide +kernel) (by decide +kernel) h2 (by rfl)).imp fun sg H Q h => rd_sortNM sg H Q h⟩
end
section
variable {fo : SemE} {env : DEnv} {st : Store} {ys : List D}
@[simp] theorem dSortNM_ev : dSortNM fo env st = (fo env st).bind fun x st1 => newM (dSortN0 x st1) := (rfl)
@[simp] theorem newM_ok : newM (.ok (.nd .lst ys) st) = .ok (.h st.length) (st ++ [.nd .lst ys]) := (rfl)
end
end DY

/-! law_k10_terms_listed: the defs as functions on data. -/
namespace Q
open PySem PySem.Spec PyProof.Rows L2 DY
abbrev nF : Nat := 38
abbrev kwD : String := "wide"
abbrev k_TooMany : Nat := 0
abbrev k_Line : Nat := 1
abbrev f_is_number : Nat := 0
abbrev f_sorted_pairs : Nat := 1
abbrev f_joined : Nat := 2
abbrev f_listed : Nat := 3
abbrev f_repeated : Nat := 4
abbrev f_section_terms : Nat := 5
abbrev f_terms_of : Nat := 6
abbrev f_terms : Nat := 7
abbrev f_inner_parts : Nat := 8
abbrev f_is_time : Nat := 9
abbrev f_is_count : Nat := 10
abbrev f_need_count : Nat := 11
abbrev f_need_time : Nat := 12
abbrev f_paths_of : Nat := 13
abbrev f_Line___init__ : Nat := 14
abbrev f_Line_belt : Nat := 15
abbrev f_Line_gap : Nat := 16
abbrev f_Line_hold : Nat := 17
abbrev f_Line_limited : Nat := 18
abbrev f_Line___add__ : Nat := 19
abbrev f_Line___and__ : Nat := 20
abbrev f_Line_parts : Nat := 21
abbrev f__law_begun : Nat := 22
abbrev f__law_mixed : Nat := 23
abbrev f__law_take : Nat := 24
abbrev f__law_pick : Nat := 25
abbrev f__law_time : Nat := 26
abbrev f__law_leaf : Nat := 27
abbrev f__law_tree : Nat := 28
abbrev f__law_line : Nat := 29
abbrev f__law_inner : Nat := 30
abbrev f__law_joined : Nat := 31
abbrev f__law_section_terms : Nat := 32
abbrev f__law_terms : Nat := 33
abbrev f__law_caught : Nat := 0
abbrev f__law_marks : Nat := 34
abbrev f__law_kept : Nat := 35
abbrev f__law_refusal : Nat := 1
abbrev f__law_is : Nat := 2
abbrev f__law_terms_or_none : Nat := 36
abbrev f_law : Nat := 37
noncomputable def b_is_number (c : Nat → SemF) : SemS :=
    sRet (dAndV (dIsi ["int"] (dVar 0)) (dAndV (dNotV (dIsi ["bool"] (dVar 0))) (dBin dGe (dVar 0) (dConst (.int 0)))))
noncomputable def b_sorted_pairs (c : Nat → SemF) : SemS :=
    sRet (dCall dTuple (dCons (dSortN (dVar 0)) (dNil)))
noncomputable def b_joined (c : Nat → SemF) : SemS :=
    sRet (dTup (dCons (dBin dAdd (dBin dIx (dVar 0) (dConst (.int 0))) (dBin dIx (dVar 1) (dConst (.int 0)))) (dCons (dBin dAdd (dBin dIx (dVar 0) (dConst (.int 1))) (dBin dIx (dVar 1) (dConst (.int 1)))) (dCons (dCall (c f_sorted_pairs) (dCons (dBin dAdd (dBin dIx (dVar 0) (dConst (.int 2))) (dBin dIx (dVar 1) (dConst (.int 2)))) (dNil))) (dNil)))))
noncomputable def b_listed (c : Nat → SemF) : SemS :=
    sCons (sSet 0 (dSortNM (dVar 0)))
    (sCons (sIf (dBool (dBin dGt (dCall dLen (dCons (dVar 0) (dNil))) (dConst (.int 100)))) (sRaise k_TooMany ["limit"] (dCons (dConst (.int 100)) (dNil))) (sNil))
    (sRet (dVar 0)))
noncomputable def b_repeated (c : Nat → SemF) : SemS :=
    sCons (sAsg (dVar 0) (gT 3 (gCons' (gN 2) (gCons' (gN 3) (gCons' (gN 4) (gNil'))))))
    (sCons (sSet 5 (dIfE (dBool (dBin dGt (dVar 3) (dConst (.int 0)))) (dTup (dCons (dTup (dCons (dBin dAdd (dVar 2) (dVar 1)) (dCons (dVar 3) (dNil)))) (dNil))) (dTup (dNil))))
    (sRet (dTup (dCons (dVar 2) (dCons (dVar 3) (dCons (dCall (c f_sorted_pairs) (dCons (dBin dAdd (dVar 4) (dVar 5)) (dNil))) (dNil)))))))
noncomputable def b_section_terms (c : Nat → SemF) : SemS :=
    sCons (sIf (dBool (dBin dGt (dCall dLen (dCons (dVar 0) (dNil))) (dConst (.int 6)))) (sRaise k_TooMany ["limit"] (dCons (dConst (.int 100)) (dNil))) (sNil))
    (sCons (sSet 2 (dLst (dNil)))
    (sCons (sFor (iSeq (dVar 0)) (gN 3) (sCons (sSet 4 (dCall (c f_repeated) (dCons (dVar 3) (dCons (dVar 1) (dNil)))))
    (sSet 2 (dBin dAdd (dBin dAdd (dVar 2) (dLst (dCons (dVar 4) (dNil)))) (dLc (iSeq (dVar 2)) (gN 5) (tYesD) (dCall (c f_joined) (dCons (dCall (c f_joined) (dCons (dVar 5) (dCons (dVar 4) (dNil)))) (dCons (dTup (dCons (dVar 1) (dCons (dConst (.int 0)) (dCons (dTup (dNil)) (dNil))))) (dNil)))) [5])))))
    (sRet (dCall (c f_listed) (dCons (dVar 2) (dNil))))))
noncomputable def b_terms_of (c : Nat → SemF) : SemS :=
    sCons (sIf (dBool (dBin dEq (dBin dIx (dVar 0) (dConst (.int 0))) (dConst (.str "belt")))) (sRet (dLstM (dCons (dTup (dCons (dConst (.int 0)) (dCons (dBin dIx (dVar 0) (dConst (.int 1))) (dCons (dTup (dNil)) (dNil))))) (dNil)))) (sNil))
    (sCons (sIf (dBool (dBin dEq (dBin dIx (dVar 0) (dConst (.int 0))) (dConst (.str "gap")))) (sRet (dLstM (dCons (dTup (dCons (dConst (.int 0)) (dCons (dConst (.int 0)) (dCons (dIfE (dBool (dBin dGt (dBin dIx (dVar 0) (dConst (.int 2))) (dConst (.int 0)))) (dTup (dCons (dTup (dCons (dBin dIx (dVar 0) (dConst (.int 1))) (dCons (dBin dIx (dVar 0) (dConst (.int 2))) (dNil)))) (dNil))) (dTup (dNil))) (dNil))))) (dNil)))) (sNil))
    (sCons (sIf (dBool (dBin dEq (dBin dIx (dVar 0) (dConst (.int 0))) (dConst (.str "hold")))) (sRet (dCall (c f_listed) (dCons (dLst (dCons (dTup (dCons (dConst (.int 0)) (dCons (dConst (.int 0)) (dCons (dTup (dNil)) (dNil))))) (dCons (dTup (dCons (dBin dIx (dVar 0) (dConst (.int 1))) (dCons (dBin dIx (dVar 0) (dConst (.int 2))) (dCons (dTup (dNil)) (dNil))))) (dNil)))) (dNil)))) (sNil))
    (sCons (sIf (dBool (dBin dEq (dBin dIx (dVar 0) (dConst (.int 0))) (dConst (.str "section")))) (sRet (dCall (c f_section_terms) (dCons (dCall (c f_terms_of) (dCons (dBin dIx (dVar 0) (dConst (.int 2))) (dNil))) (dCons (dBin dIx (dVar 0) (dConst (.int 1))) (dNil))))) (sNil))
    (sCons (sAsg (dTup (dCons (dCall (c f_terms_of) (dCons (dBin dIx (dVar 0) (dConst (.int 1))) (dNil))) (dCons (dCall (c f_terms_of) (dCons (dBin dIx (dVar 0) (dConst (.int 2))) (dNil))) (dNil)))) (gT 2 (gCons' (gN 1) (gCons' (gN 2) (gNil')))))
    (sCons (sIf (dBool (dBin dEq (dBin dIx (dVar 0) (dConst (.int 0))) (dConst (.str "both")))) (sRet (dCall (c f_listed) (dCons (dBin dAdd (dVar 1) (dVar 2)) (dNil)))) (sNil))
    (sRet (dCall (c f_listed) (dCons (dLc2 (iSeq (dVar 1)) (gN 3) (tYesD) (iSeq (dVar 2)) (gN 4) (tYesD) (dCall (c f_joined) (dCons (dVar 3) (dCons (dVar 4) (dNil)))) [3, 4] [4]) (dNil)))))))))
noncomputable def b_terms (c : Nat → SemF) : SemS :=
    sRet (dCall (c f_terms_of) (dCons (dMeth k_Line "parts" (c f_Line_parts) (dVar 0) dNil) (dNil)))
noncomputable def b_inner_parts (c : Nat → SemF) : SemS :=
    sCons (sIf (dBool (dBin dEq (dBin dIx (dVar 0) (dConst (.int 0))) (dConst (.str "section")))) (sRet (dLst (dCons (dBin dIx (dVar 0) (dConst (.int 2))) (dNil)))) (sNil))
    (sRet (dIfE (dBool (dBin dIn (dBin dIx (dVar 0) (dConst (.int 0))) (dTup (dCons (dConst (.str "behind")) (dCons (dConst (.str "both")) (dNil)))))) (dLst (dCons (dBin dIx (dVar 0) (dConst (.int 1))) (dCons (dBin dIx (dVar 0) (dConst (.int 2))) (dNil)))) (dLst (dNil))))
noncomputable def b_is_time (c : Nat → SemF) : SemS :=
    sRet (dAndV (dCall (c f_is_number) (dCons (dVar 0) (dNil))) (dBin dLe (dVar 0) (dConst (.int 1000000000))))
noncomputable def b_is_count (c : Nat → SemF) : SemS :=
    sRet (dAndV (dCall (c f_is_number) (dCons (dVar 0) (dNil))) (dChain dLe dLe (dConst (.int 1)) (dVar 0) (dConst (.int 12))))
noncomputable def b_need_count (c : Nat → SemF) : SemS :=
    sIf (dNot (dBool (dCall (c f_is_count) (dCons (dVar 0) (dNil))))) ((fun _ _ => .no)) (sNil)
noncomputable def b_need_time (c : Nat → SemF) : SemS :=
    sIf (dNot (dBool (dCall (c f_is_time) (dCons (dVar 0) (dNil))))) ((fun _ _ => .no)) (sNil)
noncomputable def b_paths_of (c : Nat → SemF) : SemS :=
    sCons (sSet 2 (dLst (dCons (dVar 1) (dNil))))
    (sCons (sFor (iEnum2 (dCons (dCall (c f_inner_parts) (dCons (dVar 0) (dNil))) (dNil))) (gT 2 (gCons' (gN 3) (gCons' (gN 4) (gNil')))) (sSet 2 (dBin dAdd (dVar 2) (dCall (c f_paths_of) (dCons (dVar 4) (dCons (dBin dAdd (dVar 1) (dTup (dCons (dVar 3) (dNil)))) (dNil)))))))
    (sRet (dVar 2)))
noncomputable def b_Line___init__ (c : Nat → SemF) : SemS :=
    sCons (sAttr k_Line 0 "nested" (dVar 0) (dVar 1))
    (sCons (sAttr k_Line 1 "all_paths" (dVar 0) (dCall (c f_paths_of) (dCons (dVar 1) (dCons (dTup (dNil)) (dNil)))))
    (sIf (dBool (dBin dGt (dCall dLen (dCons (dAt k_Line 1 "all_paths" (dVar 0)) (dNil))) (dConst (.int 12)))) (sRaise k_TooMany ["limit"] (dCons (dConst (.int 12)) (dNil))) (sNil)))
noncomputable def b_Line_belt (c : Nat → SemF) : SemS :=
    sCons (sExpr (dCall (c f_need_time) (dCons (dVar 0) (dNil))))
    (sRet (dCall (frzF (runInit k_Line (c f_Line___init__))) (dCons (dTup (dCons (dConst (.str "belt")) (dCons (dVar 0) (dNil)))) (dNil))))
noncomputable def b_Line_gap (c : Nat → SemF) : SemS :=
    sCons (sExpr (dCall (c f_need_count) (dCons (dVar 0) (dNil))))
    (sCons (sExpr (dCall (c f_need_time) (dCons (dVar 1) (dNil))))
    (sRet (dCall (frzF (runInit k_Line (c f_Line___init__))) (dCons (dTup (dCons (dConst (.str "gap")) (dCons (dVar 0) (dCons (dVar 1) (dNil))))) (dNil)))))
noncomputable def b_Line_hold (c : Nat → SemF) : SemS :=
    sCons (sExpr (dCall (c f_need_count) (dCons (dVar 0) (dNil))))
    (sCons (sExpr (dCall (c f_need_time) (dCons (dVar 1) (dNil))))
    (sRet (dCall (frzF (runInit k_Line (c f_Line___init__))) (dCons (dTup (dCons (dConst (.str "hold")) (dCons (dVar 0) (dCons (dVar 1) (dNil))))) (dNil)))))
noncomputable def b_Line_limited (c : Nat → SemF) : SemS :=
    sCons (sExpr (dCall (c f_need_count) (dCons (dVar 1) (dNil))))
    (sRet (dCall (frzF (runInit k_Line (c f_Line___init__))) (dCons (dTup (dCons (dConst (.str "section")) (dCons (dVar 1) (dCons (dAt k_Line 0 "nested" (dVar 0)) (dNil))))) (dNil))))
noncomputable def b_Line___add__ (c : Nat → SemF) : SemS :=
    sRet (dCall (frzF (runInit k_Line (c f_Line___init__))) (dCons (dTup (dCons (dConst (.str "behind")) (dCons (dAt k_Line 0 "nested" (dVar 0)) (dCons (dAt k_Line 0 "nested" (dVar 1)) (dNil))))) (dNil)))
noncomputable def b_Line___and__ (c : Nat → SemF) : SemS :=
    sRet (dCall (frzF (runInit k_Line (c f_Line___init__))) (dCons (dTup (dCons (dConst (.str "both")) (dCons (dAt k_Line 0 "nested" (dVar 0)) (dCons (dAt k_Line 0 "nested" (dVar 1)) (dNil))))) (dNil)))
noncomputable def b_Line_parts (c : Nat → SemF) : SemS :=
    sRet (dAt k_Line 0 "nested" (dVar 0))
noncomputable def b__law_begun (c : Nat → SemF) : SemS :=
    sCons (sSet 1 (dLcM (iSeq (dVar 0)) (gN 2) (dBool (dBin dGe (dCall dAbs (dCons (dVar 2) (dNil))) (dBin dPow (dConst (.int 10)) (dConst (.int 18))))) (dBin dSub (dCall dAbs (dCons (dVar 2) (dNil))) (dBin dPow (dConst (.int 10)) (dConst (.int 18)))) [2]))
    (sRet (dDictM [(dConst (.str "wide"), dVar 1), (dConst (.str "cells"), dLc (iSeq (dVar 0)) (gN 2) (tYesD) (dBin dMod (dCall dInt (dCons (dCall dAbs (dCons (dVar 2) (dNil))) (dNil))) (dConst (.int 2147483629))) [2]), (dConst (.str "rest"), dConst (.int 0)), (dConst (.str "turn"), dConst (.int 0))]))
noncomputable def b__law_mixed (c : Nat → SemF) : SemS :=
    sCons (sPar 1 2 (dCons (dBin dAdd (dBin (dGet 3) (dVar 0) (dConst (.str "turn"))) (dConst (.int 1))) (dCons (dConst (.int 0)) (dNil))))
    (sCons (sDPut 3 (dVar 0) (dConst (.str "turn")) (dVar 1))
    (sCons (sFor (iSeq (dLst (dCons (dConst (.int 2147483629)) (dCons (dConst (.int 2147483587)) (dCons (dConst (.int 2147483579)) (dCons (dConst (.int 2147483563)) (dNil))))))) (gN 3) (sCons (sSet 4 (dBin dAdd (dBin dMul (dConst (.int 61441)) (dVar 1)) (dBin dFdiv (dVar 3) (dConst (.int 19)))))
    (sCons (sFor (iSeq (dBin (dGet 1) (dVar 0) (dConst (.str "cells")))) (gN 5) (sSet 4 (dBin dMod (dCall dInt (dCons (dBin dAdd (dBin dAdd (dBin dMul (dVar 4) (dConst (.int 48271))) (dVar 5)) (dVar 1)) (dNil))) (dVar 3))))
    (sSet 2 (dBin dAdd (dBin dMul (dVar 2) (dConst (.int 2147483647))) (dBin dMod (dCall dInt (dCons (dBin dPow (dVar 4) (dConst (.int 5))) (dNil))) (dVar 3)))))))
    (sRet (dVar 2))))
noncomputable def b__law_take (c : Nat → SemF) : SemS :=
    sCons (sIf (dBool (dBin dEq (dBin (dGet 2) (dVar 0) (dConst (.str "rest"))) (dConst (.int 0)))) (sDPut 2 (dVar 0) (dConst (.str "rest")) (dIfE (dBool (dBin dNe (dBin (dGet 0) (dVar 0) (dConst (.str "wide"))) (dLst (dNil)))) (dBML opPopAt (dBin (dGet 0) (dVar 0) (dConst (.str "wide"))) (dCons (dConst (.int 0)) (dNil))) (dCall (c f__law_mixed) (dCons (dVar 0) (dNil))))) (sNil))
    (sCons (sSet 2 (dBin dMod (dCall dInt (dCons (dBin (dGet 2) (dVar 0) (dConst (.str "rest"))) (dNil))) (dVar 1)))
    (sCons (sDPut 2 (dVar 0) (dConst (.str "rest")) (dBin dFdiv (dBin (dGet 2) (dVar 0) (dConst (.str "rest"))) (dVar 1)))
    (sRet (dVar 2))))
noncomputable def b__law_pick (c : Nat → SemF) : SemS :=
    sRet (dBin dIx (dVar 1) (dCall (c f__law_take) (dCons (dVar 0) (dCons (dCall dLen (dCons (dVar 1) (dNil))) (dNil)))))
noncomputable def b__law_time (c : Nat → SemF) : SemS :=
    sCons (sIf (dBool (dBin dEq (dVar 1) (dConst (.str "small")))) (sRet (dCall (c f__law_take) (dCons (dVar 0) (dCons (dConst (.int 10)) (dNil))))) (sNil))
    (sRet (dCall (c f__law_pick) (dCons (dVar 0) (dCons (dLst (dCons (dConst (.int 0)) (dCons (dConst (.int 1)) (dCons (dConst (.int 2)) (dCons (dConst (.int 5)) (dCons (dConst (.int 7)) (dCons (dBin dPow (dConst (.int 10)) (dConst (.int 9))) (dCons (dBin dSub (dBin dPow (dConst (.int 10)) (dConst (.int 9))) (dConst (.int 1))) (dCons (dCall (c f__law_take) (dCons (dVar 0) (dCons (dConst (.int 100)) (dNil)))) (dCons (dCall (c f__law_take) (dCons (dVar 0) (dCons (dBin dAdd (dBin dPow (dConst (.int 10)) (dConst (.int 9))) (dConst (.int 1))) (dNil)))) (dNil))))))))))) (dNil)))))
noncomputable def b__law_leaf (c : Nat → SemF) : SemS :=
    sCons (sSet 4 (dCall (c f__law_pick) (dCons (dVar 0) (dCons (dVar 3) (dNil)))))
    (sCons (sIf (dBool (dBin dEq (dVar 4) (dConst (.str "belt")))) (sRet (dTup (dCons (dConst (.str "belt")) (dCons (dCall (c f__law_time) (dCons (dVar 0) (dCons (dVar 2) (dNil)))) (dNil))))) (sNil))
    (sRet (dTup (dCons (dVar 4) (dCons (dBin dAdd (dConst (.int 1)) (dCall (c f__law_take) (dCons (dVar 0) (dCons (dVar 1) (dNil))))) (dCons (dCall (c f__law_time) (dCons (dVar 0) (dCons (dVar 2) (dNil)))) (dNil)))))))
noncomputable def b__law_tree (c : Nat → SemF) : SemS :=
    sCons (sSet 5 (dCall (c f__law_take) (dCons (dVar 0) (dCons (dConst (.int 8)) (dNil)))))
    (sCons (sIf (dAnd (dBool (dBin dGe (dVar 1) (dConst (.int 3)))) (dBool (dBin dLt (dVar 5) (dConst (.int 5))))) (sCons (sSet 6 (dBin dAdd (dConst (.int 1)) (dCall (c f__law_take) (dCons (dVar 0) (dCons (dBin dSub (dVar 1) (dConst (.int 2))) (dNil))))))
    (sCons (sSet 7 (dCall (c f__law_tree) (dCons (dVar 0) (dCons (dVar 6) (dCons (dVar 2) (dCons (dVar 3) (dCons (dVar 4) (dNil))))))))
    (sCons (sSet 8 (dCall (c f__law_tree) (dCons (dVar 0) (dCons (dBin dSub (dBin dSub (dVar 1) (dConst (.int 1))) (dVar 6)) (dCons (dVar 2) (dCons (dVar 3) (dCons (dVar 4) (dNil))))))))
    (sCons (sSet 9 (dIfE (dAnd (dBool (dBin dIn (dConst (.str "both")) (dVar 4))) (dBool (dBin dLt (dVar 5) (dConst (.int 2))))) (dConst (.str "both")) (dConst (.str "behind"))))
    (sRet (dTup (dCons (dVar 9) (dCons (dVar 7) (dCons (dVar 8) (dNil)))))))))) (sNil))
    (sCons (sIf (dAnd (dBool (dBin dGe (dVar 1) (dConst (.int 2)))) (dBool (dBin dLt (dVar 5) (dConst (.int 7))))) (sCons (sSet 10 (dBin dAdd (dConst (.int 1)) (dCall (c f__law_take) (dCons (dVar 0) (dCons (dVar 2) (dNil))))))
    (sRet (dTup (dCons (dConst (.str "section")) (dCons (dVar 10) (dCons (dCall (c f__law_tree) (dCons (dVar 0) (dCons (dBin dSub (dVar 1) (dConst (.int 1))) (dCons (dVar 2) (dCons (dVar 3) (dCons (dVar 4) (dNil))))))) (dNil))))))) (sNil))
    (sRet (dCall (c f__law_leaf) (dCons (dVar 0) (dCons (dVar 2) (dCons (dVar 3) (dCons (dLc (iSeq (dVar 4)) (gN 11) (dBool (dBin dNe (dVar 11) (dConst (.str "both")))) (dVar 11) [11]) (dNil)))))))))
noncomputable def b__law_line (c : Nat → SemF) : SemS :=
    sCons (sIf (dBool (dBin dEq (dBin dIx (dVar 0) (dConst (.int 0))) (dConst (.str "belt")))) (sRet (dCall (c f_Line_belt) (dCons (dBin dIx (dVar 0) (dConst (.int 1))) (dNil)))) (sNil))
    (sCons (sIf (dBool (dBin dEq (dBin dIx (dVar 0) (dConst (.int 0))) (dConst (.str "gap")))) (sRet (dCall (c f_Line_gap) (dCons (dBin dIx (dVar 0) (dConst (.int 1))) (dCons (dBin dIx (dVar 0) (dConst (.int 2))) (dNil))))) (sNil))
    (sCons (sIf (dBool (dBin dEq (dBin dIx (dVar 0) (dConst (.int 0))) (dConst (.str "hold")))) (sRet (dCall (c f_Line_hold) (dCons (dBin dIx (dVar 0) (dConst (.int 1))) (dCons (dBin dIx (dVar 0) (dConst (.int 2))) (dNil))))) (sNil))
    (sCons (sIf (dBool (dBin dEq (dBin dIx (dVar 0) (dConst (.int 0))) (dConst (.str "section")))) (sRet (dMeth k_Line "limited" (c f_Line_limited) (dCall (c f__law_line) (dCons (dBin dIx (dVar 0) (dConst (.int 2))) (dNil))) (dCons (dBin dIx (dVar 0) (dConst (.int 1))) (dNil)))) (sNil))
    (sCons (sPar 1 2 (dCons (dCall (c f__law_line) (dCons (dBin dIx (dVar 0) (dConst (.int 1))) (dNil))) (dCons (dCall (c f__law_line) (dCons (dBin dIx (dVar 0) (dConst (.int 2))) (dNil))) (dNil))))
    (sRet (dIfE (dBool (dBin dEq (dBin dIx (dVar 0) (dConst (.int 0))) (dConst (.str "both")))) (dBin (dOwn k_Line (c f_Line___and__)) (dVar 1) (dVar 2)) (dBin (dOwn k_Line (c f_Line___add__)) (dVar 1) (dVar 2))))))))
noncomputable def b__law_inner (c : Nat → SemF) : SemS :=
    sCons (sIf (dBool (dBin dEq (dBin dIx (dVar 0) (dConst (.int 0))) (dConst (.str "section")))) (sRet (dLst (dCons (dBin dIx (dVar 0) (dConst (.int 2))) (dNil)))) (sNil))
    (sRet (dIfE (dBool (dBin dIn (dBin dIx (dVar 0) (dConst (.int 0))) (dTup (dCons (dConst (.str "behind")) (dCons (dConst (.str "both")) (dNil)))))) (dLst (dCons (dBin dIx (dVar 0) (dConst (.int 1))) (dCons (dBin dIx (dVar 0) (dConst (.int 2))) (dNil)))) (dLst (dNil))))
noncomputable def b__law_joined (c : Nat → SemF) : SemS :=
    sRet (dTup (dCons (dBin dAdd (dBin dIx (dVar 0) (dConst (.int 0))) (dBin dIx (dVar 1) (dConst (.int 0)))) (dCons (dBin dAdd (dBin dIx (dVar 0) (dConst (.int 1))) (dBin dIx (dVar 1) (dConst (.int 1)))) (dCons (dCall dTuple (dCons (dSortN (dBin dAdd (dBin dIx (dVar 0) (dConst (.int 2))) (dBin dIx (dVar 1) (dConst (.int 2))))) (dNil))) (dNil)))))
noncomputable def b__law_section_terms (c : Nat → SemF) : SemS :=
    sCons (sSet 2 (dLst (dNil)))
    (sCons (sFor (iSeq (dVar 0)) (gT 3 (gCons' (gN 3) (gCons' (gN 4) (gCons' (gN 5) (gNil'))))) (sCons (sSet 6 (dIfE (dBool (dBin dGt (dVar 4) (dConst (.int 0)))) (dTup (dCons (dTup (dCons (dBin dAdd (dVar 3) (dVar 1)) (dCons (dVar 4) (dNil)))) (dNil))) (dTup (dNil))))
    (sCons (sSet 7 (dTup (dCons (dVar 3) (dCons (dVar 4) (dCons (dCall dTuple (dCons (dSortN (dBin dAdd (dVar 5) (dVar 6))) (dNil))) (dNil))))))
    (sSet 2 (dBin dAdd (dBin dAdd (dVar 2) (dLst (dCons (dVar 7) (dNil)))) (dLc (iSeq (dVar 2)) (gN 8) (tYesD) (dCall (c f__law_joined) (dCons (dCall (c f__law_joined) (dCons (dVar 8) (dCons (dVar 7) (dNil)))) (dCons (dTup (dCons (dVar 1) (dCons (dConst (.int 0)) (dCons (dTup (dNil)) (dNil))))) (dNil)))) [8]))))))
    (sRet (dVar 2)))
noncomputable def b__law_terms (c : Nat → SemF) : SemS :=
    sCons (sIf (dBool (dBin dEq (dBin dIx (dVar 0) (dConst (.int 0))) (dConst (.str "belt")))) (sRet (dLst (dCons (dTup (dCons (dConst (.int 0)) (dCons (dBin dIx (dVar 0) (dConst (.int 1))) (dCons (dTup (dNil)) (dNil))))) (dNil)))) (sNil))
    (sCons (sIf (dBool (dBin dEq (dBin dIx (dVar 0) (dConst (.int 0))) (dConst (.str "gap")))) (sRet (dLst (dCons (dTup (dCons (dConst (.int 0)) (dCons (dConst (.int 0)) (dCons (dIfE (dBool (dBin dGt (dBin dIx (dVar 0) (dConst (.int 2))) (dConst (.int 0)))) (dTup (dCons (dTup (dCons (dBin dIx (dVar 0) (dConst (.int 1))) (dCons (dBin dIx (dVar 0) (dConst (.int 2))) (dNil)))) (dNil))) (dTup (dNil))) (dNil))))) (dNil)))) (sNil))
    (sCons (sIf (dBool (dBin dEq (dBin dIx (dVar 0) (dConst (.int 0))) (dConst (.str "hold")))) (sRet (dSortN (dLst (dCons (dTup (dCons (dConst (.int 0)) (dCons (dConst (.int 0)) (dCons (dTup (dNil)) (dNil))))) (dCons (dTup (dCons (dBin dIx (dVar 0) (dConst (.int 1))) (dCons (dBin dIx (dVar 0) (dConst (.int 2))) (dCons (dTup (dNil)) (dNil))))) (dNil)))))) (sNil))
    (sCons (sIf (dBool (dBin dEq (dBin dIx (dVar 0) (dConst (.int 0))) (dConst (.str "section")))) (sRet (dSortN (dCall (c f__law_section_terms) (dCons (dCall (c f__law_terms) (dCons (dBin dIx (dVar 0) (dConst (.int 2))) (dNil))) (dCons (dBin dIx (dVar 0) (dConst (.int 1))) (dNil)))))) (sNil))
    (sCons (sPar 1 2 (dCons (dCall (c f__law_terms) (dCons (dBin dIx (dVar 0) (dConst (.int 1))) (dNil))) (dCons (dCall (c f__law_terms) (dCons (dBin dIx (dVar 0) (dConst (.int 2))) (dNil))) (dNil))))
    (sCons (sIf (dBool (dBin dEq (dBin dIx (dVar 0) (dConst (.int 0))) (dConst (.str "both")))) (sRet (dSortN (dBin dAdd (dVar 1) (dVar 2)))) (sNil))
    (sCons (sSet 3 (dLst (dNil)))
    (sCons (sFor (iSeq (dVar 1)) (gN 4) (sSet 3 (dBin dAdd (dVar 3) (dLc (iSeq (dVar 2)) (gN 5) (tYesD) (dCall (c f__law_joined) (dCons (dVar 4) (dCons (dVar 5) (dNil)))) [5]))))
    (sRet (dSortN (dVar 3))))))))))
noncomputable def b__law_marks (c : Nat → SemF) : SemS :=
    sCons (sSet 1 (dLst (dCons (dIsx [(k_TooMany, false)] (dVar 0)) (dCons (dIsx [(k_TooMany, false)] (dVar 0)) (dCons (dIsx [(k_TooMany, false)] (dVar 0)) (dNil))))))
    (sCons (sSet 1 (dBin dAdd (dVar 1) (dLst (dCons (dIsx [(k_TooMany, false)] (dVar 0)) (dCons (dIsx [(k_TooMany, false)] (dVar 0)) (dCons (dIsx [(k_TooMany, true)] (dVar 0)) (dNil)))))))
    (sCons (sSet 1 (dBin dAdd (dVar 1) (dLst (dCons (dIsx [(k_TooMany, false)] (dVar 0)) (dCons (dIsx [(k_TooMany, false)] (dVar 0)) (dCons (dIsx [(k_TooMany, false)] (dVar 0)) (dNil)))))))
    (sCons (sSet 1 (dBin dAdd (dVar 1) (dLst (dCons (dIsx [(k_TooMany, false)] (dVar 0)) (dCons (dIsx [(k_TooMany, false)] (dVar 0)) (dCons (dIsx [(k_TooMany, false)] (dVar 0)) (dNil)))))))
    (sRet (dBin dAdd (dVar 1) (dLst (dCons (dIsx [(k_TooMany, false)] (dVar 0)) (dCons (dIsx [(k_TooMany, false)] (dVar 0)) (dCons (dIsx [(k_TooMany, false)] (dVar 0)) (dNil))))))))))
noncomputable def b__law_kept (c : Nat → SemF) : SemS :=
    sCons (sIf (dBool (dBin dEq (dVar 1) (dConst (.int 0)))) (sRet (dXat [] "time" (dVar 0))) (sNil))
    (sCons (sIf (dBool (dBin dEq (dVar 1) (dConst (.int 1)))) (sRet (dXat [] "count" (dVar 0))) (sNil))
    (sCons (sIf (dBool (dBin dEq (dVar 1) (dConst (.int 2)))) (sRet (dXat [] "at" (dVar 0))) (sNil))
    (sCons (sIf (dBool (dBin dEq (dVar 1) (dConst (.int 3)))) (sRet (dXat [] "number" (dVar 0))) (sNil))
    (sRet (dIfE (dBool (dBin dEq (dVar 1) (dConst (.int 4)))) (dXat [] "path" (dVar 0)) (dXat [k_TooMany] "limit" (dVar 0)))))))
noncomputable def b__law_terms_or_none (c : Nat → SemF) : SemS :=
    sCons (sSet 1 (dLc (iSeq (dCall (c f__law_inner) (dCons (dVar 0) (dNil)))) (gN 4) (tYesD) (dCall (c f__law_terms_or_none) (dCons (dVar 4) (dNil))) [4]))
    (sCons (sIf (dBool (dBin dIn (dConst .non) (dVar 1))) (sRet (dConst .non)) (sNil))
    (sCons (sIf (dBool (dBin dEq (dVar 1) (dLst (dNil)))) (sRet (dCall (c f__law_terms) (dCons (dVar 0) (dNil)))) (sNil))
    (sCons (sIf (dBool (dBin dEq (dBin dIx (dVar 0) (dConst (.int 0))) (dConst (.str "section")))) (sSet 2 (dIfE (dBool (dBin dLe (dCall dLen (dCons (dBin dIx (dVar 1) (dConst (.int 0))) (dNil))) (dConst (.int 6)))) (dCall (c f__law_section_terms) (dCons (dBin dIx (dVar 1) (dConst (.int 0))) (dCons (dBin dIx (dVar 0) (dConst (.int 1))) (dNil)))) (dConst .non))) (sIf (dBool (dBin dEq (dBin dIx (dVar 0) (dConst (.int 0))) (dConst (.str "both")))) (sSet 2 (dBin dAdd (dBin dIx (dVar 1) (dConst (.int 0))) (dBin dIx (dVar 1) (dConst (.int 1))))) (sCons (sSet 2 (dLst (dNil)))
    (sFor (iSeq (dBin dIx (dVar 1) (dConst (.int 0)))) (gN 3) (sSet 2 (dBin dAdd (dVar 2) (dLc (iSeq (dBin dIx (dVar 1) (dConst (.int 1)))) (gN 5) (tYesD) (dCall (c f__law_joined) (dCons (dVar 3) (dCons (dVar 5) (dNil)))) [5])))))))
    (sCons (sSet 2 (dIfE (dBool (dBin dIsN (dVar 2) (dConst .non))) (dConst .non) (dSortN (dVar 2))))
    (sRet (dIfE (dAnd (dBool (dBin dNotN (dVar 2) (dConst .non))) (dBool (dBin dLe (dCall dLen (dCons (dVar 2) (dNil))) (dConst (.int 100))))) (dVar 2) (dConst .non)))))))
noncomputable def b_law (c : Nat → SemF) (cL : Nat → LamF → SemF) : SemS :=
    sCons (sSet 1 (dCall (c f__law_begun) (dCons (dVar 0) (dNil))))
    (sCons (sFor (iRange1 (dCons (dBin dAdd (dConst (.int 4)) (dCall dMin (dCons (dCall dLen (dCons (dVar 0) (dNil))) (dCons (dConst (.int 12)) (dNil))))) (dNil))) (gN 2) (sCons (sPar 3 4 (dCons (dCall (c f__law_pick) (dCons (dVar 1) (dCons (dLst (dCons (dConst (.int 2)) (dCons (dConst (.int 3)) (dCons (dConst (.int 12)) (dNil))))) (dNil)))) (dCons (dCall (c f__law_pick) (dCons (dVar 1) (dCons (dLst (dCons (dConst (.str "small")) (dCons (dConst (.str "any")) (dNil)))) (dNil)))) (dNil))))
    (sCons (sSet 5 (dCall (c f__law_pick) (dCons (dVar 1) (dCons (dLst (dCons (dLst (dCons (dConst (.str "belt")) (dCons (dConst (.str "gap")) (dCons (dConst (.str "hold")) (dCons (dConst (.str "both")) (dNil)))))) (dCons (dLst (dCons (dConst (.str "belt")) (dCons (dConst (.str "hold")) (dCons (dConst (.str "hold")) (dCons (dConst (.str "both")) (dNil)))))) (dNil)))) (dNil)))))
    (sCons (sSet 6 (dCall (c f__law_tree) (dCons (dVar 1) (dCons (dCall (c f__law_pick) (dCons (dVar 1) (dCons (dLst (dCons (dConst (.int 1)) (dCons (dConst (.int 4)) (dCons (dConst (.int 7)) (dCons (dConst (.int 12)) (dCons (dConst (.int 12)) (dNil))))))) (dNil)))) (dCons (dVar 3) (dCons (dVar 4) (dCons (dVar 5) (dNil))))))))
    (sCons (sAsg (dTup (dCons (dCall (c f__law_line) (dCons (dVar 6) (dNil))) (dCons (dCall (c f__law_terms_or_none) (dCons (dVar 6) (dNil))) (dNil)))) (gT 2 (gCons' (gN 7) (gCons' (gN 8) (gNil')))))
    (sIf (dBool (dBin dIsN (dVar 8) (dConst .non))) (sIf (dNot (dBool (dLam [7] 10 3 (fun c9 => dCall (c9 f_terms) (dCons (dVar 7) (dNil))) (cL f__law_is) (dCons (dConst (.str "many")) (dCons (dConst (.int 100)) (dNil)))))) (sRet (dConst (.bl false))) (sNil)) (sCons (sSet 9 (dCall (c f_terms) (dCons (dVar 7) (dNil))))
    (sCons (sIf (dBool (dBin dNe (dCall dReprX (dCons (dVar 9) (dNil))) (dCall dReprX (dCons (dVar 8) (dNil))))) (sRet (dConst (.bl false))) (sNil))
    (sCons (sExpr (dBML opAppend (dVar 9) (dCons (dConst (.str "more")) (dNil))))
    (sIf (dBool (dBin dNe (dCall (kwF 1 1 [0] (c f_terms)) (dCons (dVar 7) (dNil))) (dVar 8))) (sRet (dConst (.bl false))) (sNil)))))))))))
    (sRet (dConst (.bl true))))
noncomputable def b__law_caught (c c9 : Nat → SemF) (cL : Nat → LamF → SemF) (f0 c0 : Addr) (q0 : Str) (caps0 : List V) (L0 : LamF) : SemS :=
    sCons (sSet 1 (dConst .non))
    (sCons (sTryK [k_TooMany] 2 1 (sExpr (dAct f0 c0 q0 caps0 0 (L0 c9))))
    (sRet (dVar 1)))
noncomputable def b__law_refusal (c c9 : Nat → SemF) (cL : Nat → LamF → SemF) (f0 c0 : Addr) (q0 : Str) (caps0 : List V) (L0 : LamF) : SemS :=
    sCons (sSet 1 (dCallL f0 c0 q0 caps0 1 (cL f__law_caught L0) (dCons (dVar 0) (dNil))))
    (sCons (sIf (dBool (dBin dIsN (dVar 1) (dConst .non))) (sRet (dTup (dCons (dConst (.str "none")) (dCons (dConst .non) (dNil))))) (sNil))
    (sCons (sPar 2 3 (dCons (dLst (dCons (dConst (.str "time")) (dCons (dConst (.str "count")) (dCons (dConst (.str "moments")) (dCons (dConst (.str "number")) (dCons (dConst (.str "path")) (dCons (dConst (.str "many")) (dNil)))))))) (dCons (dCall (c f__law_marks) (dCons (dVar 1) (dNil))) (dNil))))
    (sCons (sIf (dOr (dBool (dBin dNe (dBML opCount (dVar 3) (dCons (dConst (.bl true)) (dNil))) (dConst (.int 1)))) (dOr (dBool (dBin dNotIn (dConst (.bl true)) (dSlice (dVar 3) (dNoPart) (dPart (dConst (.int 6)))))) (dNot (dBool (dIsx [(k_TooMany, true)] (dVar 1)))))) (sRet (dTup (dCons (dConst (.str "other")) (dCons (dConst .non) (dNil))))) (sNil))
    (sCons (sSet 4 (dBML opIndexB (dVar 3) (dCons (dConst (.bl true)) (dNil))))
    (sRet (dTup (dCons (dBin dIx (dVar 2) (dVar 4)) (dCons (dCall (c f__law_kept) (dCons (dVar 1) (dCons (dVar 4) (dNil)))) (dNil)))))))))
noncomputable def b__law_is (c c9 : Nat → SemF) (cL : Nat → LamF → SemF) (f0 c0 : Addr) (q0 : Str) (caps0 : List V) (L0 : LamF) : SemS :=
    sRet (dBin dEq (dCall dReprX (dCons (dCallL f0 c0 q0 caps0 1 (cL f__law_refusal L0) (dCons (dVar 0) (dNil))) (dNil))) (dCall dReprX (dCons (dTup (dCons (dVar 1) (dCons (dVar 2) (dNil)))) (dNil))))
noncomputable def tbl (c : Nat → SemF) (cL : Nat → LamF → SemF) : List SemF :=
  [arF 1 (runB 1 (b_is_number c)),
   arF 1 (runB 1 (b_sorted_pairs c)),
   arF 2 (runB 2 (b_joined c)),
   arF 1 (frzH (runB 1 (b_listed c))),
   arF 2 (runB 6 (b_repeated c)),
   arF 2 (frzH (runB 6 (b_section_terms c))),
   arF 1 (frzH (runB 5 (b_terms_of c))),
   arF 1 (frzH (runB 1 (b_terms c))),
   arF 1 (runB 1 (b_inner_parts c)),
   arF 1 (runB 1 (b_is_time c)),
   arF 1 (runB 1 (b_is_count c)),
   arF 1 (runB 1 (b_need_count c)),
   arF 1 (runB 1 (b_need_time c)),
   arF 2 (runB 5 (b_paths_of c)),
   arF 2 (runB 2 (b_Line___init__ c)),
   arF 1 (runB 1 (b_Line_belt c)),
   arF 2 (runB 2 (b_Line_gap c)),
   arF 2 (runB 2 (b_Line_hold c)),
   arF 2 (runB 2 (b_Line_limited c)),
   arF 2 (runB 2 (b_Line___add__ c)),
   arF 2 (runB 2 (b_Line___and__ c)),
   arF 1 (runB 1 (b_Line_parts c)),
   arF 1 (runB 3 (b__law_begun c)),
   arF 1 (runB 6 (b__law_mixed c)),
   arF 2 (runB 3 (b__law_take c)),
   arF 2 (runB 2 (b__law_pick c)),
   arF 2 (runB 2 (b__law_time c)),
   arF 4 (runB 5 (b__law_leaf c)),
   arF 5 (runB 12 (b__law_tree c)),
   arF 1 (runB 3 (b__law_line c)),
   arF 1 (runB 1 (b__law_inner c)),
   arF 2 (runB 2 (b__law_joined c)),
   arF 2 (runB 9 (b__law_section_terms c)),
   arF 1 (runB 6 (b__law_terms c)),
   arF 1 (runB 2 (b__law_marks c)),
   arF 2 (runB 2 (b__law_kept c)),
   arF 1 (runB 6 (b__law_terms_or_none c)),
   arF 1 (runB 10 (b_law c cL))]
noncomputable def tblL (c c9 : Nat → SemF) (cL : Nat → LamF → SemF) : List (LamF → SemF) :=
  [runL 3 (b__law_caught c c9 cL),
   runL 5 (b__law_refusal c c9 cL),
   runL 3 (b__law_is c c9 cL)]
noncomputable def semP : Nat → (Nat → SemF) × (Nat → LamF → SemF) × (Nat → SemF)
  | 0 => (fun _ _ _ => .no, fun _ _ _ _ => .no, fun _ _ _ => .no)
  | n + 1 => (fun i => (tbl (semP n).1 (semP n).2.1).getD i fun _ _ => .no, fun i => (tblL (semP n).1 (semP n).2.2 (semP n).2.1).getD i fun _ _ _ => .no, (semP n).1)
noncomputable def sem (n : Nat) : Nat → SemF := (semP n).1
noncomputable def semL (n : Nat) : Nat → LamF → SemF := (semP n).2.1
noncomputable def low (n : Nat) : Nat → SemF := (semP n).2.2
theorem S_is_number {n : Nat} {a0 : D} {st : Store} : sem (n + 1) f_is_number [a0] st = finB (b_is_number (sem n) [some a0] st) := ar_runB (m := 1) (n := 1) (body := b_is_number (sem n)) (ds := [a0]) (st := st) (env := [some a0]) rfl rfl
theorem S_sorted_pairs {n : Nat} {a0 : D} {st : Store} : sem (n + 1) f_sorted_pairs [a0] st = finB (b_sorted_pairs (sem n) [some a0] st) := ar_runB (m := 1) (n := 1) (body := b_sorted_pairs (sem n)) (ds := [a0]) (st := st) (env := [some a0]) rfl rfl
theorem S_joined {n : Nat} {a0 a1 : D} {st : Store} : sem (n + 1) f_joined [a0, a1] st = finB (b_joined (sem n) [some a0, some a1] st) := ar_runB (m := 2) (n := 2) (body := b_joined (sem n)) (ds := [a0, a1]) (st := st) (env := [some a0, some a1]) rfl rfl
theorem S_listed {n : Nat} {a0 : D} {st : Store} : sem (n + 1) f_listed [a0] st = frzN st (finB (b_listed (sem n) [some a0] st)) := ar_frzH (m := 1) (n := 1) (body := b_listed (sem n)) (ds := [a0]) (st := st) (env := [some a0]) rfl rfl
theorem S_repeated {n : Nat} {a0 a1 : D} {st : Store} : sem (n + 1) f_repeated [a0, a1] st = finB (b_repeated (sem n) [some a0, some a1, none, none, none, none] st) := ar_runB (m := 2) (n := 6) (body := b_repeated (sem n)) (ds := [a0, a1]) (st := st) (env := [some a0, some a1, none, none, none, none]) rfl rfl
theorem S_section_terms {n : Nat} {a0 a1 : D} {st : Store} : sem (n + 1) f_section_terms [a0, a1] st = frzN st (finB (b_section_terms (sem n) [some a0, some a1, none, none, none, none] st)) := ar_frzH (m := 2) (n := 6) (body := b_section_terms (sem n)) (ds := [a0, a1]) (st := st) (env := [some a0, some a1, none, none, none, none]) rfl rfl
theorem S_terms_of {n : Nat} {a0 : D} {st : Store} : sem (n + 1) f_terms_of [a0] st = frzN st (finB (b_terms_of (sem n) [some a0, none, none, none, none] st)) := ar_frzH (m := 1) (n := 5) (body := b_terms_of (sem n)) (ds := [a0]) (st := st) (env := [some a0, none, none, none, none]) rfl rfl
theorem S_terms {n : Nat} {a0 : D} {st : Store} : sem (n + 1) f_terms [a0] st = frzN st (finB (b_terms (sem n) [some a0] st)) := ar_frzH (m := 1) (n := 1) (body := b_terms (sem n)) (ds := [a0]) (st := st) (env := [some a0]) rfl rfl
theorem S_inner_parts {n : Nat} {a0 : D} {st : Store} : sem (n + 1) f_inner_parts [a0] st = finB (b_inner_parts (sem n) [some a0] st) := ar_runB (m := 1) (n := 1) (body := b_inner_parts (sem n)) (ds := [a0]) (st := st) (env := [some a0]) rfl rfl
theorem S_is_time {n : Nat} {a0 : D} {st : Store} : sem (n + 1) f_is_time [a0] st = finB (b_is_time (sem n) [some a0] st) := ar_runB (m := 1) (n := 1) (body := b_is_time (sem n)) (ds := [a0]) (st := st) (env := [some a0]) rfl rfl
theorem S_is_count {n : Nat} {a0 : D} {st : Store} : sem (n + 1) f_is_count [a0] st = finB (b_is_count (sem n) [some a0] st) := ar_runB (m := 1) (n := 1) (body := b_is_count (sem n)) (ds := [a0]) (st := st) (env := [some a0]) rfl rfl
theorem S_need_count {n : Nat} {a0 : D} {st : Store} : sem (n + 1) f_need_count [a0] st = finB (b_need_count (sem n) [some a0] st) := ar_runB (m := 1) (n := 1) (body := b_need_count (sem n)) (ds := [a0]) (st := st) (env := [some a0]) rfl rfl
theorem S_need_time {n : Nat} {a0 : D} {st : Store} : sem (n + 1) f_need_time [a0] st = finB (b_need_time (sem n) [some a0] st) := ar_runB (m := 1) (n := 1) (body := b_need_time (sem n)) (ds := [a0]) (st := st) (env := [some a0]) rfl rfl
theorem S_paths_of {n : Nat} {a0 a1 : D} {st : Store} : sem (n + 1) f_paths_of [a0, a1] st = finB (b_paths_of (sem n) [some a0, some a1, none, none, none] st) := ar_runB (m := 2) (n := 5) (body := b_paths_of (sem n)) (ds := [a0, a1]) (st := st) (env := [some a0, some a1, none, none, none]) rfl rfl
theorem S_Line___init__ {n : Nat} {a0 a1 : D} {st : Store} : sem (n + 1) f_Line___init__ [a0, a1] st = finB (b_Line___init__ (sem n) [some a0, some a1] st) := ar_runB (m := 2) (n := 2) (body := b_Line___init__ (sem n)) (ds := [a0, a1]) (st := st) (env := [some a0, some a1]) rfl rfl
theorem S_Line_belt {n : Nat} {a0 : D} {st : Store} : sem (n + 1) f_Line_belt [a0] st = finB (b_Line_belt (sem n) [some a0] st) := ar_runB (m := 1) (n := 1) (body := b_Line_belt (sem n)) (ds := [a0]) (st := st) (env := [some a0]) rfl rfl
theorem S_Line_gap {n : Nat} {a0 a1 : D} {st : Store} : sem (n + 1) f_Line_gap [a0, a1] st = finB (b_Line_gap (sem n) [some a0, some a1] st) := ar_runB (m := 2) (n := 2) (body := b_Line_gap (sem n)) (ds := [a0, a1]) (st := st) (env := [some a0, some a1]) rfl rfl
theorem S_Line_hold {n : Nat} {a0 a1 : D} {st : Store} : sem (n + 1) f_Line_hold [a0, a1] st = finB (b_Line_hold (sem n) [some a0, some a1] st) := ar_runB (m := 2) (n := 2) (body := b_Line_hold (sem n)) (ds := [a0, a1]) (st := st) (env := [some a0, some a1]) rfl rfl
theorem S_Line_limited {n : Nat} {a0 a1 : D} {st : Store} : sem (n + 1) f_Line_limited [a0, a1] st = finB (b_Line_limited (sem n) [some a0, some a1] st) := ar_runB (m := 2) (n := 2) (body := b_Line_limited (sem n)) (ds := [a0, a1]) (st := st) (env := [some a0, some a1]) rfl rfl
theorem S_Line___add__ {n : Nat} {a0 a1 : D} {st : Store} : sem (n + 1) f_Line___add__ [a0, a1] st = finB (b_Line___add__ (sem n) [some a0, some a1] st) := ar_runB (m := 2) (n := 2) (body := b_Line___add__ (sem n)) (ds := [a0, a1]) (st := st) (env := [some a0, some a1]) rfl rfl
theorem S_Line___and__ {n : Nat} {a0 a1 : D} {st : Store} : sem (n + 1) f_Line___and__ [a0, a1] st = finB (b_Line___and__ (sem n) [some a0, some a1] st) := ar_runB (m := 2) (n := 2) (body := b_Line___and__ (sem n)) (ds := [a0, a1]) (st := st) (env := [some a0, some a1]) rfl rfl
theorem S_Line_parts {n : Nat} {a0 : D} {st : Store} : sem (n + 1) f_Line_parts [a0] st = finB (b_Line_parts (sem n) [some a0] st) := ar_runB (m := 1) (n := 1) (body := b_Line_parts (sem n)) (ds := [a0]) (st := st) (env := [some a0]) rfl rfl
theorem S__law_begun {n : Nat} {a0 : D} {st : Store} : sem (n + 1) f__law_begun [a0] st = finB (b__law_begun (sem n) [some a0, none, none] st) := ar_runB (m := 1) (n := 3) (body := b__law_begun (sem n)) (ds := [a0]) (st := st) (env := [some a0, none, none]) rfl rfl
theorem S__law_mixed {n : Nat} {a0 : D} {st : Store} : sem (n + 1) f__law_mixed [a0] st = finB (b__law_mixed (sem n) [some a0, none, none, none, none, none] st) := ar_runB (m := 1) (n := 6) (body := b__law_mixed (sem n)) (ds := [a0]) (st := st) (env := [some a0, none, none, none, none, none]) rfl rfl
theorem S__law_take {n : Nat} {a0 a1 : D} {st : Store} : sem (n + 1) f__law_take [a0, a1] st = finB (b__law_take (sem n) [some a0, some a1, none] st) := ar_runB (m := 2) (n := 3) (body := b__law_take (sem n)) (ds := [a0, a1]) (st := st) (env := [some a0, some a1, none]) rfl rfl
theorem S__law_pick {n : Nat} {a0 a1 : D} {st : Store} : sem (n + 1) f__law_pick [a0, a1] st = finB (b__law_pick (sem n) [some a0, some a1] st) := ar_runB (m := 2) (n := 2) (body := b__law_pick (sem n)) (ds := [a0, a1]) (st := st) (env := [some a0, some a1]) rfl rfl
theorem S__law_time {n : Nat} {a0 a1 : D} {st : Store} : sem (n + 1) f__law_time [a0, a1] st = finB (b__law_time (sem n) [some a0, some a1] st) := ar_runB (m := 2) (n := 2) (body := b__law_time (sem n)) (ds := [a0, a1]) (st := st) (env := [some a0, some a1]) rfl rfl
theorem S__law_leaf {n : Nat} {a0 a1 a2 a3 : D} {st : Store} : sem (n + 1) f__law_leaf [a0, a1, a2, a3] st = finB (b__law_leaf (sem n) [some a0, some a1, some a2, some a3, none] st) := ar_runB (m := 4) (n := 5) (body := b__law_leaf (sem n)) (ds := [a0, a1, a2, a3]) (st := st) (env := [some a0, some a1, some a2, some a3, none]) rfl rfl
theorem S__law_tree {n : Nat} {a0 a1 a2 a3 a4 : D} {st : Store} : sem (n + 1) f__law_tree [a0, a1, a2, a3, a4] st = finB (b__law_tree (sem n) [some a0, some a1, some a2, some a3, some a4, none, none, none, none, none, none, none] st) := ar_runB (m := 5) (n := 12) (body := b__law_tree (sem n)) (ds := [a0, a1, a2, a3, a4]) (st := st) (env := [some a0, some a1, some a2, some a3, some a4, none, none, none, none, none, none, none]) rfl rfl
theorem S__law_line {n : Nat} {a0 : D} {st : Store} : sem (n + 1) f__law_line [a0] st = finB (b__law_line (sem n) [some a0, none, none] st) := ar_runB (m := 1) (n := 3) (body := b__law_line (sem n)) (ds := [a0]) (st := st) (env := [some a0, none, none]) rfl rfl
theorem S__law_inner {n : Nat} {a0 : D} {st : Store} : sem (n + 1) f__law_inner [a0] st = finB (b__law_inner (sem n) [some a0] st) := ar_runB (m := 1) (n := 1) (body := b__law_inner (sem n)) (ds := [a0]) (st := st) (env := [some a0]) rfl rfl
theorem S__law_joined {n : Nat} {a0 a1 : D} {st : Store} : sem (n + 1) f__law_joined [a0, a1] st = finB (b__law_joined (sem n) [some a0, some a1] st) := ar_runB (m := 2) (n := 2) (body := b__law_joined (sem n)) (ds := [a0, a1]) (st := st) (env := [some a0, some a1]) rfl rfl
theorem S__law_section_terms {n : Nat} {a0 a1 : D} {st : Store} : sem (n + 1) f__law_section_terms [a0, a1] st = finB (b__law_section_terms (sem n) [some a0, some a1, none, none, none, none, none, none, none] st) := ar_runB (m := 2) (n := 9) (body := b__law_section_terms (sem n)) (ds := [a0, a1]) (st := st) (env := [some a0, some a1, none, none, none, none, none, none, none]) rfl rfl
theorem S__law_terms {n : Nat} {a0 : D} {st : Store} : sem (n + 1) f__law_terms [a0] st = finB (b__law_terms (sem n) [some a0, none, none, none, none, none] st) := ar_runB (m := 1) (n := 6) (body := b__law_terms (sem n)) (ds := [a0]) (st := st) (env := [some a0, none, none, none, none, none]) rfl rfl
theorem S__law_marks {n : Nat} {a0 : D} {st : Store} : sem (n + 1) f__law_marks [a0] st = finB (b__law_marks (sem n) [some a0, none] st) := ar_runB (m := 1) (n := 2) (body := b__law_marks (sem n)) (ds := [a0]) (st := st) (env := [some a0, none]) rfl rfl
theorem S__law_kept {n : Nat} {a0 a1 : D} {st : Store} : sem (n + 1) f__law_kept [a0, a1] st = finB (b__law_kept (sem n) [some a0, some a1] st) := ar_runB (m := 2) (n := 2) (body := b__law_kept (sem n)) (ds := [a0, a1]) (st := st) (env := [some a0, some a1]) rfl rfl
theorem S__law_terms_or_none {n : Nat} {a0 : D} {st : Store} : sem (n + 1) f__law_terms_or_none [a0] st = finB (b__law_terms_or_none (sem n) [some a0, none, none, none, none, none] st) := ar_runB (m := 1) (n := 6) (body := b__law_terms_or_none (sem n)) (ds := [a0]) (st := st) (env := [some a0, none, none, none, none, none]) rfl rfl
theorem S_law {n : Nat} {a0 : D} {st : Store} : sem (n + 1) f_law [a0] st = finB (b_law (sem n) (semL n) [some a0, none, none, none, none, none, none, none, none, none] st) := ar_runB (m := 1) (n := 10) (body := b_law (sem n) (semL n)) (ds := [a0]) (st := st) (env := [some a0, none, none, none, none, none, none, none, none, none]) rfl rfl
theorem S__law_caught {n : Nat} {f0 c0 : Addr} {q0 : Str} {caps0 : List V} {L0 : LamF} {xs : List D} {st : Store} : semL (n + 1) f__law_caught L0 [.nd (.fn f0 c0 q0 caps0) xs] st = finB (b__law_caught (sem n) (low n) (semL n) f0 c0 q0 caps0 L0 [some (.nd (.fn f0 c0 q0 caps0) xs), none, none] st) := rl_runL (n := 3) (body := b__law_caught (sem n) (low n) (semL n)) (es := []) rfl
theorem S__law_refusal {n : Nat} {f0 c0 : Addr} {q0 : Str} {caps0 : List V} {L0 : LamF} {xs : List D} {st : Store} : semL (n + 1) f__law_refusal L0 [.nd (.fn f0 c0 q0 caps0) xs] st = finB (b__law_refusal (sem n) (low n) (semL n) f0 c0 q0 caps0 L0 [some (.nd (.fn f0 c0 q0 caps0) xs), none, none, none, none] st) := rl_runL (n := 5) (body := b__law_refusal (sem n) (low n) (semL n)) (es := []) rfl
theorem S__law_is {n : Nat} {f0 c0 : Addr} {q0 : Str} {caps0 : List V} {L0 : LamF} {xs : List D} {a1 a2 : D} {st : Store} : semL (n + 1) f__law_is L0 [.nd (.fn f0 c0 q0 caps0) xs, a1, a2] st = finB (b__law_is (sem n) (low n) (semL n) f0 c0 q0 caps0 L0 [some (.nd (.fn f0 c0 q0 caps0) xs), some a1, some a2] st) := rl_runL (n := 3) (body := b__law_is (sem n) (low n) (semL n)) (es := [a1, a2]) rfl
end Q

namespace Q
open PySem PySem.Spec PyProof.Rows L2 DY
abbrev N0 : List Str := ["thing"]
abbrev p0 : List Str := ["thing"]
theorem nd0 : N0.Nodup := by decide +kernel
theorem sc0 : FnScope N0 p0 (defScope s0) := ⟨rfl, rfl, rfl, nd0, rfl, by decide +kernel, by decide +kernel⟩
abbrev N1 : List Str := ["pairs"]
abbrev p1 : List Str := ["pairs"]
theorem nd1 : N1.Nodup := by decide +kernel
theorem sc1 : FnScope N1 p1 (defScope s1) := ⟨rfl, rfl, rfl, nd1, rfl, by decide +kernel, by decide +kernel⟩
abbrev N2 : List Str := ["one", "other"]
abbrev p2 : List Str := ["one", "other"]
theorem nd2 : N2.Nodup := by decide +kernel
theorem sc2 : FnScope N2 p2 (defScope s2) := ⟨rfl, rfl, rfl, nd2, rfl, by decide +kernel, by decide +kernel⟩
abbrev N3 : List Str := ["found"]
abbrev p3 : List Str := ["found"]
theorem nd3 : N3.Nodup := by decide +kernel
theorem sc3 : FnScope N3 p3 (defScope s3) := ⟨rfl, rfl, rfl, nd3, rfl, by decide +kernel, by decide +kernel⟩
abbrev N4 : List Str := ["term", "count", "offset", "start", "pairs", "fresh"]
abbrev p4 : List Str := ["term", "count"]
theorem nd4 : N4.Nodup := by decide +kernel
theorem sc4 : FnScope N4 p4 (defScope s4) := ⟨rfl, rfl, rfl, nd4, rfl, by decide +kernel, by decide +kernel⟩
abbrev N5 : List Str := ["inner", "count", "found", "term", "one", "other"]
abbrev p5 : List Str := ["inner", "count"]
theorem nd5 : N5.Nodup := by decide +kernel
theorem sc5 : FnScope N5 p5 (defScope s5) := ⟨rfl, rfl, rfl, nd5, rfl, by decide +kernel, by decide +kernel⟩
abbrev N6 : List Str := ["part", "first", "second", "one", "other"]
abbrev p6 : List Str := ["part"]
theorem nd6 : N6.Nodup := by decide +kernel
theorem sc6 : FnScope N6 p6 (defScope s6) := ⟨rfl, rfl, rfl, nd6, rfl, by decide +kernel, by decide +kernel⟩
abbrev N7 : List Str := ["line"]
abbrev p7 : List Str := ["line"]
theorem nd7 : N7.Nodup := by decide +kernel
theorem sc7 : FnScope N7 p7 (defScope s7) := ⟨rfl, rfl, rfl, nd7, rfl, by decide +kernel, by decide +kernel⟩
abbrev N8 : List Str := ["part"]
abbrev p8 : List Str := ["part"]
theorem nd8 : N8.Nodup := by decide +kernel
theorem sc8 : FnScope N8 p8 (defScope s8) := ⟨rfl, rfl, rfl, nd8, rfl, by decide +kernel, by decide +kernel⟩
abbrev N9 : List Str := ["thing"]
abbrev p9 : List Str := ["thing"]
theorem nd9 : N9.Nodup := by decide +kernel
theorem sc9 : FnScope N9 p9 (defScope s9) := ⟨rfl, rfl, rfl, nd9, rfl, by decide +kernel, by decide +kernel⟩
abbrev N10 : List Str := ["thing"]
abbrev p10 : List Str := ["thing"]
theorem nd10 : N10.Nodup := by decide +kernel
theorem sc10 : FnScope N10 p10 (defScope s10) := ⟨rfl, rfl, rfl, nd10, rfl, by decide +kernel, by decide +kernel⟩
abbrev N11 : List Str := ["count"]
abbrev p11 : List Str := ["count"]
theorem nd11 : N11.Nodup := by decide +kernel
theorem sc11 : FnScope N11 p11 (defScope s11) := ⟨rfl, rfl, rfl, nd11, rfl, by decide +kernel, by decide +kernel⟩
abbrev N12 : List Str := ["time"]
abbrev p12 : List Str := ["time"]
theorem nd12 : N12.Nodup := by decide +kernel
theorem sc12 : FnScope N12 p12 (defScope s12) := ⟨rfl, rfl, rfl, nd12, rfl, by decide +kernel, by decide +kernel⟩
abbrev N13 : List Str := ["part", "path", "found", "at", "one"]
abbrev p13 : List Str := ["part", "path"]
theorem nd13 : N13.Nodup := by decide +kernel
theorem sc13 : FnScope N13 p13 (defScope s13) := ⟨rfl, rfl, rfl, nd13, rfl, by decide +kernel, by decide +kernel⟩
abbrev N14 : List Str := ["self", "nested"]
abbrev p14 : List Str := ["self", "nested"]
theorem nd14 : N14.Nodup := by decide +kernel
theorem sc14 : FnScope N14 p14 (defScope s14) := ⟨rfl, rfl, rfl, nd14, rfl, by decide +kernel, by decide +kernel⟩
abbrev N15 : List Str := ["time"]
abbrev p15 : List Str := ["time"]
theorem nd15 : N15.Nodup := by decide +kernel
theorem sc15 : FnScope N15 p15 (defScope s15) := ⟨rfl, rfl, rfl, nd15, rfl, by decide +kernel, by decide +kernel⟩
abbrev N16 : List Str := ["count", "time"]
abbrev p16 : List Str := ["count", "time"]
theorem nd16 : N16.Nodup := by decide +kernel
theorem sc16 : FnScope N16 p16 (defScope s16) := ⟨rfl, rfl, rfl, nd16, rfl, by decide +kernel, by decide +kernel⟩
abbrev N17 : List Str := ["count", "time"]
abbrev p17 : List Str := ["count", "time"]
theorem nd17 : N17.Nodup := by decide +kernel
theorem sc17 : FnScope N17 p17 (defScope s17) := ⟨rfl, rfl, rfl, nd17, rfl, by decide +kernel, by decide +kernel⟩
abbrev N18 : List Str := ["self", "count"]
abbrev p18 : List Str := ["self", "count"]
theorem nd18 : N18.Nodup := by decide +kernel
theorem sc18 : FnScope N18 p18 (defScope s18) := ⟨rfl, rfl, rfl, nd18, rfl, by decide +kernel, by decide +kernel⟩
abbrev N19 : List Str := ["self", "other"]
abbrev p19 : List Str := ["self", "other"]
theorem nd19 : N19.Nodup := by decide +kernel
theorem sc19 : FnScope N19 p19 (defScope s19) := ⟨rfl, rfl, rfl, nd19, rfl, by decide +kernel, by decide +kernel⟩
abbrev N20 : List Str := ["self", "other"]
abbrev p20 : List Str := ["self", "other"]
theorem nd20 : N20.Nodup := by decide +kernel
theorem sc20 : FnScope N20 p20 (defScope s20) := ⟨rfl, rfl, rfl, nd20, rfl, by decide +kernel, by decide +kernel⟩
abbrev N21 : List Str := ["self"]
abbrev p21 : List Str := ["self"]
theorem nd21 : N21.Nodup := by decide +kernel
theorem sc21 : FnScope N21 p21 (defScope s21) := ⟨rfl, rfl, rfl, nd21, rfl, by decide +kernel, by decide +kernel⟩
abbrev N22 : List Str := ["_law_script", "_law_wide_here", "_law_cell"]
abbrev p22 : List Str := ["_law_script"]
theorem nd22 : N22.Nodup := by decide +kernel
theorem sc22 : FnScope N22 p22 (defScope s22) := ⟨rfl, rfl, rfl, nd22, rfl, by decide +kernel, by decide +kernel⟩
abbrev N23 : List Str := ["_law_draw", "_law_turn", "_law_found", "_law_prime", "_law_blend", "_law_cell"]
abbrev p23 : List Str := ["_law_draw"]
theorem nd23 : N23.Nodup := by decide +kernel
theorem sc23 : FnScope N23 p23 (defScope s23) := ⟨rfl, rfl, rfl, nd23, rfl, by decide +kernel, by decide +kernel⟩
abbrev N24 : List Str := ["_law_draw", "_law_size", "_law_found"]
abbrev p24 : List Str := ["_law_draw", "_law_size"]
theorem nd24 : N24.Nodup := by decide +kernel
theorem sc24 : FnScope N24 p24 (defScope s24) := ⟨rfl, rfl, rfl, nd24, rfl, by decide +kernel, by decide +kernel⟩
abbrev N25 : List Str := ["_law_draw", "_law_some"]
abbrev p25 : List Str := ["_law_draw", "_law_some"]
theorem nd25 : N25.Nodup := by decide +kernel
theorem sc25 : FnScope N25 p25 (defScope s25) := ⟨rfl, rfl, rfl, nd25, rfl, by decide +kernel, by decide +kernel⟩
abbrev N26 : List Str := ["_law_draw", "_law_kind"]
abbrev p26 : List Str := ["_law_draw", "_law_kind"]
theorem nd26 : N26.Nodup := by decide +kernel
theorem sc26 : FnScope N26 p26 (defScope s26) := ⟨rfl, rfl, rfl, nd26, rfl, by decide +kernel, by decide +kernel⟩
abbrev N27 : List Str := ["_law_draw", "_law_top", "_law_kind", "_law_sorts", "_law_sort"]
abbrev p27 : List Str := ["_law_draw", "_law_top", "_law_kind", "_law_sorts"]
theorem nd27 : N27.Nodup := by decide +kernel
theorem sc27 : FnScope N27 p27 (defScope s27) := ⟨rfl, rfl, rfl, nd27, rfl, by decide +kernel, by decide +kernel⟩
abbrev N28 : List Str := ["_law_draw", "_law_room", "_law_top", "_law_kind", "_law_sorts", "_law_way", "_law_first", "_law_one", "_law_other", "_law_word", "_law_count", "_law_sort"]
abbrev p28 : List Str := ["_law_draw", "_law_room", "_law_top", "_law_kind", "_law_sorts"]
theorem nd28 : N28.Nodup := by decide +kernel
theorem sc28 : FnScope N28 p28 (defScope s28) := ⟨rfl, rfl, rfl, nd28, rfl, by decide +kernel, by decide +kernel⟩
abbrev N29 : List Str := ["_law_told", "_law_one", "_law_other"]
abbrev p29 : List Str := ["_law_told"]
theorem nd29 : N29.Nodup := by decide +kernel
theorem sc29 : FnScope N29 p29 (defScope s29) := ⟨rfl, rfl, rfl, nd29, rfl, by decide +kernel, by decide +kernel⟩
abbrev N30 : List Str := ["_law_told"]
abbrev p30 : List Str := ["_law_told"]
theorem nd30 : N30.Nodup := by decide +kernel
theorem sc30 : FnScope N30 p30 (defScope s30) := ⟨rfl, rfl, rfl, nd30, rfl, by decide +kernel, by decide +kernel⟩
abbrev N31 : List Str := ["_law_one", "_law_other"]
abbrev p31 : List Str := ["_law_one", "_law_other"]
theorem nd31 : N31.Nodup := by decide +kernel
theorem sc31 : FnScope N31 p31 (defScope s31) := ⟨rfl, rfl, rfl, nd31, rfl, by decide +kernel, by decide +kernel⟩
abbrev N32 : List Str := ["_law_inner_here", "_law_count", "_law_found", "_law_offset", "_law_start", "_law_pairs", "_law_more", "_law_one", "_law_term"]
abbrev p32 : List Str := ["_law_inner_here", "_law_count"]
theorem nd32 : N32.Nodup := by decide +kernel
theorem sc32 : FnScope N32 p32 (defScope s32) := ⟨rfl, rfl, rfl, nd32, rfl, by decide +kernel, by decide +kernel⟩
abbrev N33 : List Str := ["_law_told", "_law_one", "_law_other", "_law_found", "_law_term", "_law_later"]
abbrev p33 : List Str := ["_law_told"]
theorem nd33 : N33.Nodup := by decide +kernel
theorem sc33 : FnScope N33 p33 (defScope s33) := ⟨rfl, rfl, rfl, nd33, rfl, by decide +kernel, by decide +kernel⟩
abbrev NL0 : List Str := ["_law_work", "_law_caught_here", "_law_error"]
abbrev pL0 : List Str := ["_law_work"]
theorem ndL0 : NL0.Nodup := by decide +kernel
theorem scL0 : FnScope NL0 pL0 (defScope sL0) := ⟨rfl, rfl, rfl, ndL0, rfl, by decide +kernel, by decide +kernel⟩
abbrev N34 : List Str := ["_law_error", "_law_some"]
abbrev p34 : List Str := ["_law_error"]
theorem nd34 : N34.Nodup := by decide +kernel
theorem sc34 : FnScope N34 p34 (defScope s34) := ⟨rfl, rfl, rfl, nd34, rfl, by decide +kernel, by decide +kernel⟩
abbrev N35 : List Str := ["_law_error", "_law_way"]
abbrev p35 : List Str := ["_law_error", "_law_way"]
theorem nd35 : N35.Nodup := by decide +kernel
theorem sc35 : FnScope N35 p35 (defScope s35) := ⟨rfl, rfl, rfl, nd35, rfl, by decide +kernel, by decide +kernel⟩
abbrev NL1 : List Str := ["_law_work", "_law_error", "_law_words", "_law_marks_here", "_law_way"]
abbrev pL1 : List Str := ["_law_work"]
theorem ndL1 : NL1.Nodup := by decide +kernel
theorem scL1 : FnScope NL1 pL1 (defScope sL1) := ⟨rfl, rfl, rfl, ndL1, rfl, by decide +kernel, by decide +kernel⟩
abbrev NL2 : List Str := ["_law_work", "_law_word", "_law_kept_here"]
abbrev pL2 : List Str := ["_law_work", "_law_word", "_law_kept_here"]
theorem ndL2 : NL2.Nodup := by decide +kernel
theorem scL2 : FnScope NL2 pL2 (defScope sL2) := ⟨rfl, rfl, rfl, ndL2, rfl, by decide +kernel, by decide +kernel⟩
abbrev N36 : List Str := ["_law_told", "_law_inner_here", "_law_found", "_law_term", "_law_one", "_law_later"]
abbrev p36 : List Str := ["_law_told"]
theorem nd36 : N36.Nodup := by decide +kernel
theorem sc36 : FnScope N36 p36 (defScope s36) := ⟨rfl, rfl, rfl, nd36, rfl, by decide +kernel, by decide +kernel⟩
abbrev N37 : List Str := ["_law_script", "_law_draw", "_law_turn", "_law_top", "_law_kind", "_law_sorts", "_law_told", "_law_line_here", "_law_due", "_law_found"]
abbrev p37 : List Str := ["_law_script"]
theorem nd37 : N37.Nodup := by decide +kernel
theorem sc37 : FnScope N37 p37 (defScope s37) := ⟨rfl, rfl, rfl, nd37, rfl, by decide +kernel, by decide +kernel⟩
def psL : List (List Str) := [p0, p1, p2, p3, p4, p5, p6, p7, p8, p9, p10, p11, p12, p13, p14, p15, p16, p17, p18, p19, p20, p21, p22, p23, p24, p25, p26, p27, p28, p29, p30, p31, p32, p33, p34, p35, p36, p37]
def ps (i : Nat) : List Str := psL.getD i []
def qsL : List (List Str) := [pL0, pL1, pL2]
def qs (i : Nat) : List Str := qsL.getD i []
abbrev nL : Nat := 3
theorem scX_TooMany : FnScope ["self", "limit"] ["self", "limit"] (defScope sX_TooMany) := ⟨rfl, rfl, rfl, by decide +kernel, rfl, by decide +kernel, by decide +kernel⟩
/-- what the top has written -/
structure LX (K : PySem.W.Frag) (mg : Str → Option Value) (cl : ClsT) (fa : Nat → Addr) (fd : Nat → FuncData) (ga : Nat → Addr) : Prop where
  m_is_number : mg "is_number" = some (.ref (fa 0))
  m_sorted_pairs : mg "sorted_pairs" = some (.ref (fa 1))
  m_joined : mg "joined" = some (.ref (fa 2))
  m_listed : mg "listed" = some (.ref (fa 3))
  m_repeated : mg "repeated" = some (.ref (fa 4))
  m_section_terms : mg "section_terms" = some (.ref (fa 5))
  m_terms_of : mg "terms_of" = some (.ref (fa 6))
  m_terms : mg "terms" = some (.ref (fa 7))
  m_inner_parts : mg "inner_parts" = some (.ref (fa 8))
  m_is_time : mg "is_time" = some (.ref (fa 9))
  m_is_count : mg "is_count" = some (.ref (fa 10))
  m_need_count : mg "need_count" = some (.ref (fa 11))
  m_need_time : mg "need_time" = some (.ref (fa 12))
  m_paths_of : mg "paths_of" = some (.ref (fa 13))
  m__law_begun : mg "_law_begun" = some (.ref (fa 22))
  m__law_mixed : mg "_law_mixed" = some (.ref (fa 23))
  m__law_take : mg "_law_take" = some (.ref (fa 24))
  m__law_pick : mg "_law_pick" = some (.ref (fa 25))
  m__law_time : mg "_law_time" = some (.ref (fa 26))
  m__law_leaf : mg "_law_leaf" = some (.ref (fa 27))
  m__law_tree : mg "_law_tree" = some (.ref (fa 28))
  m__law_line : mg "_law_line" = some (.ref (fa 29))
  m__law_inner : mg "_law_inner" = some (.ref (fa 30))
  m__law_joined : mg "_law_joined" = some (.ref (fa 31))
  m__law_section_terms : mg "_law_section_terms" = some (.ref (fa 32))
  m__law_terms : mg "_law_terms" = some (.ref (fa 33))
  m__law_marks : mg "_law_marks" = some (.ref (fa 34))
  m__law_kept : mg "_law_kept" = some (.ref (fa 35))
  m__law_terms_or_none : mg "_law_terms_or_none" = some (.ref (fa 36))
  m_law : mg "law" = some (.ref (fa 37))
  m__law_caught : mg "_law_caught" = some (.ref (ga 0))
  m__law_refusal : mg "_law_refusal" = some (.ref (ga 1))
  m__law_is : mg "_law_is" = some (.ref (ga 2))
  m_Line : mg "Line" = some (.ref (cl 1))
  c_Line : Cls K (cl 1)
  n_Line_all_paths : NoAttr K (cl 1) "all_paths"
  n_Line_nested : NoAttr K (cl 1) "nested"
  k_Line : Mk K (cl 1) (fa 14)
  t_Line_limited : Meth K (cl 1) "limited" (fa 18)
  t_Line_parts : Meth K (cl 1) "parts" (fa 21)
  o_Line___add__ : OwnOp K (cl 1) .Add (fa 19)
  o_Line___and__ : OwnOp K (cl 1) .BitAnd (fa 20)
  s_Line_belt : StM K (cl 1) "belt" (fa 15)
  s_Line_gap : StM K (cl 1) "gap" (fa 16)
  s_Line_hold : StM K (cl 1) "hold" (fa 17)
  m_TooMany : mg "TooMany" = some (.ref (cl 0))
  xo_TooMany : OexC K (cl 0)
  xr_TooMany : InitAt K (cl 0) "TooMany.__init__" sX_TooMany ["self", "limit"]
  xn_TooMany : PySem.W.findIn K (.ref (cl 0)) "limit" = some none
  xI_TooMany : ExI K (cl 0)
  m_LineError : mg "LineError" = some (.ref (cl 2))
  m_BadMoments : mg "BadMoments" = some (.ref (cl 3))
  m_BadCount : mg "BadCount" = some (.ref (cl 4))
  m_BadTime : mg "BadTime" = some (.ref (cl 5))
  m_BadPath : mg "BadPath" = some (.ref (cl 6))
  m_BadNumber : mg "BadNumber" = some (.ref (cl 7))
  m_TooLate : mg "TooLate" = some (.ref (cl 8))
  m_BadSight : mg "BadSight" = some (.ref (cl 9))
  m_BadRule : mg "BadRule" = some (.ref (cl 10))
  m_BadMoment : mg "BadMoment" = some (.ref (cl 11))
  m_Differs : mg "Differs" = some (.ref (cl 12))
  m_Branched : mg "Branched" = some (.ref (cl 13))
  m_BadText : mg "BadText" = some (.ref (cl 14))
  m_BadLog : mg "BadLog" = some (.ref (cl 15))
  m_NothingLeft : mg "NothingLeft" = some (.ref (cl 16))
  xm_TooMany_LineError : PySem.W.exmOne K (.ref (cl 0)) (.ref (cl 2)) = some true
  xv_TooMany_ValueError : PySem.W.kitOne K (.ref (cl 0)) (.type "ValueError") = some true
  xk_TooMany_BadCount : PySem.W.kitOne K (.ref (cl 0)) (.ref (cl 4)) = some false
  xk_TooMany_BadLog : PySem.W.kitOne K (.ref (cl 0)) (.ref (cl 15)) = some false
  xk_TooMany_BadMoment : PySem.W.kitOne K (.ref (cl 0)) (.ref (cl 11)) = some false
  xk_TooMany_BadMoments : PySem.W.kitOne K (.ref (cl 0)) (.ref (cl 3)) = some false
  xk_TooMany_BadNumber : PySem.W.kitOne K (.ref (cl 0)) (.ref (cl 7)) = some false
  xk_TooMany_BadPath : PySem.W.kitOne K (.ref (cl 0)) (.ref (cl 6)) = some false
  xk_TooMany_BadRule : PySem.W.kitOne K (.ref (cl 0)) (.ref (cl 10)) = some false
  xk_TooMany_BadSight : PySem.W.kitOne K (.ref (cl 0)) (.ref (cl 9)) = some false
  xk_TooMany_BadText : PySem.W.kitOne K (.ref (cl 0)) (.ref (cl 14)) = some false
  xk_TooMany_BadTime : PySem.W.kitOne K (.ref (cl 0)) (.ref (cl 5)) = some false
  xk_TooMany_Branched : PySem.W.kitOne K (.ref (cl 0)) (.ref (cl 13)) = some false
  xk_TooMany_Differs : PySem.W.kitOne K (.ref (cl 0)) (.ref (cl 12)) = some false
  xk_TooMany_NothingLeft : PySem.W.kitOne K (.ref (cl 0)) (.ref (cl 16)) = some false
  xk_TooMany_TooLate : PySem.W.kitOne K (.ref (cl 0)) (.ref (cl 8)) = some false
  xk_TooMany_TooMany : PySem.W.kitOne K (.ref (cl 0)) (.ref (cl 0)) = some true
  g_MOST_TERMS : ∃ t, mg "MOST_TERMS" = some (.int 100 t)
  g_MOST_INNER : ∃ t, mg "MOST_INNER" = some (.int 6 t)
  g_GREATEST_TIME : ∃ t, mg "GREATEST_TIME" = some (.int 1000000000 t)
  g_MOST_COUNT : ∃ t, mg "MOST_COUNT" = some (.int 12 t)
  g_MOST_PARTS : ∃ t, mg "MOST_PARTS" = some (.int 12 t)
  z_isinstance : mg "isinstance" = none
  z_int : mg "int" = none
  z_bool : mg "bool" = none
  z_sorted : mg "sorted" = none
  z_set : mg "set" = none
  z_tuple : mg "tuple" = none
  z_len : mg "len" = none
  z_enumerate : mg "enumerate" = none
  z_abs : mg "abs" = none
  z_ValueError : mg "ValueError" = none
  z_repr : mg "repr" = none
  z_min : mg "min" = none
  z_range : mg "range" = none
  kw_terms_line : BindsK K (fd 7) (ps 7) ["line"] [0]
section
variable {P : Program} {w : World} {K : PySem.W.Frag} {mg : Str → Option Value} {base : Heap} {cl : ClsT} {fa : Nat → Addr} {fd : Nat → FuncData} {k : Nat} {c : Nat → SemF} {gd : Nat → FuncData} {ga : Nat → Addr} {cL : Nat → LamF → SemF} {k9 : Nat} {c9 : Nat → SemF}
theorem w0 (T : TX P w K mg base cl fa fd ps nF k c) (T2 : LX K mg cl fa fd ga) : BodyOk P w K mg base cl k N0 "is_number" s0 (b_is_number c) := by
  intro f cdv A outer sh0 H0 E0 hr hg
  have D := DF.of (P := P) (w := w) (K := K) (mg := mg) (base := base) (N := N0) (outer := outer) (H := H0) (E := E0) hr hg
  exact (sb_one (ss_ret (se_and (se_isi "int" T2.z_isinstance T2.z_int (by rfl) (se_var 0)) (se_and (se_not (se_isi "bool" T2.z_isinstance T2.z_bool (by rfl) (se_var 0))) (se_one (se_cmp ops_ge (se_var 0) se_int))))))
theorem w1 (T : TX P w K mg base cl fa fd ps nF k c) (T2 : LX K mg cl fa fd ga) : BodyOk P w K mg base cl k N1 "sorted_pairs" s1 (b_sorted_pairs c) := by
  intro f cdv A outer sh0 H0 E0 hr hg
  have D := DF.of (P := P) (w := w) (K := K) (mg := mg) (base := base) (N := N1) (outer := outer) (H := H0) (E := E0) hr hg
  exact (sb_one (ss_ret (se_callT cs_tuple T2.z_tuple (by rfl) (sa_cons (se_sortN D.calm D.hu T2.z_sorted T2.z_set (se_var 0)) sa_nil))))
theorem w2 (T : TX P w K mg base cl fa fd ps nF k c) (T2 : LX K mg cl fa fd ga) : BodyOk P w K mg base cl k N2 "joined" s2 (b_joined c) := by
  intro f cdv A outer sh0 H0 E0 hr hg
  have D := DF.of (P := P) (w := w) (K := K) (mg := mg) (base := base) (N := N2) (outer := outer) (H := H0) (E := E0) hr hg
  exact (sb_one (ss_ret (se_tup (sa_cons (se_bin ops_add (se_ix (se_var 0) se_int) (se_ix (se_var 1) se_int)) (sa_cons (se_bin ops_add (se_ix (se_var 0) se_int) (se_ix (se_var 1) se_int)) (sa_cons (T.call D 1 T2.m_sorted_pairs (sa_cons (se_bin ops_add (se_ix (se_var 0) se_int) (se_ix (se_var 1) se_int)) sa_nil)) sa_nil))))))
theorem w3 (T : TX P w K mg base cl fa fd ps nF k c) (T2 : LX K mg cl fa fd ga) (hk1 : 1 ≤ k) : BodyOk P w K mg base cl k N3 "listed" s3 (b_listed c) := by
  intro f cdv A outer sh0 H0 E0 hr hg
  have D := DF.of (P := P) (w := w) (K := K) (mg := mg) (base := base) (N := N3) (outer := outer) (H := H0) (E := E0) hr hg
  exact (sb_cons (ss_set 0 nd3 (se_sortNM D.calm D.hu T2.z_sorted T2.z_set (se_var 0)))
    (sb_cons (ss_if (st_cmp ops_gt (se_callB cs_len T2.z_len (by rfl) (sa_cons (se_var 0) sa_nil)) (se_gint 100 T2.g_MOST_TERMS)) (sb_one (ss_raise1 k_TooMany (rai_mk T2.xo_TooMany T2.xn_TooMany T2.xr_TooMany scX_TooMany hk1) D T2.m_TooMany (sa_cons (se_gint 100 T2.g_MOST_TERMS) sa_nil))) sb_nil)
    (sb_one (ss_ret (se_var 0)))))
theorem w4 (T : TX P w K mg base cl fa fd ps nF k c) (T2 : LX K mg cl fa fd ga) : BodyOk P w K mg base cl k N4 "repeated" s4 (b_repeated c) := by
  intro f cdv A outer sh0 H0 E0 hr hg
  have D := DF.of (P := P) (w := w) (K := K) (mg := mg) (base := base) (N := N4) (outer := outer) (H := H0) (E := E0) hr hg
  exact (sb_cons (ss_asg (se_var 0) (sg_tup D.calm (sgs_cons (sg_name 2 nd4) (sgs_cons (sg_name 3 nd4) (sgs_cons (sg_name 4 nd4) sgs_nil)))))
    (sb_cons (ss_set 5 nd4 (se_ifE (st_cmp ops_gt (se_var 3) se_int) (se_tup (sa_cons (se_tup (sa_cons (se_bin ops_add (se_var 2) (se_var 1)) (sa_cons (se_var 3) sa_nil))) sa_nil)) (se_tup sa_nil)))
    (sb_one (ss_ret (se_tup (sa_cons (se_var 2) (sa_cons (se_var 3) (sa_cons (T.call D 1 T2.m_sorted_pairs (sa_cons (se_bin ops_add (se_var 4) (se_var 5)) sa_nil)) sa_nil))))))))
theorem w5 (T : TX P w K mg base cl fa fd ps nF k c) (T2 : LX K mg cl fa fd ga) (hk1 : 1 ≤ k) : BodyOk P w K mg base cl k N5 "section_terms" s5 (b_section_terms c) := by
  intro f cdv A outer sh0 H0 E0 hr hg
  have D := DF.of (P := P) (w := w) (K := K) (mg := mg) (base := base) (N := N5) (outer := outer) (H := H0) (E := E0) hr hg
  exact (sb_cons (ss_if (st_cmp ops_gt (se_callB cs_len T2.z_len (by rfl) (sa_cons (se_var 0) sa_nil)) (se_gint 6 T2.g_MOST_INNER)) (sb_one (ss_raise1 k_TooMany (rai_mk T2.xo_TooMany T2.xn_TooMany T2.xr_TooMany scX_TooMany hk1) D T2.m_TooMany (sa_cons (se_gint 100 T2.g_MOST_TERMS) sa_nil))) sb_nil)
    (sb_cons (ss_set 2 nd5 (se_lst sa_nil))
    (sb_cons (ss_for D.own D.calm (si_seq (se_var 0)) (sg_name 3 nd5) (sb_cons (ss_set 4 nd5 (T.call D 4 T2.m_repeated (sa_cons (se_var 3) (sa_cons (se_var 1) sa_nil))))
    (sb_one (ss_set 2 nd5 (se_bin ops_add (se_bin ops_add (se_var 2) (se_lst (sa_cons (se_var 4) sa_nil))) (se_lc [("other", 5)] D.calm nd5 (si_seq (se_var 2)) (blk_ok (N0 := N5) (sc0 := defScope s5) rfl rfl (by decide +kernel)) (fun s H C l fp => (sg_name 5 nd5)) (fun s H C l fp => sts_nil) (fun s H C l fp => (T.call (D.blk s H _ _ fp) 2 T2.m_joined (sa_cons (T.call (D.blk s H _ _ fp) 2 T2.m_joined (sa_cons (se_var 5) (sa_cons (se_var 4) sa_nil))) (sa_cons (se_tup (sa_cons (se_var 1) (sa_cons se_int (sa_cons (se_tup sa_nil) sa_nil)))) sa_nil))))))))))
    (sb_one (ss_ret (T.call D 3 T2.m_listed (sa_cons (se_var 2) sa_nil)))))))
theorem w6 (T : TX P w K mg base cl fa fd ps nF k c) (T2 : LX K mg cl fa fd ga) : BodyOk P w K mg base cl k N6 "terms_of" s6 (b_terms_of c) := by
  intro f cdv A outer sh0 H0 E0 hr hg
  have D := DF.of (P := P) (w := w) (K := K) (mg := mg) (base := base) (N := N6) (outer := outer) (H := H0) (E := E0) hr hg
  exact (sb_cons (ss_if (st_cmp (ops_eq D.hu) (se_ix (se_var 0) se_int) se_str) (sb_one (ss_ret (se_lstM (sa_cons (se_tup (sa_cons se_int (sa_cons (se_ix (se_var 0) se_int) (sa_cons (se_tup sa_nil) sa_nil)))) sa_nil)))) sb_nil)
    (sb_cons (ss_if (st_cmp (ops_eq D.hu) (se_ix (se_var 0) se_int) se_str) (sb_one (ss_ret (se_lstM (sa_cons (se_tup (sa_cons se_int (sa_cons se_int (sa_cons (se_ifE (st_cmp ops_gt (se_ix (se_var 0) se_int) se_int) (se_tup (sa_cons (se_tup (sa_cons (se_ix (se_var 0) se_int) (sa_cons (se_ix (se_var 0) se_int) sa_nil))) sa_nil)) (se_tup sa_nil)) sa_nil)))) sa_nil)))) sb_nil)
    (sb_cons (ss_if (st_cmp (ops_eq D.hu) (se_ix (se_var 0) se_int) se_str) (sb_one (ss_ret (T.call D 3 T2.m_listed (sa_cons (se_lst (sa_cons (se_tup (sa_cons se_int (sa_cons se_int (sa_cons (se_tup sa_nil) sa_nil)))) (sa_cons (se_tup (sa_cons (se_ix (se_var 0) se_int) (sa_cons (se_ix (se_var 0) se_int) (sa_cons (se_tup sa_nil) sa_nil)))) sa_nil))) sa_nil)))) sb_nil)
    (sb_cons (ss_if (st_cmp (ops_eq D.hu) (se_ix (se_var 0) se_int) se_str) (sb_one (ss_ret (T.call D 5 T2.m_section_terms (sa_cons (T.call D 6 T2.m_terms_of (sa_cons (se_ix (se_var 0) se_int) sa_nil)) (sa_cons (se_ix (se_var 0) se_int) sa_nil))))) sb_nil)
    (sb_cons (ss_asg (se_tup (sa_cons (T.call D 6 T2.m_terms_of (sa_cons (se_ix (se_var 0) se_int) sa_nil)) (sa_cons (T.call D 6 T2.m_terms_of (sa_cons (se_ix (se_var 0) se_int) sa_nil)) sa_nil))) (sg_tup D.calm (sgs_cons (sg_name 1 nd6) (sgs_cons (sg_name 2 nd6) sgs_nil))))
    (sb_cons (ss_if (st_cmp (ops_eq D.hu) (se_ix (se_var 0) se_int) se_str) (sb_one (ss_ret (T.call D 3 T2.m_listed (sa_cons (se_bin ops_add (se_var 1) (se_var 2)) sa_nil)))) sb_nil)
    (sb_one (ss_ret (T.call D 3 T2.m_listed (sa_cons (se_lc2 [("one", 3), ("other", 4)] [4] D.calm nd6 (si_seq (se_var 1)) (blk_ok (N0 := N6) (sc0 := defScope s6) rfl rfl (by decide +kernel)) (fun s H C l fp => (sg_name 3 nd6)) (fun s H C l fp => sts_nil) (fun s H C l fp => (si_seq (se_var 2))) (fun s H C l fp => (sg_name 4 nd6)) (fun s H C l fp => sts_nil) (fun s H C l fp => (T.call (D.blk s H _ _ fp) 2 T2.m_joined (sa_cons (se_var 3) (sa_cons (se_var 4) sa_nil))))) sa_nil))))))))))
theorem w7 (T : TX P w K mg base cl fa fd ps nF k c) (T2 : LX K mg cl fa fd ga) : BodyOk P w K mg base cl k N7 "terms" s7 (b_terms c) := by
  intro f cdv A outer sh0 H0 E0 hr hg
  have D := DF.of (P := P) (w := w) (K := K) (mg := mg) (base := base) (N := N7) (outer := outer) (H := H0) (E := E0) hr hg
  exact (sb_one (ss_ret (T.call D 6 T2.m_terms_of (sa_cons (se_meth0 1 T2.c_Line T2.t_Line_parts (T.cal D 21 (by decide)) (se_var 0)) sa_nil))))
theorem w8 (T : TX P w K mg base cl fa fd ps nF k c) (T2 : LX K mg cl fa fd ga) : BodyOk P w K mg base cl k N8 "inner_parts" s8 (b_inner_parts c) := by
  intro f cdv A outer sh0 H0 E0 hr hg
  have D := DF.of (P := P) (w := w) (K := K) (mg := mg) (base := base) (N := N8) (outer := outer) (H := H0) (E := E0) hr hg
  exact (sb_cons (ss_if (st_cmp (ops_eq D.hu) (se_ix (se_var 0) se_int) se_str) (sb_one (ss_ret (se_lst (sa_cons (se_ix (se_var 0) se_int) sa_nil)))) sb_nil)
    (sb_one (ss_ret (se_ifE (st_cmp (ops_in D.hu) (se_ix (se_var 0) se_int) (se_tup (sa_cons se_str (sa_cons se_str sa_nil)))) (se_lst (sa_cons (se_ix (se_var 0) se_int) (sa_cons (se_ix (se_var 0) se_int) sa_nil))) (se_lst sa_nil)))))
theorem w9 (T : TX P w K mg base cl fa fd ps nF k c) (T2 : LX K mg cl fa fd ga) : BodyOk P w K mg base cl k N9 "is_time" s9 (b_is_time c) := by
  intro f cdv A outer sh0 H0 E0 hr hg
  have D := DF.of (P := P) (w := w) (K := K) (mg := mg) (base := base) (N := N9) (outer := outer) (H := H0) (E := E0) hr hg
  exact (sb_one (ss_ret (se_and (T.call D 0 T2.m_is_number (sa_cons (se_var 0) sa_nil)) (se_one (se_cmp ops_le (se_var 0) (se_gint 1000000000 T2.g_GREATEST_TIME))))))
theorem w10 (T : TX P w K mg base cl fa fd ps nF k c) (T2 : LX K mg cl fa fd ga) : BodyOk P w K mg base cl k N10 "is_count" s10 (b_is_count c) := by
  intro f cdv A outer sh0 H0 E0 hr hg
  have D := DF.of (P := P) (w := w) (K := K) (mg := mg) (base := base) (N := N10) (outer := outer) (H := H0) (E := E0) hr hg
  exact (sb_one (ss_ret (se_and (T.call D 0 T2.m_is_number (sa_cons (se_var 0) sa_nil)) (se_one (se_chain ops_le ops_le se_int (se_var 0) (se_gint 12 T2.g_MOST_COUNT))))))
theorem w11 (T : TX P w K mg base cl fa fd ps nF k c) (T2 : LX K mg cl fa fd ga) : BodyOk P w K mg base cl k N11 "need_count" s11 (b_need_count c) := by
  intro f cdv A outer sh0 H0 E0 hr hg
  have D := DF.of (P := P) (w := w) (K := K) (mg := mg) (base := base) (N := N11) (outer := outer) (H := H0) (E := E0) hr hg
  exact (sb_one (ss_if (st_not (st_val (T.call D 10 T2.m_is_count (sa_cons (se_var 0) sa_nil)))) (sb_one ss_never) sb_nil))
theorem w12 (T : TX P w K mg base cl fa fd ps nF k c) (T2 : LX K mg cl fa fd ga) : BodyOk P w K mg base cl k N12 "need_time" s12 (b_need_time c) := by
  intro f cdv A outer sh0 H0 E0 hr hg
  have D := DF.of (P := P) (w := w) (K := K) (mg := mg) (base := base) (N := N12) (outer := outer) (H := H0) (E := E0) hr hg
  exact (sb_one (ss_if (st_not (st_val (T.call D 9 T2.m_is_time (sa_cons (se_var 0) sa_nil)))) (sb_one ss_never) sb_nil))
theorem w13 (T : TX P w K mg base cl fa fd ps nF k c) (T2 : LX K mg cl fa fd ga) : BodyOk P w K mg base cl k N13 "paths_of" s13 (b_paths_of c) := by
  intro f cdv A outer sh0 H0 E0 hr hg
  have D := DF.of (P := P) (w := w) (K := K) (mg := mg) (base := base) (N := N13) (outer := outer) (H := H0) (E := E0) hr hg
  exact (sb_cons (ss_set 2 nd13 (se_lst (sa_cons (se_var 1) sa_nil)))
    (sb_cons (ss_for D.own D.calm (si_enum2 T2.z_enumerate (sa_cons (T.call D 8 T2.m_inner_parts (sa_cons (se_var 0) sa_nil)) sa_nil)) (sg_tup D.calm (sgs_cons (sg_name 3 nd13) (sgs_cons (sg_name 4 nd13) sgs_nil))) (sb_one (ss_set 2 nd13 (se_bin ops_add (se_var 2) (T.call D 13 T2.m_paths_of (sa_cons (se_var 4) (sa_cons (se_bin ops_add (se_var 1) (se_tup (sa_cons (se_var 3) sa_nil))) sa_nil)))))))
    (sb_one (ss_ret (se_var 2)))))
theorem w14 (T : TX P w K mg base cl fa fd ps nF k c) (T2 : LX K mg cl fa fd ga) (hk1 : 1 ≤ k) : BodyOk P w K mg base cl k N14 "Line.__init__" s14 (b_Line___init__ c) := by
  intro f cdv A outer sh0 H0 E0 hr hg
  have D := DF.of (P := P) (w := w) (K := K) (mg := mg) (base := base) (N := N14) (outer := outer) (H := H0) (E := E0) hr hg
  exact (sb_cons (ss_attr 1 0 T2.c_Line T2.n_Line_nested (se_var 0) (se_var 1))
    (sb_cons (ss_attr 1 1 T2.c_Line T2.n_Line_all_paths (se_var 0) (T.call D 13 T2.m_paths_of (sa_cons (se_var 1) (sa_cons (se_tup sa_nil) sa_nil))))
    (sb_one (ss_if (st_cmp ops_gt (se_callB cs_len T2.z_len (by rfl) (sa_cons (se_at 1 1 T2.c_Line T2.n_Line_all_paths (se_var 0)) sa_nil)) (se_gint 12 T2.g_MOST_PARTS)) (sb_one (ss_raise1 k_TooMany (rai_mk T2.xo_TooMany T2.xn_TooMany T2.xr_TooMany scX_TooMany hk1) D T2.m_TooMany (sa_cons (se_gint 12 T2.g_MOST_PARTS) sa_nil))) sb_nil))))
theorem w15 (T : TX P w K mg base cl fa fd ps nF k c) (T2 : LX K mg cl fa fd ga) : BodyOk P w K mg base cl k N15 "Line.belt" s15 (b_Line_belt c) := by
  intro f cdv A outer sh0 H0 E0 hr hg
  have D := DF.of (P := P) (w := w) (K := K) (mg := mg) (base := base) (N := N15) (outer := outer) (H := H0) (E := E0) hr hg
  exact (sb_cons (ss_expr (T.call D 12 T2.m_need_time (sa_cons (se_var 0) sa_nil)))
    (sb_one (ss_ret (se_call (T.make D 14 1 (by decide) T2.k_Line).frz T2.m_Line T2.k_Line.kp (sa_cons (se_tup (sa_cons se_str (sa_cons (se_var 0) sa_nil))) sa_nil)))))
theorem w16 (T : TX P w K mg base cl fa fd ps nF k c) (T2 : LX K mg cl fa fd ga) : BodyOk P w K mg base cl k N16 "Line.gap" s16 (b_Line_gap c) := by
  intro f cdv A outer sh0 H0 E0 hr hg
  have D := DF.of (P := P) (w := w) (K := K) (mg := mg) (base := base) (N := N16) (outer := outer) (H := H0) (E := E0) hr hg
  exact (sb_cons (ss_expr (T.call D 11 T2.m_need_count (sa_cons (se_var 0) sa_nil)))
    (sb_cons (ss_expr (T.call D 12 T2.m_need_time (sa_cons (se_var 1) sa_nil)))
    (sb_one (ss_ret (se_call (T.make D 14 1 (by decide) T2.k_Line).frz T2.m_Line T2.k_Line.kp (sa_cons (se_tup (sa_cons se_str (sa_cons (se_var 0) (sa_cons (se_var 1) sa_nil)))) sa_nil))))))
theorem w17 (T : TX P w K mg base cl fa fd ps nF k c) (T2 : LX K mg cl fa fd ga) : BodyOk P w K mg base cl k N17 "Line.hold" s17 (b_Line_hold c) := by
  intro f cdv A outer sh0 H0 E0 hr hg
  have D := DF.of (P := P) (w := w) (K := K) (mg := mg) (base := base) (N := N17) (outer := outer) (H := H0) (E := E0) hr hg
  exact (sb_cons (ss_expr (T.call D 11 T2.m_need_count (sa_cons (se_var 0) sa_nil)))
    (sb_cons (ss_expr (T.call D 12 T2.m_need_time (sa_cons (se_var 1) sa_nil)))
    (sb_one (ss_ret (se_call (T.make D 14 1 (by decide) T2.k_Line).frz T2.m_Line T2.k_Line.kp (sa_cons (se_tup (sa_cons se_str (sa_cons (se_var 0) (sa_cons (se_var 1) sa_nil)))) sa_nil))))))
theorem w18 (T : TX P w K mg base cl fa fd ps nF k c) (T2 : LX K mg cl fa fd ga) : BodyOk P w K mg base cl k N18 "Line.limited" s18 (b_Line_limited c) := by
  intro f cdv A outer sh0 H0 E0 hr hg
  have D := DF.of (P := P) (w := w) (K := K) (mg := mg) (base := base) (N := N18) (outer := outer) (H := H0) (E := E0) hr hg
  exact (sb_cons (ss_expr (T.call D 11 T2.m_need_count (sa_cons (se_var 1) sa_nil)))
    (sb_one (ss_ret (se_call (T.make D 14 1 (by decide) T2.k_Line).frz T2.m_Line T2.k_Line.kp (sa_cons (se_tup (sa_cons se_str (sa_cons (se_var 1) (sa_cons (se_at 1 0 T2.c_Line T2.n_Line_nested (se_var 0)) sa_nil)))) sa_nil)))))
theorem w19 (T : TX P w K mg base cl fa fd ps nF k c) (T2 : LX K mg cl fa fd ga) : BodyOk P w K mg base cl k N19 "Line.__add__" s19 (b_Line___add__ c) := by
  intro f cdv A outer sh0 H0 E0 hr hg
  have D := DF.of (P := P) (w := w) (K := K) (mg := mg) (base := base) (N := N19) (outer := outer) (H := H0) (E := E0) hr hg
  exact (sb_one (ss_ret (se_call (T.make D 14 1 (by decide) T2.k_Line).frz T2.m_Line T2.k_Line.kp (sa_cons (se_tup (sa_cons se_str (sa_cons (se_at 1 0 T2.c_Line T2.n_Line_nested (se_var 0)) (sa_cons (se_at 1 0 T2.c_Line T2.n_Line_nested (se_var 1)) sa_nil)))) sa_nil))))
theorem w20 (T : TX P w K mg base cl fa fd ps nF k c) (T2 : LX K mg cl fa fd ga) : BodyOk P w K mg base cl k N20 "Line.__and__" s20 (b_Line___and__ c) := by
  intro f cdv A outer sh0 H0 E0 hr hg
  have D := DF.of (P := P) (w := w) (K := K) (mg := mg) (base := base) (N := N20) (outer := outer) (H := H0) (E := E0) hr hg
  exact (sb_one (ss_ret (se_call (T.make D 14 1 (by decide) T2.k_Line).frz T2.m_Line T2.k_Line.kp (sa_cons (se_tup (sa_cons se_str (sa_cons (se_at 1 0 T2.c_Line T2.n_Line_nested (se_var 0)) (sa_cons (se_at 1 0 T2.c_Line T2.n_Line_nested (se_var 1)) sa_nil)))) sa_nil))))
theorem w21 (T : TX P w K mg base cl fa fd ps nF k c) (T2 : LX K mg cl fa fd ga) : BodyOk P w K mg base cl k N21 "Line.parts" s21 (b_Line_parts c) := by
  intro f cdv A outer sh0 H0 E0 hr hg
  have D := DF.of (P := P) (w := w) (K := K) (mg := mg) (base := base) (N := N21) (outer := outer) (H := H0) (E := E0) hr hg
  exact (sb_one (ss_ret (se_at 1 0 T2.c_Line T2.n_Line_nested (se_var 0))))
theorem w22 (T : TX P w K mg base cl fa fd ps nF k c) (T2 : LX K mg cl fa fd ga) : BodyOk P w K mg base cl k N22 "_law_begun" s22 (b__law_begun c) := by
  intro f cdv A outer sh0 H0 E0 hr hg
  have D := DF.of (P := P) (w := w) (K := K) (mg := mg) (base := base) (N := N22) (outer := outer) (H := H0) (E := E0) hr hg
  exact (sb_cons (ss_setLcM 1 [("_law_cell", 2)] D.calm nd22 (si_seq (se_var 0)) (blk_ok (N0 := N22) (sc0 := defScope s22) rfl rfl (by decide +kernel)) (fun s H C l fp => (sg_name 2 nd22)) (fun s H C l fp => (sts_one (st_cmp ops_ge (se_callB cs_abs T2.z_abs (by rfl) (sa_cons (se_var 2) sa_nil)) (se_bin ops_pow se_int se_int)))) (fun s H C l fp => (se_bin ops_sub (se_callB cs_abs T2.z_abs (by rfl) (sa_cons (se_var 2) sa_nil)) (se_bin ops_pow se_int se_int))))
    (sb_one (ss_ret (se_dictM (sps_cons se_str (se_var 1) (sps_cons se_str (se_lc [("_law_cell", 2)] D.calm nd22 (si_seq (se_var 0)) (blk_ok (N0 := N22) (sc0 := defScope s22) rfl rfl (by decide +kernel)) (fun s H C l fp => (sg_name 2 nd22)) (fun s H C l fp => sts_nil) (fun s H C l fp => (se_bin ops_mod (se_callT cs_int T2.z_int (by rfl) (sa_cons (se_callB cs_abs T2.z_abs (by rfl) (sa_cons (se_var 2) sa_nil)) sa_nil)) se_int))) (sps_cons se_str se_int (sps_cons se_str se_int sps_nil))))))))
theorem w23 (T : TX P w K mg base cl fa fd ps nF k c) (T2 : LX K mg cl fa fd ga) : BodyOk P w K mg base cl k N23 "_law_mixed" s23 (b__law_mixed c) := by
  intro f cdv A outer sh0 H0 E0 hr hg
  have D := DF.of (P := P) (w := w) (K := K) (mg := mg) (base := base) (N := N23) (outer := outer) (H := H0) (E := E0) hr hg
  exact (sb_cons (ss_par 1 2 D.calm nd23 (sa_cons (se_bin ops_add (se_dget 3 D.hu1 (se_var 0) se_str) se_int) (sa_cons se_int sa_nil)))
    (sb_cons (ss_dput 3 D.hu1 (se_var 0) se_str (se_var 1))
    (sb_cons (ss_for D.own D.calm (si_seq (se_lst (sa_cons se_int (sa_cons se_int (sa_cons se_int (sa_cons se_int sa_nil)))))) (sg_name 3 nd23) (sb_cons (ss_set 4 nd23 (se_bin ops_add (se_bin ops_mul se_int (se_var 1)) (se_bin ops_fdiv (se_var 3) se_int)))
    (sb_cons (ss_for D.own D.calm (si_seq (se_dget 1 D.hu1 (se_var 0) se_str)) (sg_name 5 nd23) (sb_one (ss_set 4 nd23 (se_bin ops_mod (se_callT cs_int T2.z_int (by rfl) (sa_cons (se_bin ops_add (se_bin ops_add (se_bin ops_mul (se_var 4) se_int) (se_var 5)) (se_var 1)) sa_nil)) (se_var 3)))))
    (sb_one (ss_set 2 nd23 (se_bin ops_add (se_bin ops_mul (se_var 2) se_int) (se_bin ops_mod (se_callT cs_int T2.z_int (by rfl) (sa_cons (se_bin ops_pow (se_var 4) se_int) sa_nil)) (se_var 3))))))))
    (sb_one (ss_ret (se_var 2))))))
theorem w24 (T : TX P w K mg base cl fa fd ps nF k c) (T2 : LX K mg cl fa fd ga) : BodyOk P w K mg base cl k N24 "_law_take" s24 (b__law_take c) := by
  intro f cdv A outer sh0 H0 E0 hr hg
  have D := DF.of (P := P) (w := w) (K := K) (mg := mg) (base := base) (N := N24) (outer := outer) (H := H0) (E := E0) hr hg
  exact (sb_cons (ss_if (st_cmp (ops_eq D.hu) (se_dget 2 D.hu1 (se_var 0) se_str) se_int) (sb_one (ss_dput 2 D.hu1 (se_var 0) se_str (se_ifE (st_cmp (ops_ne D.hu) (se_dget 0 D.hu1 (se_var 0) se_str) (se_lst sa_nil)) (se_bml ms_popAt (se_dget 0 D.hu1 (se_var 0) se_str) (sa_cons se_int sa_nil) F.slot_list_pop (by rfl)) (T.call D 23 T2.m__law_mixed (sa_cons (se_var 0) sa_nil))))) sb_nil)
    (sb_cons (ss_set 2 nd24 (se_bin ops_mod (se_callT cs_int T2.z_int (by rfl) (sa_cons (se_dget 2 D.hu1 (se_var 0) se_str) sa_nil)) (se_var 1)))
    (sb_cons (ss_dput 2 D.hu1 (se_var 0) se_str (se_bin ops_fdiv (se_dget 2 D.hu1 (se_var 0) se_str) (se_var 1)))
    (sb_one (ss_ret (se_var 2))))))
theorem w25 (T : TX P w K mg base cl fa fd ps nF k c) (T2 : LX K mg cl fa fd ga) : BodyOk P w K mg base cl k N25 "_law_pick" s25 (b__law_pick c) := by
  intro f cdv A outer sh0 H0 E0 hr hg
  have D := DF.of (P := P) (w := w) (K := K) (mg := mg) (base := base) (N := N25) (outer := outer) (H := H0) (E := E0) hr hg
  exact (sb_one (ss_ret (se_ix (se_var 1) (T.call D 24 T2.m__law_take (sa_cons (se_var 0) (sa_cons (se_callB cs_len T2.z_len (by rfl) (sa_cons (se_var 1) sa_nil)) sa_nil))))))
theorem w26 (T : TX P w K mg base cl fa fd ps nF k c) (T2 : LX K mg cl fa fd ga) : BodyOk P w K mg base cl k N26 "_law_time" s26 (b__law_time c) := by
  intro f cdv A outer sh0 H0 E0 hr hg
  have D := DF.of (P := P) (w := w) (K := K) (mg := mg) (base := base) (N := N26) (outer := outer) (H := H0) (E := E0) hr hg
  exact (sb_cons (ss_if (st_cmp (ops_eq D.hu) (se_var 1) se_str) (sb_one (ss_ret (T.call D 24 T2.m__law_take (sa_cons (se_var 0) (sa_cons se_int sa_nil))))) sb_nil)
    (sb_one (ss_ret (T.call D 25 T2.m__law_pick (sa_cons (se_var 0) (sa_cons (se_lst (sa_cons se_int (sa_cons se_int (sa_cons se_int (sa_cons se_int (sa_cons se_int (sa_cons (se_bin ops_pow se_int se_int) (sa_cons (se_bin ops_sub (se_bin ops_pow se_int se_int) se_int) (sa_cons (T.call D 24 T2.m__law_take (sa_cons (se_var 0) (sa_cons se_int sa_nil))) (sa_cons (T.call D 24 T2.m__law_take (sa_cons (se_var 0) (sa_cons (se_bin ops_add (se_bin ops_pow se_int se_int) se_int) sa_nil))) sa_nil)))))))))) sa_nil))))))
theorem w27 (T : TX P w K mg base cl fa fd ps nF k c) (T2 : LX K mg cl fa fd ga) : BodyOk P w K mg base cl k N27 "_law_leaf" s27 (b__law_leaf c) := by
  intro f cdv A outer sh0 H0 E0 hr hg
  have D := DF.of (P := P) (w := w) (K := K) (mg := mg) (base := base) (N := N27) (outer := outer) (H := H0) (E := E0) hr hg
  exact (sb_cons (ss_set 4 nd27 (T.call D 25 T2.m__law_pick (sa_cons (se_var 0) (sa_cons (se_var 3) sa_nil))))
    (sb_cons (ss_if (st_cmp (ops_eq D.hu) (se_var 4) se_str) (sb_one (ss_ret (se_tup (sa_cons se_str (sa_cons (T.call D 26 T2.m__law_time (sa_cons (se_var 0) (sa_cons (se_var 2) sa_nil))) sa_nil))))) sb_nil)
    (sb_one (ss_ret (se_tup (sa_cons (se_var 4) (sa_cons (se_bin ops_add se_int (T.call D 24 T2.m__law_take (sa_cons (se_var 0) (sa_cons (se_var 1) sa_nil)))) (sa_cons (T.call D 26 T2.m__law_time (sa_cons (se_var 0) (sa_cons (se_var 2) sa_nil))) sa_nil))))))))
theorem w28 (T : TX P w K mg base cl fa fd ps nF k c) (T2 : LX K mg cl fa fd ga) : BodyOk P w K mg base cl k N28 "_law_tree" s28 (b__law_tree c) := by
  intro f cdv A outer sh0 H0 E0 hr hg
  have D := DF.of (P := P) (w := w) (K := K) (mg := mg) (base := base) (N := N28) (outer := outer) (H := H0) (E := E0) hr hg
  exact (sb_cons (ss_set 5 nd28 (T.call D 24 T2.m__law_take (sa_cons (se_var 0) (sa_cons se_int sa_nil))))
    (sb_cons (ss_if (sw_and (st_cmp ops_ge (se_var 1) se_int) (sw_and1 (st_cmp ops_lt (se_var 5) se_int))).st (sb_cons (ss_set 6 nd28 (se_bin ops_add se_int (T.call D 24 T2.m__law_take (sa_cons (se_var 0) (sa_cons (se_bin ops_sub (se_var 1) se_int) sa_nil)))))
    (sb_cons (ss_set 7 nd28 (T.call D 28 T2.m__law_tree (sa_cons (se_var 0) (sa_cons (se_var 6) (sa_cons (se_var 2) (sa_cons (se_var 3) (sa_cons (se_var 4) sa_nil)))))))
    (sb_cons (ss_set 8 nd28 (T.call D 28 T2.m__law_tree (sa_cons (se_var 0) (sa_cons (se_bin ops_sub (se_bin ops_sub (se_var 1) se_int) (se_var 6)) (sa_cons (se_var 2) (sa_cons (se_var 3) (sa_cons (se_var 4) sa_nil)))))))
    (sb_cons (ss_set 9 nd28 (se_ifE (sw_and (st_cmp (ops_in D.hu) se_str (se_var 4)) (sw_and1 (st_cmp ops_lt (se_var 5) se_int))).st se_str se_str))
    (sb_one (ss_ret (se_tup (sa_cons (se_var 9) (sa_cons (se_var 7) (sa_cons (se_var 8) sa_nil)))))))))) sb_nil)
    (sb_cons (ss_if (sw_and (st_cmp ops_ge (se_var 1) se_int) (sw_and1 (st_cmp ops_lt (se_var 5) se_int))).st (sb_cons (ss_set 10 nd28 (se_bin ops_add se_int (T.call D 24 T2.m__law_take (sa_cons (se_var 0) (sa_cons (se_var 2) sa_nil)))))
    (sb_one (ss_ret (se_tup (sa_cons se_str (sa_cons (se_var 10) (sa_cons (T.call D 28 T2.m__law_tree (sa_cons (se_var 0) (sa_cons (se_bin ops_sub (se_var 1) se_int) (sa_cons (se_var 2) (sa_cons (se_var 3) (sa_cons (se_var 4) sa_nil)))))) sa_nil))))))) sb_nil)
    (sb_one (ss_ret (T.call D 27 T2.m__law_leaf (sa_cons (se_var 0) (sa_cons (se_var 2) (sa_cons (se_var 3) (sa_cons (se_lc [("_law_sort", 11)] D.calm nd28 (si_seq (se_var 4)) (blk_ok (N0 := N28) (sc0 := defScope s28) rfl rfl (by decide +kernel)) (fun s H C l fp => (sg_name 11 nd28)) (fun s H C l fp => (sts_one (st_cmp (ops_ne (D.blk s H _ _ fp).hu) (se_var 11) se_str))) (fun s H C l fp => (se_var 11))) sa_nil))))))))))
theorem w29 (T : TX P w K mg base cl fa fd ps nF k c) (T2 : LX K mg cl fa fd ga) : BodyOk P w K mg base cl k N29 "_law_line" s29 (b__law_line c) := by
  intro f cdv A outer sh0 H0 E0 hr hg
  have D := DF.of (P := P) (w := w) (K := K) (mg := mg) (base := base) (N := N29) (outer := outer) (H := H0) (E := E0) hr hg
  exact (sb_cons (ss_if (st_cmp (ops_eq D.hu) (se_ix (se_var 0) se_int) se_str) (sb_one (ss_ret (se_static T2.s_Line_belt (T.cal D 15 (by decide)) T2.m_Line (sa_cons (se_ix (se_var 0) se_int) sa_nil)))) sb_nil)
    (sb_cons (ss_if (st_cmp (ops_eq D.hu) (se_ix (se_var 0) se_int) se_str) (sb_one (ss_ret (se_static T2.s_Line_gap (T.cal D 16 (by decide)) T2.m_Line (sa_cons (se_ix (se_var 0) se_int) (sa_cons (se_ix (se_var 0) se_int) sa_nil))))) sb_nil)
    (sb_cons (ss_if (st_cmp (ops_eq D.hu) (se_ix (se_var 0) se_int) se_str) (sb_one (ss_ret (se_static T2.s_Line_hold (T.cal D 17 (by decide)) T2.m_Line (sa_cons (se_ix (se_var 0) se_int) (sa_cons (se_ix (se_var 0) se_int) sa_nil))))) sb_nil)
    (sb_cons (ss_if (st_cmp (ops_eq D.hu) (se_ix (se_var 0) se_int) se_str) (sb_one (ss_ret (se_meth 1 T2.c_Line T2.t_Line_limited (T.cal D 18 (by decide)) (T.call D 29 T2.m__law_line (sa_cons (se_ix (se_var 0) se_int) sa_nil)) (sa_cons (se_ix (se_var 0) se_int) sa_nil)))) sb_nil)
    (sb_cons (ss_par 1 2 D.calm nd29 (sa_cons (T.call D 29 T2.m__law_line (sa_cons (se_ix (se_var 0) se_int) sa_nil)) (sa_cons (T.call D 29 T2.m__law_line (sa_cons (se_ix (se_var 0) se_int) sa_nil)) sa_nil)))
    (sb_one (ss_ret (se_ifE (st_cmp (ops_eq D.hu) (se_ix (se_var 0) se_int) se_str) (se_own 1 T2.o_Line___and__ (T.cal D 20 (by decide)) (se_var 1) (se_var 2)) (se_own 1 T2.o_Line___add__ (T.cal D 19 (by decide)) (se_var 1) (se_var 2))))))))))
theorem w30 (T : TX P w K mg base cl fa fd ps nF k c) (T2 : LX K mg cl fa fd ga) : BodyOk P w K mg base cl k N30 "_law_inner" s30 (b__law_inner c) := by
  intro f cdv A outer sh0 H0 E0 hr hg
  have D := DF.of (P := P) (w := w) (K := K) (mg := mg) (base := base) (N := N30) (outer := outer) (H := H0) (E := E0) hr hg
  exact (sb_cons (ss_if (st_cmp (ops_eq D.hu) (se_ix (se_var 0) se_int) se_str) (sb_one (ss_ret (se_lst (sa_cons (se_ix (se_var 0) se_int) sa_nil)))) sb_nil)
    (sb_one (ss_ret (se_ifE (st_cmp (ops_in D.hu) (se_ix (se_var 0) se_int) (se_tup (sa_cons se_str (sa_cons se_str sa_nil)))) (se_lst (sa_cons (se_ix (se_var 0) se_int) (sa_cons (se_ix (se_var 0) se_int) sa_nil))) (se_lst sa_nil)))))
theorem w31 (T : TX P w K mg base cl fa fd ps nF k c) (T2 : LX K mg cl fa fd ga) : BodyOk P w K mg base cl k N31 "_law_joined" s31 (b__law_joined c) := by
  intro f cdv A outer sh0 H0 E0 hr hg
  have D := DF.of (P := P) (w := w) (K := K) (mg := mg) (base := base) (N := N31) (outer := outer) (H := H0) (E := E0) hr hg
  exact (sb_one (ss_ret (se_tup (sa_cons (se_bin ops_add (se_ix (se_var 0) se_int) (se_ix (se_var 1) se_int)) (sa_cons (se_bin ops_add (se_ix (se_var 0) se_int) (se_ix (se_var 1) se_int)) (sa_cons (se_callT cs_tuple T2.z_tuple (by rfl) (sa_cons (se_sortN D.calm D.hu T2.z_sorted T2.z_set (se_bin ops_add (se_ix (se_var 0) se_int) (se_ix (se_var 1) se_int))) sa_nil)) sa_nil))))))
theorem w32 (T : TX P w K mg base cl fa fd ps nF k c) (T2 : LX K mg cl fa fd ga) : BodyOk P w K mg base cl k N32 "_law_section_terms" s32 (b__law_section_terms c) := by
  intro f cdv A outer sh0 H0 E0 hr hg
  have D := DF.of (P := P) (w := w) (K := K) (mg := mg) (base := base) (N := N32) (outer := outer) (H := H0) (E := E0) hr hg
  exact (sb_cons (ss_set 2 nd32 (se_lst sa_nil))
    (sb_cons (ss_for D.own D.calm (si_seq (se_var 0)) (sg_tup D.calm (sgs_cons (sg_name 3 nd32) (sgs_cons (sg_name 4 nd32) (sgs_cons (sg_name 5 nd32) sgs_nil)))) (sb_cons (ss_set 6 nd32 (se_ifE (st_cmp ops_gt (se_var 4) se_int) (se_tup (sa_cons (se_tup (sa_cons (se_bin ops_add (se_var 3) (se_var 1)) (sa_cons (se_var 4) sa_nil))) sa_nil)) (se_tup sa_nil)))
    (sb_cons (ss_set 7 nd32 (se_tup (sa_cons (se_var 3) (sa_cons (se_var 4) (sa_cons (se_callT cs_tuple T2.z_tuple (by rfl) (sa_cons (se_sortN D.calm D.hu T2.z_sorted T2.z_set (se_bin ops_add (se_var 5) (se_var 6))) sa_nil)) sa_nil)))))
    (sb_one (ss_set 2 nd32 (se_bin ops_add (se_bin ops_add (se_var 2) (se_lst (sa_cons (se_var 7) sa_nil))) (se_lc [("_law_term", 8)] D.calm nd32 (si_seq (se_var 2)) (blk_ok (N0 := N32) (sc0 := defScope s32) rfl rfl (by decide +kernel)) (fun s H C l fp => (sg_name 8 nd32)) (fun s H C l fp => sts_nil) (fun s H C l fp => (T.call (D.blk s H _ _ fp) 31 T2.m__law_joined (sa_cons (T.call (D.blk s H _ _ fp) 31 T2.m__law_joined (sa_cons (se_var 8) (sa_cons (se_var 7) sa_nil))) (sa_cons (se_tup (sa_cons (se_var 1) (sa_cons se_int (sa_cons (se_tup sa_nil) sa_nil)))) sa_nil)))))))))))
    (sb_one (ss_ret (se_var 2)))))
theorem w33 (T : TX P w K mg base cl fa fd ps nF k c) (T2 : LX K mg cl fa fd ga) : BodyOk P w K mg base cl k N33 "_law_terms" s33 (b__law_terms c) := by
  intro f cdv A outer sh0 H0 E0 hr hg
  have D := DF.of (P := P) (w := w) (K := K) (mg := mg) (base := base) (N := N33) (outer := outer) (H := H0) (E := E0) hr hg
  exact (sb_cons (ss_if (st_cmp (ops_eq D.hu) (se_ix (se_var 0) se_int) se_str) (sb_one (ss_ret (se_lst (sa_cons (se_tup (sa_cons se_int (sa_cons (se_ix (se_var 0) se_int) (sa_cons (se_tup sa_nil) sa_nil)))) sa_nil)))) sb_nil)
    (sb_cons (ss_if (st_cmp (ops_eq D.hu) (se_ix (se_var 0) se_int) se_str) (sb_one (ss_ret (se_lst (sa_cons (se_tup (sa_cons se_int (sa_cons se_int (sa_cons (se_ifE (st_cmp ops_gt (se_ix (se_var 0) se_int) se_int) (se_tup (sa_cons (se_tup (sa_cons (se_ix (se_var 0) se_int) (sa_cons (se_ix (se_var 0) se_int) sa_nil))) sa_nil)) (se_tup sa_nil)) sa_nil)))) sa_nil)))) sb_nil)
    (sb_cons (ss_if (st_cmp (ops_eq D.hu) (se_ix (se_var 0) se_int) se_str) (sb_one (ss_ret (se_sortN D.calm D.hu T2.z_sorted T2.z_set (se_lst (sa_cons (se_tup (sa_cons se_int (sa_cons se_int (sa_cons (se_tup sa_nil) sa_nil)))) (sa_cons (se_tup (sa_cons (se_ix (se_var 0) se_int) (sa_cons (se_ix (se_var 0) se_int) (sa_cons (se_tup sa_nil) sa_nil)))) sa_nil)))))) sb_nil)
    (sb_cons (ss_if (st_cmp (ops_eq D.hu) (se_ix (se_var 0) se_int) se_str) (sb_one (ss_ret (se_sortN D.calm D.hu T2.z_sorted T2.z_set (T.call D 32 T2.m__law_section_terms (sa_cons (T.call D 33 T2.m__law_terms (sa_cons (se_ix (se_var 0) se_int) sa_nil)) (sa_cons (se_ix (se_var 0) se_int) sa_nil)))))) sb_nil)
    (sb_cons (ss_par 1 2 D.calm nd33 (sa_cons (T.call D 33 T2.m__law_terms (sa_cons (se_ix (se_var 0) se_int) sa_nil)) (sa_cons (T.call D 33 T2.m__law_terms (sa_cons (se_ix (se_var 0) se_int) sa_nil)) sa_nil)))
    (sb_cons (ss_if (st_cmp (ops_eq D.hu) (se_ix (se_var 0) se_int) se_str) (sb_one (ss_ret (se_sortN D.calm D.hu T2.z_sorted T2.z_set (se_bin ops_add (se_var 1) (se_var 2))))) sb_nil)
    (sb_cons (ss_set 3 nd33 (se_lst sa_nil))
    (sb_cons (ss_for D.own D.calm (si_seq (se_var 1)) (sg_name 4 nd33) (sb_one (ss_set 3 nd33 (se_bin ops_add (se_var 3) (se_lc [("_law_later", 5)] D.calm nd33 (si_seq (se_var 2)) (blk_ok (N0 := N33) (sc0 := defScope s33) rfl rfl (by decide +kernel)) (fun s H C l fp => (sg_name 5 nd33)) (fun s H C l fp => sts_nil) (fun s H C l fp => (T.call (D.blk s H _ _ fp) 31 T2.m__law_joined (sa_cons (se_var 4) (sa_cons (se_var 5) sa_nil)))))))))
    (sb_one (ss_ret (se_sortN D.calm D.hu T2.z_sorted T2.z_set (se_var 3))))))))))))
theorem w34 (T : TX P w K mg base cl fa fd ps nF k c) (T2 : LX K mg cl fa fd ga) : BodyOk P w K mg base cl k N34 "_law_marks" s34 (b__law_marks c) := by
  intro f cdv A outer sh0 H0 E0 hr hg
  have D := DF.of (P := P) (w := w) (K := K) (mg := mg) (base := base) (N := N34) (outer := outer) (H := H0) (E := E0) hr hg
  exact (sb_cons (ss_set 1 nd34 (se_lst (sa_cons (se_isx [(k_TooMany, false)] (fa1 (a := (k_TooMany, false)) T2.xI_TooMany fa0) (fa1 (a := (k_TooMany, false)) T2.xk_TooMany_BadTime fa0) T2.z_isinstance T2.m_BadTime (se_var 0)) (sa_cons (se_isx [(k_TooMany, false)] (fa1 (a := (k_TooMany, false)) T2.xI_TooMany fa0) (fa1 (a := (k_TooMany, false)) T2.xk_TooMany_BadCount fa0) T2.z_isinstance T2.m_BadCount (se_var 0)) (sa_cons (se_isx [(k_TooMany, false)] (fa1 (a := (k_TooMany, false)) T2.xI_TooMany fa0) (fa1 (a := (k_TooMany, false)) T2.xk_TooMany_BadMoments fa0) T2.z_isinstance T2.m_BadMoments (se_var 0)) sa_nil)))))
    (sb_cons (ss_set 1 nd34 (se_bin ops_add (se_var 1) (se_lst (sa_cons (se_isx [(k_TooMany, false)] (fa1 (a := (k_TooMany, false)) T2.xI_TooMany fa0) (fa1 (a := (k_TooMany, false)) T2.xk_TooMany_BadNumber fa0) T2.z_isinstance T2.m_BadNumber (se_var 0)) (sa_cons (se_isx [(k_TooMany, false)] (fa1 (a := (k_TooMany, false)) T2.xI_TooMany fa0) (fa1 (a := (k_TooMany, false)) T2.xk_TooMany_BadPath fa0) T2.z_isinstance T2.m_BadPath (se_var 0)) (sa_cons (se_isx [(k_TooMany, true)] (fa1 (a := (k_TooMany, true)) T2.xI_TooMany fa0) (fa1 (a := (k_TooMany, true)) T2.xk_TooMany_TooMany fa0) T2.z_isinstance T2.m_TooMany (se_var 0)) sa_nil))))))
    (sb_cons (ss_set 1 nd34 (se_bin ops_add (se_var 1) (se_lst (sa_cons (se_isx [(k_TooMany, false)] (fa1 (a := (k_TooMany, false)) T2.xI_TooMany fa0) (fa1 (a := (k_TooMany, false)) T2.xk_TooMany_BadRule fa0) T2.z_isinstance T2.m_BadRule (se_var 0)) (sa_cons (se_isx [(k_TooMany, false)] (fa1 (a := (k_TooMany, false)) T2.xI_TooMany fa0) (fa1 (a := (k_TooMany, false)) T2.xk_TooMany_BadSight fa0) T2.z_isinstance T2.m_BadSight (se_var 0)) (sa_cons (se_isx [(k_TooMany, false)] (fa1 (a := (k_TooMany, false)) T2.xI_TooMany fa0) (fa1 (a := (k_TooMany, false)) T2.xk_TooMany_TooLate fa0) T2.z_isinstance T2.m_TooLate (se_var 0)) sa_nil))))))
    (sb_cons (ss_set 1 nd34 (se_bin ops_add (se_var 1) (se_lst (sa_cons (se_isx [(k_TooMany, false)] (fa1 (a := (k_TooMany, false)) T2.xI_TooMany fa0) (fa1 (a := (k_TooMany, false)) T2.xk_TooMany_Branched fa0) T2.z_isinstance T2.m_Branched (se_var 0)) (sa_cons (se_isx [(k_TooMany, false)] (fa1 (a := (k_TooMany, false)) T2.xI_TooMany fa0) (fa1 (a := (k_TooMany, false)) T2.xk_TooMany_Differs fa0) T2.z_isinstance T2.m_Differs (se_var 0)) (sa_cons (se_isx [(k_TooMany, false)] (fa1 (a := (k_TooMany, false)) T2.xI_TooMany fa0) (fa1 (a := (k_TooMany, false)) T2.xk_TooMany_BadMoment fa0) T2.z_isinstance T2.m_BadMoment (se_var 0)) sa_nil))))))
    (sb_one (ss_ret (se_bin ops_add (se_var 1) (se_lst (sa_cons (se_isx [(k_TooMany, false)] (fa1 (a := (k_TooMany, false)) T2.xI_TooMany fa0) (fa1 (a := (k_TooMany, false)) T2.xk_TooMany_NothingLeft fa0) T2.z_isinstance T2.m_NothingLeft (se_var 0)) (sa_cons (se_isx [(k_TooMany, false)] (fa1 (a := (k_TooMany, false)) T2.xI_TooMany fa0) (fa1 (a := (k_TooMany, false)) T2.xk_TooMany_BadLog fa0) T2.z_isinstance T2.m_BadLog (se_var 0)) (sa_cons (se_isx [(k_TooMany, false)] (fa1 (a := (k_TooMany, false)) T2.xI_TooMany fa0) (fa1 (a := (k_TooMany, false)) T2.xk_TooMany_BadText fa0) T2.z_isinstance T2.m_BadText (se_var 0)) sa_nil)))))))))))
theorem w35 (T : TX P w K mg base cl fa fd ps nF k c) (T2 : LX K mg cl fa fd ga) : BodyOk P w K mg base cl k N35 "_law_kept" s35 (b__law_kept c) := by
  intro f cdv A outer sh0 H0 E0 hr hg
  have D := DF.of (P := P) (w := w) (K := K) (mg := mg) (base := base) (N := N35) (outer := outer) (H := H0) (E := E0) hr hg
  exact (sb_cons (ss_if (st_cmp (ops_eq D.hu) (se_var 1) se_int) (sb_one (ss_ret (se_xat [] fa0 fa0 (se_var 0)))) sb_nil)
    (sb_cons (ss_if (st_cmp (ops_eq D.hu) (se_var 1) se_int) (sb_one (ss_ret (se_xat [] fa0 fa0 (se_var 0)))) sb_nil)
    (sb_cons (ss_if (st_cmp (ops_eq D.hu) (se_var 1) se_int) (sb_one (ss_ret (se_xat [] fa0 fa0 (se_var 0)))) sb_nil)
    (sb_cons (ss_if (st_cmp (ops_eq D.hu) (se_var 1) se_int) (sb_one (ss_ret (se_xat [] fa0 fa0 (se_var 0)))) sb_nil)
    (sb_one (ss_ret (se_ifE (st_cmp (ops_eq D.hu) (se_var 1) se_int) (se_xat [] fa0 fa0 (se_var 0)) (se_xat [k_TooMany] (fa1 T2.xI_TooMany fa0) (fa1 T2.xn_TooMany fa0) (se_var 0)))))))))
theorem w36 (T : TX P w K mg base cl fa fd ps nF k c) (T2 : LX K mg cl fa fd ga) : BodyOk P w K mg base cl k N36 "_law_terms_or_none" s36 (b__law_terms_or_none c) := by
  intro f cdv A outer sh0 H0 E0 hr hg
  have D := DF.of (P := P) (w := w) (K := K) (mg := mg) (base := base) (N := N36) (outer := outer) (H := H0) (E := E0) hr hg
  exact (sb_cons (ss_setLc 1 [("_law_one", 4)] D.calm nd36 (si_seq (T.call D 30 T2.m__law_inner (sa_cons (se_var 0) sa_nil))) (blk_ok (N0 := N36) (sc0 := defScope s36) rfl rfl (by decide +kernel)) (fun s H C l fp => (sg_name 4 nd36)) (fun s H C l fp => sts_nil) (fun s H C l fp => (T.call (D.blk s H _ _ fp) 36 T2.m__law_terms_or_none (sa_cons (se_var 4) sa_nil))))
    (sb_cons (ss_if (st_cmp (ops_in D.hu) se_non (se_var 1)) (sb_one (ss_ret se_non)) sb_nil)
    (sb_cons (ss_if (st_cmp (ops_eq D.hu) (se_var 1) (se_lst sa_nil)) (sb_one (ss_ret (T.call D 33 T2.m__law_terms (sa_cons (se_var 0) sa_nil)))) sb_nil)
    (sb_cons (ss_if (st_cmp (ops_eq D.hu) (se_ix (se_var 0) se_int) se_str) (sb_one (ss_set 2 nd36 (se_ifE (st_cmp ops_le (se_callB cs_len T2.z_len (by rfl) (sa_cons (se_ix (se_var 1) se_int) sa_nil)) se_int) (T.call D 32 T2.m__law_section_terms (sa_cons (se_ix (se_var 1) se_int) (sa_cons (se_ix (se_var 0) se_int) sa_nil))) se_non))) (sb_one (ss_if (st_cmp (ops_eq D.hu) (se_ix (se_var 0) se_int) se_str) (sb_one (ss_set 2 nd36 (se_bin ops_add (se_ix (se_var 1) se_int) (se_ix (se_var 1) se_int)))) (sb_cons (ss_set 2 nd36 (se_lst sa_nil))
    (sb_one (ss_for D.own D.calm (si_seq (se_ix (se_var 1) se_int)) (sg_name 3 nd36) (sb_one (ss_set 2 nd36 (se_bin ops_add (se_var 2) (se_lc [("_law_later", 5)] D.calm nd36 (si_seq (se_ix (se_var 1) se_int)) (blk_ok (N0 := N36) (sc0 := defScope s36) rfl rfl (by decide +kernel)) (fun s H C l fp => (sg_name 5 nd36)) (fun s H C l fp => sts_nil) (fun s H C l fp => (T.call (D.blk s H _ _ fp) 31 T2.m__law_joined (sa_cons (se_var 3) (sa_cons (se_var 5) sa_nil))))))))))))))
    (sb_cons (ss_set 2 nd36 (se_ifE (st_cmp ops_isN (se_var 2) se_non) se_non (se_sortN D.calm D.hu T2.z_sorted T2.z_set (se_var 2))))
    (sb_one (ss_ret (se_ifE (sw_and (st_cmp ops_notN (se_var 2) se_non) (sw_and1 (st_cmp ops_le (se_callB cs_len T2.z_len (by rfl) (sa_cons (se_var 2) sa_nil)) se_int))).st (se_var 2) se_non))))))))
theorem w37 {c1 Pt : Addr} (T : TX P w K mg base cl fa fd ps nF k c) (TL : TXL P w K mg base cl fa fd ps nF ga gd qs nL k cL) (T2 : LX K mg cl fa fd ga) (TB37 : LamX.TabB base mg c1 Pt) (hT37 : (Pt, lamN "law") ∈ cl.tb) (hu37 : ∀ p ∈ cl.tb, p.1 = Pt → p.2 = lamN "law") : BodyT P w K mg base cl k N37 "law" s37 c1 (b_law c cL) := by
  intro f A outer sh0 H0 E0 hr hg
  have D := DF.of (P := P) (w := w) (K := K) (mg := mg) (base := base) (N := N37) (outer := outer) (H := H0) (E := E0) (cdv := .ref c1) hr hg
  exact (sb_cons (ss_set 1 nd37 (T.call D 22 T2.m__law_begun (sa_cons (se_var 0) sa_nil)))
    (sb_cons (ss_for D.own D.calm (si_range1 T2.z_range (sa_cons (se_bin ops_add se_int (se_callB (cs_min D.calm) T2.z_min (by rfl) (sa_cons (se_callB cs_len T2.z_len (by rfl) (sa_cons (se_var 0) sa_nil)) (sa_cons se_int sa_nil)))) sa_nil)) (sg_name 2 nd37) (sb_cons (ss_par 3 4 D.calm nd37 (sa_cons (T.call D 25 T2.m__law_pick (sa_cons (se_var 1) (sa_cons (se_lst (sa_cons se_int (sa_cons se_int (sa_cons se_int sa_nil)))) sa_nil))) (sa_cons (T.call D 25 T2.m__law_pick (sa_cons (se_var 1) (sa_cons (se_lst (sa_cons se_str (sa_cons se_str sa_nil))) sa_nil))) sa_nil)))
    (sb_cons (ss_set 5 nd37 (T.call D 25 T2.m__law_pick (sa_cons (se_var 1) (sa_cons (se_lst (sa_cons (se_lst (sa_cons se_str (sa_cons se_str (sa_cons se_str (sa_cons se_str sa_nil))))) (sa_cons (se_lst (sa_cons se_str (sa_cons se_str (sa_cons se_str (sa_cons se_str sa_nil))))) sa_nil))) sa_nil))))
    (sb_cons (ss_set 6 nd37 (T.call D 28 T2.m__law_tree (sa_cons (se_var 1) (sa_cons (T.call D 25 T2.m__law_pick (sa_cons (se_var 1) (sa_cons (se_lst (sa_cons se_int (sa_cons se_int (sa_cons se_int (sa_cons se_int (sa_cons se_int sa_nil)))))) sa_nil))) (sa_cons (se_var 3) (sa_cons (se_var 4) (sa_cons (se_var 5) sa_nil)))))))
    (sb_cons (ss_asg (se_tup (sa_cons (T.call D 29 T2.m__law_line (sa_cons (se_var 6) sa_nil)) (sa_cons (T.call D 36 T2.m__law_terms_or_none (sa_cons (se_var 6) sa_nil)) sa_nil))) (sg_tup D.calm (sgs_cons (sg_name 7 nd37) (sgs_cons (sg_name 8 nd37) sgs_nil))))
    (sb_one (ss_if (st_cmp ops_isN (se_var 8) se_non) (sb_one (ss_if (st_not (st_val (TL.lam D [7] 3 10 2 (by decide) rfl rfl T2.m__law_is (sa_cons se_str (sa_cons se_int sa_nil)) TB37 rfl hT37 hu37 (LamX.lamS_by (sc := defScope s37) (by decide +kernel)) (fun k9 c9 (T9 : TX P w K mg base cl fa fd ps nF k9 c9) A9 outer9 s9 H9 E9 g9 e9 D9 rg9 => (T9.call D9 7 T2.m_terms (sa_cons (se_var 7) sa_nil)))))) (sb_one (ss_ret se_bl)) sb_nil)) (sb_cons (ss_set 9 nd37 (T.call D 7 T2.m_terms (sa_cons (se_var 7) sa_nil)))
    (sb_cons (ss_if (st_cmp (ops_ne D.hu) (se_callB (cs_reprX D.hu D.gd) T2.z_repr (by rfl) (sa_cons (se_var 9) sa_nil)) (se_callB (cs_reprX D.hu D.gd) T2.z_repr (by rfl) (sa_cons (se_var 8) sa_nil))) (sb_one (ss_ret se_bl)) sb_nil)
    (sb_cons (ss_expr (se_bml ms_append (se_var 9) (sa_cons se_str sa_nil) F.slot_list_append (by rfl)))
    (sb_one (ss_if (st_cmp (ops_ne D.hu) (T.callK D 7 ["line"] [0] T2.m_terms T2.kw_terms_line (sk_cons (se_var 7) sk_nil)) (se_var 8)) (sb_one (ss_ret se_bl)) sb_nil))))))))))))
    (sb_one (ss_ret se_bl))))
theorem wL0 (T : TX P w K mg base cl fa fd ps nF k c) (T9 : TX P w K mg base cl fa fd ps nF k9 c9) (hk9 : k9 + 2 ≤ k + 1) (TL : TXL P w K mg base cl fa fd ps nF ga gd qs nL k cL) (T2 : LX K mg cl fa fd ga) : BodyL P w K mg base cl fa fd ps nF k NL0 "_law_caught" sL0 (b__law_caught c c9 cL) := by
  intro g cdv A outer s0 H0 E0 f0 c0 q0 caps0 L0 hr hg act
  have D := DF.of (P := P) (w := w) (K := K) (mg := mg) (base := base) (N := NL0) (outer := outer) (H := H0) (E := E0) hr hg
  exact (sb_cons (ss_set 1 ndL0 se_non)
    (sb_cons (ss_tryK [k_TooMany] 2 1 ndL0 D (fa1 T2.xm_TooMany_LineError fa0) ⟨rfl, by decide +kernel, .inl T2.m_LineError⟩ (fun V9 pn9 xe9 tk9 ow9 => (sb_one (ss_expr (se_act 0 (D.tr tk9 ow9) act T9 hk9)))))
    (sb_one (ss_ret (se_var 1)))))
theorem wL1 (T : TX P w K mg base cl fa fd ps nF k c) (T9 : TX P w K mg base cl fa fd ps nF k9 c9) (hk9 : k9 + 2 ≤ k + 1) (TL : TXL P w K mg base cl fa fd ps nF ga gd qs nL k cL) (T2 : LX K mg cl fa fd ga) : BodyL P w K mg base cl fa fd ps nF k NL1 "_law_refusal" sL1 (b__law_refusal c c9 cL) := by
  intro g cdv A outer s0 H0 E0 f0 c0 q0 caps0 L0 hr hg act
  have D := DF.of (P := P) (w := w) (K := K) (mg := mg) (base := base) (N := NL1) (outer := outer) (H := H0) (E := E0) hr hg
  exact (sb_cons (ss_set 1 ndL1 (TL.callL D act 0 1 (by decide) rfl T2.m__law_caught (sa_cons (se_var 0) sa_nil)))
    (sb_cons (ss_if (st_cmp ops_isN (se_var 1) se_non) (sb_one (ss_ret (se_tup (sa_cons se_str (sa_cons se_non sa_nil))))) sb_nil)
    (sb_cons (ss_par 2 3 D.calm ndL1 (sa_cons (se_lst (sa_cons se_str (sa_cons se_str (sa_cons se_str (sa_cons se_str (sa_cons se_str (sa_cons se_str sa_nil))))))) (sa_cons (T.call D 34 T2.m__law_marks (sa_cons (se_var 1) sa_nil)) sa_nil)))
    (sb_cons (ss_if (sw_or (st_cmp (ops_ne D.hu) (se_bml (ms_count D.hu) (se_var 3) (sa_cons se_bl sa_nil) F.slot_list_count (by rfl)) se_int) (sw_or (st_cmp (ops_notIn D.hu) se_bl (se_slice (se_var 3) so_none (so_some se_int))) (sw_or1 (st_not (st_val (se_isxB (T := "ValueError") [(k_TooMany, true)] (fa1 (a := (k_TooMany, true)) T2.xI_TooMany fa0) (fa1 (a := (k_TooMany, true)) T2.xv_TooMany_ValueError fa0) T2.z_isinstance T2.z_ValueError (by rfl) (se_var 1))))))).st (sb_one (ss_ret (se_tup (sa_cons se_str (sa_cons se_non sa_nil))))) sb_nil)
    (sb_cons (ss_set 4 ndL1 (se_bml ms_indexB (se_var 3) (sa_cons se_bl sa_nil) F.slot_list_index (by rfl)))
    (sb_one (ss_ret (se_tup (sa_cons (se_ix (se_var 2) (se_var 4)) (sa_cons (T.call D 35 T2.m__law_kept (sa_cons (se_var 1) (sa_cons (se_var 4) sa_nil))) sa_nil))))))))))
theorem wL2 (T : TX P w K mg base cl fa fd ps nF k c) (T9 : TX P w K mg base cl fa fd ps nF k9 c9) (hk9 : k9 + 2 ≤ k + 1) (TL : TXL P w K mg base cl fa fd ps nF ga gd qs nL k cL) (T2 : LX K mg cl fa fd ga) : BodyL P w K mg base cl fa fd ps nF k NL2 "_law_is" sL2 (b__law_is c c9 cL) := by
  intro g cdv A outer s0 H0 E0 f0 c0 q0 caps0 L0 hr hg act
  have D := DF.of (P := P) (w := w) (K := K) (mg := mg) (base := base) (N := NL2) (outer := outer) (H := H0) (E := E0) hr hg
  exact (sb_one (ss_ret (se_cmp (ops_eq D.hu) (se_callB (cs_reprX D.hu D.gd) T2.z_repr (by rfl) (sa_cons (TL.callL D act 1 1 (by decide) rfl T2.m__law_refusal (sa_cons (se_var 0) sa_nil)) sa_nil)) (se_callB (cs_reprX D.hu D.gd) T2.z_repr (by rfl) (sa_cons (se_tup (sa_cons (se_var 1) (sa_cons (se_var 2) sa_nil))) sa_nil)))))
end
section
variable {P : Program} {w : World} {K : PySem.W.Frag} {mg : Str → Option Value} {base : Heap} {cl : ClsT} {fa : Nat → Addr} {fd : Nat → FuncData} {ga : Nat → Addr} {gd : Nat → FuncData}
/-- the defs as they stand -/
structure FX (K : PySem.W.Frag) (fa : Nat → Addr) (fd : Nat → FuncData) (ga : Nat → Addr) (gd : Nat → FuncData) : Prop where
  f0 : Fun K "is_number" "is_number" s0 (fa 0) (fd 0)
  f1 : Fun K "sorted_pairs" "sorted_pairs" s1 (fa 1) (fd 1)
  f2 : Fun K "joined" "joined" s2 (fa 2) (fd 2)
  f3 : Fun K "listed" "listed" s3 (fa 3) (fd 3)
  f4 : Fun K "repeated" "repeated" s4 (fa 4) (fd 4)
  f5 : Fun K "section_terms" "section_terms" s5 (fa 5) (fd 5)
  f6 : Fun K "terms_of" "terms_of" s6 (fa 6) (fd 6)
  f7 : Fun K "terms" "terms" s7 (fa 7) (fd 7)
  f8 : Fun K "inner_parts" "inner_parts" s8 (fa 8) (fd 8)
  f9 : Fun K "is_time" "is_time" s9 (fa 9) (fd 9)
  f10 : Fun K "is_count" "is_count" s10 (fa 10) (fd 10)
  f11 : Fun K "need_count" "need_count" s11 (fa 11) (fd 11)
  f12 : Fun K "need_time" "need_time" s12 (fa 12) (fd 12)
  f13 : Fun K "paths_of" "paths_of" s13 (fa 13) (fd 13)
  f14 : Fun K "__init__" "Line.__init__" s14 (fa 14) (fd 14)
  f15 : Fun K "belt" "Line.belt" s15 (fa 15) (fd 15)
  f16 : Fun K "gap" "Line.gap" s16 (fa 16) (fd 16)
  f17 : Fun K "hold" "Line.hold" s17 (fa 17) (fd 17)
  f18 : Fun K "limited" "Line.limited" s18 (fa 18) (fd 18)
  f19 : Fun K "__add__" "Line.__add__" s19 (fa 19) (fd 19)
  f20 : Fun K "__and__" "Line.__and__" s20 (fa 20) (fd 20)
  f21 : Fun K "parts" "Line.parts" s21 (fa 21) (fd 21)
  f22 : Fun K "_law_begun" "_law_begun" s22 (fa 22) (fd 22)
  f23 : Fun K "_law_mixed" "_law_mixed" s23 (fa 23) (fd 23)
  f24 : Fun K "_law_take" "_law_take" s24 (fa 24) (fd 24)
  f25 : Fun K "_law_pick" "_law_pick" s25 (fa 25) (fd 25)
  f26 : Fun K "_law_time" "_law_time" s26 (fa 26) (fd 26)
  f27 : Fun K "_law_leaf" "_law_leaf" s27 (fa 27) (fd 27)
  f28 : Fun K "_law_tree" "_law_tree" s28 (fa 28) (fd 28)
  f29 : Fun K "_law_line" "_law_line" s29 (fa 29) (fd 29)
  f30 : Fun K "_law_inner" "_law_inner" s30 (fa 30) (fd 30)
  f31 : Fun K "_law_joined" "_law_joined" s31 (fa 31) (fd 31)
  f32 : Fun K "_law_section_terms" "_law_section_terms" s32 (fa 32) (fd 32)
  f33 : Fun K "_law_terms" "_law_terms" s33 (fa 33) (fd 33)
  f34 : Fun K "_law_marks" "_law_marks" s34 (fa 34) (fd 34)
  f35 : Fun K "_law_kept" "_law_kept" s35 (fa 35) (fd 35)
  f36 : Fun K "_law_terms_or_none" "_law_terms_or_none" s36 (fa 36) (fd 36)
  f37 : Fun K "law" "law" s37 (fa 37) (fd 37)
  b0 : L2.Binds K (fd 0) p0 []
  b1 : L2.Binds K (fd 1) p1 []
  b2 : L2.Binds K (fd 2) p2 []
  b3 : L2.Binds K (fd 3) p3 []
  b4 : L2.Binds K (fd 4) p4 []
  b5 : L2.Binds K (fd 5) p5 []
  b6 : L2.Binds K (fd 6) p6 []
  b7 : L2.Binds K (fd 7) p7 []
  b8 : L2.Binds K (fd 8) p8 []
  b9 : L2.Binds K (fd 9) p9 []
  b10 : L2.Binds K (fd 10) p10 []
  b11 : L2.Binds K (fd 11) p11 []
  b12 : L2.Binds K (fd 12) p12 []
  b13 : L2.Binds K (fd 13) p13 []
  b14 : L2.Binds K (fd 14) p14 []
  b15 : L2.Binds K (fd 15) p15 []
  b16 : L2.Binds K (fd 16) p16 []
  b17 : L2.Binds K (fd 17) p17 []
  b18 : L2.Binds K (fd 18) p18 []
  b19 : L2.Binds K (fd 19) p19 []
  b20 : L2.Binds K (fd 20) p20 []
  b21 : L2.Binds K (fd 21) p21 []
  b22 : L2.Binds K (fd 22) p22 []
  b23 : L2.Binds K (fd 23) p23 []
  b24 : L2.Binds K (fd 24) p24 []
  b25 : L2.Binds K (fd 25) p25 []
  b26 : L2.Binds K (fd 26) p26 []
  b27 : L2.Binds K (fd 27) p27 []
  b28 : L2.Binds K (fd 28) p28 []
  b29 : L2.Binds K (fd 29) p29 []
  b30 : L2.Binds K (fd 30) p30 []
  b31 : L2.Binds K (fd 31) p31 []
  b32 : L2.Binds K (fd 32) p32 []
  b33 : L2.Binds K (fd 33) p33 []
  b34 : L2.Binds K (fd 34) p34 []
  b35 : L2.Binds K (fd 35) p35 []
  b36 : L2.Binds K (fd 36) p36 []
  b37 : L2.Binds K (fd 37) p37 []
  k0 : PySem.W.keepIn K (.ref (fa 0)) = true
  k1 : PySem.W.keepIn K (.ref (fa 1)) = true
  k2 : PySem.W.keepIn K (.ref (fa 2)) = true
  k3 : PySem.W.keepIn K (.ref (fa 3)) = true
  k4 : PySem.W.keepIn K (.ref (fa 4)) = true
  k5 : PySem.W.keepIn K (.ref (fa 5)) = true
  k6 : PySem.W.keepIn K (.ref (fa 6)) = true
  k7 : PySem.W.keepIn K (.ref (fa 7)) = true
  k8 : PySem.W.keepIn K (.ref (fa 8)) = true
  k9 : PySem.W.keepIn K (.ref (fa 9)) = true
  k10 : PySem.W.keepIn K (.ref (fa 10)) = true
  k11 : PySem.W.keepIn K (.ref (fa 11)) = true
  k12 : PySem.W.keepIn K (.ref (fa 12)) = true
  k13 : PySem.W.keepIn K (.ref (fa 13)) = true
  k14 : PySem.W.keepIn K (.ref (fa 14)) = true
  k15 : PySem.W.keepIn K (.ref (fa 15)) = true
  k16 : PySem.W.keepIn K (.ref (fa 16)) = true
  k17 : PySem.W.keepIn K (.ref (fa 17)) = true
  k18 : PySem.W.keepIn K (.ref (fa 18)) = true
  k19 : PySem.W.keepIn K (.ref (fa 19)) = true
  k20 : PySem.W.keepIn K (.ref (fa 20)) = true
  k21 : PySem.W.keepIn K (.ref (fa 21)) = true
  k22 : PySem.W.keepIn K (.ref (fa 22)) = true
  k23 : PySem.W.keepIn K (.ref (fa 23)) = true
  k24 : PySem.W.keepIn K (.ref (fa 24)) = true
  k25 : PySem.W.keepIn K (.ref (fa 25)) = true
  k26 : PySem.W.keepIn K (.ref (fa 26)) = true
  k27 : PySem.W.keepIn K (.ref (fa 27)) = true
  k28 : PySem.W.keepIn K (.ref (fa 28)) = true
  k29 : PySem.W.keepIn K (.ref (fa 29)) = true
  k30 : PySem.W.keepIn K (.ref (fa 30)) = true
  k31 : PySem.W.keepIn K (.ref (fa 31)) = true
  k32 : PySem.W.keepIn K (.ref (fa 32)) = true
  k33 : PySem.W.keepIn K (.ref (fa 33)) = true
  k34 : PySem.W.keepIn K (.ref (fa 34)) = true
  k35 : PySem.W.keepIn K (.ref (fa 35)) = true
  k36 : PySem.W.keepIn K (.ref (fa 36)) = true
  k37 : PySem.W.keepIn K (.ref (fa 37)) = true
  fL0 : Fun K "_law_caught" "_law_caught" sL0 (ga 0) (gd 0)
  fL1 : Fun K "_law_refusal" "_law_refusal" sL1 (ga 1) (gd 1)
  fL2 : Fun K "_law_is" "_law_is" sL2 (ga 2) (gd 2)
  bL0 : L2.Binds K (gd 0) pL0 []
  bL1 : L2.Binds K (gd 1) pL1 []
  bL2 : L2.Binds K (gd 2) pL2 []
  kL0 : PySem.W.keepIn K (.ref (ga 0)) = true
  kL1 : PySem.W.keepIn K (.ref (ga 1)) = true
  kL2 : PySem.W.keepIn K (.ref (ga 2)) = true
theorem arity : ∀ n i ds st, ds.length ≠ (ps i).length → sem n i ds st = .no
  | 0, _, _, _, _ => rfl
  | _ + 1, 0, _, _, h => arF_ne h
  | _ + 1, 1, _, _, h => arF_ne h
  | _ + 1, 2, _, _, h => arF_ne h
  | _ + 1, 3, _, _, h => arF_ne h
  | _ + 1, 4, _, _, h => arF_ne h
  | _ + 1, 5, _, _, h => arF_ne h
  | _ + 1, 6, _, _, h => arF_ne h
  | _ + 1, 7, _, _, h => arF_ne h
  | _ + 1, 8, _, _, h => arF_ne h
  | _ + 1, 9, _, _, h => arF_ne h
  | _ + 1, 10, _, _, h => arF_ne h
  | _ + 1, 11, _, _, h => arF_ne h
  | _ + 1, 12, _, _, h => arF_ne h
  | _ + 1, 13, _, _, h => arF_ne h
  | _ + 1, 14, _, _, h => arF_ne h
  | _ + 1, 15, _, _, h => arF_ne h
  | _ + 1, 16, _, _, h => arF_ne h
  | _ + 1, 17, _, _, h => arF_ne h
  | _ + 1, 18, _, _, h => arF_ne h
  | _ + 1, 19, _, _, h => arF_ne h
  | _ + 1, 20, _, _, h => arF_ne h
  | _ + 1, 21, _, _, h => arF_ne h
  | _ + 1, 22, _, _, h => arF_ne h
  | _ + 1, 23, _, _, h => arF_ne h
  | _ + 1, 24, _, _, h => arF_ne h
  | _ + 1, 25, _, _, h => arF_ne h
  | _ + 1, 26, _, _, h => arF_ne h
  | _ + 1, 27, _, _, h => arF_ne h
  | _ + 1, 28, _, _, h => arF_ne h
  | _ + 1, 29, _, _, h => arF_ne h
  | _ + 1, 30, _, _, h => arF_ne h
  | _ + 1, 31, _, _, h => arF_ne h
  | _ + 1, 32, _, _, h => arF_ne h
  | _ + 1, 33, _, _, h => arF_ne h
  | _ + 1, 34, _, _, h => arF_ne h
  | _ + 1, 35, _, _, h => arF_ne h
  | _ + 1, 36, _, _, h => arF_ne h
  | _ + 1, 37, _, _, h => arF_ne h
  | _ + 1, _ + 38, _, _, _ => rfl
theorem tx_of (F : FX K fa fd ga gd) {n : Nat} (h : ∀ i, i < nF → FnG P w K mg base (2 * n + 2) (fa i) (fd i) (ps i) (spF ⟨K, cl⟩ (ps i).length (sem n i))) : TX P w K mg base cl fa fd ps nF (2 * n + 2) (sem n) :=
  ⟨h, arity n, fun i hi => match i, hi with
    | 0, _ => F.b0
    | 1, _ => F.b1
    | 2, _ => F.b2
    | 3, _ => F.b3
    | 4, _ => F.b4
    | 5, _ => F.b5
    | 6, _ => F.b6
    | 7, _ => F.b7
    | 8, _ => F.b8
    | 9, _ => F.b9
    | 10, _ => F.b10
    | 11, _ => F.b11
    | 12, _ => F.b12
    | 13, _ => F.b13
    | 14, _ => F.b14
    | 15, _ => F.b15
    | 16, _ => F.b16
    | 17, _ => F.b17
    | 18, _ => F.b18
    | 19, _ => F.b19
    | 20, _ => F.b20
    | 21, _ => F.b21
    | 22, _ => F.b22
    | 23, _ => F.b23
    | 24, _ => F.b24
    | 25, _ => F.b25
    | 26, _ => F.b26
    | 27, _ => F.b27
    | 28, _ => F.b28
    | 29, _ => F.b29
    | 30, _ => F.b30
    | 31, _ => F.b31
    | 32, _ => F.b32
    | 33, _ => F.b33
    | 34, _ => F.b34
    | 35, _ => F.b35
    | 36, _ => F.b36
    | 37, _ => F.b37
    | _ + 38, h => absurd (show _ < 38 from h) (by omega), fun i hi => match i, hi with
    | 0, _ => F.k0
    | 1, _ => F.k1
    | 2, _ => F.k2
    | 3, _ => F.k3
    | 4, _ => F.k4
    | 5, _ => F.k5
    | 6, _ => F.k6
    | 7, _ => F.k7
    | 8, _ => F.k8
    | 9, _ => F.k9
    | 10, _ => F.k10
    | 11, _ => F.k11
    | 12, _ => F.k12
    | 13, _ => F.k13
    | 14, _ => F.k14
    | 15, _ => F.k15
    | 16, _ => F.k16
    | 17, _ => F.k17
    | 18, _ => F.k18
    | 19, _ => F.k19
    | 20, _ => F.k20
    | 21, _ => F.k21
    | 22, _ => F.k22
    | 23, _ => F.k23
    | 24, _ => F.k24
    | 25, _ => F.k25
    | 26, _ => F.k26
    | 27, _ => F.k27
    | 28, _ => F.k28
    | 29, _ => F.k29
    | 30, _ => F.k30
    | 31, _ => F.k31
    | 32, _ => F.k32
    | 33, _ => F.k33
    | 34, _ => F.k34
    | 35, _ => F.k35
    | 36, _ => F.k36
    | 37, _ => F.k37
    | _ + 38, h => absurd (show _ < 38 from h) (by omega)⟩
theorem tl_of (F : FX K fa fd ga gd) {n : Nat} (h : ∀ i, i < nL → FnL P w K mg base cl fa fd ps nF (2 * n + 2) (ga i) (gd i) (qs i) (qs i).length (semL n i)) : TXL P w K mg base cl fa fd ps nF ga gd qs nL (2 * n + 2) (semL n) :=
  ⟨h, fun i hi => match i, hi with
    | 0, _ => F.bL0
    | 1, _ => F.bL1
    | 2, _ => F.bL2
    | _ + 3, h => absurd (show _ < 3 from h) (by omega), fun i hi => match i, hi with
    | 0, _ => F.kL0
    | 1, _ => F.kL1
    | 2, _ => F.kL2
    | _ + 3, h => absurd (show _ < 3 from h) (by omega)⟩
theorem fn_all (F : FX K fa fd ga gd) (T2 : LX K mg cl fa fd ga) {c1_37 Pt_37 : Addr} (TB37 : LamX.TabB base mg c1_37 Pt_37) (hT37 : (Pt_37, lamN "law") ∈ cl.tb) (hu37 : ∀ p ∈ cl.tb, p.1 = Pt_37 → p.2 = lamN "law") (hc37 : (fd 37).code = .ref c1_37) : ∀ n, (∀ i, i < nF → FnG P w K mg base (2 * n + 2) (fa i) (fd i) (ps i) (spF ⟨K, cl⟩ (ps i).length (sem n i))) ∧ (∀ i, i < nL → FnL P w K mg base cl fa fd ps nF (2 * n + 2) (ga i) (gd i) (qs i) (qs i).length (semL n i)) ∧ TX P w K mg base cl fa fd ps nF (2 * n) (low n) := by
  intro n
  induction n with
  | zero => exact ⟨fun _ _ => FnG.none, fun _ _ => FnL.none, (tx_of (n := 0) F fun _ _ => FnG.none).no⟩
  | succ n ih =>
    obtain ⟨h1, h2, h3⟩ := ih
    have T := tx_of F h1
    have TL := tl_of F h2
    refine ⟨fun i hi => match i, hi with
      | 0, _ => ((w0 T T2).fn F.f0 sc0).ar
      | 1, _ => ((w1 T T2).fn F.f1 sc1).ar
      | 2, _ => ((w2 T T2).fn F.f2 sc2).ar
      | 3, _ => ((w3 T T2 (by omega)).fn F.f3 sc3).frzH.ar
      | 4, _ => ((w4 T T2).fn F.f4 sc4).ar
      | 5, _ => ((w5 T T2 (by omega)).fn F.f5 sc5).frzH.ar
      | 6, _ => ((w6 T T2).fn F.f6 sc6).frzH.ar
      | 7, _ => ((w7 T T2).fn F.f7 sc7).frzH.ar
      | 8, _ => ((w8 T T2).fn F.f8 sc8).ar
      | 9, _ => ((w9 T T2).fn F.f9 sc9).ar
      | 10, _ => ((w10 T T2).fn F.f10 sc10).ar
      | 11, _ => ((w11 T T2).fn F.f11 sc11).ar
      | 12, _ => ((w12 T T2).fn F.f12 sc12).ar
      | 13, _ => ((w13 T T2).fn F.f13 sc13).ar
      | 14, _ => ((w14 T T2 (by omega)).fn F.f14 sc14).ar
      | 15, _ => ((w15 T T2).fn F.f15 sc15).ar
      | 16, _ => ((w16 T T2).fn F.f16 sc16).ar
      | 17, _ => ((w17 T T2).fn F.f17 sc17).ar
      | 18, _ => ((w18 T T2).fn F.f18 sc18).ar
      | 19, _ => ((w19 T T2).fn F.f19 sc19).ar
      | 20, _ => ((w20 T T2).fn F.f20 sc20).ar
      | 21, _ => ((w21 T T2).fn F.f21 sc21).ar
      | 22, _ => ((w22 T T2).fn F.f22 sc22).ar
      | 23, _ => ((w23 T T2).fn F.f23 sc23).ar
      | 24, _ => ((w24 T T2).fn F.f24 sc24).ar
      | 25, _ => ((w25 T T2).fn F.f25 sc25).ar
      | 26, _ => ((w26 T T2).fn F.f26 sc26).ar
      | 27, _ => ((w27 T T2).fn F.f27 sc27).ar
      | 28, _ => ((w28 T T2).fn F.f28 sc28).ar
      | 29, _ => ((w29 T T2).fn F.f29 sc29).ar
      | 30, _ => ((w30 T T2).fn F.f30 sc30).ar
      | 31, _ => ((w31 T T2).fn F.f31 sc31).ar
      | 32, _ => ((w32 T T2).fn F.f32 sc32).ar
      | 33, _ => ((w33 T T2).fn F.f33 sc33).ar
      | 34, _ => ((w34 T T2).fn F.f34 sc34).ar
      | 35, _ => ((w35 T T2).fn F.f35 sc35).ar
      | 36, _ => ((w36 T T2).fn F.f36 sc36).ar
      | 37, _ => ((w37 T TL T2 TB37 hT37 hu37).fn F.f37 hc37 sc37).ar
      | _ + 38, h => absurd (show _ < 38 from h) (by omega), fun i hi => match i, hi with
      | 0, _ => ((wL0 T h3 (by omega) TL T2).fn F.fL0 scL0)
      | 1, _ => ((wL1 T h3 (by omega) TL T2).fn F.fL1 scL1)
      | 2, _ => ((wL2 T h3 (by omega) TL T2).fn F.fL2 scL2)
      | _ + 3, h => absurd (show _ < 3 from h) (by omega), T⟩
end
end Q

/-! Lines as parts, walks of items: plain Lean. -/
namespace Q
open PySem PySem.Spec L2 DY
inductive Part where
  | belt (t : Int)
  | gap (c t : Int)
  | hold (c t : Int)
  | sec (c : Int) (p : Part)
  | beh (a b : Part)
  | both (a b : Part)
  deriving DecidableEq
def sS (s : String) : D := .str (Str.ofString s)
namespace Part
def kind : Part → String
  | belt _ => "belt"
  | gap _ _ => "gap"
  | hold _ _ => "hold"
  | sec _ _ => "section"
  | beh _ _ => "behind"
  | both _ _ => "both"
def size : Part → Nat
  | belt _ => 1
  | gap _ _ => 1
  | hold _ _ => 1
  | sec _ p => p.size + 1
  | beh a b => a.size + b.size + 1
  | both a b => a.size + b.size + 1
def inner : Part → List Part
  | sec _ p => [p]
  | beh a b => [a, b]
  | both a b => [a, b]
  | _ => []
/-- as the program keeps it -/
def d : Part → D
  | belt t => .nd .tup [.str (Str.ofString "belt"), .int t]
  | gap c t => .nd .tup [.str (Str.ofString "gap"), .int c, .int t]
  | hold c t => .nd .tup [.str (Str.ofString "hold"), .int c, .int t]
  | sec c p => .nd .tup [.str (Str.ofString "section"), .int c, p.d]
  | beh a b => .nd .tup [.str (Str.ofString "behind"), a.d, b.d]
  | both a b => .nd .tup [.str (Str.ofString "both"), a.d, b.d]
/-- counts and times within their bounds -/
def ok (top : Int) : Part → Prop
  | belt t => 0 ≤ t ∧ t ≤ 1000000000
  | gap c t => (1 ≤ c ∧ c ≤ top) ∧ 0 ≤ t ∧ t ≤ 1000000000
  | hold c t => (1 ≤ c ∧ c ≤ top) ∧ 0 ≤ t ∧ t ≤ 1000000000
  | sec c p => (1 ≤ c ∧ c ≤ top) ∧ p.ok top
  | beh a b => a.ok top ∧ b.ok top
  | both a b => a.ok top ∧ b.ok top
/-- made of some sorts -/
def within (S : List String) : Part → Prop
  | belt _ => "belt" ∈ S
  | gap _ _ => "gap" ∈ S
  | hold _ _ => "hold" ∈ S
  | sec _ p => p.within S
  | beh a b => a.within S ∧ b.within S
  | both a b => "both" ∈ S ∧ a.within S ∧ b.within S
theorem size_pos : ∀ p : Part, 1 ≤ p.size
  | belt _ => Nat.le_refl _
  | gap _ _ => Nat.le_refl _
  | hold _ _ => Nat.le_refl _
  | sec _ _ => Nat.le_add_left _ _
  | beh _ _ => Nat.le_add_left _ _
  | both _ _ => Nat.le_add_left _ _
theorem ok.mono {s t : Int} (h : s ≤ t) : ∀ {p : Part}, p.ok s → p.ok t
  | belt _, q => q
  | gap _ _, q => ⟨⟨q.1.1, Int.le_trans q.1.2 h⟩, q.2⟩
  | hold _ _, q => ⟨⟨q.1.1, Int.le_trans q.1.2 h⟩, q.2⟩
  | sec _ p, q => ⟨⟨q.1.1, Int.le_trans q.1.2 h⟩, ok.mono h q.2⟩
  | beh _ _, q => ⟨ok.mono h q.1, ok.mono h q.2⟩
  | both _ _, q => ⟨ok.mono h q.1, ok.mono h q.2⟩
@[simp] theorem noH_d : ∀ p : Part, noH p.d = true
  | belt _ => rfl
  | gap _ _ => rfl
  | hold _ _ => rfl
  | sec _ p => by simp [d, noH_d p]
  | beh a b => by simp [d, noH_d a, noH_d b]
  | both a b => by simp [d, noH_d a, noH_d b]
/-- the items of the tuple -/
def ds : Part → List D
  | belt t => [.str (Str.ofString "belt"), .int t]
  | gap c t => [.str (Str.ofString "gap"), .int c, .int t]
  | hold c t => [.str (Str.ofString "hold"), .int c, .int t]
  | sec c p => [.str (Str.ofString "section"), .int c, p.d]
  | beh a b => [.str (Str.ofString "behind"), a.d, b.d]
  | both a b => [.str (Str.ofString "both"), a.d, b.d]
/-- the paths of a part and of all within it -/
def paths : Part → List Int → List (List Int)
  | sec _ p, q => q :: p.paths (q ++ [0])
  | beh a b, q => q :: (a.paths (q ++ [0]) ++ b.paths (q ++ [1]))
  | both a b, q => q :: (a.paths (q ++ [0]) ++ b.paths (q ++ [1]))
  | _, q => [q]
theorem paths_len : ∀ (p : Part) (q : List Int), (p.paths q).length = p.size
  | belt _, _ => rfl
  | gap _ _, _ => rfl
  | hold _ _, _ => rfl
  | sec _ p, q => by simp [paths, size, paths_len p]
  | beh a b, q => by simp [paths, size, paths_len a, paths_len b]
  | both a b, q => by simp [paths, size, paths_len a, paths_len b]
end Part
/-- a row of whole numbers -/
def tupI (q : List Int) : D := .nd .tup (q.map D.int)
def lstI (q : List Int) : D := .nd .lst (q.map D.int)
@[simp] theorem noH_tupI (q : List Int) : noH (tupI q) = true := by simp [tupI]
@[simp] theorem noH_lstI (q : List Int) : noH (lstI q) = true := by simp [lstI]
/-! ### walks of items -/
/-- of each part the moments at which the items came and left -/
inductive W where
  | nd (came left : List Int) (sub : List W)
def W.came : W → List Int
  | nd c _ _ => c
def W.left : W → List Int
  | nd _ l _ => l
def W.sub : W → List W
  | nd _ _ s => s
/-- the one count items ago, with a time, if that is later -/
def ago (l : List Int) (c t m : Int) : Int := if c ≤ (l.length : Int) then max m (l.getD (l.length - c.toNat) 0 + t) else m
def W0 : Part → W
  | .sec _ p => .nd [] [] [W0 p]
  | .beh a b => .nd [] [] [W0 a, W0 b]
  | .both a b => .nd [] [] [W0 a, W0 b]
  | _ => .nd [] [] []
/-- the next item comes at a moment -/
def go : Part → W → Int → Int × W
  | .belt t, .nd c l s, m => (m + t, .nd (c ++ [m]) (l ++ [m + t]) s)
  | .gap k t, .nd c l s, m => (ago l k t m, .nd (c ++ [m]) (l ++ [ago l k t m]) s)
  | .hold k t, .nd c l s, m => (ago c k t m, .nd (c ++ [m]) (l ++ [ago c k t m]) s)
  | .sec k p, .nd c l [w], m => ((go p w (ago l k 0 m)).1, .nd (c ++ [m]) (l ++ [(go p w (ago l k 0 m)).1]) [(go p w (ago l k 0 m)).2])
  | .beh a b, .nd c l [u, v], m => ((go b v (go a u m).1).1, .nd (c ++ [m]) (l ++ [(go b v (go a u m).1).1]) [(go a u m).2, (go b v (go a u m).1).2])
  | .both a b, .nd c l [u, v], m => (max (go a u m).1 (go b v m).1, .nd (c ++ [m]) (l ++ [max (go a u m).1 (go b v m).1]) [(go a u m).2, (go b v m).2])
  | _, w, m => (m, w)
/-- a state that fits the part, behind n items -/
def Fit : Part → Nat → W → Prop
  | .sec _ p, n, .nd c l [w] => c.length = n ∧ l.length = n ∧ Fit p n w
  | .beh a b, n, .nd c l [u, v] => c.length = n ∧ l.length = n ∧ Fit a n u ∧ Fit b n v
  | .both a b, n, .nd c l [u, v] => c.length = n ∧ l.length = n ∧ Fit a n u ∧ Fit b n v
  | .belt _, n, .nd c l [] => c.length = n ∧ l.length = n
  | .gap _ _, n, .nd c l [] => c.length = n ∧ l.length = n
  | .hold _ _, n, .nd c l [] => c.length = n ∧ l.length = n
  | _, _, _ => False
/-- all items go through -/
def goes (p : Part) : W → List Int → W
  | w, [] => w
  | w, m :: ms => goes p (go p w m).2 ms
def leaves (p : Part) (ms : List Int) : List Int := (goes p (W0 p) ms).left
end Q

/-! Numbers, moments. -/
namespace Q
open PySem PySem.Spec L2 DY
section
variable {st : Store} {i : Int}
theorem is_number_int (n : Nat) : sem (n + 1) f_is_number [.int i] st = .ok (.bl (decide (0 ≤ i))) st := by
  rw [S_is_number]; simp [b_is_number, isiB]
theorem is_time_int (n : Nat) : sem (n + 2) f_is_time [.int i] st = .ok (.bl (decide (0 ≤ i) && decide (i ≤ 1000000000))) st := by
  rw [S_is_time]; simp [b_is_time, is_number_int]
theorem is_count_int (n : Nat) : sem (n + 2) f_is_count [.int i] st = .ok (.bl (decide (0 ≤ i) && (decide (1 ≤ i) && decide (i ≤ 12)))) st := by
  rw [S_is_count]; simp [b_is_count, is_number_int]
theorem need_count_ok (n : Nat) (h : 1 ≤ i ∧ i ≤ 12) : sem (n + 3) f_need_count [.int i] st = .ok .non st := by
  have h0 : 0 ≤ i := by omega
  rw [S_need_count]; simp [b_need_count, is_count_int, h, h0]
theorem need_time_ok (n : Nat) (h : 0 ≤ i ∧ i ≤ 1000000000) : sem (n + 3) f_need_time [.int i] st = .ok .non st := by
  rw [S_need_time]; simp [b_need_time, is_time_int, h]
end
end Q

/-! Lines. -/
namespace Q
open PySem PySem.Spec L2 DY
theorem inner_parts_ok (n : Nat) (p : Part) (st : Store) : sem (n + 1) f_inner_parts [p.d] st = .ok (.nd .lst (p.inner.map Part.d)) st := by
  rw [S_inner_parts]
  have inn : ∀ k : String, dIn (.str (Str.ofString k)) (.nd .tup [.str (Str.ofString "behind"), .str (Str.ofString "both")]) st = .ok (.bl (decide (k = "behind") || decide (k = "both"))) st := fun k => by
    rw [dIn_flat (v := V.str (Str.ofString k)) (vs := [V.str (Str.ofString "behind"), V.str (Str.ofString "both")]) rfl (by simp [fvs, DY.fv]) (by intro a h; cases h)]
    have e : ∀ a b : String, (Str.ofString a == Str.ofString b) = decide (b = a) := fun a b => by
      by_cases h : a = b
      · subst h; simp
      · simp [h, Ne.symm h]
    simp [inV, eqV, e]
  cases p <;> simp [b_inner_parts, Part.d, Part.inner, inn]
theorem tupI_add (q : List Int) (i : Int) (st : Store) (h : q.length ≤ 1000) : dAdd (tupI q) (.nd .tup [.int i]) st = .ok (tupI (q ++ [i])) st := by
  simp [tupI]; rw [dAddC_tt (by simp; omega)]
theorem paths_ok : ∀ (p : Part) (m : Nat) (q : List Int) (st : Store), p.size + 1 ≤ m → q.length + p.size ≤ 100 → sem m f_paths_of [p.d, tupI q] st = .ok (.nd .lst ((p.paths q).map tupI)) st
  | .belt t, m, q, st, hm, hq => by
    obtain ⟨m, rfl⟩ : ∃ k, m = k + 2 := ⟨m - 2, by simp [Part.size] at hm; omega⟩
    rw [S_paths_of]
    simp [b_paths_of, inner_parts_ok, Part.inner, Part.paths, forL_nil, forL_cons]
  | .gap _ _, m, q, st, hm, hq => by
    obtain ⟨m, rfl⟩ : ∃ k, m = k + 2 := ⟨m - 2, by simp [Part.size] at hm; omega⟩
    rw [S_paths_of]
    simp [b_paths_of, inner_parts_ok, Part.inner, Part.paths, forL_nil, forL_cons]
  | .hold _ _, m, q, st, hm, hq => by
    obtain ⟨m, rfl⟩ : ∃ k, m = k + 2 := ⟨m - 2, by simp [Part.size] at hm; omega⟩
    rw [S_paths_of]
    simp [b_paths_of, inner_parts_ok, Part.inner, Part.paths, forL_nil, forL_cons]
  | .sec c p, m, q, st, hm, hq => by
    obtain ⟨m, rfl⟩ : ∃ k, m = k + 2 := ⟨m - 2, by simp [Part.size] at hm; omega⟩
    simp [Part.size] at hm hq
    have e := paths_ok p (m + 1) (q ++ [0]) st (by omega) (by simp; omega)
    have l := Part.paths_len p (q ++ [0])
    rw [S_paths_of]
    simp [b_paths_of, inner_parts_ok, Part.inner, Part.paths, forL_nil, forL_cons, tupI_add q 0 st (by omega), e]
    rw [dAddC_ll (by simp; omega)]
    simp [forL_nil]
  | .beh a b, m, q, st, hm, hq => by
    obtain ⟨m, rfl⟩ : ∃ k, m = k + 2 := ⟨m - 2, by simp [Part.size] at hm; omega⟩
    simp [Part.size] at hm hq
    have e1 := paths_ok a (m + 1) (q ++ [0]) st (by omega) (by simp; omega)
    have e2 := paths_ok b (m + 1) (q ++ [1]) st (by omega) (by simp; omega)
    have l1 := Part.paths_len a (q ++ [0])
    have l2 := Part.paths_len b (q ++ [1])
    rw [S_paths_of]
    simp [b_paths_of, inner_parts_ok, Part.inner, Part.paths, forL_nil, forL_cons, tupI_add q 0 st (by omega), e1]
    rw [dAddC_ll (by simp; omega)]
    simp [tupI_add q 1 st (by omega), e2, forL_nil, forL_cons]
    rw [dAddC_ll (by simp; omega)]
    simp [forL_nil]
  | .both a b, m, q, st, hm, hq => by
    obtain ⟨m, rfl⟩ : ∃ k, m = k + 2 := ⟨m - 2, by simp [Part.size] at hm; omega⟩
    simp [Part.size] at hm hq
    have e1 := paths_ok a (m + 1) (q ++ [0]) st (by omega) (by simp; omega)
    have e2 := paths_ok b (m + 1) (q ++ [1]) st (by omega) (by simp; omega)
    have l1 := Part.paths_len a (q ++ [0])
    have l2 := Part.paths_len b (q ++ [1])
    rw [S_paths_of]
    simp [b_paths_of, inner_parts_ok, Part.inner, Part.paths, forL_nil, forL_cons, tupI_add q 0 st (by omega), e1]
    rw [dAddC_ll (by simp; omega)]
    simp [tupI_add q 1 st (by omega), e2, forL_nil, forL_cons]
    rw [dAddC_ll (by simp; omega)]
    simp [forL_nil]
/-- a line -/
def nLine : List Str := [Str.ofString "nested", Str.ofString "all_paths"]
def Part.line (p : Part) : D := .nd (.ins k_Line nLine) [p.d, .nd .lst ((p.paths []).map tupI)]
@[simp] theorem noH_line (p : Part) : noH p.line = true := by
  simp [Part.line, noHL_all]
theorem make_line (n : Nat) (p : Part) (st : Store) (h : p.size ≤ 12) : frzF (runInit k_Line (sem (n + 15) f_Line___init__)) [p.d] st = .ok p.line st := by
  have e : ∀ st, sem (n + 14) f_paths_of [p.d, .nd .tup []] st = .ok (.nd .lst ((p.paths []).map tupI)) st := fun st => paths_ok p (n + 14) [] st (by omega) (by simp; omega)
  have l := Part.paths_len p []
  have hl : ¬ (12 : Int) < p.size := by omega
  have hh : noHL ((p.paths []).map tupI) = true := noHL_map noH_tupI _
  simp [S_Line___init__, b_Line___init__, e, l, hl, hh, Part.line, nLine]
theorem line_belt (n : Nat) {t : Int} (st : Store) (h : 0 ≤ t ∧ t ≤ 1000000000) : sem (n + 16) f_Line_belt [.int t] st = .ok (Part.belt t).line st := by
  have m := make_line n (.belt t) st (by simp [Part.size])
  simp only [Part.d] at m
  rw [S_Line_belt]
  simp [b_Line_belt, need_time_ok (n + 12) h, m, -frzF_ev]
theorem line_gap (n : Nat) {c t : Int} (st : Store) (hc : 1 ≤ c ∧ c ≤ 12) (h : 0 ≤ t ∧ t ≤ 1000000000) : sem (n + 16) f_Line_gap [.int c, .int t] st = .ok (Part.gap c t).line st := by
  have m := make_line n (.gap c t) st (by simp [Part.size])
  simp only [Part.d] at m
  rw [S_Line_gap]
  simp [b_Line_gap, need_count_ok (n + 12) hc, need_time_ok (n + 12) h, m, -frzF_ev]
theorem line_hold (n : Nat) {c t : Int} (st : Store) (hc : 1 ≤ c ∧ c ≤ 12) (h : 0 ≤ t ∧ t ≤ 1000000000) : sem (n + 16) f_Line_hold [.int c, .int t] st = .ok (Part.hold c t).line st := by
  have m := make_line n (.hold c t) st (by simp [Part.size])
  simp only [Part.d] at m
  rw [S_Line_hold]
  simp [b_Line_hold, need_count_ok (n + 12) hc, need_time_ok (n + 12) h, m, -frzF_ev]
theorem line_limited (n : Nat) {c : Int} {p : Part} (st : Store) (hc : 1 ≤ c ∧ c ≤ 12) (h : p.size ≤ 11) : sem (n + 16) f_Line_limited [p.line, .int c] st = .ok (Part.sec c p).line st := by
  have m := make_line n (.sec c p) st (by simp [Part.size]; omega)
  simp only [Part.d] at m
  rw [S_Line_limited]
  simp [b_Line_limited, need_count_ok (n + 12) hc, m, -frzF_ev, Part.line, nLine]
theorem line_add (n : Nat) {p q : Part} (st : Store) (h : p.size + q.size ≤ 11) : sem (n + 16) f_Line___add__ [p.line, q.line] st = .ok (Part.beh p q).line st := by
  have m := make_line n (.beh p q) st (by simp [Part.size]; omega)
  simp only [Part.d] at m
  rw [S_Line___add__]
  simp [b_Line___add__, m, -frzF_ev, Part.line, nLine]
theorem line_and (n : Nat) {p q : Part} (st : Store) (h : p.size + q.size ≤ 11) : sem (n + 16) f_Line___and__ [p.line, q.line] st = .ok (Part.both p q).line st := by
  have m := make_line n (.both p q) st (by simp [Part.size]; omega)
  simp only [Part.d] at m
  rw [S_Line___and__]
  simp [b_Line___and__, m, -frzF_ev, Part.line, nLine]
theorem line_parts (n : Nat) (p : Part) (st : Store) : sem (n + 1) f_Line_parts [p.line] st = .ok p.d st := by
  rw [S_Line_parts]
  simp [b_Line_parts, Part.line, nLine]
/-- the law's lines -/
theorem law_line : ∀ (p : Part) (m : Nat) (st : Store), p.size + 20 ≤ m → p.size ≤ 12 → p.ok 12 → sem m f__law_line [p.d] st = .ok p.line st
  | .belt t, m, st, hm, hs, ho => by
    obtain ⟨m, rfl⟩ : ∃ k, m = k + 17 := ⟨m - 17, by omega⟩
    rw [S__law_line]
    simp [b__law_line, Part.d, line_belt m st ho]
  | .gap c t, m, st, hm, hs, ho => by
    obtain ⟨m, rfl⟩ : ∃ k, m = k + 17 := ⟨m - 17, by omega⟩
    rw [S__law_line]
    simp [b__law_line, Part.d, line_gap m st ho.1 ho.2]
  | .hold c t, m, st, hm, hs, ho => by
    obtain ⟨m, rfl⟩ : ∃ k, m = k + 17 := ⟨m - 17, by omega⟩
    rw [S__law_line]
    simp [b__law_line, Part.d, line_hold m st ho.1 ho.2]
  | .sec c p, m, st, hm, hs, ho => by
    obtain ⟨m, rfl⟩ : ∃ k, m = k + 17 := ⟨m - 17, by omega⟩
    simp [Part.size] at hm hs
    have e := law_line p (m + 16) st (by omega) (by omega) ho.2
    have l := line_limited m (p := p) st ho.1 (by omega)
    have z : seen st p.line = some (.ins k_Line nLine, [p.d, .nd .lst ((p.paths []).map tupI)]) := rfl
    rw [S__law_line]
    simp [b__law_line, Part.d, e, l, z, nLine]
  | .beh p q, m, st, hm, hs, ho => by
    obtain ⟨m, rfl⟩ : ∃ k, m = k + 17 := ⟨m - 17, by omega⟩
    simp [Part.size] at hm hs
    have e1 := law_line p (m + 16) st (by omega) (by omega) ho.1
    have e2 := law_line q (m + 16) st (by omega) (by omega) ho.2
    have l := line_add m (p := p) (q := q) st (by omega)
    rw [S__law_line]
    simp [b__law_line, Part.d, e1, e2, dOwn_ok (t := .ins k_Line nLine) rfl rfl l]
    rfl
  | .both p q, m, st, hm, hs, ho => by
    obtain ⟨m, rfl⟩ : ∃ k, m = k + 17 := ⟨m - 17, by omega⟩
    simp [Part.size] at hm hs
    have e1 := law_line p (m + 16) st (by omega) (by omega) ho.1
    have e2 := law_line q (m + 16) st (by omega) (by omega) ho.2
    have l := line_and m (p := p) (q := q) st (by omega)
    rw [S__law_line]
    simp [b__law_line, Part.d, e1, e2, dOwn_ok (t := .ins k_Line nLine) rfl rfl l]
    rfl
end Q

/-! Lists made ascending, without repetitions: plain, and what sorted(set(xs)) is. -/
namespace DY
open PySem PySem.Spec PyProof.Rows L2 PySem.W KS
/-- of two different ones one is less -/
class Tri (α : Type) [DecidableEq α] [DatumOrd α] : Prop where
  tri : ∀ a b : α, DatumOrd.lt a b = false → DatumOrd.lt b a = false → a = b
instance : Tri Int := ⟨fun a b h1 h2 => by
  have h1' : decide (a < b) = false := h1
  have h2' : decide (b < a) = false := h2
  rw [decide_eq_false_iff_not] at h1' h2'
  omega⟩
section
variable {α β γ : Type} [DecidableEq α] [DatumOrd α] [Tri α] [DecidableEq β] [DatumOrd β] [Tri β] [DecidableEq γ] [DatumOrd γ] [Tri γ]
theorem listLt_tri : ∀ xs ys : List α, listLt xs ys = false → listLt ys xs = false → xs = ys
  | [], [], _, _ => rfl
  | [], _ :: _, h, _ => by simp [listLt] at h
  | _ :: _, [], _, h => by simp [listLt] at h
  | x :: xs, y :: ys, h1, h2 => by
    simp only [listLt] at h1 h2
    by_cases e : x = y
    · subst e
      simp only [if_true] at h1 h2
      rw [listLt_tri xs ys h1 h2]
    · rw [if_neg e] at h1
      rw [if_neg (Ne.symm e)] at h2
      exact absurd (Tri.tri x y h1 h2) e
instance : Tri (Tup α) := ⟨fun a b h1 h2 => by
  obtain ⟨a⟩ := a
  obtain ⟨b⟩ := b
  rw [listLt_tri a b h1 h2]⟩
instance : Tri (α × β) := ⟨fun a b h1 h2 => by
  obtain ⟨a1, a2⟩ := a
  obtain ⟨b1, b2⟩ := b
  have h1' : (if a1 = b1 then DatumOrd.lt a2 b2 else DatumOrd.lt a1 b1) = false := h1
  have h2' : (if b1 = a1 then DatumOrd.lt b2 a2 else DatumOrd.lt b1 a1) = false := h2
  by_cases e : a1 = b1
  · subst e
    simp only [if_true] at h1' h2'
    rw [Tri.tri a2 b2 h1' h2']
  · rw [if_neg e] at h1'
    rw [if_neg (Ne.symm e)] at h2'
    exact absurd (Tri.tri a1 b1 h1' h2') e⟩
instance : Tri (T3 α β γ) := ⟨fun p q h1 h2 => by
  obtain ⟨a1, a2, a3⟩ := p
  obtain ⟨b1, b2, b3⟩ := q
  have h1' : (if a1 = b1 then (if a2 = b2 then DatumOrd.lt a3 b3 else DatumOrd.lt a2 b2) else DatumOrd.lt a1 b1) = false := h1
  have h2' : (if b1 = a1 then (if b2 = a2 then DatumOrd.lt b3 a3 else DatumOrd.lt b2 a2) else DatumOrd.lt b1 a1) = false := h2
  by_cases e : a1 = b1
  · subst e
    simp only [if_true] at h1' h2'
    by_cases e : a2 = b2
    · subst e
      simp only [if_true] at h1' h2'
      rw [Tri.tri a3 b3 h1' h2']
    · rw [if_neg e] at h1'
      rw [if_neg (Ne.symm e)] at h2'
      exact absurd (Tri.tri a2 b2 h1' h2') e
  · rw [if_neg e] at h1'
    rw [if_neg (Ne.symm e)] at h2'
    exact absurd (Tri.tri a1 b1 h1' h2') e⟩
end
section
variable {α : Type} [DecidableEq α] [DatumOrd α]
abbrev ltA (a b : α) : Prop := DatumOrd.lt a b = true
theorem lt_irr (a : α) : DatumOrd.lt a a = false := by rw [← DatumOrd.lt_eq]; exact dataLt_self _
/-- at most as great -/
def leA (a b : α) : Bool := !DatumOrd.lt b a
theorem leA_eq (a b : α) : leA a b = dataLe false Datum.toD a b := by
  rw [dataLe_eq]
  show _ = !dataLt (Datum.toD b) (Datum.toD a)
  rw [DatumOrd.lt_eq]; rfl
theorem leA_tot : TotalLe (leA (α := α)) := by
  have h := sortLe_total (listOrd itemOrd) false fun a : α => keyToks (Datum.toD a)
  have e : (leA (α := α)) = sortLe (listOrd itemOrd) false fun a : α => keyToks (Datum.toD a) := by
    funext a b; exact leA_eq a b
  rw [e]; exact h
theorem lt_trans' {a b c : α} (h1 : ltA a b) (h2 : ltA b c) [Tri α] : ltA a c := by
  have t : leA a c = true := leA_tot.trans a b c (by
    rcases leA_tot.total a b with h | h
    · exact h
    · unfold leA at h; rw [h1] at h; cases h) (by
    rcases leA_tot.total b c with h | h
    · exact h
    · unfold leA at h; rw [h2] at h; cases h)
  by_cases e : DatumOrd.lt a c = true
  · exact e
  · have e' : DatumOrd.lt a c = false := by simpa using e
    have t' : DatumOrd.lt c a = false := by simpa [leA] using t
    have := Tri.tri a c e' t'
    subst this
    have h3 := leA_tot.total a b
    have : leA a b = true ∧ leA b a = true → a = b := fun ⟨p, q⟩ => Tri.tri a b (by simpa [leA] using q) (by simpa [leA] using p)
    have p1 : leA a b = true := by
      rcases leA_tot.total a b with h | h
      · exact h
      · unfold leA at h; rw [h1] at h; cases h
    have p2 : leA b a = true := by
      rcases leA_tot.total b a with h | h
      · exact h
      · unfold leA at h; rw [h2] at h; cases h
    have := this ⟨p1, p2⟩
    subst this
    have h1' : DatumOrd.lt a a = true := h1
    rw [lt_irr] at h1'; cases h1'
def insA (x : α) : List α → List α
  | [] => [x]
  | y :: ys => if x = y then y :: ys else if DatumOrd.lt x y = true then x :: y :: ys else y :: insA x ys
/-- ascending, without repetitions -/
def usort (l : List α) : List α := l.foldr insA []
theorem insA_mem {x z : α} : ∀ {l : List α}, z ∈ insA x l ↔ z = x ∨ z ∈ l
  | [] => by simp [insA]
  | y :: ys => by
    unfold insA
    split
    · rename_i h; subst h; simp
    · split
      · simp
      · simp only [List.mem_cons, insA_mem (l := ys)]
        constructor
        · rintro (h | h | h) <;> simp [h]
        · rintro (h | h | h) <;> simp [h]
@[simp] theorem usort_mem {z : α} : ∀ {l : List α}, z ∈ usort l ↔ z ∈ l
  | [] => by simp [usort]
  | y :: ys => by
    show z ∈ insA y (usort ys) ↔ _
    rw [insA_mem, usort_mem (l := ys)]; simp
theorem insA_up [Tri α] {x : α} : ∀ {l : List α}, l.Pairwise ltA → (insA x l).Pairwise ltA
  | [], _ => by simp [insA]
  | y :: ys, h => by
    rw [List.pairwise_cons] at h
    unfold insA
    split
    · exact List.pairwise_cons.mpr h
    · rename_i ne
      split
      · rename_i lt
        refine List.pairwise_cons.mpr ⟨fun z hz => ?_, List.pairwise_cons.mpr h⟩
        rcases List.mem_cons.mp hz with rfl | hz
        · exact lt
        · exact lt_trans' lt (h.1 z hz)
      · rename_i lt
        refine List.pairwise_cons.mpr ⟨fun z hz => ?_, insA_up h.2⟩
        rcases insA_mem.mp hz with rfl | hz
        · by_cases e : DatumOrd.lt y z = true
          · exact e
          · exact absurd (Tri.tri z y (by simpa using lt) (by simpa using e)) ne
        · exact h.1 z hz
theorem usort_up [Tri α] : ∀ l : List α, (usort l).Pairwise ltA
  | [] => List.Pairwise.nil
  | y :: ys => insA_up (usort_up ys)
theorem up_nodup {l : List α} (h : l.Pairwise ltA) : l.Nodup := h.imp fun {a b} q e => by subst e; rw [ltA, lt_irr] at q; cases q
theorem usort_nodup [Tri α] (l : List α) : (usort l).Nodup := up_nodup (usort_up l)
theorem up_le [Tri α] {l : List α} (h : l.Pairwise ltA) : l.Pairwise fun a b => leA a b = true := h.imp fun {a b} q => by
  rcases leA_tot.total a b with z | z
  · exact z
  · unfold leA at z; rw [q] at z; cases z
theorem insA_len (x : α) : ∀ l : List α, (insA x l).length ≤ l.length + 1
  | [] => by simp [insA]
  | y :: ys => by
    unfold insA
    split
    · simp
    · split
      · simp
      · have := insA_len x ys; simp; omega
theorem usort_len : ∀ l : List α, (usort l).length ≤ l.length
  | [] => by simp [usort]
  | y :: ys => by
    have := usort_len ys
    have := insA_len y (usort ys)
    show (insA y (usort ys)).length ≤ _
    simp; omega
/-- a list of different things, all of a list -/
theorem nodup_sub_len {l m : List α} (h : l.Nodup) (s : ∀ z ∈ l, z ∈ m) : l.length ≤ m.length := by
  induction l generalizing m with
  | nil => simp
  | cons a l ih =>
    rw [List.nodup_cons] at h
    have ha := s a List.mem_cons_self
    have := ih (m := m.erase a) h.2 fun z hz => (List.mem_erase_of_ne (fun e => h.1 (by rw [← e]; exact hz))).mpr (s z (List.mem_cons_of_mem _ hz))
    rw [List.length_erase_of_mem ha] at this
    have := List.length_pos_of_mem ha
    simp; omega
end
/-- things that are members of sets -/
structure Enc {α : Type} [DecidableEq α] [DatumOrd α] (K : α → NestedKey) : Prop where
  data : ∀ a, (K a).data = Datum.toD a
  good : ∀ a, Good (K a)
section
variable {α : Type} [DecidableEq α] [DatumOrd α] {K : α → NestedKey}
theorem Enc.le (h : Enc K) (a b : α) : leK (K a) (K b) = leA a b := by
  rw [leA_eq]
  show dataLe false NestedKey.data (K a) (K b) = _
  rw [dataLe_eq, dataLe_eq]
  show (!dataLt (K b).data (K a).data) = !dataLt (Datum.toD b) (Datum.toD a)
  rw [h.data, h.data]
theorem Enc.inj (h : Enc K) {a b : α} (e : K a = K b) : a = b := by
  have e2 : Datum.toD a = Datum.toD b := by rw [← h.data, ← h.data, e]
  have e3 := Datum.eqv a b
  rw [e2, Datum.eqv b b] at e3
  simpa using e3.symm
theorem Enc.top (h : Enc K) (a : α) : ∃ xs, Datum.toD a = .tuple xs := by
  obtain ⟨l, e⟩ := (h.good a).top
  rw [← h.data, e]
  exact ⟨_, rfl⟩
theorem sortN_top [Tri α] (h : Enc K) {xs : List α} (few : xs.length < 8000) (st : Store) : dSortN1 st (some (xs.map K)) = .ok (.nd .lst ((usort xs).map fun a => kD (K a))) st := by
  have ok : SetOk (xs.map K) := by
    refine ⟨by simpa using few, fun k m => ?_, ?_, ?_, ?_⟩
    · obtain ⟨a, _, rfl⟩ := List.mem_map.mp m
      exact h.good a
    · intro x hx y hy
      simp only [List.map_map, List.mem_map, Function.comp] at hx hy
      obtain ⟨a, _, rfl⟩ := hx
      obtain ⟨b, _, rfl⟩ := hy
      rw [h.data, h.data]
      exact DatumOrd.alike a b
    · refine .inr fun x hx => ?_
      simp only [List.map_map, List.mem_map, Function.comp] at hx
      obtain ⟨a, _, rfl⟩ := hx
      rw [h.data]
      exact h.top a
    · intro x hx y hy p q
      obtain ⟨a, _, rfl⟩ := List.mem_map.mp hx
      obtain ⟨b, _, rfl⟩ := List.mem_map.mp hy
      rw [h.le] at p q
      rw [Tri.tri a b (by simpa [leA] using q) (by simpa [leA] using p)]
  have so : Sorted (xs.map K) ((usort xs).map K) := by
    refine ⟨?_, fun z => ?_, ?_⟩
    · refine List.pairwise_map.mpr ((usort_nodup xs).imp fun {a b} q e => q (h.inj e))
    · simp only [List.mem_map, usort_mem]
    · refine List.pairwise_map.mpr ((up_le (usort_up xs)).imp fun {a b} q => ?_)
      rw [h.le]; exact q
  rw [dSortN_of ok so, List.map_map]; rfl
theorem sortN_of [Tri α] (h : Enc K) (ne : ∀ a, ∃ x l, K a = .tup (x :: l)) {xs : List α} (few : xs.length < 8000) (st : Store) : dSortN1 st (some (xs.map K)) = .ok (.nd .lst ((usort xs).map fun a => kD (K a))) st := sortN_top h few st
theorem nkey_kD : ∀ k : NestedKey, nums k = true → nkey? (kD k) = some k := by
  have : ∀ n : Nat, (∀ k : NestedKey, k.depth ≤ n → nums k = true → nkey? (kD k) = some k) ∧ (∀ ks : List NestedKey, NestedKey.depthAll ks ≤ n → nums.numsAll ks = true → nkey?.keyL? (kD.kDL ks) = some ks) := by
    intro n
    have list : ∀ n : Nat, (∀ k : NestedKey, k.depth ≤ n → nums k = true → nkey? (kD k) = some k) → (∀ ks : List NestedKey, NestedKey.depthAll ks ≤ n → nums.numsAll ks = true → nkey?.keyL? (kD.kDL ks) = some ks) := fun n f ks => by
      induction ks with
      | nil => intro _ _; rfl
      | cons k ks ih =>
        intro d z
        simp only [NestedKey.depthAll] at d
        simp only [nums.numsAll, Bool.and_eq_true] at z
        simp only [kD.kDL, nkey?.keyL?, f k (by omega) z.1, ih (by omega) z.2]
    induction n with
    | zero =>
      have one : ∀ k : NestedKey, k.depth ≤ 0 → nums k = true → nkey? (kD k) = some k := fun k d z => by
        cases k with
        | num i => rfl
        | none => simp [nums] at z
        | text s => simp [nums] at z
        | tup ks => simp [NestedKey.depth] at d
      exact ⟨one, list 0 one⟩
    | succ n ih =>
      have one : ∀ k : NestedKey, k.depth ≤ n + 1 → nums k = true → nkey? (kD k) = some k := fun k d z => by
        cases k with
        | num i => rfl
        | none => simp [nums] at z
        | text s => simp [nums] at z
        | tup ks =>
          simp only [NestedKey.depth] at d
          simp only [nums] at z
          simp only [kD, nkey?]
          rw [ih.2 ks (by omega) z]; rfl
      exact ⟨one, list (n + 1) one⟩
  intro k z
  exact (this k.depth).1 k (Nat.le_refl _) z
theorem keyL_map (h : Enc K) : ∀ xs : List α, nkey?.keyL? (xs.map fun a => kD (K a)) = some (xs.map K)
  | [] => rfl
  | x :: xs => by simp only [List.map_cons, nkey?.keyL?, nkey_kD _ (h.good x).num, keyL_map h xs]
/-- sorted(set(xs)) -/
theorem sortN_map [Tri α] (h : Enc K) (ne : ∀ a, ∃ x l, K a = .tup (x :: l)) {xs : List α} (few : xs.length < 8000) (st : Store) : dSortN1 st (nkey?.keyL? (xs.map fun a => kD (K a))) = .ok (.nd .lst ((usort xs).map fun a => kD (K a))) st := by
  rw [keyL_map h, sortN_of h ne few]
end
end DY

/-! Terms of lines: plain Lean. -/
namespace Q
open PySem PySem.Spec L2 DY PySem.W
abbrev Pr := Int × Int
/-- offset, start, pairs -/
abbrev Tm := T3 Int Int (Tup Pr)
abbrev Tm.ps (t : Tm) : List Pr := t.c.items
abbrev tm (o s : Int) (ps : List Pr) : Tm := ⟨o, s, ⟨ps⟩⟩
def prD (p : Pr) : D := .nd .tup [.int p.1, .int p.2]
def prsD (ps : List Pr) : D := .nd .tup (ps.map prD)
def tmD (t : Tm) : D := .nd .tup [.int t.a, .int t.b, prsD t.ps]
def prK (p : Pr) : NestedKey := .tup [.num p.1, .num p.2]
def tmK (t : Tm) : NestedKey := .tup [.num t.a, .num t.b, .tup (t.ps.map prK)]
@[simp] theorem noH_pr (p : Pr) : noH (prD p) = true := rfl
@[simp] theorem noH_prs (ps : List Pr) : noH (prsD ps) = true := noHL_map noH_pr ps
@[simp] theorem noH_tm (t : Tm) : noH (tmD t) = true := by simp [tmD]
theorem tmK_D (t : Tm) : kD (tmK t) = tmD t := by
  show D.nd .tup [.int t.a, .int t.b, .nd .tup (kD.kDL (t.ps.map prK))] = _
  rw [kDL_map, List.map_map]; rfl
theorem prs_data (ps : List Pr) : NestedKey.datas (ps.map prK) = ps.map Datum.toD := by
  induction ps with
  | nil => rfl
  | cons p ps ih => rw [List.map_cons, NestedKey.datas, ih]; rfl
theorem prs_deep (ps : List Pr) : NestedKey.depthAll (ps.map prK) ≤ 1 ∧ KS.nums.numsAll (ps.map prK) = true := by
  induction ps with
  | nil => exact ⟨Nat.zero_le _, rfl⟩
  | cons p ps ih =>
    have e : (prK p).depth = 1 := rfl
    have n : KS.nums (prK p) = true := rfl
    exact ⟨by rw [List.map_cons, NestedKey.depthAll, e]; have := ih.1; omega, by rw [List.map_cons, KS.nums.numsAll, n, ih.2]; rfl⟩
theorem encP : Enc prK := ⟨fun p => rfl, fun p => ⟨⟨_, rfl⟩, by have e : (prK p).depth = 1 := rfl; omega, rfl⟩⟩
theorem encT : Enc tmK := ⟨fun t => by
    show PyData.tuple [.int t.a, .int t.b, .tuple (NestedKey.datas (t.ps.map prK))] = _
    rw [prs_data]; rfl, fun t => ⟨⟨_, rfl⟩, by
    have := (prs_deep t.ps).1
    simp only [tmK, NestedKey.depth, NestedKey.depthAll]; omega, by
    have := (prs_deep t.ps).2
    simp [tmK, KS.nums, KS.nums.numsAll, this]⟩⟩
/-! ### what the program makes -/
def joined (x y : Tm) : Tm := tm (x.a + y.a) (x.b + y.b) (usort (x.ps ++ y.ps))
def fresh (c : Int) (t : Tm) : List Pr := if t.b > 0 then [(t.a + c, t.b)] else []
def repeated (c : Int) (t : Tm) : Tm := tm t.a t.b (usort (t.ps ++ fresh c t))
def secStep (c : Int) (found : List Tm) (t : Tm) : List Tm := found ++ [repeated c t] ++ found.map fun o => joined (joined o (repeated c t)) (tm c 0 [])
def secRaw (c : Int) (ts : List Tm) : List Tm := ts.foldl (secStep c) []
def prod2 (xs ys : List Tm) : List Tm := xs.flatMap fun x => ys.map fun y => joined x y
def Part.terms : Part → List Tm
  | belt t => [tm 0 t []]
  | gap c t => [tm 0 0 (if t > 0 then [(c, t)] else [])]
  | hold c t => usort [tm 0 0 [], tm c t []]
  | sec c p => usort (secRaw c p.terms)
  | beh a b => usort (prod2 a.terms b.terms)
  | both a b => usort (a.terms ++ b.terms)
/-- a bound of how many terms there are -/
def Part.nb : Part → Nat
  | belt _ => 1
  | gap _ _ => 1
  | hold _ _ => 2
  | sec _ p => 2 ^ p.nb - 1
  | beh a b => a.nb * b.nb
  | both a b => a.nb + b.nb
/-- not too many -/
def Part.few : Part → Prop
  | sec _ p => p.few ∧ p.nb ≤ 6
  | beh a b => a.few ∧ b.few ∧ a.nb * b.nb ≤ 63
  | both a b => a.few ∧ b.few ∧ a.nb + b.nb ≤ 63
  | _ => True
theorem secRaw_len (c : Int) : ∀ (ts acc : List Tm), (ts.foldl (secStep c) acc).length + 1 = (acc.length + 1) * 2 ^ ts.length
  | [], acc => by simp
  | t :: ts, acc => by
    rw [List.foldl_cons, secRaw_len c ts]
    have : (secStep c acc t).length = 2 * acc.length + 1 := by simp [secStep]; omega
    rw [this, List.length_cons, Nat.pow_succ]
    rw [show 2 * acc.length + 1 + 1 = (acc.length + 1) * 2 by omega, Nat.mul_assoc, Nat.mul_comm 2]
theorem prod2_len (xs ys : List Tm) : (prod2 xs ys).length = xs.length * ys.length := by
  induction xs with
  | nil => simp [prod2]
  | cons x xs ih =>
    have : prod2 (x :: xs) ys = (ys.map fun y => joined x y) ++ prod2 xs ys := by simp [prod2]
    rw [this, List.length_append, ih, List.length_map, List.length_cons, Nat.succ_mul, Nat.add_comm]
theorem nb_pos : ∀ p : Part, 1 ≤ p.nb
  | .belt _ => Nat.le_refl _
  | .gap _ _ => Nat.le_refl _
  | .hold _ _ => by simp [Part.nb]
  | .sec _ p => by
    have := nb_pos p
    have h : 2 ^ 1 ≤ 2 ^ p.nb := Nat.pow_le_pow_right (by decide) this
    simp only [Part.nb]; omega
  | .beh a b => Nat.mul_pos (nb_pos a) (nb_pos b)
  | .both a b => by have := nb_pos a; simp only [Part.nb]; omega
theorem terms_len : ∀ p : Part, p.terms.length ≤ p.nb
  | .belt _ => Nat.le_refl _
  | .gap _ _ => Nat.le_refl _
  | .hold _ _ => by
    have := usort_len [tm 0 0 [], tm (by assumption) (by assumption) []]
    exact usort_len _
  | .sec c p => by
    have h1 := usort_len (secRaw c p.terms)
    have h2 := secRaw_len c p.terms []
    have h3 : 2 ^ p.terms.length ≤ 2 ^ p.nb := Nat.pow_le_pow_right (by decide) (terms_len p)
    simp only [List.length_nil, Nat.zero_add, Nat.one_mul] at h2
    simp only [Part.terms, Part.nb]
    unfold secRaw at h1 ⊢
    omega
  | .beh a b => by
    have h1 := usort_len (prod2 a.terms b.terms)
    rw [prod2_len] at h1
    exact Nat.le_trans h1 (Nat.mul_le_mul (terms_len a) (terms_len b))
  | .both a b => by
    have h1 := usort_len (a.terms ++ b.terms)
    rw [List.length_append] at h1
    exact Nat.le_trans h1 (Nat.add_le_add (terms_len a) (terms_len b))
/-! ### pairs -/
theorem sec_inv {c : Int} {P : Nat → Tm → Prop} : ∀ {ts acc : List Tm} {k : Nat}, (∀ k t, t ∈ ts → P (k + 1) (repeated c t)) → (∀ k o t, P k o → t ∈ ts → P (k + 1) (joined (joined o (repeated c t)) (tm c 0 []))) → (∀ k o, P k o → P (k + 1) o) →
    (∀ x ∈ acc, P k x) → ∀ x ∈ ts.foldl (secStep c) acc, P (k + ts.length) x
  | [], acc, k, _, _, _, h, x, hx => h x hx
  | t :: ts, acc, k, h1, h2, h3, h, x, hx => by
    have := sec_inv (ts := ts) (acc := secStep c acc t) (k := k + 1) (fun k s m => h1 k s (List.mem_cons_of_mem _ m)) (fun k o s p m => h2 k o s p (List.mem_cons_of_mem _ m)) h3 (fun y hy => by
      unfold secStep at hy
      simp only [List.mem_append, List.mem_singleton, List.mem_map] at hy
      rcases hy with (hy | rfl) | ⟨o, ho, rfl⟩
      · exact h3 k y (h y hy)
      · exact h1 k t List.mem_cons_self
      · exact h2 k o t (h o ho) List.mem_cons_self) x hx
    rw [List.length_cons, show k + (ts.length + 1) = k + 1 + ts.length by omega]
    exact this
/-- all pairs that may stand in terms -/
def Part.pool : Part → List Pr
  | gap c t => [(c, t)]
  | sec c p => p.pool ++ p.terms.map fun t => (t.a + c, t.b)
  | beh a b => a.pool ++ b.pool
  | both a b => a.pool ++ b.pool
  | _ => []
def Part.pb : Part → Nat
  | gap _ _ => 1
  | sec _ p => p.pb + p.nb
  | beh a b => a.pb + b.pb
  | both a b => a.pb + b.pb
  | _ => 0
theorem pool_len : ∀ p : Part, p.pool.length ≤ p.pb
  | .belt _ => Nat.le_refl _
  | .gap _ _ => Nat.le_refl _
  | .hold _ _ => Nat.le_refl _
  | .sec c p => by
    have := pool_len p
    have := terms_len p
    simp [Part.pool, Part.pb]; omega
  | .beh a b => by
    have := pool_len a
    have := pool_len b
    simp [Part.pool, Part.pb]; omega
  | .both a b => by
    have := pool_len a
    have := pool_len b
    simp [Part.pool, Part.pb]; omega
/-- pairs ascending, of a pool -/
def InP (L : List Pr) (t : Tm) : Prop := t.ps.Pairwise ltA ∧ ∀ p ∈ t.ps, p ∈ L
theorem InP.len {L : List Pr} {t : Tm} (h : InP L t) : t.ps.length ≤ L.length := nodup_sub_len (up_nodup h.1) h.2
theorem InP.joined {L : List Pr} {x y : Tm} (hx : InP L x) (hy : InP L y) : InP L (joined x y) := ⟨usort_up _, fun p m => by
  rcases List.mem_append.mp (usort_mem.mp m) with m | m
  · exact hx.2 p m
  · exact hy.2 p m⟩
theorem inP_nil (L : List Pr) (o s : Int) : InP L (tm o s []) := ⟨List.Pairwise.nil, fun p m => by simp [Tm.ps] at m⟩
theorem InP.mono {L M : List Pr} {t : Tm} (h : InP L t) (s : ∀ p ∈ L, p ∈ M) : InP M t := ⟨h.1, fun p m => s p (h.2 p m)⟩
theorem inP_repeated {p : Part} {c : Int} {t : Tm} (m : t ∈ p.terms) (h : InP p.pool t) : InP (Part.sec c p).pool (repeated c t) := ⟨usort_up _, fun q hq => by
  rcases List.mem_append.mp (usort_mem.mp hq) with z | z
  · exact List.mem_append_left _ (h.2 q z)
  · unfold fresh at z
    split at z
    · rw [List.mem_singleton.mp z]
      exact List.mem_append_right _ (List.mem_map.mpr ⟨t, m, rfl⟩)
    · simp at z⟩
theorem sec_inP {p : Part} {c : Int} (h : ∀ t ∈ p.terms, InP p.pool t) : ∀ x ∈ secRaw c p.terms, InP (Part.sec c p).pool x := fun x hx =>
  sec_inv (P := fun _ x => InP (Part.sec c p).pool x) (k := 0) (acc := []) (fun k t m => inP_repeated m (h t m)) (fun k o t ho m => (ho.joined (inP_repeated m (h t m))).joined (inP_nil _ _ _)) (fun _ _ h => h) (fun y hy => by simp at hy) x hx
theorem terms_inP : ∀ (p : Part), ∀ t ∈ p.terms, InP p.pool t
  | .belt s, t, m => by
    rw [List.mem_singleton.mp m]; exact inP_nil _ _ _
  | .gap c s, t, m => by
    rw [List.mem_singleton.mp m]
    by_cases h : s > 0
    · rw [if_pos h]
      exact ⟨List.pairwise_singleton _ _, fun p m => m⟩
    · rw [if_neg h]; exact inP_nil _ _ _
  | .hold c s, t, m => by
    have := usort_mem.mp m
    simp at this
    rcases this with rfl | rfl <;> exact inP_nil _ _ _
  | .sec c p, t, m => sec_inP (terms_inP p) t (usort_mem.mp m)
  | .beh a b, t, m => by
    have := usort_mem.mp m
    simp only [prod2, List.mem_flatMap, List.mem_map] at this
    obtain ⟨x, hx, y, hy, rfl⟩ := this
    exact ((terms_inP a x hx).mono fun p m => List.mem_append_left _ m).joined ((terms_inP b y hy).mono fun p m => List.mem_append_right _ m)
  | .both a b, t, m => by
    rcases List.mem_append.mp (usort_mem.mp m) with m | m
    · exact (terms_inP a t m).mono fun p m => List.mem_append_left _ m
    · exact (terms_inP b t m).mono fun p m => List.mem_append_right _ m
theorem few_nb {p : Part} : p.few → p.nb ≤ 63 := by
  cases p with
  | sec c p =>
    intro h
    have : 2 ^ p.nb ≤ 2 ^ 6 := Nat.pow_le_pow_right (by decide) h.2
    simp only [Part.nb]; omega
  | beh a b => exact fun h => h.2.2
  | both a b => exact fun h => h.2.2
  | belt _ => exact fun _ => by simp [Part.nb]
  | gap _ _ => exact fun _ => by simp [Part.nb]
  | hold _ _ => exact fun _ => by simp [Part.nb]
theorem pb_small : ∀ {p : Part}, p.few → p.nb ≤ 6 → p.pb ≤ 2 * p.size
  | .belt _, _, _ => by simp [Part.pb]
  | .gap _ _, _, _ => by simp [Part.pb, Part.size]
  | .hold _ _, _, _ => by simp [Part.pb]
  | .sec c p, h, n => by
    have := pb_small h.1 h.2
    have h2 : p.nb ≤ 2 := by
      rcases Nat.lt_or_ge p.nb 3 with z | z
      · omega
      · have : 2 ^ 3 ≤ 2 ^ p.nb := Nat.pow_le_pow_right (by decide) z
        simp only [Part.nb] at n; omega
    simp only [Part.pb, Part.size]; omega
  | .beh a b, h, n => by
    have h1 := nb_pos a
    have h2 := nb_pos b
    simp only [Part.nb] at n
    have n1 : a.nb ≤ 6 := by
      have := Nat.mul_le_mul (Nat.le_refl a.nb) h2; omega
    have n2 : b.nb ≤ 6 := by
      have := Nat.mul_le_mul h1 (Nat.le_refl b.nb); omega
    have := pb_small h.1 n1
    have := pb_small h.2.1 n2
    simp only [Part.pb, Part.size]; omega
  | .both a b, h, n => by
    simp only [Part.nb] at n
    have := pb_small h.1 (by omega)
    have := pb_small h.2.1 (by omega)
    simp only [Part.pb, Part.size]; omega
theorem pb_le : ∀ {p : Part}, p.few → p.pb ≤ 4 * p.size
  | .belt _, _ => by simp [Part.pb]
  | .gap _ _, _ => by simp [Part.pb, Part.size]
  | .hold _ _, _ => by simp [Part.pb]
  | .sec c p, h => by
    have := pb_small h.1 h.2
    have := h.2
    have := p.size_pos
    simp only [Part.pb, Part.size]; omega
  | .beh a b, h => by
    have := pb_le h.1
    have := pb_le h.2.1
    simp only [Part.pb, Part.size]; omega
  | .both a b, h => by
    have := pb_le h.1
    have := pb_le h.2.1
    simp only [Part.pb, Part.size]; omega
end Q


/-! Terms, as the program makes them. -/
namespace Q
open PySem PySem.Spec L2 DY PySem.W
theorem ne_pr : ∀ a : Pr, ∃ x l, prK a = .tup (x :: l) := fun a => ⟨_, _, rfl⟩
theorem ne_tm : ∀ a : Tm, ∃ x l, tmK a = .tup (x :: l) := fun a => ⟨_, _, rfl⟩
theorem sort_prs {ps : List Pr} (h : ps.length < 8000) (st : Store) : dSortN1 st (nkey?.keyL? (ps.map prD)) = .ok (.nd .lst ((usort ps).map prD)) st := sortN_map encP ne_pr h st
theorem sort_tms {ts : List Tm} (h : ts.length < 8000) (st : Store) : dSortN1 st (nkey?.keyL? (ts.map tmD)) = .ok (.nd .lst ((usort ts).map tmD)) st := by
  have e : ts.map tmD = ts.map fun t => kD (tmK t) := by simp [tmK_D]
  have e2 : (usort ts).map tmD = (usort ts).map fun t => kD (tmK t) := by simp [tmK_D]
  rw [e, e2]
  exact sortN_map encT ne_tm h st
theorem sorted_pairs_ok (n : Nat) {ps : List Pr} (h : ps.length < 8000) (st : Store) : sem (n + 1) f_sorted_pairs [prsD ps] st = .ok (prsD (usort ps)) st := by
  rw [S_sorted_pairs]
  simp [b_sorted_pairs, prsD, sort_prs h]
theorem joined_ok (n : Nat) {x y : Tm} (h : x.ps.length + y.ps.length < 8000) (st : Store) : sem (n + 2) f_joined [tmD x, tmD y] st = .ok (tmD (joined x y)) st := by
  have e := sorted_pairs_ok n (ps := x.ps ++ y.ps) (by simpa using h) st
  simp only [prsD, List.map_append] at e
  have l : x.ps.length + y.ps.length ≤ 16777216 := by omega
  rw [S_joined]
  simp [b_joined, tmD, prsD, l, e, joined]
end Q

/-! What pairs make: plain Lean. -/
namespace Q
open PySem PySem.Spec L2 DY PySem.W
def bestStep (b p : Pr) : Pr := if b.2 * p.1 < p.2 * b.1 ∨ (p.2 * b.1 = b.2 * p.1 ∧ p.1 < b.1) then p else b
/-- the pair with the greatest fraction, the least count of such -/
def best (ps : List Pr) : Pr := ps.foldl bestStep (1, 0)
def mxC (ps : List Pr) : Int := mxL (ps.map (·.1) ++ [1])
def boundOf (ps : List Pr) : Int := ((best ps).1 - 1) * mxC ps
def nextM (ps : List Pr) (l : List Int) (k : Nat) : Int := mxL (l.getD (k - 1) 0 :: (ps.filter fun p => decide (p.1 ≤ (k : Int))).map fun p => l.getD (k - p.1.toNat) 0 + p.2)
/-- what is made of the numbers up to n -/
def tableN (ps : List Pr) : Nat → List Int
  | 0 => [0]
  | n + 1 => tableN ps n ++ [nextM ps (tableN ps n) (n + 1)]
@[simp] theorem tableN_len (ps : List Pr) : ∀ n, (tableN ps n).length = n + 1
  | 0 => rfl
  | n + 1 => by simp [tableN, tableN_len ps n]
def made (ps : List Pr) (k : Nat) : Int := (tableN ps k).getD k 0
/-- the table of a size -/
def table (ps : List Pr) (n : Nat) : List Int := (List.range n).map (made ps)
theorem best_mem (ps : List Pr) : best ps = (1, 0) ∨ best ps ∈ ps := by
  have : ∀ (l : List Pr) (b : Pr), (l.foldl bestStep b = b) ∨ l.foldl bestStep b ∈ l := by
    intro l
    induction l with
    | nil => exact fun b => .inl rfl
    | cons p l ih =>
      intro b
      rw [List.foldl_cons]
      rcases ih (bestStep b p) with h | h
      · rw [h]
        unfold bestStep
        split
        · exact .inr List.mem_cons_self
        · exact .inl rfl
      · exact .inr (List.mem_cons_of_mem _ h)
  exact this ps (1, 0)
end Q

/-! Terms compared: plain Lean. -/
namespace Q
open PySem PySem.Spec L2 DY PySem.W
/-- a term within bounds -/
structure TmOk (t : Tm) : Prop where
  off : 0 ≤ t.a ∧ t.a ≤ 1000000
  prs : ∀ p ∈ t.ps, (1 ≤ p.1 ∧ p.1 ≤ 12) ∧ 0 ≤ p.2 ∧ p.2 < 4611686018427387904
  len : t.ps.length ≤ 100
theorem TmOk.best {t : Tm} (h : TmOk t) : (1 ≤ (best t.ps).1 ∧ (best t.ps).1 ≤ 12) ∧ 0 ≤ (best t.ps).2 ∧ (best t.ps).2 < 4611686018427387904 := by
  rcases best_mem t.ps with e | e
  · rw [e]; decide
  · exact h.prs _ e
structure TsOk (ts : List Tm) : Prop where
  tm : ∀ t ∈ ts, TmOk t
  len : ts.length ≤ 200
  zero : ∃ t ∈ ts, t.a = 0
theorem TsOk.ne {ts : List Tm} (h : TsOk ts) : ts ≠ [] := by
  obtain ⟨t, m, _⟩ := h.zero
  exact List.ne_nil_of_mem m
theorem TsOk.app {ts us : List Tm} (h : TsOk ts) (g : TsOk us) (l : ts.length + us.length ≤ 200) : TsOk (ts ++ us) := ⟨fun t m => by
  rcases List.mem_append.mp m with m | m
  · exact h.tm t m
  · exact g.tm t m, by simpa using l, let ⟨t, m, e⟩ := h.zero; ⟨t, List.mem_append_left _ m, e⟩⟩
/-- the least common multiple -/
def lcmL (ns : List Int) : Nat := ns.foldl (fun a n => Nat.lcm a n.toNat) 1
def periodN (ts : List Tm) : Nat := lcmL (ts.map fun t => (best t.ps).1)
/-- from here all go on in even steps -/
def evenN (ts : List Tm) : Int := mxL (ts.map fun t => t.a + boundOf t.ps)
/-- the value of a term -/
def val (t : Tm) (m : Nat) : Option Int := if (m : Int) < t.a then none else some (t.b + made t.ps (m - t.a.toNat))
/-- the greatest value -/
def fv (ts : List Tm) (m : Nat) : Int := mxL (ts.filterMap fun t => val t m)
def riseIn (t : Tm) (period : Nat) : Int := (period : Int) / (best t.ps).1 * (best t.ps).2
/-- one more bound -/
def mst (z : Int) : Option Int → Option Int
  | none => some z
  | some q => some (min q z)
@[simp] theorem mst_none (z : Int) : mst z none = some z := rfl
@[simp] theorem mst_some (z q : Int) : mst z (some q) = some (min q z) := rfl
/-- rows gone through: the least number of turns, the most -/
def turnsGo (v r : Int) : List (Int × Int) → Int → Option Int → Option Int
  | [], least, none => some least
  | [], least, some q => if least ≤ q then some least else none
  | (w, s) :: rows, least, most =>
    if r - s ≤ 0 ∧ v - w ≤ 0 then none
    else turnsGo v r rows (if 0 < r - s ∧ v - w ≤ 0 then max least (-(v - w) / (r - s) + 1) else least)
      (if r - s < 0 then mst ((v - w - 1) / -(r - s)) most else most)
def turns (row : Int × Int) (rows : List (Int × Int)) : Option Int := turnsGo row.1 row.2 rows 0 none
/-- rows whose values are there -/
def rowsV (ts : List Tm) (period m : Nat) : List (Int × Int) := ts.map fun t => ((val t m).getD 0, riseIn t period)
/-- the numbers far out at which terms are first above others -/
def farN (ts us : List Tm) (bound period : Nat) : List Int :=
  (List.range period).flatMap fun k => (rowsV ts period (bound + k)).filterMap fun row => (turns row (rowsV us period (bound + k))).map fun q => ((bound + k : Nat) : Int) + q * period
def mnO (l : List Int) : Option Int := if l = [] then none else some (mnL l)
/-- the least number at which some terms have a greater value than others -/
def firstAbove (ts us : List Tm) (bound period : Nat) : Option Int :=
  match (List.range (bound + period)).find? fun m => decide (fv us m < fv ts m) with
  | some m => some (m : Int)
  | none => mnO (farN ts us bound period)
def compared (p q : Part) : Option Int := firstAbove p.terms q.terms (evenN (p.terms ++ q.terms)).toNat (periodN (p.terms ++ q.terms))
def later (p q : Part) : Option Int := (compared p q).map (· + 1)
end Q

/-! Lines with few terms: plain Lean. -/
namespace Q
open PySem PySem.Spec L2 DY PySem.W
/-- bounds of offsets, of counts, of starts -/
def Part.ob : Part → Int
  | hold c _ => c
  | sec c p => p.nb * p.ob + c * (p.nb - 1)
  | beh a b => a.ob + b.ob
  | both a b => max a.ob b.ob
  | _ => 0
def Part.wb : Part → Int
  | gap c _ => c
  | sec c p => max p.wb (p.ob + c)
  | beh a b => max a.wb b.wb
  | both a b => max a.wb b.wb
  | _ => 1
def Part.sb : Part → Int
  | belt t => t
  | gap _ t => t
  | hold _ t => t
  | sec _ p => p.nb * p.sb
  | beh a b => a.sb + b.sb
  | both a b => max a.sb b.sb
theorem ob_pos : ∀ {p : Part}, p.ok 12 → 0 ≤ p.ob
  | .belt _, _ => Int.le_refl _
  | .gap _ _, _ => Int.le_refl _
  | .hold c _, h => by have := h.1; show 0 ≤ c; omega
  | .sec c p, h => by
    have h1 := Int.mul_nonneg (show (0 : Int) ≤ p.nb by omega) (ob_pos h.2)
    have h2 := nb_pos p
    have h3 := Int.mul_nonneg (show (0 : Int) ≤ c by have := h.1; omega) (show (0 : Int) ≤ (p.nb : Int) - 1 by omega)
    simp only [Part.ob]; omega
  | .beh a b, h => Int.add_nonneg (ob_pos h.1) (ob_pos h.2)
  | .both a b, h => by have := ob_pos h.1; simp only [Part.ob]; omega
theorem sb_pos : ∀ {p : Part}, p.ok 12 → 0 ≤ p.sb
  | .belt _, h => h.1
  | .gap _ _, h => h.2.1
  | .hold c _, h => h.2.1
  | .sec c p, h => Int.mul_nonneg (by omega) (sb_pos h.2)
  | .beh a b, h => Int.add_nonneg (sb_pos h.1) (sb_pos h.2)
  | .both a b, h => by have := sb_pos h.1; simp only [Part.sb]; omega
theorem wb_pos : ∀ {p : Part}, p.ok 12 → 1 ≤ p.wb
  | .belt _, _ => Int.le_refl _
  | .gap _ _, h => h.1.1
  | .hold c _, h => Int.le_refl _
  | .sec c p, h => by have := wb_pos h.2; simp only [Part.wb]; omega
  | .beh a b, h => by have := wb_pos h.1; simp only [Part.wb]; omega
  | .both a b, h => by have := wb_pos h.1; simp only [Part.wb]; omega
/-- within bounds -/
structure Within (o w s : Int) (t : Tm) : Prop where
  off : 0 ≤ t.a ∧ t.a ≤ o
  start : 0 ≤ t.b ∧ t.b ≤ s
  prs : ∀ p ∈ t.ps, (1 ≤ p.1 ∧ p.1 ≤ w) ∧ 1 ≤ p.2 ∧ p.2 ≤ s
theorem Within.mono {o w s o' w' s' : Int} {t : Tm} (h : Within o w s t) (h1 : o ≤ o') (h2 : w ≤ w') (h3 : s ≤ s') : Within o' w' s' t :=
  ⟨by have := h.off; omega, by have := h.start; omega, fun p m => by have := h.prs p m; omega⟩
theorem Within.joined {o w s o' s' : Int} {x y : Tm} (hx : Within o w s x) (hy : Within o' w s' y) (hs : 0 ≤ s) (hs' : 0 ≤ s') : Within (o + o') w (s + s') (joined x y) := by
  have a1 := hx.off
  have a2 := hy.off
  have b1 := hx.start
  have b2 := hy.start
  refine ⟨⟨by show 0 ≤ x.a + y.a; omega, by show x.a + y.a ≤ _; omega⟩, ⟨by show 0 ≤ x.b + y.b; omega, by show x.b + y.b ≤ _; omega⟩, fun p m => ?_⟩
  rcases List.mem_append.mp (usort_mem.mp m) with m | m
  · have := hx.prs p m; omega
  · have := hy.prs p m; omega
theorem within_repeated {o w s c : Int} {t : Tm} (h : Within o w s t) (hc : 1 ≤ c) (hw : o + c ≤ w) : Within o w s (repeated c t) := by
  refine ⟨h.off, h.start, fun p m => ?_⟩
  rcases List.mem_append.mp (usort_mem.mp m) with m | m
  · exact h.prs p m
  · unfold fresh at m
    split at m
    · rename_i hb
      rw [List.mem_singleton.mp m]
      have := h.off
      have := h.start
      exact ⟨⟨by show 1 ≤ t.a + c; omega, by show t.a + c ≤ w; omega⟩, by show 1 ≤ t.b; omega, by show t.b ≤ s; omega⟩
    · simp at m
theorem sec_within {ts : List Tm} {o w s c : Int} (h : ∀ t ∈ ts, Within o w s t) (hc : 1 ≤ c) (hw : o + c ≤ w) (hs : 0 ≤ s) (ho : 0 ≤ o) (hw1 : 1 ≤ w) : ∀ x ∈ secRaw c ts, Within (ts.length * o + c * (ts.length - 1)) w (ts.length * s) x := by
  intro x hx
  have := sec_inv (c := c) (P := fun k x => Within (k * o + c * (k - 1)) w (k * s) x ∧ 1 ≤ k) (ts := ts) (acc := []) (k := 0) (fun k t m => ?_) (fun k x t hx m => ?_) (fun k x hx => ?_) (fun y hy => by simp at hy) x hx
  · simpa using this.1
  · refine ⟨(within_repeated (h t m) hc hw).mono ?_ (Int.le_refl _) ?_, by omega⟩
    · have h1 := Int.mul_nonneg (show (0 : Int) ≤ k by omega) ho
      have h2 := Int.mul_nonneg (show (0 : Int) ≤ c by omega) (show (0 : Int) ≤ k by omega)
      have e1 : ((k + 1 : Nat) : Int) * o = k * o + o := by rw [Int.natCast_add, Int.add_mul]; simp
      have e2 : c * (((k + 1 : Nat) : Int) - 1) = c * k := by congr 1; omega
      rw [e1, e2]; omega
    · have h1 := Int.mul_nonneg (show (0 : Int) ≤ k by omega) hs
      have e1 : ((k + 1 : Nat) : Int) * s = k * s + s := by rw [Int.natCast_add, Int.add_mul]; simp
      rw [e1]; omega
  · have j := (hx.1.joined (within_repeated (h t m) hc hw) (Int.mul_nonneg (by omega) hs) hs).joined (y := tm c 0 []) (o' := c) (s' := 0) ⟨⟨by show 0 ≤ c; omega, Int.le_refl _⟩, ⟨Int.le_refl _, Int.le_refl _⟩, fun p m => by simp [Tm.ps] at m⟩ (Int.add_nonneg (Int.mul_nonneg (by omega) hs) hs) (Int.le_refl _)
    refine ⟨j.mono ?_ (Int.le_refl _) ?_, by omega⟩
    · have e1 : ((k + 1 : Nat) : Int) * o = k * o + o := by rw [Int.natCast_add, Int.add_mul]; simp
      have e2 : c * (((k + 1 : Nat) : Int) - 1) = c * ((k : Int) - 1) + c := by
        rw [show ((k + 1 : Nat) : Int) - 1 = ((k : Int) - 1) + 1 by omega, Int.mul_add]; simp
      rw [e1, e2]; omega
    · have e1 : ((k + 1 : Nat) : Int) * s = k * s + s := by rw [Int.natCast_add, Int.add_mul]; simp
      rw [e1]; omega
  · refine ⟨hx.1.mono ?_ (Int.le_refl _) ?_, by omega⟩
    · have e1 : ((k + 1 : Nat) : Int) * o = k * o + o := by rw [Int.natCast_add, Int.add_mul]; simp
      have e2 : c * (((k + 1 : Nat) : Int) - 1) = c * ((k : Int) - 1) + c := by
        rw [show ((k + 1 : Nat) : Int) - 1 = ((k : Int) - 1) + 1 by omega, Int.mul_add]; simp
      rw [e1, e2]; omega
    · have e1 : ((k + 1 : Nat) : Int) * s = k * s + s := by rw [Int.natCast_add, Int.add_mul]; simp
      rw [e1]; omega
theorem terms_within : ∀ {p : Part}, p.ok 12 → ∀ t ∈ p.terms, Within p.ob p.wb p.sb t
  | .belt s, h, t, m => by
    rw [List.mem_singleton.mp m]
    exact ⟨⟨Int.le_refl _, Int.le_refl _⟩, ⟨h.1, Int.le_refl _⟩, fun p m => by simp [Tm.ps] at m⟩
  | .gap c s, h, t, m => by
    rw [List.mem_singleton.mp m]
    refine ⟨⟨Int.le_refl _, Int.le_refl _⟩, ⟨Int.le_refl _, h.2.1⟩, fun p m => ?_⟩
    have m' : p ∈ (if s > 0 then [(c, s)] else [] : List Pr) := m
    split at m'
    · rename_i hs
      rw [List.mem_singleton.mp m']
      exact ⟨⟨h.1.1, Int.le_refl _⟩, hs, Int.le_refl _⟩
    · simp at m'
  | .hold c s, h, t, m => by
    have := usort_mem.mp m
    simp at this
    rcases this with rfl | rfl
    · exact ⟨⟨Int.le_refl _, by show 0 ≤ c; have := h.1; omega⟩, ⟨Int.le_refl _, h.2.1⟩, fun p m => by simp [Tm.ps] at m⟩
    · exact ⟨⟨by show 0 ≤ c; have := h.1; omega, Int.le_refl _⟩, ⟨h.2.1, Int.le_refl _⟩, fun p m => by simp [Tm.ps] at m⟩
  | .sec c p, h, t, m => by
    have ih := fun t m => (terms_within h.2 t m).mono (o' := p.ob) (w' := (Part.sec c p).wb) (s' := p.sb) (Int.le_refl _) (by simp only [Part.wb]; omega) (Int.le_refl _)
    have o := ob_pos h.2
    have s := sb_pos h.2
    have hc := h.1
    have l : (p.terms.length : Int) ≤ p.nb := by have := terms_len p; omega
    have hw := wb_pos h
    refine (sec_within ih hc.1 (by simp only [Part.wb]; omega) s o hw t (usort_mem.mp m)).mono ?_ (Int.le_refl _) ?_
    · have h1 := Int.mul_le_mul_of_nonneg_right l o
      have h2 := Int.mul_le_mul_of_nonneg_left (show (p.terms.length : Int) - 1 ≤ p.nb - 1 by omega) (show 0 ≤ c by omega)
      simp only [Part.ob]; omega
    · exact Int.mul_le_mul_of_nonneg_right l s
  | .beh a b, h, t, m => by
    have := usort_mem.mp m
    simp only [prod2, List.mem_flatMap, List.mem_map] at this
    obtain ⟨x, hx, y, hy, rfl⟩ := this
    exact ((terms_within h.1 x hx).mono (Int.le_refl _) (show a.wb ≤ (Part.beh a b).wb by simp only [Part.wb]; omega) (Int.le_refl _)).joined ((terms_within h.2 y hy).mono (Int.le_refl _) (by simp only [Part.wb]; omega) (Int.le_refl _)) (sb_pos h.1) (sb_pos h.2)
  | .both a b, h, t, m => by
    rcases List.mem_append.mp (usort_mem.mp m) with m | m
    · exact (terms_within h.1 t m).mono (by simp only [Part.ob]; omega) (by simp only [Part.wb]; omega) (by simp only [Part.sb]; omega)
    · exact (terms_within h.2 t m).mono (by simp only [Part.ob]; omega) (by simp only [Part.wb]; omega) (by simp only [Part.sb]; omega)
/-- few terms, with small counts -/
structure Tame (p : Part) : Prop where
  ok : p.ok 12
  few : p.few
  wide : p.wb ≤ 12
  size : p.size ≤ 12
theorem six (n : Nat) : (6 : Int) ^ n = ((6 ^ n : Nat) : Int) := by rw [Int.natCast_pow]; rfl
theorem six_pos (n : Nat) : (1 : Int) ≤ 6 ^ n := by
  rw [six]
  have : 0 < 6 ^ n := Nat.pow_pos (by decide)
  omega
theorem six_le {n m : Nat} (h : n ≤ m) : (6 : Int) ^ n ≤ 6 ^ m := by
  rw [six, six]
  have : 6 ^ n ≤ 6 ^ m := Nat.pow_le_pow_right (by decide) h
  omega
theorem sb_le : ∀ {p : Part}, p.ok 12 → p.few → p.sb ≤ 1000000000 * (6 : Int) ^ p.size
  | .belt _, h, _ => by have := h.2; simp only [Part.sb, Part.size]; omega
  | .gap _ _, h, _ => by have := h.2.2; simp only [Part.sb, Part.size]; omega
  | .hold _ _, h, _ => by have := h.2.2; simp only [Part.sb, Part.size]; omega
  | .sec c p, h, f => by
    have i := sb_le h.2 f.1
    have s := sb_pos h.2
    have n := f.2
    have m := Int.mul_le_mul_of_nonneg_right (show (p.nb : Int) ≤ 6 by omega) s
    have e : (6 : Int) ^ (p.size + 1) = 6 ^ p.size * 6 := Int.pow_succ _ _
    simp only [Part.sb, Part.size]
    rw [e]; omega
  | .beh a b, h, f => by
    have i := sb_le h.1 f.1
    have j := sb_le h.2 f.2.1
    have p1 : (1 : Int) ≤ 6 ^ a.size := six_pos _
    have p2 : (1 : Int) ≤ 6 ^ b.size := six_pos _
    have e : (6 : Int) ^ (a.size + b.size + 1) = 6 ^ a.size * 6 ^ b.size * 6 := by rw [Int.pow_succ, Int.pow_add]
    have q1 := Int.mul_le_mul_of_nonneg_left p2 (show (0 : Int) ≤ 6 ^ a.size by omega)
    have q2 := Int.mul_le_mul_of_nonneg_right p1 (show (0 : Int) ≤ 6 ^ b.size by omega)
    simp only [Part.sb, Part.size]
    rw [e]; omega
  | .both a b, h, f => by
    have i := sb_le h.1 f.1
    have j := sb_le h.2 f.2.1
    have p1 : (1 : Int) ≤ 6 ^ a.size := six_pos _
    have p2 : (1 : Int) ≤ 6 ^ b.size := six_pos _
    have e : (6 : Int) ^ (a.size + b.size + 1) = 6 ^ a.size * 6 ^ b.size * 6 := by rw [Int.pow_succ, Int.pow_add]
    have q1 := Int.mul_le_mul_of_nonneg_left p2 (show (0 : Int) ≤ 6 ^ a.size by omega)
    have q2 := Int.mul_le_mul_of_nonneg_right p1 (show (0 : Int) ≤ 6 ^ b.size by omega)
    simp only [Part.sb, Part.size]
    rw [e]; omega
theorem ob_le : ∀ {p : Part}, p.ok 12 → p.few → p.wb ≤ 12 → p.ob ≤ 200 * p.size
  | .belt _, h, _, _ => by simp [Part.ob, Part.size]
  | .gap _ _, h, _, _ => by simp [Part.ob, Part.size]
  | .hold _ _, h, _, _ => by have := h.1; simp only [Part.ob, Part.size]; omega
  | .sec c p, h, f, w => by
    have o := ob_pos h.2
    have n := f.2
    have hc := h.1
    simp only [Part.wb] at w
    have m1 := Int.mul_le_mul (show (p.nb : Int) ≤ 6 by omega) (show p.ob ≤ 11 by omega) o (by decide)
    have m2 := Int.mul_le_mul (show c ≤ 12 by omega) (show (p.nb : Int) - 1 ≤ 5 by omega) (by have := nb_pos p; omega) (by decide)
    simp only [Part.ob, Part.size]; omega
  | .beh a b, h, f, w => by
    simp only [Part.wb] at w
    have := ob_le h.1 f.1 (by omega)
    have := ob_le h.2 f.2.1 (by omega)
    simp only [Part.ob, Part.size]; omega
  | .both a b, h, f, w => by
    simp only [Part.wb] at w
    have := ob_le h.1 f.1 (by omega)
    have := ob_le h.2 f.2.1 (by omega)
    simp only [Part.ob, Part.size]; omega
theorem terms_zero : ∀ p : Part, ∃ t ∈ p.terms, t.a = 0
  | .belt s => ⟨_, List.mem_singleton.mpr rfl, rfl⟩
  | .gap c s => ⟨_, List.mem_singleton.mpr rfl, rfl⟩
  | .hold c s => ⟨tm 0 0 [], usort_mem.mpr (by simp), rfl⟩
  | .sec c p => by
    obtain ⟨t, m, e⟩ := terms_zero p
    refine ⟨repeated c t, usort_mem.mpr ?_, e⟩
    have go : ∀ (ts acc : List Tm), (repeated c t ∈ acc ∨ t ∈ ts) → repeated c t ∈ ts.foldl (secStep c) acc := fun ts => by
      induction ts with
      | nil => intro acc h; simpa using h
      | cons s ts ih =>
        intro acc h
        rw [List.foldl_cons]
        apply ih
        rcases h with h | h
        · exact .inl (by simp [secStep, h])
        · rcases List.mem_cons.mp h with rfl | h
          · exact .inl (by simp [secStep])
          · exact .inr h
    exact go _ _ (.inr m)
  | .beh a b => by
    obtain ⟨x, hx, ex⟩ := terms_zero a
    obtain ⟨y, hy, ey⟩ := terms_zero b
    refine ⟨joined x y, usort_mem.mpr ?_, by show x.a + y.a = 0; omega⟩
    simp only [prod2, List.mem_flatMap, List.mem_map]
    exact ⟨x, hx, y, hy, rfl⟩
  | .both a b => by
    obtain ⟨x, hx, ex⟩ := terms_zero a
    exact ⟨x, usort_mem.mpr (List.mem_append_left _ hx), ex⟩
theorem Tame.ts {p : Part} (h : Tame p) : TsOk p.terms := by
  refine ⟨fun t m => ?_, ?_, terms_zero p⟩
  · have w := terms_within h.ok t m
    have o := ob_le h.ok h.few h.wide
    have s := sb_le h.ok h.few
    have hz := h.size
    have hw := h.wide
    have e : (6 : Int) ^ p.size ≤ 6 ^ 12 := six_le hz
    have e2 : (6 : Int) ^ 12 = 2176782336 := by decide
    have l := (terms_inP p t m).len
    have pb := pb_le h.few
    have pl := pool_len p
    refine ⟨by have := w.off; omega, fun q hq => ?_, by omega⟩
    have := w.prs q hq
    omega
  · have := terms_len p
    have := few_nb h.few
    omega
end Q

/-! k10: terms of lines that may have too many: plain Lean. -/
namespace Q
open PySem PySem.Spec L2 DY PySem.W
/-- not too many terms anywhere -/
def okT : Part → Bool
  | .sec _ p => okT p && decide (p.terms.length ≤ 6)
  | .beh a b => okT a && okT b && decide ((Part.beh a b).terms.length ≤ 100)
  | .both a b => okT a && okT b && decide ((Part.both a b).terms.length ≤ 100)
  | _ => true
def cap (s : Nat) : Nat := if s = 1 then 2 else if s = 2 then 3 else if s = 3 then 7 else if s ≤ 5 then 63 else 100
theorem cap_le (s : Nat) : cap s ≤ 100 := by
  unfold cap
  repeat' split
  all_goals omega
theorem cap_5 {s : Nat} (h : s ≤ 5) : cap s ≤ 63 := by
  unfold cap
  repeat' split
  all_goals omega
theorem sec_len (c : Int) (p : Part) {k : Nat} (h : p.terms.length ≤ k) : (Part.sec c p).terms.length + 1 ≤ 2 ^ k := by
  have h1 := usort_len (secRaw c p.terms)
  have h2 := secRaw_len c p.terms []
  have h3 : 2 ^ p.terms.length ≤ 2 ^ k := Nat.pow_le_pow_right (by decide) h
  simp only [List.length_nil, Nat.zero_add, Nat.one_mul] at h2
  simp only [Part.terms]
  unfold secRaw at h1 ⊢
  omega
theorem beh_len (a b : Part) : (Part.beh a b).terms.length ≤ a.terms.length * b.terms.length := by
  have := usort_len (prod2 a.terms b.terms)
  rw [prod2_len] at this
  exact this
theorem both_len (a b : Part) : (Part.both a b).terms.length ≤ a.terms.length + b.terms.length := by
  have := usort_len (a.terms ++ b.terms)
  rw [List.length_append] at this
  exact this
theorem cap_two {x y sa sb : Nat} (ha : x ≤ cap sa) (hb : y ≤ cap sb) (pa : 1 ≤ sa) (pb : 1 ≤ sb) (h : sa + sb + 1 ≤ 5) : x * y ≤ cap (sa + sb + 1) ∧ x + y ≤ cap (sa + sb + 1) := by
  have : (sa = 1 ∧ sb = 1) ∨ (sa = 1 ∧ sb = 2) ∨ (sa = 1 ∧ sb = 3) ∨ (sa = 2 ∧ sb = 1) ∨ (sa = 2 ∧ sb = 2) ∨ (sa = 3 ∧ sb = 1) := by omega
  rcases this with ⟨rfl, rfl⟩ | ⟨rfl, rfl⟩ | ⟨rfl, rfl⟩ | ⟨rfl, rfl⟩ | ⟨rfl, rfl⟩ | ⟨rfl, rfl⟩ <;> simp [cap] at ha hb ⊢ <;> have := Nat.mul_le_mul ha hb <;> omega
theorem okT_cap : ∀ p : Part, okT p = true → p.terms.length ≤ cap p.size
  | .belt _, _ => by simp [Part.terms, Part.size, cap]
  | .gap _ _, _ => by simp [Part.terms, Part.size, cap]
  | .hold c t, _ => by
    have := usort_len [tm 0 0 [], tm c t []]
    simpa [Part.terms, Part.size, cap] using this
  | .sec c p, h => by
    simp only [okT, Bool.and_eq_true, decide_eq_true_eq] at h
    have i := okT_cap p h.1
    have sp := Part.size_pos p
    simp only [Part.size]
    by_cases h1 : p.size = 1
    · rw [h1] at i ⊢
      have := sec_len c p (k := 2) (by simpa [cap] using i)
      simp [cap]; omega
    · by_cases h2 : p.size = 2
      · rw [h2] at i ⊢
        have := sec_len c p (k := 3) (by simpa [cap] using i)
        simp [cap]; omega
      · have := sec_len c p (k := 6) h.2
        have : 63 ≤ cap (p.size + 1) := by
          unfold cap
          repeat' split
          all_goals omega
        omega
  | .beh a b, h => by
    simp only [okT, Bool.and_eq_true, decide_eq_true_eq] at h
    have ia := okT_cap a h.1.1
    have ib := okT_cap b h.1.2
    have pa := Part.size_pos a
    have pb := Part.size_pos b
    have l := beh_len a b
    simp only [Part.size]
    by_cases c : a.size + b.size + 1 ≤ 5
    · have := (cap_two ia ib pa pb c).1
      omega
    · have : cap (a.size + b.size + 1) = 100 := by
        unfold cap
        rw [if_neg (by omega), if_neg (by omega), if_neg (by omega), if_neg (by omega)]
      omega
  | .both a b, h => by
    simp only [okT, Bool.and_eq_true, decide_eq_true_eq] at h
    have ia := okT_cap a h.1.1
    have ib := okT_cap b h.1.2
    have pa := Part.size_pos a
    have pb := Part.size_pos b
    have l := both_len a b
    simp only [Part.size]
    by_cases c : a.size + b.size + 1 ≤ 5
    · have := (cap_two ia ib pa pb c).2
      omega
    · have : cap (a.size + b.size + 1) = 100 := by
        unfold cap
        rw [if_neg (by omega), if_neg (by omega), if_neg (by omega), if_neg (by omega)]
      omega
theorem raw_len {a b : Part} (ha : okT a = true) (hb : okT b = true) (h : a.size + b.size ≤ 11) : a.terms.length * b.terms.length ≤ 6300 ∧ a.terms.length + b.terms.length ≤ 200 := by
  have ia := okT_cap a ha
  have ib := okT_cap b hb
  have ca := cap_le a.size
  have cb := cap_le b.size
  refine ⟨?_, by omega⟩
  by_cases c : a.size ≤ 5
  · have := cap_5 c
    exact Nat.mul_le_mul (show a.terms.length ≤ 63 by omega) (show b.terms.length ≤ 100 by omega)
  · have := cap_5 (s := b.size) (by omega)
    have := Nat.mul_le_mul (show a.terms.length ≤ 100 by omega) (show b.terms.length ≤ 63 by omega)
    omega
theorem okT_pool : ∀ p : Part, okT p = true → p.pool.length ≤ 6 * p.size
  | .belt _, _ => by simp [Part.pool]
  | .gap _ _, _ => by simp [Part.pool, Part.size]
  | .hold _ _, _ => by simp [Part.pool]
  | .sec c p, h => by
    simp only [okT, Bool.and_eq_true, decide_eq_true_eq] at h
    have := okT_pool p h.1
    simp only [Part.pool, Part.size, List.length_append, List.length_map]
    omega
  | .beh a b, h => by
    simp only [okT, Bool.and_eq_true, decide_eq_true_eq] at h
    have := okT_pool a h.1.1
    have := okT_pool b h.1.2
    simp only [Part.pool, Part.size, List.length_append]
    omega
  | .both a b, h => by
    simp only [okT, Bool.and_eq_true, decide_eq_true_eq] at h
    have := okT_pool a h.1.1
    have := okT_pool b h.1.2
    simp only [Part.pool, Part.size, List.length_append]
    omega
theorem okT_ps {p : Part} (h : okT p = true) (hs : p.size ≤ 12) : ∀ t ∈ p.terms, t.ps.length ≤ 72 := fun t m => by
  have := (terms_inP p t m).len
  have := okT_pool p h
  omega
/-- joinings within a section stay short -/
theorem okT_sec {p : Part} {c : Int} (h : okT p = true) (l : p.terms.length ≤ 6) (hs : p.size ≤ 12) : ∀ k, k ≤ p.terms.length → ∀ o ∈ (p.terms.take k).foldl (secStep c) [], ∀ t ∈ p.terms, o.ps.length + (repeated c t).ps.length ≤ 200 := fun k hk o ho t m => by
  have pl := okT_pool p h
  have ps : (Part.sec c p).pool.length ≤ 78 := by
    simp only [Part.pool, List.length_append, List.length_map]; omega
  have h1 : InP (Part.sec c p).pool o := sec_inv (P := fun _ x => InP (Part.sec c p).pool x) (k := 0) (acc := []) (ts := p.terms.take k) (fun k t m => inP_repeated (List.mem_of_mem_take m) (terms_inP p t (List.mem_of_mem_take m))) (fun k o t ho m => (ho.joined (inP_repeated (List.mem_of_mem_take m) (terms_inP p t (List.mem_of_mem_take m)))).joined (inP_nil _ _ _)) (fun _ _ z => z) (fun x hx => by simp at hx) o ho
  have h2 := (inP_repeated (c := c) m (terms_inP p t m)).len
  have := h1.len
  omega
/-! ### how great -/
def bz (s : Nat) : Int := 1000000000 * (8 : Int) ^ s
theorem bz_pos (s : Nat) : 1000000000 ≤ bz s := by
  have : (1 : Int) ≤ 8 ^ s := (Int.pow_pos (by decide : (0 : Int) < 8) : (0 : Int) < 8 ^ s)
  unfold bz; omega
theorem bz_succ (s : Nat) : bz (s + 1) = 8 * bz s := by unfold bz; rw [Int.pow_succ]; omega
theorem bz_mono {s t : Nat} (h : s ≤ t) : bz s ≤ bz t := by
  induction t with
  | zero => have : s = 0 := by omega
            subst this; exact Int.le_refl _
  | succ t ih =>
    by_cases c : s = t + 1
    · subst c; exact Int.le_refl _
    · have := ih (by omega)
      have := bz_pos t
      rw [bz_succ]; omega
structure Mg (B : Int) (t : Tm) : Prop where
  a : 0 ≤ t.a ∧ t.a ≤ B
  b : 0 ≤ t.b ∧ t.b ≤ B
theorem mags : ∀ p : Part, p.ok 12 → okT p = true → (∀ t ∈ p.terms, Mg (bz p.size) t) ∧ ∀ q ∈ p.pool, (0 ≤ q.1 ∧ q.1 ≤ bz p.size) ∧ 0 ≤ q.2 ∧ q.2 ≤ bz p.size
  | .belt t, h, _ => by
    have z := bz_pos 1
    have h2 := h
    simp only [Part.ok] at h2
    refine ⟨fun x m => ?_, by simp [Part.pool]⟩
    rw [List.mem_singleton.mp m]
    exact ⟨⟨Int.le_refl _, show (0 : Int) ≤ bz 1 by omega⟩, ⟨h2.1, show t ≤ bz 1 by omega⟩⟩
  | .gap c t, h, _ => by
    have z := bz_pos 1
    have h2 := h
    simp only [Part.ok] at h2
    refine ⟨fun x m => ?_, fun q m => ?_⟩
    · rw [List.mem_singleton.mp m]
      exact ⟨⟨Int.le_refl _, show (0 : Int) ≤ bz 1 by omega⟩, ⟨Int.le_refl _, show (0 : Int) ≤ bz 1 by omega⟩⟩
    · simp only [Part.pool, List.mem_singleton] at m
      subst m
      exact ⟨⟨show 0 ≤ c by omega, show c ≤ bz 1 by omega⟩, show 0 ≤ t by omega, show t ≤ bz 1 by omega⟩
  | .hold c t, h, _ => by
    have z := bz_pos 1
    have h2 := h
    simp only [Part.ok] at h2
    refine ⟨fun x m => ?_, by simp [Part.pool]⟩
    have := usort_mem.mp m
    simp at this
    rcases this with rfl | rfl
    · exact ⟨⟨Int.le_refl _, show (0 : Int) ≤ bz 1 by omega⟩, ⟨Int.le_refl _, show (0 : Int) ≤ bz 1 by omega⟩⟩
    · exact ⟨⟨show 0 ≤ c by omega, show c ≤ bz 1 by omega⟩, ⟨show 0 ≤ t by omega, show t ≤ bz 1 by omega⟩⟩
  | .sec c p, h, o => by
    simp only [okT, Bool.and_eq_true, decide_eq_true_eq] at o
    obtain ⟨i, j⟩ := mags p h.2 o.1
    have hc := h.1
    have z := bz_pos p.size
    have e := bz_succ p.size
    refine ⟨fun x m => ?_, fun q m => ?_⟩
    · have m' := usort_mem.mp (show x ∈ usort (secRaw c p.terms) from m)
      have key := sec_inv (c := c) (P := fun k x => (0 ≤ x.a ∧ x.a ≤ k * (bz p.size + 12)) ∧ 0 ≤ x.b ∧ x.b ≤ k * bz p.size) (k := 0) (acc := []) (ts := p.terms) (fun k t m => by
          have := i t m
          have a1 : 0 ≤ (k : Int) * (bz p.size + 12) := Int.mul_nonneg (by omega) (by omega)
          have a2 : 0 ≤ (k : Int) * bz p.size := Int.mul_nonneg (by omega) (by omega)
          rw [show ((k + 1 : Nat) : Int) * (bz p.size + 12) = k * (bz p.size + 12) + (bz p.size + 12) by rw [Int.natCast_add]; simp [Int.add_mul], show ((k + 1 : Nat) : Int) * bz p.size = k * bz p.size + bz p.size by rw [Int.natCast_add]; simp [Int.add_mul]]
          have ea : (repeated c t).a = t.a := rfl
          have eb : (repeated c t).b = t.b := rfl
          rw [ea, eb]
          have := this.a; have := (i t m).b
          omega) (fun k o t ho m => by
          have := i t m
          rw [show ((k + 1 : Nat) : Int) * (bz p.size + 12) = k * (bz p.size + 12) + (bz p.size + 12) by rw [Int.natCast_add]; simp [Int.add_mul], show ((k + 1 : Nat) : Int) * bz p.size = k * bz p.size + bz p.size by rw [Int.natCast_add]; simp [Int.add_mul]]
          have ea : (joined (joined o (repeated c t)) (tm c 0 [])).a = o.a + t.a + c := rfl
          have eb : (joined (joined o (repeated c t)) (tm c 0 [])).b = o.b + t.b + 0 := rfl
          rw [ea, eb]
          have := this.a; have := (i t m).b
          omega) (fun k o ho => by
          rw [show ((k + 1 : Nat) : Int) * (bz p.size + 12) = k * (bz p.size + 12) + (bz p.size + 12) by rw [Int.natCast_add]; simp [Int.add_mul], show ((k + 1 : Nat) : Int) * bz p.size = k * bz p.size + bz p.size by rw [Int.natCast_add]; simp [Int.add_mul]]
          omega) (fun y hy => by simp at hy) x m'
      simp only [Nat.zero_add] at key
      have l6 : (p.terms.length : Int) ≤ 6 := by omega
      have k1 := Int.mul_le_mul_of_nonneg_right l6 (show 0 ≤ bz p.size + 12 by omega)
      have k2 := Int.mul_le_mul_of_nonneg_right l6 (show 0 ≤ bz p.size by omega)
      simp only [Part.size]
      rw [e]
      exact ⟨⟨key.1.1, by omega⟩, ⟨key.2.1, by omega⟩⟩
    · simp only [Part.pool, List.mem_append, List.mem_map] at m
      simp only [Part.size]
      rw [e]
      rcases m with m | ⟨t, m, rfl⟩
      · have := j q m; omega
      · have := (i t m).a
        have := (i t m).b
        exact ⟨⟨show 0 ≤ t.a + c by omega, show t.a + c ≤ _ by omega⟩, show 0 ≤ t.b by omega, show t.b ≤ _ by omega⟩
  | .beh a b, h, o => by
    simp only [okT, Bool.and_eq_true, decide_eq_true_eq] at o
    obtain ⟨i1, j1⟩ := mags a h.1 o.1.1
    obtain ⟨i2, j2⟩ := mags b h.2 o.1.2
    have z1 := bz_pos a.size
    have z2 := bz_pos b.size
    have s1 := bz_mono (show a.size ≤ a.size + b.size by omega)
    have s2 := bz_mono (show b.size ≤ a.size + b.size by omega)
    have e := bz_succ (a.size + b.size)
    simp only [Part.size]
    rw [e]
    refine ⟨fun x m => ?_, fun q m => ?_⟩
    · have m' := usort_mem.mp (show x ∈ usort (prod2 a.terms b.terms) from m)
      obtain ⟨y, hy, hx⟩ := List.mem_flatMap.mp m'
      obtain ⟨w, hw, rfl⟩ := List.mem_map.mp hx
      have q1 := i1 y hy
      have q2 := i2 w hw
      have := q1.a; have := q1.b; have := q2.a; have := q2.b
      exact ⟨⟨show 0 ≤ y.a + w.a by omega, show y.a + w.a ≤ _ by omega⟩, ⟨show 0 ≤ y.b + w.b by omega, show y.b + w.b ≤ _ by omega⟩⟩
    · simp only [Part.pool, List.mem_append] at m
      rcases m with m | m
      · have := j1 q m; omega
      · have := j2 q m; omega
  | .both a b, h, o => by
    simp only [okT, Bool.and_eq_true, decide_eq_true_eq] at o
    have hh : a.ok 12 ∧ b.ok 12 := h
    obtain ⟨i1, j1⟩ := mags a hh.1 o.1.1
    obtain ⟨i2, j2⟩ := mags b hh.2 o.1.2
    have z1 := bz_pos a.size
    have z2 := bz_pos b.size
    have s1 := bz_mono (show a.size ≤ a.size + b.size by omega)
    have s2 := bz_mono (show b.size ≤ a.size + b.size by omega)
    have e := bz_succ (a.size + b.size)
    simp only [Part.size]
    rw [e]
    refine ⟨fun x m => ?_, fun q m => ?_⟩
    · have m' := usort_mem.mp (show x ∈ usort (a.terms ++ b.terms) from m)
      rcases List.mem_append.mp m' with m' | m'
      · have q1 := i1 x m'
        have := q1.a; have := q1.b
        exact ⟨by omega, by omega⟩
      · have q1 := i2 x m'
        have := q1.a; have := q1.b
        exact ⟨by omega, by omega⟩
    · simp only [Part.pool, List.mem_append] at m
      rcases m with m | m
      · have := j1 q m; omega
      · have := j2 q m; omega
theorem okT_mag {p : Part} (h : p.ok 12) (o : okT p = true) (hs : p.size ≤ 12) : ∀ t ∈ p.terms, (0 ≤ t.a ∧ t.a ≤ bz 12) ∧ (0 ≤ t.b ∧ t.b ≤ bz 12) ∧ ∀ q ∈ t.ps, (0 ≤ q.1 ∧ q.1 ≤ bz 12) ∧ 0 ≤ q.2 ∧ q.2 ≤ bz 12 := fun t m => by
  obtain ⟨i, j⟩ := mags p h o
  have e := bz_mono hs
  have q := i t m
  have := q.a; have := q.b
  refine ⟨by omega, by omega, fun x hx => ?_⟩
  have := j x ((terms_inP p t m).2 x hx)
  omega
end Q

/-! k10: terms as the program makes them, or too many. -/
namespace Q
open PySem PySem.Spec L2 DY PySem.W
theorem frzN_erT {st g : Store} {c : Nat} {ns : List Str} {x : D} (h : noH x = true) : frzN st (.er ⟨c, ns, [x]⟩ (st ++ g)) = .er ⟨c, ns, [x]⟩ st := by
  unfold frzN frzH
  have ca := cells_app st g
  dsimp only
  rw [if_pos ca]
  have f : frzL 5 st.length (st ++ g) [x] = some [x] := by
    simp only [frzL, frz_noH h]
  rw [f]
  simp
theorem frzN_erT0 {st : Store} {c : Nat} {ns : List Str} {x : D} (h : noH x = true) : frzN st (.er ⟨c, ns, [x]⟩ st) = .er ⟨c, ns, [x]⟩ st := by
  have := frzN_erT (st := st) (g := []) (c := c) (ns := ns) h
  rwa [List.append_nil] at this
theorem noH_tms (ts : List Tm) : noHL (ts.map tmD) = true := by
  have pr : ∀ ps : List Pr, noHL (ps.map prD) = true := fun ps => by
    induction ps with
    | nil => rfl
    | cons p ps ih => simp [noHL, noH, prD, ih]
  induction ts with
  | nil => rfl
  | cons t ts ih => simp [noHL, noH, tmD, prsD, pr, ih]
theorem sortN_tms {ts : List Tm} (h : ts.length < 8000) (st : Store) : dSortN0 (.nd .lst (ts.map tmD)) st = .ok (.nd .lst ((usort ts).map tmD)) st := by
  rw [dSortN0_ev]
  exact sort_tms h st
theorem listed_h (n : Nat) {ts : List Tm} (h : ts.length < 8000) (st : Store) : sem (n + 1) f_listed [.nd .lst (ts.map tmD)] st = if (usort ts).length ≤ 100 then .ok (.h st.length) (st ++ [.nd .lst ((usort ts).map tmD)]) else .er ⟨k_TooMany, ["limit"], [.int 100]⟩ st := by
  have s := sortN_tms h st
  have l := usort_len ts
  have nh := noH_tms (usort ts)
  rw [S_listed]
  by_cases c : (usort ts).length ≤ 100
  · have c2 : ¬ (100 : Int) < ((usort ts).length : Int) := by omega
    rw [if_pos c]
    simp [b_listed, -dSortN0_ev, s, c2, nh]
  · have c2 : (100 : Int) < ((usort ts).length : Int) := by omega
    rw [if_neg c]
    simp [b_listed, -dSortN0_ev, s, c2]
    exact frzN_erT (x := .int 100) rfl
theorem repeated_big (n : Nat) {t : Tm} {c : Int} (h : t.ps.length < 4000) (st : Store) : sem (n + 2) f_repeated [tmD t, .int c] st = .ok (tmD (repeated c t)) st := by
  have l0 : (fresh c t).length ≤ 1 := by unfold fresh; split <;> simp
  have e := sorted_pairs_ok n (ps := t.ps ++ fresh c t) (by simp; omega) st
  simp only [prsD, List.map_append] at e
  have l : t.ps.length + 1 ≤ 16777216 := by omega
  have l2 : t.ps.length ≤ 16777216 := by omega
  rw [S_repeated]
  by_cases hb : 0 < t.b
  · simp [fresh, hb, prD] at e
    simp [b_repeated, tmD, prsD, repeated, fresh, hb, l, e, prD]
  · simp [fresh, hb, prD] at e
    simp [b_repeated, tmD, prsD, repeated, fresh, hb, l2, e, prD]
def many : Ex := ⟨k_TooMany, ["limit"], [.int 100]⟩
theorem section_h (n : Nat) {k0 : Nat} {ts : List Tm} {c : Int} {st : Store} (hx : st[k0]? = some (.nd .lst (ts.map tmD))) (hp : ∀ t ∈ ts, t.ps.length ≤ 100) (hj : ∀ k, k ≤ ts.length → ∀ o ∈ (ts.take k).foldl (secStep c) [], ∀ t ∈ ts, o.ps.length + (repeated c t).ps.length ≤ 200) :
    sem (n + 3) f_section_terms [.h k0, .int c] st = if ts.length ≤ 6 then .ok (.h st.length) (st ++ [.nd .lst ((usort (secRaw c ts)).map tmD)]) else .er many st := by
  by_cases h : ts.length ≤ 6
  · rw [if_pos h]
    have h6 : ¬ (6 : Int) < (ts.length : Int) := by omega
    rw [S_section_terms]
    simp [b_section_terms, h6, hx]
    generalize hy : forL _ _ _ _ _ _ = y
    obtain ⟨_, s, rfl, rfl, j3, j4, j5, rfl⟩ := forL_go hy (fun i env st' => st' = st ∧ ∃ j3 j4 j5, env = [some (.h k0), some (.int c), some (.nd .lst (((ts.take i).foldl (secStep c) []).map tmD)), j3, j4, j5])
      ⟨rfl, none, none, none, rfl⟩ (by rintro _ _ _ ⟨rfl, _⟩; simp [hx]) (by
        rintro i d _ s hi ⟨rfl, j3, j4, j5, rfl⟩
        obtain ⟨t, ht, rfl⟩ := get_map hi
        have mt : t ∈ ts := List.mem_of_getElem? ht
        have hi' : i < ts.length := (List.getElem?_eq_some_iff.mp ht).1
        have r := repeated_big n (c := c) (t := t) (by have := hp t mt; omega) s
        have lf := secRaw_len c (ts.take i) []
        have pw : 2 ^ (ts.take i).length ≤ 2 ^ 6 := Nat.pow_le_pow_right (by decide) (by rw [List.length_take]; omega)
        simp only [List.length_nil, Nat.zero_add, Nat.one_mul] at lf
        have hjj := hj i (by omega)
        generalize hF : (ts.take i).foldl (secStep c) [] = F at *
        have lF : F.length ≤ 63 := by omega
        have l1 : F.length + 1 ≤ 16777216 := by omega
        simp [r, l1]
        generalize hx : compL _ _ _ _ _ _ _ _ _ = x
        obtain rfl := compL_map hx (fun o => tmD (joined (joined o (repeated c t)) (tm c 0 []))) (by simp) (by omega) (fun o ho => by
          have j1 := joined_ok n (x := o) (y := repeated c t) (by have := hjj o ho t mt; omega) s
          have j2 := joined_ok n (x := joined o (repeated c t)) (y := tm c 0 []) (by
            have := usort_len (o.ps ++ (repeated c t).ps)
            have := hjj o ho t mt
            simp [joined, Tm.ps] at *; omega) s
          have j3 : sem (n + 2) f_joined [tmD (joined o (repeated c t)), .nd .tup [.int c, .int 0, .nd .tup []]] s = .ok (tmD (joined (joined o (repeated c t)) (tm c 0 []))) s := j2
          simp [j1, j3])
        have l2 : F.length + 1 + F.length ≤ 16777216 := by omega
        have tk : (ts.take (i + 1)).foldl (secStep c) [] = secStep c F t := by
          rw [List.take_add_one, ht]; simp [List.foldl_append, hF]
        simp [l2, tk, secStep, List.map_map, Function.comp_def])
    have lf := secRaw_len c ts []
    have pw : 2 ^ ts.length ≤ 2 ^ 6 := Nat.pow_le_pow_right (by decide) h
    simp only [List.length_nil, Nat.zero_add, Nat.one_mul] at lf
    have lu := usort_len (secRaw c ts)
    have ls := listed_h (n + 1) (ts := secRaw c ts) (by unfold secRaw; omega) s
    rw [if_pos (by unfold secRaw at lu ⊢; omega)] at ls
    have nh := noH_tms (usort (secRaw c ts))
    simp only [secRaw] at ls nh ⊢
    simp [ls, nh]
  · rw [if_neg h]
    have h6 : (6 : Int) < (ts.length : Int) := by omega
    rw [S_section_terms]
    simp [b_section_terms, h6, hx]
    exact frzN_erT0 (x := .int 100) rfl
/-- what terms_of answers -/
def resT (p : Part) (st : Store) : Res D := if okT p = true then .ok (.h st.length) (st ++ [.nd .lst (p.terms.map tmD)]) else .er many st
theorem terms_of_h : ∀ (p : Part) (m : Nat) (st : Store), p.size + 6 ≤ m → p.size ≤ 12 → sem m f_terms_of [p.d] st = resT p st
  | .belt t, m, st, hm, hs => by
    obtain ⟨m, rfl⟩ : ∃ k, m = k + 1 := ⟨m - 1, by omega⟩
    have nh := noH_tms [tm 0 t []]
    rw [S_terms_of]
    simp [tmD, prsD, Tm.ps] at nh
    simp [b_terms_of, Part.d, Part.terms, tmD, prsD, Tm.ps, resT, okT, nh]
  | .gap c t, m, st, hm, hs => by
    obtain ⟨m, rfl⟩ : ∃ k, m = k + 1 := ⟨m - 1, by omega⟩
    rw [S_terms_of]
    by_cases h : 0 < t <;> simp [b_terms_of, Part.d, Part.terms, tmD, prsD, prD, h, Tm.ps, resT, okT]
  | .hold c t, m, st, hm, hs => by
    obtain ⟨m, rfl⟩ : ∃ k, m = k + 2 := ⟨m - 2, by omega⟩
    have lu := usort_len [tm 0 0 [], tm c t []]
    have e := listed_h m (ts := [tm 0 0 [], tm c t []]) (by simp) st
    rw [if_pos (by simp at lu; omega)] at e
    have nh := noH_tms (usort [tm 0 0 [], tm c t []])
    simp only [List.map_cons, List.map_nil] at e
    have t1 : tmD (tm 0 0 []) = .nd .tup [.int 0, .int 0, .nd .tup []] := rfl
    have t2 : tmD (tm c t []) = .nd .tup [.int c, .int t, .nd .tup []] := rfl
    rw [t1, t2] at e
    rw [S_terms_of]
    simp [b_terms_of, Part.d, e, Part.terms, resT, okT, nh]
  | .sec c p, m, st, hm, hs => by
    obtain ⟨m, rfl⟩ : ∃ k, m = k + 4 := ⟨m - 4, by omega⟩
    simp only [Part.size] at hm hs
    have e := terms_of_h p (m + 3) st (by omega) (by omega)
    rw [S_terms_of]
    by_cases o : okT p = true
    · rw [resT, if_pos o] at e
      have hx : (st ++ [.nd .lst (p.terms.map tmD)])[st.length]? = some (.nd .lst (p.terms.map tmD)) := by simp
      by_cases l : p.terms.length ≤ 6
      · have sh := okT_sec (c := c) o l (by omega)
        have e2 := section_h m (c := c) hx (fun t m => by have := okT_ps o (by omega) t m; omega) sh
        rw [if_pos l] at e2
        have nh := noH_tms (usort (secRaw c p.terms))
        simp [b_terms_of, Part.d, e, e2, resT, okT, o, l]
        have z := frzN_at (st := st) (g := [.nd .lst (p.terms.map tmD), .nd .lst ((usort (secRaw c p.terms)).map tmD)]) (t := .lst) (xs := (usort (secRaw c p.terms)).map tmD) (j := 1) rfl nh
        simpa [Part.terms] using z
      · have e2 : sem (m + 3) f_section_terms [.h st.length, .int c] (st ++ [.nd .lst (p.terms.map tmD)]) = .er many (st ++ [.nd .lst (p.terms.map tmD)]) := by
          have h6 : (6 : Int) < (p.terms.length : Int) := by omega
          rw [S_section_terms]
          simp [b_section_terms, h6]
          exact frzN_erT0 (x := .int 100) rfl
        simp [b_terms_of, Part.d, e, e2, resT, okT, o, l]
        exact frzN_erT (x := .int 100) rfl
    · rw [resT, if_neg o] at e
      simp [b_terms_of, Part.d, e, resT, okT, o]
      exact frzN_erT0 (x := .int 100) rfl
  | .both a b, m, st, hm, hs => by
    obtain ⟨m, rfl⟩ : ∃ k, m = k + 2 := ⟨m - 2, by omega⟩
    simp only [Part.size] at hm hs
    have e1 := terms_of_h a (m + 1) st (by omega) (by omega)
    rw [S_terms_of]
    by_cases oa : okT a = true
    · rw [resT, if_pos oa] at e1
      have e2 := terms_of_h b (m + 1) (st ++ [.nd .lst (a.terms.map tmD)]) (by omega) (by omega)
      by_cases ob : okT b = true
      · rw [resT, if_pos ob] at e2
        have rl := (raw_len oa ob (by omega)).2
        have e3 := listed_h m (ts := a.terms ++ b.terms) (by simp; omega) (st ++ [.nd .lst (a.terms.map tmD)] ++ [.nd .lst (b.terms.map tmD)])
        simp only [List.map_append] at e3
        have l3 : a.terms.length + b.terms.length ≤ 16777216 := by omega
        have nh := noH_tms (usort (a.terms ++ b.terms))
        simp at e2 e3
        by_cases l : (Part.both a b).terms.length ≤ 100
        · have l' : (usort (a.terms ++ b.terms)).length ≤ 100 := l
          rw [if_pos l'] at e3
          simp [b_terms_of, Part.d, e1, e2, e3, l3, resT, okT, oa, ob, l]
          have z := frzN_at (st := st) (g := [.nd .lst (a.terms.map tmD), .nd .lst (b.terms.map tmD), .nd .lst ((usort (a.terms ++ b.terms)).map tmD)]) (t := .lst) (xs := (usort (a.terms ++ b.terms)).map tmD) (j := 2) rfl nh
          simpa [Part.terms] using z
        · have l' : ¬ (usort (a.terms ++ b.terms)).length ≤ 100 := l
          rw [if_neg l'] at e3
          simp [b_terms_of, Part.d, e1, e2, e3, l3, resT, okT, oa, ob, l]
          exact frzN_erT (x := .int 100) rfl
      · rw [resT, if_neg ob] at e2
        simp [b_terms_of, Part.d, e1, e2, resT, okT, oa, ob]
        exact frzN_erT (x := .int 100) rfl
    · rw [resT, if_neg oa] at e1
      simp [b_terms_of, Part.d, e1, resT, okT, oa]
      exact frzN_erT0 (x := .int 100) rfl
  | .beh a b, m, st, hm, hs => by
    obtain ⟨m, rfl⟩ : ∃ k, m = k + 3 := ⟨m - 3, by omega⟩
    simp only [Part.size] at hm hs
    have e1 := terms_of_h a (m + 2) st (by omega) (by omega)
    rw [S_terms_of]
    by_cases oa : okT a = true
    · rw [resT, if_pos oa] at e1
      have e2 := terms_of_h b (m + 2) (st ++ [.nd .lst (a.terms.map tmD)]) (by omega) (by omega)
      by_cases ob : okT b = true
      · rw [resT, if_pos ob] at e2
        have ln := (raw_len oa ob (by omega)).1
        have lb : (a.terms.flatMap fun _ => b.terms).length = a.terms.length * b.terms.length := by
          generalize a.terms = xs
          induction xs with
          | nil => simp
          | cons x xs ih => simp only [List.flatMap_cons, List.length_append, ih, List.length_cons, Nat.succ_mul]; omega
        have ls := listed_h (m + 1) (ts := prod2 a.terms b.terms) (by rw [prod2_len]; omega) (st ++ [.nd .lst (a.terms.map tmD)] ++ [.nd .lst (b.terms.map tmD)])
        have em : (prod2 a.terms b.terms).map tmD = a.terms.flatMap fun x => b.terms.map fun y => tmD (joined x y) := by
          simp [prod2, List.map_flatMap, List.map_map, Function.comp_def]
        rw [em] at ls
        have nh := noH_tms (usort (prod2 a.terms b.terms))
        simp at e2 ls
        have cm : ∀ (e0 : Option D) (e3 e4 : Option D), comp2L (lstIs (.h st.length) (a.terms.map tmD)) (gN 3) tYesD (iSeq (dVar 2)) (gN 4) tYesD (dCall (sem (m + 2) f_joined) (dCons (dVar 3) (dCons (dVar 4) dNil))) [3, 4] [4]
            [e0, some (.h st.length), some (.h (st.length + 1)), e3, e4] (a.terms.map tmD) [] (st ++ [.nd .lst (a.terms.map tmD), .nd .lst (b.terms.map tmD)]) = .ok ([] ++ a.terms.flatMap fun x => b.terms.map fun y => tmD (joined x y)) (st ++ [.nd .lst (a.terms.map tmD), .nd .lst (b.terms.map tmD)]) := fun e0 e3 e4 =>
          comp2L_map (enc := tmD) (encb := fun _ => tmD) (xs := a.terms) (fun _ => b.terms) (fun x y => tmD (joined x y)) (fun _ => lstIs (.h (st.length + 1)) (b.terms.map tmD)) (by simp) (by rw [lb]; simp; omega) (fun x hx => ⟨_, rfl, by simp, by simp, by simp, fun y hy => by
            have j := joined_ok m (x := x) (y := y) (by
              have := okT_ps oa (by omega) x hx
              have := okT_ps ob (by omega) y hy
              omega) (st ++ [.nd .lst (a.terms.map tmD), .nd .lst (b.terms.map tmD)])
            simp [j]⟩)
        simp only [List.nil_append] at cm
        by_cases l : (Part.beh a b).terms.length ≤ 100
        · have l' : (usort (prod2 a.terms b.terms)).length ≤ 100 := l
          rw [if_pos l'] at ls
          simp [b_terms_of, Part.d, e1, e2, cm, ls, resT, okT, oa, ob, l]
          have z := frzN_at (st := st) (g := [.nd .lst (a.terms.map tmD), .nd .lst (b.terms.map tmD), .nd .lst ((usort (prod2 a.terms b.terms)).map tmD)]) (t := .lst) (xs := (usort (prod2 a.terms b.terms)).map tmD) (j := 2) rfl nh
          simpa [Part.terms] using z
        · have l' : ¬ (usort (prod2 a.terms b.terms)).length ≤ 100 := l
          rw [if_neg l'] at ls
          simp [b_terms_of, Part.d, e1, e2, cm, ls, resT, okT, oa, ob, l]
          exact frzN_erT (x := .int 100) rfl
      · rw [resT, if_neg ob] at e2
        simp [b_terms_of, Part.d, e1, e2, resT, okT, oa, ob]
        exact frzN_erT (x := .int 100) rfl
    · rw [resT, if_neg oa] at e1
      simp [b_terms_of, Part.d, e1, resT, okT, oa]
      exact frzN_erT0 (x := .int 100) rfl
theorem terms_h (n : Nat) {p : Part} (st : Store) (hs : p.size ≤ 12) : sem (n + 19) f_terms [p.line] st = resT p st := by
  have e := terms_of_h p (n + 18) st (by omega) hs
  have q := line_parts (n + 17) p st
  have nh := noH_tms p.terms
  rw [S_terms]
  simp only [b_terms]
  simp [Part.line, nLine] at q ⊢
  by_cases o : okT p = true
  · rw [resT, if_pos o] at e
    simp [q, e, resT, o, nh]
  · rw [resT, if_neg o] at e
    simp [q, e, resT, o]
    exact frzN_erT0 (x := .int 100) rfl
end Q

/-! What walks of items do: bounds, the first item. -/
namespace Q
open PySem PySem.Spec L2 DY
/-- all that is kept is within bounds -/
def Bd (B : Int) : Part → W → Prop
  | .sec _ p, .nd c l [w] => (∀ x ∈ c, 0 ≤ x ∧ x ≤ B) ∧ (∀ x ∈ l, 0 ≤ x ∧ x ≤ B) ∧ Bd B p w
  | .beh a b, .nd c l [u, v] => (∀ x ∈ c, 0 ≤ x ∧ x ≤ B) ∧ (∀ x ∈ l, 0 ≤ x ∧ x ≤ B) ∧ Bd B a u ∧ Bd B b v
  | .both a b, .nd c l [u, v] => (∀ x ∈ c, 0 ≤ x ∧ x ≤ B) ∧ (∀ x ∈ l, 0 ≤ x ∧ x ≤ B) ∧ Bd B a u ∧ Bd B b v
  | _, .nd c l _ => (∀ x ∈ c, 0 ≤ x ∧ x ≤ B) ∧ ∀ x ∈ l, 0 ≤ x ∧ x ≤ B
theorem bd_up {B C : Int} (h : B ≤ C) {l : List Int} (q : ∀ x ∈ l, 0 ≤ x ∧ x ≤ B) : ∀ x ∈ l, 0 ≤ x ∧ x ≤ C := fun x m => ⟨(q x m).1, Int.le_trans (q x m).2 h⟩
theorem Bd.mono {B C : Int} (h : B ≤ C) : ∀ {p : Part} {n : Nat} {w : W}, Fit p n w → Bd B p w → Bd C p w
  | .belt _, n, .nd c l [], _, q => ⟨bd_up h q.1, bd_up h q.2⟩
  | .gap _ _, n, .nd c l [], _, q => ⟨bd_up h q.1, bd_up h q.2⟩
  | .hold _ _, n, .nd c l [], _, q => ⟨bd_up h q.1, bd_up h q.2⟩
  | .sec _ p, n, .nd c l [w], f, q => ⟨bd_up h q.1, bd_up h q.2.1, Bd.mono h f.2.2 q.2.2⟩
  | .beh a b, n, .nd c l [u, v], f, q => ⟨bd_up h q.1, bd_up h q.2.1, Bd.mono h f.2.2.1 q.2.2.1, Bd.mono h f.2.2.2 q.2.2.2⟩
  | .both a b, n, .nd c l [u, v], f, q => ⟨bd_up h q.1, bd_up h q.2.1, Bd.mono h f.2.2.1 q.2.2.1, Bd.mono h f.2.2.2 q.2.2.2⟩
end Q

/-! Walks compared: later items, moved items, parts behind one another. -/
namespace Q
open PySem PySem.Spec L2 DY
/-- from the end on, not later -/
def BackLe (l l' : List Int) : Prop := ∀ c : Nat, 1 ≤ c → c ≤ l.length → c ≤ l'.length ∧ l.getD (l.length - c) 0 ≤ l'.getD (l'.length - c) 0
theorem BackLe.nil (l : List Int) : BackLe [] l := fun c h1 h2 => by simp at h2; omega
theorem BackLe.app {l l' : List Int} {m m' : Int} (h : BackLe l l') (hm : m ≤ m') : BackLe (l ++ [m]) (l' ++ [m']) := by
  intro c h1 h2
  simp at h2
  by_cases hc : c = 1
  · subst hc; simpa [List.getD] using hm
  · obtain ⟨a, b⟩ := h (c - 1) (by omega) (by omega)
    refine ⟨by simp; omega, ?_⟩
    have e1 : (l ++ [m]).length - c = l.length - (c - 1) := by simp; omega
    have e2 : (l' ++ [m']).length - c = l'.length - (c - 1) := by simp; omega
    rw [e1, e2, List.getD, List.getD, List.getElem?_append_left (by omega), List.getElem?_append_left (by omega)]
    exact b
def WLe : Part → W → W → Prop
  | .sec _ p, .nd c l [w], .nd c' l' [w'] => BackLe c c' ∧ BackLe l l' ∧ WLe p w w'
  | .beh a b, .nd c l [u, v], .nd c' l' [u', v'] => BackLe c c' ∧ BackLe l l' ∧ WLe a u u' ∧ WLe b v v'
  | .both a b, .nd c l [u, v], .nd c' l' [u', v'] => BackLe c c' ∧ BackLe l l' ∧ WLe a u u' ∧ WLe b v v'
  | .belt _, .nd c l [], .nd c' l' [] => BackLe c c' ∧ BackLe l l'
  | .gap _ _, .nd c l [], .nd c' l' [] => BackLe c c' ∧ BackLe l l'
  | .hold _ _, .nd c l [], .nd c' l' [] => BackLe c c' ∧ BackLe l l'
  | _, _, _ => False
theorem WLe.zero : ∀ (p : Part) (n : Nat) (w : W), Fit p n w → WLe p (W0 p) w
  | .belt _, n, .nd e l [], h => ⟨.nil _, .nil _⟩
  | .gap _ _, n, .nd e l [], h => ⟨.nil _, .nil _⟩
  | .hold _ _, n, .nd e l [], h => ⟨.nil _, .nil _⟩
  | .sec c p, n, .nd e l [w], h => ⟨.nil _, .nil _, WLe.zero p n w h.2.2⟩
  | .beh a b, n, .nd e l [u, v], h => ⟨.nil _, .nil _, WLe.zero a n u h.2.2.1, WLe.zero b n v h.2.2.2⟩
  | .both a b, n, .nd e l [u, v], h => ⟨.nil _, .nil _, WLe.zero a n u h.2.2.1, WLe.zero b n v h.2.2.2⟩
/-! ### moved -/
def WSh (d : Int) : Part → W → W → Prop
  | .sec _ p, .nd c l [w], .nd c' l' [w'] => c' = c.map (· + d) ∧ l' = l.map (· + d) ∧ WSh d p w w'
  | .beh a b, .nd c l [u, v], .nd c' l' [u', v'] => c' = c.map (· + d) ∧ l' = l.map (· + d) ∧ WSh d a u u' ∧ WSh d b v v'
  | .both a b, .nd c l [u, v], .nd c' l' [u', v'] => c' = c.map (· + d) ∧ l' = l.map (· + d) ∧ WSh d a u u' ∧ WSh d b v v'
  | .belt _, .nd c l [], .nd c' l' [] => c' = c.map (· + d) ∧ l' = l.map (· + d)
  | .gap _ _, .nd c l [], .nd c' l' [] => c' = c.map (· + d) ∧ l' = l.map (· + d)
  | .hold _ _, .nd c l [], .nd c' l' [] => c' = c.map (· + d) ∧ l' = l.map (· + d)
  | _, _, _ => False
theorem WSh.zero (d : Int) : ∀ p : Part, WSh d p (W0 p) (W0 p)
  | .belt _ => ⟨rfl, rfl⟩
  | .gap _ _ => ⟨rfl, rfl⟩
  | .hold _ _ => ⟨rfl, rfl⟩
  | .sec _ p => ⟨rfl, rfl, WSh.zero d p⟩
  | .beh a b => ⟨rfl, rfl, WSh.zero d a, WSh.zero d b⟩
  | .both a b => ⟨rfl, rfl, WSh.zero d a, WSh.zero d b⟩
/-! ### two lines -/
end Q

/-! What comes to the inner parts: plain Lean. -/
namespace Q
open PySem PySem.Spec L2 DY
end Q


/-! Walks of items, as the program keeps them. -/
namespace Q
open PySem PySem.Spec L2 DY
end Q


/-! Moments. -/
namespace Q
open PySem PySem.Spec L2 DY
section
variable {st : Store} {i : Int}
end
/-- moments that may be walked -/
structure Asc (ms : List Int) : Prop where
  up : ms.Pairwise (· ≤ ·)
  bd : ∀ m ∈ ms, 0 ≤ m ∧ m ≤ 1000000000000000
theorem tyD_h {st : Store} {k : Nat} {xs : List D} (h : st[k]? = some (.nd .lst xs)) : tyD st (.h k) = some "list" := by
  show (match seen st (.h k) with | some (.lst, _) => some "list" | some (.scr, _) => some "list" | some (.tup, _) => some "tuple" | some (.ktp, _) => some "tuple" | some (.dk _, _) => some "dict" | some (.dt _, _) => some "dict" | _ => none) = _
  rw [seen_h, h]; rfl
end Q


/-! Walks of all items. -/
namespace Q
open PySem PySem.Spec L2 DY
/-- a list that stands whatever comes behind -/
structure Stay (st : Store) (x : D) (xs : List D) : Prop where
  see : ∀ g : Store, seen (st ++ g) x = some (.lst, xs)
  ty : tyD st x = some "list"
theorem Stay.nd {st : Store} {xs : List D} : Stay st (.nd .lst xs) xs := ⟨fun _ => rfl, rfl⟩
theorem Stay.h {st : Store} {k : Nat} {xs : List D} (h : st[k]? = some (.nd .lst xs)) : Stay st (.h k) xs := by
  refine ⟨fun g => ?_, tyD_h h⟩
  have hk : k < st.length := (List.getElem?_eq_some_iff.mp h).1
  rw [seen_h, List.getElem?_append_left hk, h]; rfl
end Q


/-! The rows of a walk. -/
namespace Q
open PySem PySem.Spec L2 DY
end Q


/-! walked: the rows as a dict. -/
namespace Q
open PySem PySem.Spec L2 DY
/-! ### frozen -/
/-! ### rising paths -/
/-! ### sorted already -/
end Q

/-! Each part is walked as by itself. -/
namespace Q
open PySem PySem.Spec L2 DY
/-- the part at a path -/
def follow : Part → List Int → Option Part
  | p, [] => some p
  | .sec _ p, i :: q => if i = 0 then follow p q else none
  | .beh a b, i :: q => if i = 0 then follow a q else if i = 1 then follow b q else none
  | .both a b, i :: q => if i = 0 then follow a q else if i = 1 then follow b q else none
  | _, _ :: _ => none
end Q

/-! Limits of a line, and the line without some of them: plain Lean. -/
namespace Q
open PySem PySem.Spec L2 DY
def lim : Part → Bool
  | .gap _ _ => true
  | .hold _ _ => true
  | .sec _ _ => true
  | _ => false
/-- whether a part of one of some kinds stands at a path -/
def kindAt (f : Part → Bool) (p : Part) (t : List Int) : Bool := match follow p t with
  | some s => f s
  | none => false
/-- the paths of the parts of some kinds -/
def Part.kinds (f : Part → Bool) (p : Part) : List (List Int) := (p.paths []).filter (kindAt f p)
/-- without the limits at some paths -/
def Part.rest (g : List (List Int)) : Part → List Int → Part
  | .belt t, _ => .belt t
  | .gap c t, q => if q ∈ g then .belt 0 else .gap c t
  | .hold c t, q => if q ∈ g then .belt 0 else .hold c t
  | .sec c p, q => if q ∈ g then p.rest g (q ++ [0]) else .sec c (p.rest g (q ++ [0]))
  | .beh a b, q => .beh (a.rest g (q ++ [0])) (b.rest g (q ++ [1]))
  | .both a b, q => .both (a.rest g (q ++ [0])) (b.rest g (q ++ [1]))
end Q

/-! What the law draws. -/
namespace Q
open PySem PySem.Spec L2 DY
structure Dw where
  ws : List Int
  cs : List Int
  rest : Int
  turn : Int
def c0 (w : Dw) : D := .nd .lst (w.ws.map D.int)
def kDw : List Key := [.inr (Str.ofString kwD), .inr (Str.ofString "cells"), .inr (Str.ofString "rest"), .inr (Str.ofString "turn")]
def c1 (w : Dw) : D := .nd (.dk kDw) [.h 0, .nd .lst (w.cs.map D.int), .int w.rest, .int w.turn]
/-- the store: what is drawn from, and R -/
def drs (w : Dw) (R : Store) : Store := c0 w :: c1 w :: R
/-- t draws of new numbers at most -/
structure Dw.ok (w : Dw) (t : Nat) : Prop where
  ws : ∀ x ∈ w.ws, 0 ≤ x
  cs : ∀ x ∈ w.cs, 0 ≤ x
  rest : 0 ≤ w.rest
  t0 : 0 ≤ w.turn
  t1 : w.turn ≤ t
theorem Dw.ok.mono {w : Dw} {s t : Nat} (h : w.ok s) (hs : s ≤ t) : w.ok t := ⟨h.ws, h.cs, h.rest, h.t0, by have := h.t1; omega⟩
section
variable {w : Dw} {R g : Store} {i : Nat} {x : D}
@[simp] theorem drs_len : (drs w R).length = R.length + 2 := rfl
@[simp high] theorem drs_0 : (drs w R)[0]? = some (c0 w) := rfl
@[simp high] theorem drs_1 : (drs w R)[1]? = some (c1 w) := rfl
@[simp high] theorem drs_get : (drs w R)[i + 2]? = R[i]? := rfl
@[simp] theorem drs_app : drs w R ++ g = drs w (R ++ g) := rfl
@[simp] theorem drs_set : (drs w R).set (i + 2) x = drs w (R.set i x) := rfl
theorem hdB_ints (n : Nat) : ∀ is : List Int, hdBL n (is.map D.int) = true
  | [] => rfl
  | i :: is => by simp [hdBL, hdB, hdB_ints n is]
theorem cells_drs {w w' : Dw} {R g : Store} : CellsOk (drs w R) (drs w' (R ++ g)) := by
  refine ⟨by simp, fun k d hk e => ?_⟩
  match k with
  | 0 => cases e; exact .inr (by simp [c0, hdB, hdB_ints])
  | 1 => cases e; exact .inr (by simp [c1, hdB, hdBL, hdB_ints])
  | k + 2 =>
    refine .inl ?_
    rw [drs_get] at e ⊢
    rw [List.getElem?_append_left (by simpa using hk)] at e
    exact e
theorem frzR_drs {w w' : Dw} {R g : Store} {d d' : D} (h : frz 5 (R.length + 2) (drs w' (R ++ g)) d = some d') : frzR (drs w R) (.ok d (drs w' (R ++ g))) = .ok d' (drs w' R) := by
  unfold frzR frzF
  dsimp only
  rw [if_pos cells_drs, drs_len, h]
  dsimp only
  congr 1
  show (drs w' (R ++ g)).take (R.length + 2) = _
  simp [drs]
@[simp] theorem frzR_drs_noH {w w' : Dw} {R g : Store} {d : D} (h : noH d = true) : frzR (drs w R) (.ok d (drs w' (R ++ g))) = .ok d (drs w' R) := frzR_drs (frz_noH h)
@[simp] theorem frzR_drs_same {w w' : Dw} {R : Store} {d : D} (h : noH d = true) : frzR (drs w R) (.ok d (drs w' R)) = .ok d (drs w' R) := by
  have := frzR_drs_noH (w := w) (w' := w') (R := R) (g := []) h
  simpa using this
@[simp] theorem frzR_drs_new {w w' : Dw} {R g : Store} {t : Hd} {xs : List D} (h : noHL xs = true) : frzR (drs w R) (.ok (.h (R.length + 2)) (drs w' (R ++ (.nd t xs :: g)))) = .ok (.nd t xs) (drs w' R) :=
  frzR_drs (by
    have := frz_new (st := drs w' R) (g := .nd t xs :: g) (t := t) (xs := xs) (k := R.length + 2) (by simp) (by simp) h
    simpa using this)
end
/-! ### the beginning -/
theorem begun (n : Nat) {ns : List Int} (hl : ns.length ≤ 63) : ∃ w : Dw, sem (n + 1) f__law_begun [scrD ns] [] = .ok (.h 1) (drs w []) ∧ w.ok 0 := by
  rw [S__law_begun]
  simp [b__law_begun, scrD]
  generalize hx : compL _ _ _ _ _ _ _ _ _ = x
  obtain rfl := compL_fm hx (fun i : Int => if 1000000000000000000 ≤ (if i < 0 then -i else i) then some (.int ((if i < 0 then -i else i) - 1000000000000000000)) else none) (by simp) (by omega) (fun a ha => by
    by_cases h : 1000000000000000000 ≤ (if a < 0 then -a else a) <;> simp [h])
  simp
  generalize hx : compL _ _ _ _ _ _ _ _ _ = x
  obtain rfl := compL_map hx (fun i : Int => .int ((if i < 0 then -i else i) % 2147483629)) (by simp) (by omega) (fun a ha => by simp)
  simp [dDictM1, keys?, key?]
  refine ⟨⟨ns.filterMap fun i : Int => if 1000000000000000000 ≤ (if i < 0 then -i else i) then some ((if i < 0 then -i else i) - 1000000000000000000) else none, ns.map fun i : Int => (if i < 0 then -i else i) % 2147483629, 0, 0⟩, ?_, ?_⟩
  · simp [drs, c0, c1, kDw, List.map_filterMap]
  · refine ⟨fun x hx => ?_, fun x hx => ?_, by simp, by simp, by simp⟩
    · simp only [List.mem_filterMap] at hx
      obtain ⟨i, _, h⟩ := hx
      by_cases hc : 1000000000000000000 ≤ (if i < 0 then -i else i)
      · simp [hc] at h; omega
      · simp [hc] at h
    · simp only [List.mem_map] at hx
      obtain ⟨i, _, rfl⟩ := hx
      omega
/-! ### new numbers -/
theorem mixed (n : Nat) {w : Dw} {R : Store} {t : Nat} (h : w.ok t) (ht : t < 1000000000000) :
    ∃ v, sem (n + 1) f__law_mixed [.h 1] (drs w R) = .ok (.int v) (drs ⟨w.ws, w.cs, w.rest, w.turn + 1⟩ R) ∧ 0 ≤ v := by
  have h0 := h.t0; have h1 := h.t1
  rw [S__law_mixed]
  have put : ∀ x : Int, putD 3 (.h 1) (.str (Str.ofString "turn")) (.int x) (drs w R) = some (drs ⟨w.ws, w.cs, w.rest, x⟩ R) := fun x => by
    simp [c1, kDw]
    simp [drs, c0, c1, kDw]
  simp [b__law_mixed, c1, kDw, put]
  generalize hx : forL _ _ _ _ _ _ = x
  obtain ⟨env', st', rfl, hI⟩ := forL_go hx (fun _ env st => st = drs ⟨w.ws, w.cs, w.rest, w.turn + 1⟩ R ∧ ∃ v j3 j4 j5, env = [some (.h 1), some (.int (w.turn + 1)), some (.int v), j3, j4, j5] ∧ 0 ≤ v)
    ⟨rfl, 0, none, none, none, rfl, by omega⟩ (fun _ _ _ _ => by simp) (by
      rintro i d _ _ hi ⟨rfl, v, j3, j4, j5, rfl, hv⟩
      have : ∃ p : Int, d = .int p ∧ 0 < p ∧ p < 2147483648 := by
        have := List.mem_of_getElem? hi
        simp at this
        rcases this with rfl | rfl | rfl | rfl <;> exact ⟨_, rfl, by omega, by omega⟩
      obtain ⟨p, rfl, p0, p1⟩ := this
      simp [dMul_l, dFdiv_n, c1, kDw]
      generalize hy : forL _ _ _ _ _ _ = y
      obtain ⟨env', st', rfl, rfl, b, j5, rfl, b0, b1⟩ := forL_go hy (fun _ env st => st = drs ⟨w.ws, w.cs, w.rest, w.turn + 1⟩ R ∧ ∃ b j5, env = [some (.h 1), some (.int (w.turn + 1)), some (.int v), some (.int p), some (.int b), j5] ∧ 0 ≤ b ∧ b < 18446744073709551616)
        ⟨rfl, _, j5, rfl, by omega, by omega⟩ (fun _ _ _ _ => by simp) (by
          rintro i d _ _ hi ⟨rfl, b, j5, rfl, b0, b1⟩
          obtain ⟨c, hc, rfl⟩ := get_map hi
          have c0 := h.cs c (List.mem_of_getElem? hc)
          simp [dMul_r, p0]
          exact ⟨Int.emod_nonneg _ (by omega), by have := Int.emod_lt_of_pos (b * 48271 + c + (w.turn + 1)) p0; omega⟩)
      have hp : CPow b 5 := ⟨by decide, by decide, by omega⟩
      simp [dMul_r, dPow_ev hp, p0]
      have := Int.emod_nonneg (b ^ 5) (show p ≠ 0 by omega)
      omega)
  obtain ⟨rfl, v, j3, j4, j5, rfl, hv⟩ := hI
  simp [hv]
/-- the draw -/
theorem take (n : Nat) {w : Dw} {R : Store} {t : Nat} {size : Int} (h : w.ok t) (ht : t < 1000000000000) (hs : 0 < size ∧ size < 2 ^ 200) :
    ∃ v w', sem (n + 2) f__law_take [.h 1, .int size] (drs w R) = .ok (.int v) (drs w' R) ∧ w'.ok (t + 1) ∧ 0 ≤ v ∧ v < size := by
  have put : ∀ (w : Dw) (x : Int), putD 2 (.h 1) (.str (Str.ofString "rest")) (.int x) (drs w R) = some (drs ⟨w.ws, w.cs, x, w.turn⟩ R) := fun w x => by
    simp [c1, kDw]
    simp [drs, c0, c1, kDw]
  have hz : size.natAbs.log2 < 9000 := by
    by_cases hc : 9000 ≤ size.natAbs.log2
    · have h1 := Nat.log2_self_le (n := size.natAbs) (by omega)
      have h2 : (2 : Nat) ^ 200 ≤ 2 ^ size.natAbs.log2 := Nat.pow_le_pow_right (by decide) (by omega)
      omega
    · omega
  have fin : ∀ w : Dw, w.ok (t + 1) → ∃ v w', finB (sCons (sSet 2 (dBin dMod (dCall dInt (dCons (dBin (dGet 2) (dVar 0) (dConst (.str "rest"))) (dNil))) (dVar 1)))
      (sCons (sDPut 2 (dVar 0) (dConst (.str "rest")) (dBin dFdiv (dBin (dGet 2) (dVar 0) (dConst (.str "rest"))) (dVar 1))) (sRet (dVar 2))) [some (.h 1), some (.int size), none] (drs w R)) = .ok (.int v) (drs w' R) ∧ w'.ok (t + 1) ∧ 0 ≤ v ∧ v < size := by
    intro w h
    refine ⟨w.rest % size, ⟨w.ws, w.cs, w.rest / size, w.turn⟩, ?_, ⟨h.ws, h.cs, Int.ediv_nonneg h.rest (by omega), h.t0, h.t1⟩, Int.emod_nonneg _ (by omega), Int.emod_lt_of_pos _ hs.1⟩
    simp [c1, kDw, put, hs.1, dFdiv_w ⟨hs.1, hz⟩, -putD_ev]
  rw [S__law_take]
  by_cases hr : w.rest = 0
  · cases hw : w.ws with
    | nil =>
      obtain ⟨v, e, v0⟩ := mixed n (R := R) h ht
      obtain ⟨v', w', e', h'⟩ := fin ⟨w.ws, w.cs, v, w.turn + 1⟩ ⟨h.ws, h.cs, v0, by have := h.t0; show 0 ≤ w.turn + 1; omega, by have := h.t1; show w.turn + 1 ≤ _; omega⟩
      refine ⟨v', w', ?_, h'⟩
      rw [← e']
      have ne := ne_nil (x := .h 0) (st := drs w R) (is := []) (.inr ⟨0, rfl, by simp [c0, hw]⟩)
      simp [b__law_take, c1, kDw, hr, put, -putD_ev, e, c0, hw, ne]
    | cons x ws =>
      obtain ⟨v', w', e', h'⟩ := fin ⟨ws, w.cs, x, w.turn⟩ ⟨fun y hy => h.ws y (by rw [hw]; exact List.mem_cons_of_mem _ hy), h.cs, h.ws x (by rw [hw]; exact List.mem_cons_self), h.t0, by have := h.t1; show w.turn ≤ _; omega⟩
      refine ⟨v', w', ?_, h'⟩
      rw [← e']
      have ne := ne_nil (x := .h 0) (st := drs w R) (is := x :: ws) (.inr ⟨0, rfl, by simp [c0, hw]⟩)
      have st : List.set (drs w R) 0 (.nd .lst (ws.map D.int)) = drs ⟨ws, w.cs, w.rest, w.turn⟩ R := by simp [drs, c0, c1]
      simp [b__law_take, c1, kDw, hr, put, -putD_ev, c0, hw, ne, st]
  · obtain ⟨v', w', e', h'⟩ := fin w (h.mono (by omega))
    refine ⟨v', w', ?_, h'⟩
    rw [← e']
    simp [b__law_take, c1, kDw, hr]
end Q

/-! The lines that a law draws. -/
namespace Q
open PySem PySem.Spec L2 DY
theorem pick (n : Nat) {w : Dw} {R : Store} {t : Nat} {xs : List D} (h : w.ok t) (ht : t < 1000000000000) (hx : xs ≠ [] ∧ xs.length ≤ 16777216) :
    ∃ d w', sem (n + 3) f__law_pick [.h 1, .nd .lst xs] (drs w R) = .ok d (drs w' R) ∧ w'.ok (t + 1) ∧ d ∈ xs := by
  have hl : 0 < xs.length := List.length_pos_iff.mpr hx.1
  obtain ⟨v, w', e, h', v0, v1⟩ := take n (R := R) (size := (xs.length : Int)) h ht ⟨by omega, by omega⟩
  have hv : v.toNat < xs.length := by omega
  refine ⟨xs[v.toNat], w', ?_, h', List.getElem_mem _⟩
  rw [S__law_pick]
  simp [b__law_pick, e, atI_int v0, hv]
theorem time (n : Nat) {w : Dw} {R : Store} {t : Nat} {k : Str} (h : w.ok t) (ht : t + 3 < 1000000000000) :
    ∃ v w', sem (n + 4) f__law_time [.h 1, .str k] (drs w R) = .ok (.int v) (drs w' R) ∧ w'.ok (t + 3) ∧ 0 ≤ v ∧ v ≤ 1000000000 := by
  rw [S__law_time]
  by_cases hk : k = Str.ofString "small"
  · obtain ⟨v, w', e, h', v0, v1⟩ := take (n + 1) (R := R) (size := 10) h (by omega) (by omega)
    exact ⟨v, w', by simp [b__law_time, hk, e], h'.mono (by omega), v0, by omega⟩
  · obtain ⟨v1, w1, e1, h1, a0, a1⟩ := take (n + 1) (R := R) (size := 100) h (by omega) (by omega)
    obtain ⟨v2, w2, e2, h2, c0, c1⟩ := take (n + 1) (R := R) (size := 1000000001) h1 (by omega) (by omega)
    obtain ⟨d, w', e3, h3, hd⟩ := pick n (R := R) (xs := [.int 0, .int 1, .int 2, .int 5, .int 7, .int 1000000000, .int 999999999, .int v1, .int v2]) h2 (by omega) (by simp)
    have : ∃ v : Int, d = .int v ∧ 0 ≤ v ∧ v ≤ 1000000000 := by
      simp at hd
      rcases hd with rfl | rfl | rfl | rfl | rfl | rfl | rfl | rfl | rfl <;> exact ⟨_, rfl, by omega, by omega⟩
    obtain ⟨v, rfl, v0, v3⟩ := this
    exact ⟨v, w', by simp [b__law_time, hk, e1, e2, e3], h3.mono (by omega), v0, v3⟩
/-- the sorts that a law draws from -/
def sorts (S : List String) : D := .nd .lst (S.map sS)
def Four (S : List String) : Prop := ∀ s ∈ S, s = "belt" ∨ s = "gap" ∨ s = "hold" ∨ s = "both"
theorem leaf (n : Nat) {w : Dw} {R : Store} {t : Nat} {k : Str} {top : Int} {S : List String} (h : w.ok t) (ht : t + 5 < 1000000000000) (h0 : 1 ≤ top ∧ top ≤ 100) (hS : S ≠ [] ∧ S.length ≤ 100) (h4 : ∀ s ∈ S, s = "belt" ∨ s = "gap" ∨ s = "hold") :
    ∃ p w', sem (n + 5) f__law_leaf [.h 1, .int top, .str k, sorts S] (drs w R) = .ok (Part.d p) (drs w' R) ∧ w'.ok (t + 5) ∧ p.size = 1 ∧ p.ok top ∧ p.within S := by
  obtain ⟨d, w1, e1, h1, hd⟩ := pick (n + 1) (R := R) (xs := S.map sS) h (by omega) ⟨by simpa using hS.1, by simp; omega⟩
  obtain ⟨s, hs, rfl⟩ := List.mem_map.mp hd
  rw [S__law_leaf]
  rcases h4 s hs with rfl | rfl | rfl
  · obtain ⟨v, w', e, h', v0, v1⟩ := time n (R := R) (k := k) h1 (by omega)
    exact ⟨.belt v, w', by simp [b__law_leaf, sorts, e1, sS, e, Part.d], h'.mono (by omega), rfl, ⟨v0, v1⟩, hs⟩
  · obtain ⟨c, w2, e2, h2, c0, c1⟩ := take (n + 2) (R := R) (size := top) h1 (by omega) (by omega)
    obtain ⟨v, w', e, h', v0, v1⟩ := time n (R := R) (k := k) h2 (by omega)
    exact ⟨.gap (1 + c) v, w', by simp [b__law_leaf, sorts, e1, sS, e, e2, Part.d], h'.mono (by omega), rfl, ⟨⟨by omega, by omega⟩, v0, v1⟩, hs⟩
  · obtain ⟨c, w2, e2, h2, c0, c1⟩ := take (n + 2) (R := R) (size := top) h1 (by omega) (by omega)
    obtain ⟨v, w', e, h', v0, v1⟩ := time n (R := R) (k := k) h2 (by omega)
    exact ⟨.hold (1 + c) v, w', by simp [b__law_leaf, sorts, e1, sS, e, e2, Part.d], h'.mono (by omega), rfl, ⟨⟨by omega, by omega⟩, v0, v1⟩, hs⟩
theorem Part.within.sub {S T : List String} (h : ∀ s, s ∈ S → s ∈ T) : ∀ {p : Part}, p.within S → p.within T
  | .belt _, q => h _ q
  | .gap _ _, q => h _ q
  | .hold _ _, q => h _ q
  | .sec _ p, q => Part.within.sub (p := p) h q
  | .beh a b, q => ⟨Part.within.sub (p := a) h q.1, Part.within.sub (p := b) h q.2⟩
  | .both a b, q => ⟨h _ q.1, Part.within.sub (p := a) h q.2.1, Part.within.sub (p := b) h q.2.2⟩
theorem inV_sorts {S : List String} : fvs (S.map sS) = some (S.map fun s => V.str (Str.ofString s)) := by
  induction S with
  | nil => rfl
  | cons s S ih => simp [fvs, DY.fv, sS, ih]
theorem dIn_sorts {s : String} {S : List String} {st : Store} : dIn (.str (Str.ofString s)) (sorts S) st = .ok (.bl (decide (s ∈ S))) st := by
  rw [dIn_flat (v := V.str (Str.ofString s)) (vs := S.map fun s => V.str (Str.ofString s)) rfl (by simp [sorts, inV_sorts]) (by intro a h; cases h)]
  congr 2
  induction S with
  | nil => rfl
  | cons a S ih =>
    have : inV (V.str (Str.ofString s)) ((a :: S).map fun s => V.str (Str.ofString s)) = (decide (a = s) || inV (V.str (Str.ofString s)) (S.map fun s => V.str (Str.ofString s))) := by
      have e : (Str.ofString a == Str.ofString s) = decide (a = s) := by
        by_cases h : a = s
        · subst h; simp
        · simp [h]
      rw [← e]; rfl
    rw [this, ih]
    by_cases h : a = s
    · subst h; simp
    · simp [h, Ne.symm h]
theorem tree : ∀ (r n : Nat) {w : Dw} {R : Store} {t : Nat} {k : Str} {top : Int} {S : List String}, w.ok t → 1 ≤ r → r ≤ 30 → t + 6 * r < 1000000000000 → (1 ≤ top ∧ top ≤ 100) → S.length ≤ 100 → S.filter (fun s => !decide (s = "both")) ≠ [] → Four S →
    ∃ p w', sem (n + r + 6) f__law_tree [.h 1, .int r, .int top, .str k, sorts S] (drs w R) = .ok (Part.d p) (drs w' R) ∧ w'.ok (t + 6 * r) ∧ p.size ≤ r ∧ p.ok top ∧ p.within S := by
  intro r
  induction r using Nat.strongRecOn with
  | ind r ih =>
    intro n w R t k top S h r1 r2 ht h0 hl hS h4
    obtain ⟨way, w1, e1, h1, a0, a1⟩ := take (n + r + 3) (R := R) (size := 8) h (by omega) (by omega)
    rw [show n + r + 6 = (n + r + 5) + 1 by omega, S__law_tree]
    by_cases hc : 3 ≤ r ∧ way < 5
    · have hr : 3 ≤ (r : Int) := by omega
      obtain ⟨f, w2, e2, h2, f0, f1⟩ := take (n + r + 3) (R := R) (size := (r : Int) - 2) h1 (by omega) (by omega)
      obtain ⟨g, rfl⟩ : ∃ g : Nat, f = g := ⟨f.toNat, by omega⟩
      have := ih (1 + g) (by omega) (n + r - 2 - g) (R := R) (k := k) h2 (by omega) (by omega) (by omega) h0 hl hS h4
      obtain ⟨p, w3, e3, h3, p1, p2, p3⟩ := this
      obtain ⟨q, w4, e4, h4', q1, q2, q3⟩ := ih (r - 1 - (1 + g)) (by omega) (n + 1 + g) (R := R) (k := k) h3 (by omega) (by omega) (by omega) h0 hl hS h4
      rw [show n + r - 2 - g + (1 + g) + 6 = n + r + 5 by omega] at e3
      rw [show n + 1 + g + (r - 1 - (1 + g)) + 6 = n + r + 5 by omega] at e4
      have c1 : ((1 + g : Nat) : Int) = 1 + (g : Int) := by omega
      have c2 : ((r - 1 - (1 + g) : Nat) : Int) = (r : Int) - 1 - (1 + (g : Int)) := by omega
      rw [c1] at e3
      rw [c2] at e4
      by_cases hb : "both" ∈ S ∧ way < 2
      · refine ⟨.both p q, w4, ?_, h4'.mono (by omega), by simp [Part.size]; omega, ⟨p2, q2⟩, hb.1, p3, q3⟩
        simp [b__law_tree, e1, hr, hc.2, e2, e3, e4, dIn_sorts, hb.1, hb.2, Part.d]
      · refine ⟨.beh p q, w4, ?_, h4'.mono (by omega), by simp [Part.size]; omega, ⟨p2, q2⟩, p3, q3⟩
        have hb' : ¬ (("both" ∈ S) ∧ way < 2) := hb
        by_cases hb1 : "both" ∈ S
        · have hb2 : ¬ way < 2 := fun z => hb ⟨hb1, z⟩
          simp [b__law_tree, e1, hr, hc.2, e2, e3, e4, dIn_sorts, hb1, hb2, Part.d]
        · simp [b__law_tree, e1, hr, hc.2, e2, e3, e4, dIn_sorts, hb1, Part.d]
    · have hc1 : 3 ≤ (r : Int) → ¬ way < 5 := fun a b => hc ⟨by omega, b⟩
      by_cases hs : 2 ≤ r ∧ way < 7
      · obtain ⟨c, w2, e2, h2, c0, c1⟩ := take (n + r + 3) (R := R) (size := top) h1 (by omega) (by omega)
        obtain ⟨p, w3, e3, h3, p1, p2, p3⟩ := ih (r - 1) (by omega) n (R := R) (k := k) h2 (by omega) (by omega) (by omega) h0 hl hS h4
        rw [show n + (r - 1) + 6 = n + r + 5 by omega] at e3
        have c2 : ((r - 1 : Nat) : Int) = (r : Int) - 1 := by omega
        rw [c2] at e3
        refine ⟨.sec (1 + c) p, w3, ?_, h3.mono (by omega), by simp [Part.size]; omega, ⟨⟨by omega, by omega⟩, p2⟩, p3⟩
        have h2' : (2 : Int) ≤ r := by omega
        by_cases h3' : 3 ≤ (r : Int)
        · simp [b__law_tree, e1, h3', hc1 h3', h2', hs.2, e2, e3, Part.d]
        · simp [b__law_tree, e1, h3', h2', hs.2, e2, e3, Part.d]
      · obtain ⟨p, w2, e2, h2, p1, p2, p3⟩ := leaf (n + r) (R := R) (k := k) (S := S.filter (fun s => !decide (s = "both"))) h1 (by omega) h0 ⟨hS, Nat.le_trans (List.length_filter_le _ _) hl⟩ (fun s hs => by
          simp at hs
          rcases h4 s hs.1 with a | a | a | a
          · exact .inl a
          · exact .inr (.inl a)
          · exact .inr (.inr a)
          · exact absurd a hs.2)
        refine ⟨p, w2, ?_, h2.mono (by omega), by omega, p2, p3.sub fun s hs => (List.mem_filter.mp hs).1⟩
        have hs1 : 2 ≤ (r : Int) → ¬ way < 7 := fun a b => hs ⟨by omega, b⟩
        by_cases h3' : 3 ≤ (r : Int)
        · have h2' : (2 : Int) ≤ r := by omega
          simp [b__law_tree, e1, h3', hc1 h3', h2', hs1 h2', sorts]
          generalize hx : compL _ _ _ _ _ _ _ _ _ = x
          obtain rfl := compL_filter hx (fun s => !decide (s = "both")) sS (by simp) (by omega) (fun a ha => by by_cases h : a = "both" <;> simp [sS, h])
          simp only [sorts] at e2
          simp [e2]
        · by_cases h2' : (2 : Int) ≤ r
          · simp [b__law_tree, e1, h3', h2', hs1 h2', sorts]
            generalize hx : compL _ _ _ _ _ _ _ _ _ = x
            obtain rfl := compL_filter hx (fun s => !decide (s = "both")) sS (by simp) (by omega) (fun a ha => by by_cases h : a = "both" <;> simp [sS, h])
            simp only [sorts] at e2
            simp [e2]
          · simp [b__law_tree, e1, h3', h2', sorts]
            generalize hx : compL _ _ _ _ _ _ _ _ _ = x
            obtain rfl := compL_filter hx (fun s => !decide (s = "both")) sS (by simp) (by omega) (fun a ha => by by_cases h : a = "both" <;> simp [sS, h])
            simp only [sorts] at e2
            simp [e2]
end Q

/-! Lists of whole numbers shown and compared. -/
namespace Q
open PySem PySem.Spec L2 DY
end Q


/-! The part at a path, as a line. -/
namespace Q
open PySem PySem.Spec L2 DY
theorem toPgL_tups (dr : Nat → Option PyData) : ∀ ts : List (List Int), toPgL dr (ts.map tupI) = some (ts.map fun t => .tuple (t.map .int))
  | [] => rfl
  | t :: ts => by simp [toPgL, toPg, tupI, toPg_ints, toPgL_tups dr ts]
end Q

/-! Nested tuples of parts compared with themselves. -/
namespace Q
open PySem PySem.Spec L2 DY
end Q

/-! Lines as texts: plain Lean. -/
namespace Q
open PySem PySem.Spec L2 DY
end Q

/-! Parts shown. -/
namespace Q
open PySem PySem.Spec L2 DY
end Q

/-! Lists of paths: in, ==, shown; the kind of a part among some kinds. -/
namespace Q
open PySem PySem.Spec L2 DY
def tupP (t : List Int) : PyData := .tuple (t.map .int)
theorem toPgL_paths (dr : Nat → Option PyData) (ts : List (List Int)) : toPgL dr (ts.map tupI) = some (ts.map tupP) := toPgL_tups dr ts
theorem Is.paths {st : Store} {x : D} {ts : List (List Int)} (h : Is st x (ts.map tupI)) : toP deepP st x = some (.list (ts.map tupP)) := h.toPd fun dr => toPgL_paths dr ts
theorem log_small {i : Int} (h : 0 ≤ i ∧ i ≤ 1000) : i.natAbs.log2 < 1920 := by
  by_cases h0 : i.natAbs = 0
  · rw [h0]; decide
  · have h2 := Nat.log2_self_le h0
    by_cases h3 : i.natAbs.log2 < 1920
    · exact h3
    · have h4 : (2 : Nat) ^ 1000 ≤ 2 ^ i.natAbs.log2 := Nat.pow_le_pow_right (by decide) (by omega)
      have h5 : (1001 : Nat) ≤ 2 ^ 1000 := by decide
      omega
end Q

/-! What comparing tells is not too great: plain Lean. -/
namespace Q
open PySem PySem.Spec L2 DY PySem.W
end Q

/-! Terms compared with themselves and shown. -/
namespace Q
open PySem PySem.Spec L2 DY PySem.W
def prP (p : Pr) : PyData := .tuple [.int p.1, .int p.2]
def tmP (t : Tm) : PyData := .tuple [.int t.a, .int t.b, .tuple (t.ps.map prP)]
theorem toPgL_pr (dr : Nat → Option PyData) : ∀ ps : List Pr, toPgL dr (ps.map prD) = some (ps.map prP)
  | [] => rfl
  | p :: ps => by simp [toPgL, prD, prP, toPg, toPgL_pr dr ps]
theorem toPgL_tm (dr : Nat → Option PyData) : ∀ ts : List Tm, toPgL dr (ts.map tmD) = some (ts.map tmP)
  | [] => rfl
  | t :: ts => by
    have e : toPg dr (tmD t) = some (tmP t) := by
      have := toPgL_pr dr t.ps
      simp [tmD, tmP, prsD, toPg, toPgL, this]
    rw [List.map_cons, toPgL, e, toPgL_tm dr ts]; rfl
theorem prs_pl : ∀ ps : List Pr, PyData.plainAll (ps.map prP) = true ∧ PyData.depthAll (ps.map prP) ≤ 1
  | [] => ⟨rfl, Nat.zero_le _⟩
  | p :: ps => by
    have := prs_pl ps
    constructor
    · simp [PyData.plainAll, prP, PyData.plain, this.1]
    · simp [PyData.depthAll, prP, PyData.depth, this.2]
theorem tms_pl : ∀ ts : List Tm, PyData.plainAll (ts.map tmP) = true ∧ PyData.depthAll (ts.map tmP) ≤ 3
  | [] => ⟨rfl, Nat.zero_le _⟩
  | t :: ts => by
    have := tms_pl ts
    have q := prs_pl t.ps
    constructor
    · simp [PyData.plainAll, tmP, PyData.plain, q.1, this.1]
    · simp [PyData.depthAll, tmP, PyData.depth]; omega
end Q


/-! Walks of items, as the laws keep them. -/
namespace Q
open PySem PySem.Spec L2 DY
theorem law_inner_ok (n : Nat) (p : Part) (st : Store) : sem (n + 1) f__law_inner [p.d] st = .ok (.nd .lst (p.inner.map Part.d)) st := by
  rw [S__law_inner]
  have inn : ∀ k : String, dIn (.str (Str.ofString k)) (.nd .tup [.str (Str.ofString "behind"), .str (Str.ofString "both")]) st = .ok (.bl (decide (k = "behind") || decide (k = "both"))) st := fun k => by
    rw [dIn_flat (v := V.str (Str.ofString k)) (vs := [V.str (Str.ofString "behind"), V.str (Str.ofString "both")]) rfl (by simp [fvs, DY.fv]) (by intro a h; cases h)]
    have e : ∀ a b : String, (Str.ofString a == Str.ofString b) = decide (b = a) := fun a b => by
      by_cases h : a = b
      · subst h; simp
      · simp [h, Ne.symm h]
    simp [inV, eqV, e]
  cases p <;> simp [b__law_inner, Part.d, Part.inner, inn]
end Q

/-! k10: the law's own terms, or none. -/
namespace Q
open PySem PySem.Spec L2 DY PySem.W
theorem o_joined_big (n : Nat) {x y : Tm} (h : x.ps.length + y.ps.length < 4000) (st : Store) : sem (n + 1) f__law_joined [tmD x, tmD y] st = .ok (tmD (joined x y)) st := by
  have e := sort_prs (ps := x.ps ++ y.ps) (by simp; omega) st
  simp only [List.map_append] at e
  have l : x.ps.length + y.ps.length ≤ 16777216 := by omega
  rw [S__law_joined]
  simp [b__law_joined, tmD, prsD, l, e, joined]
theorem o_section_big (n : Nat) {ts : List Tm} {c : Int} (h : ts.length ≤ 6) (hp : ∀ t ∈ ts, t.ps.length ≤ 100) (hj : ∀ k, k ≤ ts.length → ∀ o ∈ (ts.take k).foldl (secStep c) [], ∀ t ∈ ts, o.ps.length + (repeated c t).ps.length ≤ 200) (st : Store) :
    sem (n + 2) f__law_section_terms [.nd .lst (ts.map tmD), .int c] st = .ok (.nd .lst ((secRaw c ts).map tmD)) st := by
  rw [S__law_section_terms]
  simp [b__law_section_terms]
  generalize hy : forL _ _ _ _ _ _ = y
  obtain ⟨_, s, rfl, j3, j4, j5, j6, j7, j8, rfl, rfl⟩ := forL_go hy (fun i env st' => ∃ j3 j4 j5 j6 j7 j8, env = [some (.nd .lst (ts.map tmD)), some (.int c), some (.nd .lst (((ts.take i).foldl (secStep c) []).map tmD)), j3, j4, j5, j6, j7, j8] ∧ st' = st)
    ⟨none, none, none, none, none, none, rfl, rfl⟩ (by rintro _ _ _ ⟨_, _, _, _, _, _, _, rfl⟩; simp) (by
      rintro i d _ s hi ⟨j3, j4, j5, j6, j7, j8, rfl, rfl⟩
      obtain ⟨t, ht, rfl⟩ := get_map hi
      have mt : t ∈ ts := List.mem_of_getElem? ht
      have hi' : i < ts.length := (List.getElem?_eq_some_iff.mp ht).1
      have lf := secRaw_len c (ts.take i) []
      have pw : 2 ^ (ts.take i).length ≤ 2 ^ 6 := Nat.pow_le_pow_right (by decide) (by rw [List.length_take]; omega)
      simp only [List.length_nil, Nat.zero_add, Nat.one_mul] at lf
      have hjj := hj i (by omega)
      have tk : (ts.take (i + 1)).foldl (secStep c) [] = secStep c ((ts.take i).foldl (secStep c) []) t := by
        rw [List.take_add_one, ht]; simp [List.foldl_append]
      generalize hF : (ts.take i).foldl (secStep c) [] = F at *
      have lF : F.length ≤ 63 := by omega
      have l1 : F.length + 1 ≤ 16777216 := by omega
      have l2 : F.length + 1 + F.length ≤ 16777216 := by omega
      have l0 : (fresh c t).length ≤ 1 := by unfold fresh; split <;> simp
      have hpt := hp t mt
      have e := sort_prs (ps := t.ps ++ fresh c t) (by simp; omega) s
      simp only [List.map_append] at e
      have l3 : t.ps.length + 1 ≤ 16777216 := by omega
      have l4 : t.ps.length ≤ 16777216 := by omega
      have rD : D.nd .tup [.int t.a, .int t.b, .nd .tup ((usort (t.ps ++ fresh c t)).map prD)] = tmD (repeated c t) := rfl
      have body : ∀ st', (∀ o ∈ F, sem (n + 1) f__law_joined [tmD o, tmD (repeated c t)] st' = .ok (tmD (joined o (repeated c t))) st') ∧ (∀ o ∈ F, sem (n + 1) f__law_joined [tmD (joined o (repeated c t)), .nd .tup [.int c, .int 0, .nd .tup []]] st' = .ok (tmD (joined (joined o (repeated c t)) (tm c 0 []))) st') := fun st' =>
        ⟨fun o ho => o_joined_big n (by have := hjj o ho t mt; omega) st', fun o ho => o_joined_big n (x := joined o (repeated c t)) (y := tm c 0 []) (by
          have := usort_len (o.ps ++ (repeated c t).ps)
          have := hjj o ho t mt
          simp [joined, Tm.ps] at *; omega) st'⟩
      by_cases hb : 0 < t.b
      · simp [fresh, hb, prD] at e rD
        simp [tmD, prsD, hb, l1, l3, e, prD]
        rw [rD]
        generalize hx : compL _ _ _ _ _ _ _ _ _ = x
        obtain rfl := compL_map hx (fun o => tmD (joined (joined o (repeated c t)) (tm c 0 []))) (by simp) (by omega) (fun o ho => by
          have j1 := (body s).1 o ho
          have j2 := (body s).2 o ho
          simp [j1, j2])
        simp [l2, tk, secStep, List.map_map, Function.comp_def]
      · simp [fresh, hb, prD] at e rD
        simp [tmD, prsD, hb, l1, l4, e, prD]
        rw [rD]
        generalize hx : compL _ _ _ _ _ _ _ _ _ = x
        obtain rfl := compL_map hx (fun o => tmD (joined (joined o (repeated c t)) (tm c 0 []))) (by simp) (by omega) (fun o ho => by
          have j1 := (body s).1 o ho
          have j2 := (body s).2 o ho
          simp [j1, j2])
        simp [l2, tk, secStep, List.map_map, Function.comp_def])
  simp [secRaw]
theorem leaf_terms (n : Nat) (p : Part) (st : Store) (h : p.size = 1) : sem (n + 2) f__law_terms [p.d] st = .ok (.nd .lst (p.terms.map tmD)) st := by
  cases p with
  | belt t =>
    rw [S__law_terms]
    simp [b__law_terms, Part.d, Part.terms, tmD, prsD, Tm.ps]
  | gap c t =>
    rw [S__law_terms]
    by_cases h : 0 < t <;> simp [b__law_terms, Part.d, Part.terms, tmD, prsD, prD, h, Tm.ps]
  | hold c t =>
    have e := sort_tms (ts := [tm 0 0 [], tm c t []]) (by simp) st
    simp only [List.map_cons, List.map_nil, tmD, prsD, Tm.ps] at e
    rw [S__law_terms]
    simp [b__law_terms, Part.d, Part.terms, tmD, prsD]
    simp [e, tmD, prsD]
  | sec c p => have := Part.size_pos p; simp [Part.size] at h; omega
  | beh a b => have := Part.size_pos a; simp [Part.size] at h; omega
  | both a b => have := Part.size_pos a; simp [Part.size] at h; omega
/-- terms, or none -/
def onD (p : Part) : D := if okT p = true then .nd .lst (p.terms.map tmD) else .non
def onP (p : Part) : PyData := if okT p = true then .list (p.terms.map tmP) else .none
theorem onD_toP (dr : Nat → Option PyData) (p : Part) : toPg dr (onD p) = some (onP p) := by
  unfold onD onP
  by_cases h : okT p = true
  · rw [if_pos h, if_pos h]; simp [toPg, toPgL_tm]
  · rw [if_neg h, if_neg h]; rfl
theorem onP_pl (p : Part) : (onP p).plain = true ∧ (onP p).depth ≤ 4 := by
  unfold onP
  by_cases h : okT p = true
  · rw [if_pos h]
    have := tms_pl p.terms
    exact ⟨by simp [PyData.plain, this.1], by simp [PyData.depth]; omega⟩
  · rw [if_neg h]; exact ⟨rfl, by simp [PyData.depth]⟩
theorem onP_none (p : Part) : PyData.eqv (onP p) .none = !okT p := by
  unfold onP
  by_cases h : okT p = true
  · rw [if_pos h, h]; rfl
  · rw [if_neg h]; simp [h]; rfl
theorem flat_none : ∀ {ps : List Part} {vs : List V}, fvs (ps.map onD) = some vs → (∀ p ∈ ps, okT p = false) ∧ vs = ps.map fun _ => V.non
  | [], vs, h => by simp [fvs] at h; exact ⟨by simp, h.symm ▸ rfl⟩
  | p :: ps, vs, h => by
    simp only [List.map_cons, fvs] at h
    split at h
    · rename_i v us e1 e2
      cases h
      obtain ⟨a, rfl⟩ := flat_none e2
      unfold onD at e1
      by_cases o : okT p = true
      · rw [if_pos o] at e1; cases e1
      · rw [if_neg o] at e1; cases e1
        exact ⟨fun q m => by
          rcases List.mem_cons.mp m with rfl | m
          · simpa using o
          · exact a q m, rfl⟩
    · cases h
theorem onL_toP (dr : Nat → Option PyData) : ∀ ps : List Part, toPgL dr (ps.map onD) = some (ps.map onP)
  | [] => rfl
  | p :: ps => by rw [List.map_cons, toPgL, onD_toP, onL_toP dr ps]; rfl
theorem onL_pl : ∀ ps : List Part, PyData.plainAll (ps.map onP) = true ∧ PyData.depthAll (ps.map onP) ≤ 4
  | [] => ⟨rfl, Nat.zero_le _⟩
  | p :: ps => by
    have a := onL_pl ps
    have b := onP_pl p
    exact ⟨by simp [PyData.plainAll, a.1, b.1], by simp [PyData.depthAll]; omega⟩
theorem onL_shp (ps : List Part) : shp (.list (ps.map onP)) = true := by
  have := onL_pl ps
  simp [shp, PyData.plain, this.1, PyData.depth]; omega
theorem none_in (ps : List Part) (st : Store) : dIn .non (.nd .lst (ps.map onD)) st = .ok (.bl (ps.any fun p => !okT p)) st := by
  have key : inD .non (.nd .lst (ps.map onD)) st = some (ps.any fun p => !okT p) := by
    show (match DY.fv D.non, (seq? st (.nd .lst (ps.map onD))).bind fvs with
    | some v, some vs => some (inV v vs)
    | _, _ => match toP deepP st (.nd .lst (ps.map onD)), toP deepP st D.non with
      | some (.list ds), some d => if shp (.list ds) && shp d then some (ds.any fun z => PyData.eqv z d) else none
      | some (.tuple ds), some d => if shp (.tuple ds) && shp d then some (ds.any fun z => PyData.eqv z d) else none
      | _, _ => none) = _
    rw [show seq? st (.nd .lst (ps.map onD)) = some (ps.map onD) from rfl, Option.bind_some]
    rcases e : fvs (ps.map onD) with _ | vs
    · rw [show toP deepP st (.nd .lst (ps.map onD)) = some (.list (ps.map onP)) by show toPg _ _ = _; simp [toPg, onL_toP], show toP deepP st D.non = some .none from rfl]
      have : shp .none = true := by decide
      simp only [onL_shp, this, Bool.and_self, if_true]
      show some ((ps.map onP).any fun z => PyData.eqv z .none) = _
      rw [List.any_map]
      refine congrArg (fun f => some (ps.any f)) ?_
      funext p
      exact onP_none p
    · obtain ⟨a, rfl⟩ := flat_none e
      simp only [show DY.fv D.non = some V.non from rfl]
      congr 1
      cases ps with
      | nil => rfl
      | cons p ps =>
        have := a p List.mem_cons_self
        simp [this, inV]
        exact .inl rfl
  unfold dIn
  rw [key]
theorem eq_empty (ps : List Part) (st : Store) : dEq (.nd .lst (ps.map onD)) (.nd .lst []) st = .ok (.bl ps.isEmpty) st := by
  have e1 : toP deepP st (.nd .lst (ps.map onD)) = some (.list (ps.map onP)) := Is.toPd (.inl rfl) fun dr => onL_toP dr ps
  have e2 : toP deepP st (.nd .lst []) = some (.list []) := rfl
  unfold dEq
  rw [eqD_lists (.inl rfl) (.inl rfl) e1 e2 (onL_shp ps) (by decide)]
  cases ps with
  | nil => rfl
  | cons p ps => rfl
theorem onD_ok {p : Part} (h : okT p = true) : onD p = .nd .lst (p.terms.map tmD) := if_pos h
theorem onD_no {p : Part} (h : okT p = false) : onD p = .non := if_neg (by simp [h])
theorem none_ok : ∀ (p : Part) (m : Nat) (st : Store), p.size + 6 ≤ m → p.size ≤ 12 → sem m f__law_terms_or_none [p.d] st = .ok (onD p) st := by
  intro p
  induction hs' : p.size using Nat.strongRecOn generalizing p with
  | ind s ih =>
  intro m st hm hs
  subst hs'
  obtain ⟨m, rfl⟩ : ∃ k, m = k + 4 := ⟨m - 4, by omega⟩
  have inn := law_inner_ok (m + 2) p st
  have sub : ∀ q ∈ p.inner, q.size < p.size := fun q hq => by
    cases p <;> simp [Part.inner] at hq
    · subst hq; simp [Part.size]
    · rcases hq with rfl | rfl <;> simp [Part.size] <;> omega
    · rcases hq with rfl | rfl <;> simp [Part.size] <;> omega
  have rec' : ∀ q ∈ p.inner, sem (m + 3) f__law_terms_or_none [q.d] st = .ok (onD q) st := fun q hq => ih q.size (sub q hq) q rfl (m + 3) st (by have := sub q hq; omega) (by have := sub q hq; omega)
  have ni := none_in p.inner st
  have ee := eq_empty p.inner st
  have cl : ∀ (e0 e1 e2 e3 e4 e5 : Option D), compL (lstIs (.nd .lst (p.inner.map Part.d)) (p.inner.map Part.d)) (gN 4) tYesD (dCall (sem (m + 3) f__law_terms_or_none) (dCons (dVar 4) dNil)) [4] [e0, e1, e2, e3, e4, e5] (p.inner.map Part.d) [] st = .ok (p.inner.map onD) st := fun e0 e1 e2 e3 e4 e5 => by
    generalize hx : compL _ _ _ _ _ _ _ _ _ = x
    exact compL_map hx onD (by simp) (by cases p <;> simp [Part.inner]) fun q hq => by simp [rec' q hq]
  rw [S__law_terms_or_none]
  by_cases one : p.size = 1
  · have lf := leaf_terms (m + 1) p st one
    have i0 : p.inner = [] := by
      cases p <;> first | rfl | (rename_i a b; have := Part.size_pos a; have := Part.size_pos b; simp [Part.size] at one; omega) | (rename_i c a; have := Part.size_pos a; simp [Part.size] at one; omega)
    have ok : okT p = true := by
      cases p <;> first | rfl | (rename_i a b; have := Part.size_pos a; have := Part.size_pos b; simp [Part.size] at one; omega) | (rename_i c a; have := Part.size_pos a; simp [Part.size] at one; omega)
    rw [i0] at inn cl ni ee
    simp at inn cl ni ee
    rw [onD_ok ok]
    simp [b__law_terms_or_none, inn, cl, ni, ee, lf]
  · have ne : p.inner.isEmpty = false := by cases p <;> first | rfl | (simp [Part.size] at one)
    rw [ne] at ee
    by_cases al : ∀ q ∈ p.inner, okT q = true
    · have ni' : (p.inner.any fun q => !okT q) = false := by
        rw [List.any_eq_false]
        intro q hq
        simp [al q hq]
      rw [ni'] at ni
      cases p with
      | belt t => simp [Part.size] at one
      | gap c t => simp [Part.size] at one
      | hold c t => simp [Part.size] at one
      | sec c p =>
        have o := al p (by simp [Part.inner])
        simp only [Part.size] at hm hs
        have dd : (Part.sec c p).d = .nd .tup [.str (Str.ofString "section"), .int c, p.d] := rfl
        simp [Part.inner, onD_ok o] at inn cl ni ee
        rw [dd] at inn ⊢
        by_cases l : p.terms.length ≤ 6
        · have ok : okT (.sec c p) = true := by simp [okT, o, l]
          have sh := okT_sec (c := c) o l (by omega)
          have e2 := o_section_big (m + 1) (c := c) l (fun t m => by have := okT_ps o (by omega) t m; omega) sh st
          have lf := secRaw_len c p.terms []
          have pw : 2 ^ p.terms.length ≤ 2 ^ 6 := Nat.pow_le_pow_right (by decide) l
          simp only [List.length_nil, Nat.zero_add, Nat.one_mul] at lf
          have lu := usort_len (secRaw c p.terms)
          have e3 := sort_tms (ts := secRaw c p.terms) (by unfold secRaw; omega) st
          have l2 : ((usort (secRaw c p.terms)).length : Int) ≤ 100 := by unfold secRaw at lu ⊢; omega
          have l' : (p.terms.length : Int) ≤ 6 := by omega
          have q1 : ∀ xs st, dIsN (.nd .lst xs) .non st = .ok (.bl false) st := fun _ _ => rfl
          have q2 : ∀ xs st, dNotN (.nd .lst xs) .non st = .ok (.bl true) st := fun _ _ => rfl
          rw [onD_ok ok]
          simp [b__law_terms_or_none, inn, cl, ni, ee, l', e2, e3, q1, q2, l2, Part.terms]
        · have ok : okT (.sec c p) = false := by simp [okT, l]
          have l' : ¬ (p.terms.length : Int) ≤ 6 := by omega
          rw [onD_no ok]
          have q1 : ∀ st, dIsN .non .non st = .ok (.bl true) st := fun _ => rfl
          have q2 : ∀ st, dNotN .non .non st = .ok (.bl false) st := fun _ => rfl
          simp [b__law_terms_or_none, inn, cl, ni, ee, l', q1, q2]
      | both a b =>
        have oa := al a (by simp [Part.inner])
        have ob := al b (by simp [Part.inner])
        simp only [Part.size] at hm hs
        have dd : (Part.both a b).d = .nd .tup [.str (Str.ofString "both"), a.d, b.d] := rfl
        simp [Part.inner, onD_ok oa, onD_ok ob] at inn cl ni ee
        rw [dd] at inn ⊢
        have rl := (raw_len oa ob (by omega)).2
        have e3 := sort_tms (ts := a.terms ++ b.terms) (by simp; omega) st
        simp only [List.map_append] at e3
        have l3 : a.terms.length + b.terms.length ≤ 16777216 := by omega
        have q1 : ∀ xs st, dIsN (.nd .lst xs) .non st = .ok (.bl false) st := fun _ _ => rfl
        have q2 : ∀ xs st, dNotN (.nd .lst xs) .non st = .ok (.bl true) st := fun _ _ => rfl
        by_cases l : (Part.both a b).terms.length ≤ 100
        · have ok : okT (.both a b) = true := by simp [okT, oa, ob, l]
          have l2 : ((usort (a.terms ++ b.terms)).length : Int) ≤ 100 := by
            have : (usort (a.terms ++ b.terms)).length ≤ 100 := l
            omega
          rw [onD_ok ok]
          simp [b__law_terms_or_none, inn, cl, ni, ee, e3, l3, q1, q2, l2, Part.terms]
        · have ok : okT (.both a b) = false := by simp [okT, l]
          have l2 : ¬ ((usort (a.terms ++ b.terms)).length : Int) ≤ 100 := by
            have : ¬ (usort (a.terms ++ b.terms)).length ≤ 100 := l
            omega
          rw [onD_no ok]
          simp [b__law_terms_or_none, inn, cl, ni, ee, e3, l3, q1, q2, l2]
      | beh a b =>
        have oa := al a (by simp [Part.inner])
        have ob := al b (by simp [Part.inner])
        simp only [Part.size] at hm hs
        have dd : (Part.beh a b).d = .nd .tup [.str (Str.ofString "behind"), a.d, b.d] := rfl
        simp [Part.inner, onD_ok oa, onD_ok ob] at inn cl ni ee
        rw [dd] at inn ⊢
        have ln := (raw_len oa ob (by omega)).1
        have lb := (raw_len oa ob (by omega)).2
        have ls := sort_tms (ts := prod2 a.terms b.terms) (by rw [prod2_len]; omega) st
        have q1 : ∀ xs st, dIsN (.nd .lst xs) .non st = .ok (.bl false) st := fun _ _ => rfl
        have q2 : ∀ xs st, dNotN (.nd .lst xs) .non st = .ok (.bl true) st := fun _ _ => rfl
        have lp : ∀ (e0 e4 e3 e5 : Option D), ∃ k3 k5, forL (lstIs (.nd .lst (a.terms.map tmD)) (a.terms.map tmD)) (gN 3)
            (sSet 2 (dBin dAdd (dVar 2) (dLc (iSeq (dBin dIx (dVar 1) (dConst (.int 1)))) (gN 5) tYesD (dCall (sem (m + 3) f__law_joined) (dCons (dVar 3) (dCons (dVar 5) dNil))) [5])))
            (a.terms.map tmD) [e0, some (.nd .lst [.nd .lst (a.terms.map tmD), .nd .lst (b.terms.map tmD)]), some (.nd .lst []), e3, e4, e5] st =
            .nx [e0, some (.nd .lst [.nd .lst (a.terms.map tmD), .nd .lst (b.terms.map tmD)]), some (.nd .lst ((prod2 a.terms b.terms).map tmD)), k3, e4, k5] st := fun e0 e4 e3 e5 => by
          generalize hy : forL _ _ _ _ _ _ = y
          obtain ⟨_, s, rfl, j3, j5, rfl, rfl⟩ := forL_go hy (fun i env st' => ∃ j3 j5, env = [e0, some (.nd .lst [.nd .lst (a.terms.map tmD), .nd .lst (b.terms.map tmD)]), some (.nd .lst ((prod2 (a.terms.take i) b.terms).map tmD)), j3, e4, j5] ∧ st' = st)
            ⟨e3, e5, by simp [prod2], rfl⟩ (by rintro _ _ _ ⟨_, _, _, rfl⟩; simp) (by
              rintro i d _ s hi ⟨j3, j5, rfl, rfl⟩
              obtain ⟨x, hx, rfl⟩ := get_map hi
              have mx : x ∈ a.terms := List.mem_of_getElem? hx
              have li : i < a.terms.length := (List.getElem?_eq_some_iff.mp hx).1
              have tk : prod2 (a.terms.take (i + 1)) b.terms = prod2 (a.terms.take i) b.terms ++ b.terms.map fun y => joined x y := by
                rw [List.take_add_one, hx]; simp [prod2]
              have lp : (prod2 (a.terms.take i) b.terms).length + b.terms.length ≤ 6300 := by
                rw [prod2_len, List.length_take, Nat.min_eq_left (by omega)]
                have : (i + 1) * b.terms.length ≤ a.terms.length * b.terms.length := Nat.mul_le_mul_right _ (by omega)
                rw [Nat.add_mul] at this
                omega
              rw [tk]
              generalize prod2 (a.terms.take i) b.terms = F at lp
              simp
              generalize hz : compL _ _ _ _ _ _ _ _ _ = z
              obtain rfl := compL_map hz (fun y => tmD (joined x y)) (by simp) (by omega) (fun y hy => by
                have j := o_joined_big (m + 2) (x := x) (y := y) (by
                  have := okT_ps oa (by omega) x mx
                  have := okT_ps ob (by omega) y hy
                  omega) s
                simp [j])
              have l5 : F.length + b.terms.length ≤ 16777216 := by omega
              simp [l5, List.map_map, Function.comp_def])
          exact ⟨j3, j5, by simp⟩
        obtain ⟨k3, k5, lp⟩ := lp (some (.nd .tup [.str (Str.ofString "behind"), a.d, b.d])) none none none
        by_cases l : (Part.beh a b).terms.length ≤ 100
        · have ok : okT (.beh a b) = true := by simp [okT, oa, ob, l]
          have l2 : ((usort (prod2 a.terms b.terms)).length : Int) ≤ 100 := by
            have : (usort (prod2 a.terms b.terms)).length ≤ 100 := l
            omega
          rw [onD_ok ok]
          simp [b__law_terms_or_none, inn, cl, ni, ee, lp, ls, q1, q2, l2, Part.terms]
        · have ok : okT (.beh a b) = false := by simp [okT, l]
          have l2 : ¬ ((usort (prod2 a.terms b.terms)).length : Int) ≤ 100 := by
            have : ¬ (usort (prod2 a.terms b.terms)).length ≤ 100 := l
            omega
          rw [onD_no ok]
          simp [b__law_terms_or_none, inn, cl, ni, ee, lp, ls, q1, q2, l2]
    · have ni' : (p.inner.any fun q => !okT q) = true := by
        rw [List.any_eq_true]
        simp only [Classical.not_forall] at al
        obtain ⟨q, hq, h⟩ := al
        exact ⟨q, hq, by simpa using h⟩
      have ok : okT p = false := by
        cases p <;> simp [Part.inner] at al <;> simp [okT, al] <;> (intro h1 h2; rw [al h1] at h2; cases h2)
      rw [ni'] at ni
      rw [onD_no ok]
      simp [b__law_terms_or_none, inn, cl, ni]
end Q

set_option exponentiation.threshold 2000
/-! k10: terms shown; TooMany caught. -/
namespace Q
open PySem PySem.Spec L2 DY PySem.W
theorem int_short {i : Int} (h : 0 ≤ i ∧ i ≤ bz 12) : (PyData.int i).showable = true ∧ (PyData.int i).shown.length ≤ 110 := by
  have b : bz 12 < 2 ^ 100 := by decide +kernel
  have l : i.natAbs.log2 < 100 := by
    by_cases z : i.natAbs = 0
    · rw [z]; decide
    · refine (Nat.log2_lt z).mpr ?_
      have : (i.natAbs : Int) = i := Int.natAbs_of_nonneg h.1
      have e : ((2 ^ 100 : Nat) : Int) = 2 ^ 100 := by decide +kernel
      omega
  refine ⟨by simp [PyData.showable]; omega, ?_⟩
  simp only [PyData.shown]
  rw [ofString_length]
  have := int_text_length_le (k := 100) (by decide) l
  omega
theorem prs_short : ∀ {ps : List Pr}, (∀ q ∈ ps, (0 ≤ q.1 ∧ q.1 ≤ bz 12) ∧ 0 ≤ q.2 ∧ q.2 ≤ bz 12) → PyData.showableAll (ps.map prP) = true ∧ piled (PyData.shownAll (ps.map prP)) ≤ 300 * ps.length
  | [], _ => ⟨rfl, by simp [PyData.shownAll, piled]⟩
  | q :: ps, h => by
    obtain ⟨s, l⟩ := prs_short fun x m => h x (List.mem_cons_of_mem _ m)
    obtain ⟨h1, h2⟩ := h q List.mem_cons_self
    obtain ⟨s1, l1⟩ := int_short h1
    obtain ⟨s2, l2⟩ := int_short h2
    simp only [PyData.showable, decide_eq_true_eq] at s1 s2
    refine ⟨by simp [PyData.showableAll, PyData.showable, prP, s1, s2]; simpa [prP] using s, ?_⟩
    have t := tupleText_le [(PyData.int q.1).shown, (PyData.int q.2).shown]
    have e : (prP q).shown = tupleText [(PyData.int q.1).shown, (PyData.int q.2).shown] := by simp [prP, PyData.shown, PyData.shownAll]
    have pl : piled [(PyData.int q.1).shown, (PyData.int q.2).shown] = (PyData.int q.1).shown.length + 2 + ((PyData.int q.2).shown.length + 2) := by simp [piled]
    have p : piled (PyData.shownAll ((q :: ps).map prP)) = (prP q).shown.length + 2 + piled (PyData.shownAll (ps.map prP)) := by simp [PyData.shownAll, piled]
    rw [p, e, List.length_cons]
    omega
theorem tms_short : ∀ {ts : List Tm}, (∀ t ∈ ts, (0 ≤ t.a ∧ t.a ≤ bz 12) ∧ (0 ≤ t.b ∧ t.b ≤ bz 12) ∧ ∀ q ∈ t.ps, (0 ≤ q.1 ∧ q.1 ≤ bz 12) ∧ 0 ≤ q.2 ∧ q.2 ≤ bz 12) → (∀ t ∈ ts, t.ps.length ≤ 100) → PyData.showableAll (ts.map tmP) = true ∧ piled (PyData.shownAll (ts.map tmP)) ≤ 40000 * ts.length
  | [], _, _ => ⟨rfl, by simp [PyData.shownAll, piled]⟩
  | t :: ts, h, hl => by
    obtain ⟨s, l⟩ := tms_short (fun x m => h x (List.mem_cons_of_mem _ m)) fun x m => hl x (List.mem_cons_of_mem _ m)
    obtain ⟨h1, h2, h3⟩ := h t List.mem_cons_self
    have hl1 := hl t List.mem_cons_self
    obtain ⟨s1, l1⟩ := int_short h1
    obtain ⟨s2, l2⟩ := int_short h2
    obtain ⟨s3, l3⟩ := prs_short h3
    have t3 := tupleText_le (PyData.shownAll (t.ps.map prP))
    have t0 := tupleText_le [(PyData.int t.a).shown, (PyData.int t.b).shown, tupleText (PyData.shownAll (t.ps.map prP))]
    have e : (tmP t).shown = tupleText [(PyData.int t.a).shown, (PyData.int t.b).shown, tupleText (PyData.shownAll (t.ps.map prP))] := by simp [tmP, PyData.shown, PyData.shownAll]
    have pl : piled [(PyData.int t.a).shown, (PyData.int t.b).shown, tupleText (PyData.shownAll (t.ps.map prP))] = (PyData.int t.a).shown.length + 2 + ((PyData.int t.b).shown.length + 2 + ((tupleText (PyData.shownAll (t.ps.map prP))).length + 2)) := by simp [piled]
    have p : piled (PyData.shownAll ((t :: ts).map tmP)) = (tmP t).shown.length + 2 + piled (PyData.shownAll (ts.map tmP)) := by simp [PyData.shownAll, piled]
    simp only [PyData.showable, decide_eq_true_eq] at s1 s2
    refine ⟨by simp only [List.map_cons, PyData.showableAll, s, Bool.and_true, tmP, PyData.showable, s3]; simp [s1, s2], ?_⟩
    rw [p, e, List.length_cons]
    omega
theorem repr_terms {p : Part} (ho : p.ok 12) (hs : p.size ≤ 12) (o : okT p = true) {x : D} {st : Store} (hx : Is st x (p.terms.map tmD)) : dReprX [x] st = .ok (.str (PyData.list (p.terms.map tmP)).shown) st := by
  obtain ⟨s, l⟩ := tms_short (okT_mag ho o hs) fun t m => by have := okT_ps o hs t m; omega
  have c := okT_cap p o
  have c2 := cap_le p.size
  have pl := tms_pl p.terms
  have sh : shp (.list (p.terms.map tmP)) = true := by simp [shp, PyData.plain, pl.1, PyData.depth]; omega
  have e : toP deepP st x = some (.list (p.terms.map tmP)) := hx.toPd fun dr => toPgL_tm dr p.terms
  have s1 : (PyData.list (p.terms.map tmP)).showable = true := by simpa [PyData.showable] using s
  have l1 : (PyData.list (p.terms.map tmP)).shown.length ≤ szL := by
    have := listText_le (PyData.shownAll (p.terms.map tmP))
    simp only [PyData.shown]
    rw [szL_eq]
    omega
  have r : dReprX [x] st = dRepr [x] st := by
    rcases hx with rfl | ⟨k, rfl, _⟩ <;> rfl
  rw [r]
  rcases hx with rfl | ⟨k, rfl, _⟩
  · simp only [dRepr, e]; rw [if_pos ⟨s1, l1, sh⟩]
  · simp only [dRepr, e]; rw [if_pos ⟨s1, l1, sh⟩]
theorem ne_termsG {ts : List Tm} {x y : D} {st : Store} (hx : Is st x (ts.map tmD)) (hy : Is st y (ts.map tmD)) : dNe x y st = .ok (.bl false) st := by
  have e1 : toP deepP st x = some (.list (ts.map tmP)) := hx.toPd fun dr => toPgL_tm dr ts
  have e2 : toP deepP st y = some (.list (ts.map tmP)) := hy.toPd fun dr => toPgL_tm dr ts
  have pl := tms_pl ts
  unfold dNe
  rw [eqD_lists hx hy e1 e2 (by simp [shp, PyData.plain, pl.1, PyData.depth]; omega) (by simp [shp, PyData.plain, pl.1, PyData.depth]; omega), PySem.SeqAt.eqv_refl_plain _ (by simp [PyData.plain, pl.1])]; rfl
/-! ### TooMany, caught -/
def exT8 (x : D) : D := .nd (.exc k_TooMany ["limit"]) [x]
def mks8 : List D := [.bl false, .bl false, .bl false, .bl false, .bl false, .bl true, .bl false, .bl false, .bl false, .bl false, .bl false, .bl false, .bl false, .bl false, .bl false]
section
variable {st : Store} {x : D} {xs : List D} {f0 c0 : Addr} {q0 : Str} {caps0 : List V} {L0 : LamF}
theorem ref8 {n : Nat} (h : L0 (low n) xs st = .er ⟨k_TooMany, ["limit"], [x]⟩ st) : semL (n + 2) f__law_refusal L0 [.nd (.fn f0 c0 q0 caps0) xs] st = .ok (.nd .tup [.str (Str.ofString "many"), x]) st := by
  have a : semL (n + 1) f__law_caught L0 [.nd (.fn f0 c0 q0 caps0) xs] st = .ok (exT8 x) st := by
    rw [S__law_caught]
    simp [b__law_caught, h, exT8]
  have m : sem (n + 1) f__law_marks [exT8 x] st = .ok (.nd .lst mks8) st := by
    rw [S__law_marks]
    simp [b__law_marks, exT8, isx_hit, mks8]
  have k : sem (n + 1) f__law_kept [exT8 x, .int 5] st = .ok x st := by
    rw [S__law_kept]
    simp [b__law_kept, exT8, xat_hit]
  rw [S__law_refusal]
  have c1 : opCount (.nd .lst mks8) [.bl true] st = .ok (.int 1) st := rfl
  have c2 : opIndexB (.nd .lst mks8) [.bl true] st = .ok (.int 5) st := rfl
  have c3 : ∀ st1, dNotIn (.bl true) (.nd .lst (cutD mks8 none (some 6))) st1 = .ok (.bl false) st1 := fun _ => rfl
  have c4 : dIsN (exT8 x) .non st = .ok (.bl false) st := rfl
  have c6 : ∀ t, isxF ((k_TooMany, true) :: t) (exT8 x) st = .ok (.bl true) st := fun t => isx_hit
  have c7 : atI [D.str (Str.ofString "time"), .str (Str.ofString "count"), .str (Str.ofString "moments"), .str (Str.ofString "number"), .str (Str.ofString "path"), .str (Str.ofString "many")] 5 = some (.str (Str.ofString "many")) := rfl
  simp [b__law_refusal, a, m, c1, c2, c3, c4, c6, c7, k]
theorem is8 {n : Nat} {s : Str} (h : L0 (low n) xs st = .er ⟨k_TooMany, ["limit"], [x]⟩ st) (hr : dReprX [.nd .tup [.str (Str.ofString "many"), x]] st = .ok (.str s) st) :
    semL (n + 3) f__law_is L0 [.nd (.fn f0 c0 q0 caps0) xs, .str (Str.ofString "many"), x] st = .ok (.bl true) st := by
  have r := ref8 (f0 := f0) (c0 := c0) (q0 := q0) (caps0 := caps0) h
  rw [S__law_is]
  simp [b__law_is, r, hr]
end
end Q

/-! k10: the pieces of law. -/
namespace Q
open PySem PySem.Spec L2 DY
noncomputable def Pz1 (c : Nat → SemF) (cL : Nat → LamF → SemF) : SemS := sPar 3 4 (dCons (dCall (c f__law_pick) (dCons (dVar 1) (dCons (dLst (dCons (dConst (.int 2)) (dCons (dConst (.int 3)) (dCons (dConst (.int 12)) (dNil))))) (dNil)))) (dCons (dCall (c f__law_pick) (dCons (dVar 1) (dCons (dLst (dCons (dConst (.str "small")) (dCons (dConst (.str "any")) (dNil)))) (dNil)))) (dNil)))
noncomputable def Pz2 (c : Nat → SemF) (cL : Nat → LamF → SemF) : SemS := sSet 5 (dCall (c f__law_pick) (dCons (dVar 1) (dCons (dLst (dCons (dLst (dCons (dConst (.str "belt")) (dCons (dConst (.str "gap")) (dCons (dConst (.str "hold")) (dCons (dConst (.str "both")) (dNil)))))) (dCons (dLst (dCons (dConst (.str "belt")) (dCons (dConst (.str "hold")) (dCons (dConst (.str "hold")) (dCons (dConst (.str "both")) (dNil)))))) (dNil)))) (dNil))))
noncomputable def Pz3 (c : Nat → SemF) (cL : Nat → LamF → SemF) : SemS := sSet 6 (dCall (c f__law_tree) (dCons (dVar 1) (dCons (dCall (c f__law_pick) (dCons (dVar 1) (dCons (dLst (dCons (dConst (.int 1)) (dCons (dConst (.int 4)) (dCons (dConst (.int 7)) (dCons (dConst (.int 12)) (dCons (dConst (.int 12)) (dNil))))))) (dNil)))) (dCons (dVar 3) (dCons (dVar 4) (dCons (dVar 5) (dNil)))))))
noncomputable def Pz4 (c : Nat → SemF) (cL : Nat → LamF → SemF) : SemS := sAsg (dTup (dCons (dCall (c f__law_line) (dCons (dVar 6) (dNil))) (dCons (dCall (c f__law_terms_or_none) (dCons (dVar 6) (dNil))) (dNil)))) (gT 2 (gCons' (gN 7) (gCons' (gN 8) (gNil'))))
noncomputable def Pz5 (c : Nat → SemF) (cL : Nat → LamF → SemF) : SemS := sIf (dBool (dBin dIsN (dVar 8) (dConst .non))) (sIf (dNot (dBool (dLam [7] 10 3 (fun c9 => dCall (c9 f_terms) (dCons (dVar 7) (dNil))) (cL f__law_is) (dCons (dConst (.str "many")) (dCons (dConst (.int 100)) (dNil)))))) (sRet (dConst (.bl false))) (sNil)) (sCons (sSet 9 (dCall (c f_terms) (dCons (dVar 7) (dNil)))) (sCons (sIf (dBool (dBin dNe (dCall dReprX (dCons (dVar 9) (dNil))) (dCall dReprX (dCons (dVar 8) (dNil))))) (sRet (dConst (.bl false))) (sNil)) (sCons (sExpr (dBML opAppend (dVar 9) (dCons (dConst (.str "more")) (dNil)))) (sIf (dBool (dBin dNe (dCall (kwF 1 1 [0] (c f_terms)) (dCons (dVar 7) (dNil))) (dVar 8))) (sRet (dConst (.bl false))) (sNil)))))
noncomputable def PzB (c : Nat → SemF) (cL : Nat → LamF → SemF) : SemS := sCons (Pz1 c cL) (sCons (Pz2 c cL) (sCons (Pz3 c cL) (sCons (Pz4 c cL) (Pz5 c cL))))
theorem pieces_law (c : Nat → SemF) (cL : Nat → LamF → SemF) : b_law c cL = (sCons (sSet 1 (dCall (c f__law_begun) (dCons (dVar 0) (dNil)))) (sCons (sFor (iRange1 (dCons (dBin dAdd (dConst (.int 4)) (dCall dMin (dCons (dCall dLen (dCons (dVar 0) (dNil))) (dCons (dConst (.int 12)) (dNil))))) (dNil))) (gN 2) (PzB c cL)) (sRet (dConst (.bl true))))) := rfl
end Q

set_option exponentiation.threshold 2000
/-! k10: the law itself. -/
namespace Q
open PySem PySem.Spec L2 DY PySem.W
section
variable {w : Dw} {R : Store} {t : Nat} {a0 a2 j3 j4 j5 j6 j7 j8 j9 : Option D} {S : Store} {p : Part}
theorem drawn (h : w.ok t) (ht : t < 100000000) : ∃ (k3 k4 k5 : Option D) (p : Part) (w' : Dw), (∀ K : SemS, (sCons (Pz1 (sem 59) (semL 59)) (sCons (Pz2 (sem 59) (semL 59)) (sCons (Pz3 (sem 59) (semL 59)) K))) [a0, some (.h 1), a2, j3, j4, j5, j6, j7, j8, j9] (drs w R) =
    K [a0, some (.h 1), a2, k3, k4, k5, some p.d, j7, j8, j9] (drs w' R)) ∧ w'.ok (t + 100) ∧ p.ok 12 ∧ p.size ≤ 12 := by
  obtain ⟨tp, w1, e1, h1, m1⟩ := pick 56 (R := R) (xs := [.int 2, .int 3, .int 12]) h (by omega) (by simp)
  obtain ⟨kd, w2, e2, h2, m2⟩ := pick 56 (R := R) (xs := [.str (Str.ofString "small"), .str (Str.ofString "any")]) h1 (by omega) (by simp)
  obtain ⟨so, w3, e3, h3, m3⟩ := pick 56 (R := R) (xs := [.nd .lst [.str (Str.ofString "belt"), .str (Str.ofString "gap"), .str (Str.ofString "hold"), .str (Str.ofString "both")], .nd .lst [.str (Str.ofString "belt"), .str (Str.ofString "hold"), .str (Str.ofString "hold"), .str (Str.ofString "both")]]) h2 (by omega) (by simp)
  obtain ⟨rm, w4, e4, h4, m4⟩ := pick 56 (R := R) (xs := [.int 1, .int 4, .int 7, .int 12, .int 12]) h3 (by omega) (by simp)
  have : ∃ i : Int, tp = .int i ∧ 1 ≤ i ∧ i ≤ 12 := by
    simp at m1
    rcases m1 with rfl | rfl | rfl
    · exact ⟨_, rfl, by omega, by omega⟩
    · exact ⟨_, rfl, by omega, by omega⟩
    · exact ⟨_, rfl, by omega, by omega⟩
  obtain ⟨top, rfl, t1, t2⟩ := this
  have : ∃ s : Str, kd = .str s := by
    simp at m2
    rcases m2 with rfl | rfl <;> exact ⟨_, rfl⟩
  obtain ⟨kind, rfl⟩ := this
  have : ∃ L : List String, so = sorts L ∧ L.length ≤ 100 ∧ L.filter (fun s => !decide (s = "both")) ≠ [] ∧ Four L := by
    simp at m3
    rcases m3 with rfl | rfl
    · exact ⟨["belt", "gap", "hold", "both"], rfl, by simp, by decide, by intro s hs; simp at hs; rcases hs with rfl | rfl | rfl | rfl <;> simp⟩
    · exact ⟨["belt", "hold", "hold", "both"], rfl, by simp, by decide, by intro s hs; simp at hs; rcases hs with rfl | rfl | rfl <;> simp⟩
  obtain ⟨L, rfl, l1, l2, l3⟩ := this
  have : ∃ r : Nat, rm = .int r ∧ 1 ≤ r ∧ r ≤ 12 := by
    simp at m4
    rcases m4 with rfl | rfl | rfl | rfl
    · exact ⟨1, rfl, by omega, by omega⟩
    · exact ⟨4, rfl, by omega, by omega⟩
    · exact ⟨7, rfl, by omega, by omega⟩
    · exact ⟨12, rfl, by omega, by omega⟩
  obtain ⟨r, rfl, r1, r2⟩ := this
  obtain ⟨p, w5, e5, h5, p1, p2, _⟩ := tree r (53 - r) (R := R) (k := kind) (top := top) (S := L) h4 (by omega) (by omega) (by omega) (by omega) l1 l2 l3
  rw [show 53 - r + r + 6 = 59 by omega] at e5
  refine ⟨some (.int top), some (.str kind), some (sorts L), p, w5, fun K => ?_, h5.mono (by omega), p2.mono (by omega), by omega⟩
  simp [Pz1, Pz2, Pz3, e1, e2, e3, e4, e5]
theorem t4_ok (ho : p.ok 12) (hs : p.size ≤ 12) : Pz4 (sem 59) (semL 59) [a0, some (.h 1), a2, j3, j4, j5, some p.d, j7, j8, j9] S =
    .nx [a0, some (.h 1), a2, j3, j4, j5, some p.d, some p.line, some (onD p), j9] S := by
  have l := fun st => law_line p 59 st (by omega) hs ho
  have n := none_ok p 59 S (by omega) hs
  simp [Pz4, l, n]
theorem t5_ok (ho : p.ok 12) (hs : p.size ≤ 12) : ∃ (k9 : Option D) (g : Store), Pz5 (sem 59) (semL 59) [a0, some (.h 1), a2, j3, j4, j5, some p.d, some p.line, some (onD p), j9] S =
    .nx [a0, some (.h 1), a2, j3, j4, j5, some p.d, some p.line, some (onD p), k9] (S ++ g) := by
  by_cases o : okT p = true
  · have e1 := terms_h 40 (p := p) S hs
    rw [resT, if_pos o] at e1
    have q1 : ∀ xs st, dIsN (.nd .lst xs) .non st = .ok (.bl false) st := fun _ _ => rfl
    have r1 := repr_terms (x := .h S.length) (st := S ++ [.nd .lst (p.terms.map tmD)]) ho hs o (.inr ⟨S.length, rfl, by simp⟩)
    have r2 := repr_terms (x := .nd .lst (p.terms.map tmD)) (st := S ++ [.nd .lst (p.terms.map tmD)]) ho hs o (.inl rfl)
    have e2 := terms_h 40 (p := p) (S ++ [.nd .lst (p.terms.map tmD ++ [.str (Str.ofString "more")])]) hs
    rw [resT, if_pos o] at e2
    have n1 := ne_termsG (ts := p.terms) (x := .h (S.length + 1)) (y := .nd .lst (p.terms.map tmD)) (st := S ++ [.nd .lst (p.terms.map tmD ++ [.str (Str.ofString "more")]), .nd .lst (p.terms.map tmD)]) (.inr ⟨S.length + 1, rfl, by simp⟩) (.inl rfl)
    rw [onD_ok o]
    have lt := okT_cap p o
    have lt2 := cap_le p.size
    have lt3 : (p.terms.map tmD).length < 16777216 := by simp; omega
    simp only [List.length_append, List.length_cons, List.length_nil, List.append_assoc, List.cons_append, List.nil_append] at e2
    refine ⟨some (.h S.length), [.nd .lst (p.terms.map tmD ++ [.str (Str.ofString "more")]), .nd .lst (p.terms.map tmD)], ?_⟩
    generalize p.terms.map tmD = T at *
    simp [Pz5, q1, e1, r1, r2, lt3, kwF, pmL, e2, n1]
  · have o' : okT p = false := by simpa using o
    have e1 := terms_h 36 (p := p) S hs
    rw [resT, if_neg o] at e1
    have q1 : ∀ st, dIsN .non .non st = .ok (.bl true) st := fun _ => rfl
    have sp : spread 10 [7] [p.line] = [none, none, none, none, none, none, none, some p.line, none, none] := rfl
    have hr : ∃ s, dReprX [.nd .tup [.str (Str.ofString "many"), .int 100]] S = .ok (.str s) S := ⟨_, if_pos (by decide +kernel)⟩
    obtain ⟨s, hr⟩ := hr
    rw [onD_no o']
    have l1 : ∀ env : DEnv, capt env [7] = some [p.line] → dLam [7] 10 3 (fun c9 => dCall (c9 f_terms) (dCons (dVar 7) (dNil))) (semL 59 f__law_is) (dCons (dConst (.str (Str.ofString "many"))) (dCons (dConst (.int 100)) dNil)) env S = .ok (.bl true) S := fun env hc =>
      dLam_ev (n := 3) (xs := [p.line]) (ds := [.str (Str.ofString "many"), .int 100]) (st1 := S) hc (by simp) rfl fun f c q caps => is8 (n := 56) (by rw [show low 56 = sem 55 from rfl, sp]; simp [e1, many]) hr
    have l2 := l1 [a0, some (.h 1), a2, j3, j4, j5, some p.d, some p.line, some .non, j9] rfl
    exact ⟨j9, [], by simp [Pz5, q1, l2]⟩
end
theorem turn_ok {w : Dw} {R : Store} {t : Nat} {a0 a2 j3 j4 j5 j6 j7 j8 j9 : Option D} (h : w.ok t) (ht : t < 10000000) : ∃ w' g k3 k4 k5 k6 k7 k8 k9, PzB (sem 59) (semL 59) [a0, some (.h 1), a2, j3, j4, j5, j6, j7, j8, j9] (drs w R) =
    .nx [a0, some (.h 1), a2, k3, k4, k5, k6, k7, k8, k9] (drs w' (R ++ g)) ∧ w'.ok (t + 100) := by
  obtain ⟨k3, k4, k5, p, w1, e1, h1, ho, hs⟩ := drawn (R := R) (a0 := a0) (a2 := a2) (j3 := j3) (j4 := j4) (j5 := j5) (j6 := j6) (j7 := j7) (j8 := j8) (j9 := j9) h (by omega)
  have e4 := t4_ok (S := drs w1 R) (a0 := a0) (a2 := a2) (j3 := k3) (j4 := k4) (j5 := k5) (j7 := j7) (j8 := j8) (j9 := j9) ho hs
  obtain ⟨k9, g, e5⟩ := t5_ok (S := drs w1 R) (a0 := a0) (a2 := a2) (j3 := k3) (j4 := k4) (j5 := k5) (j9 := j9) ho hs
  refine ⟨w1, g, k3, k4, k5, some p.d, some p.line, some (onD p), k9, ?_, h1⟩
  unfold PzB
  rw [e1]
  simp only [sCons_ev, seq_nx, e4, e5, drs_app]
theorem law_ok : ∀ ns : List Int, ns.length ≤ 63 → ∃ st, sem 60 f_law [scrD ns] [] = .ok (.bl true) st := by
  intro ns hl
  obtain ⟨w, e0, h0⟩ := begun 58 hl
  have ln : ∀ st, dLen [scrD ns] st = .ok (.int (ns.length : Int)) st := fun st => by simp [scrD]
  rw [S_law, pieces_law]
  simp [e0, ln]
  have rg : (4 : Int) + min (ns.length : Int) 12 = ((4 + min ns.length 12 : Nat) : Int) := by omega
  rw [rg, iRange11_nat (by omega)]
  simp
  generalize hx : forL _ _ _ _ _ _ = x
  obtain ⟨_, _, rfl, w, R, j2, j3, j4, j5, j6, j7, j8, j9, rfl, rfl, hw⟩ := forL_go hx (fun i env st => ∃ w R j2 j3 j4 j5 j6 j7 j8 j9, env = [some (scrD ns), some (.h 1), j2, j3, j4, j5, j6, j7, j8, j9] ∧ st = drs w R ∧ Dw.ok w (100 * i))
    ⟨w, [], none, none, none, none, none, none, none, none, rfl, rfl, h0⟩ (fun _ _ _ _ => by simp) (by
      intro i d env st hi hI
      obtain ⟨w, R, j2, j3, j4, j5, j6, j7, j8, j9, q1, q2, hw⟩ := hI
      subst q1
      subst q2
      obtain ⟨hi', rfl⟩ := rng_get hi
      obtain ⟨w', g, k3, k4, k5, k6, k7, k8, k9, e, h'⟩ := turn_ok (R := R) (a0 := some (scrD ns)) (a2 := some (.int (i : Int))) (j3 := j3) (j4 := j4) (j5 := j5) (j6 := j6) (j7 := j7) (j8 := j8) (j9 := j9) hw (by omega)
      simp [e]
      exact ⟨w', ⟨R ++ g, rfl⟩, h'.mono (by omega)⟩)
  simp
end Q

/-! The end over a head that is run in the kernel. -/
namespace DY
open PySem PySem.Spec PyProof.Rows L2
/-! ### the law -/
theorem law_walksKT {l : PySem.W.OpenLaw} {m k : Nat} {q : Program} {loose : List Str} {XP : (Str → Option Value) → Heap → Prop} {YP : World → Heap → Prop} {d : DefRec} {x : Str} {G : SemF}
    (most : l.most = some m) (small : m ≤ sizeLine) (nodef : d.params.defaults = []) (room : Room k callerA)
    (F : ∀ (w : World) (mg : Str → Option Value) (fa : Addr) (h : Heap), YP w h → h.Ns mainGlobals mg → mg d.name = some (.ref fa) →
      ∃ K : PySem.W.Frag, K.In h ∧ ∃ (fd : FuncData) (cl : ClsT) (cs : List (Addr × Addr)), TabsOk K h cs ∧ (∀ t ∈ cl.tb, ∃ p ∈ cs, p.2 = t.1) ∧ (∀ (s : Shared) (u : Value), BindsTo s fd ⟨[u], []⟩ [(x, u)]) ∧ ∀ base : Heap, K.In base → base.Ns mainGlobals mg → (∀ p ∈ cs, LamX.TabB base mg p.1 p.2) → FnG l.prog w K mg base k fa fd [x] (spF ⟨K, cl⟩ 1 G))
    (law : ∀ ns : List Int, ns.length ≤ m → ∃ st, G [scrD ns] [] = .ok (.bl true) st) :
    PySem.W.WalkO q loose XP YP l.row.toRowW d [] (fun f vs => PySem.call f vs) := by
  refine Att.attach_call most nodef fun w s₀ s₁ mg mb fa o pm cd doc a vs ns G' Y ho hd hcd hmg hobj hints hlen hg => ?_
  obtain ⟨K, KX, fd, cl, cs, tabs, ht, hb, hF⟩ := F w mg fa _ Y G'.T.g hmg
  refine law_ends KX G'.T.g G'.T.b G'.T.builtins G'.T.nolimit hg tabs G'.T.bmain hobj hints (Nat.le_trans hlen small) room hF hb fun H hH sq => ?_
  obtain ⟨st, e⟩ := law ns hlen
  refine ⟨rfl, [], [], [], [scrD ns], ⟨_, _, rfl, ⟨a, ns.map V.int, rfl, ?_, RepL.ints ns⟩, rfl⟩, ⟨rfl, List.nodup_nil, fun b hb => absurd hb List.not_mem_nil, fun t hm => ?_, fun j c hj => by cases hj⟩, ?_⟩
  · rcases sq with sq | sq
    · exact .inl ⟨⟨List.not_mem_nil, List.not_mem_nil⟩, sq⟩
    · exact .inr sq
  · obtain ⟨p, hp, e⟩ := ht t hm
    exact .nil (by rw [← e]; exact hH p hp)
  · rw [e]
    exact fun r' H' b _ _ hb => hb
end DY

namespace Q
open PySem PySem.Spec PyProof.Rows L2 DY
theorem all_mk {l : PySem.W.OpenLaw} {w : World} {K : PySem.W.Frag} {h : Heap} {mg : Str → Option Value} {q0 : Addr} (X : K.In h) (G : h.Ns mainGlobals mg) (hfa : mg "law" = some (.ref q0))
    {f0 f1 f2 f3 f4 f5 f6 f7 f8 f9 f10 f11 f12 f13 f14 f15 f16 f17 f18 f19 f20 f21 f22 f23 f24 f25 f26 f27 f28 f29 f30 f31 f32 f33 f34 f35 f36 f37 fL0 fL1 fL2 C0 C1 C2 C3 C4 C5 C6 C7 C8 C9 C10 C11 C12 C13 C14 C15 C16 : Addr} {od0 an0 od1 an1 od2 an2 od3 an3 od4 an4 od5 an5 od6 an6 od7 an7 od8 an8 od9 an9 od10 an10 od11 an11 od12 an12 od13 an13 od14 an14 od15 an15 od16 an16 od17 an17 od18 an18 od19 an19 od20 an20 od21 an21 od22 an22 od23 an23 od24 an24 od25 an25 od26 an26 od27 an27 od28 an28 od29 an29 od30 an30 od31 an31 od32 an32 od33 an33 od34 an34 od35 an35 od36 an36 od37 an37 odL0 anL0 odL1 anL1 odL2 anL2 : Option Addr} {sl0 sl1 sl2 sl3 sl4 sl5 sl6 sl7 sl8 sl9 sl10 sl11 sl12 sl13 sl14 sl15 sl16 sl17 sl18 sl19 sl20 sl21 sl22 sl23 sl24 sl25 sl26 sl27 sl28 sl29 sl30 sl31 sl32 sl33 sl34 sl35 sl36 sl37 slL0 slL1 slL2 : Array (Option Value)}
    {oc0 kV0 dc0 pm0 cd0 ct0 oc1 kV1 dc1 pm1 cd1 ct1 oc2 kV2 dc2 pm2 cd2 ct2 oc3 kV3 dc3 pm3 cd3 ct3 oc4 kV4 dc4 pm4 cd4 ct4 oc5 kV5 dc5 pm5 cd5 ct5 oc6 kV6 dc6 pm6 cd6 ct6 oc7 kV7 dc7 pm7 cd7 ct7 oc8 kV8 dc8 pm8 cd8 ct8 oc9 kV9 dc9 pm9 cd9 ct9 oc10 kV10 dc10 pm10 cd10 ct10 oc11 kV11 dc11 pm11 cd11 ct11 oc12 kV12 dc12 pm12 cd12 ct12 oc13 kV13 dc13 pm13 cd13 ct13 oc14 kV14 dc14 pm14 cd14 ct14 oc15 kV15 dc15 pm15 cd15 ct15 oc16 kV16 dc16 pm16 cd16 ct16 oc17 kV17 dc17 pm17 cd17 ct17 oc18 kV18 dc18 pm18 cd18 ct18 oc19 kV19 dc19 pm19 cd19 ct19 oc20 kV20 dc20 pm20 cd20 ct20 oc21 kV21 dc21 pm21 cd21 ct21 oc22 kV22 dc22 pm22 cd22 ct22 oc23 kV23 dc23 pm23 cd23 ct23 oc24 kV24 dc24 pm24 cd24 ct24 oc25 kV25 dc25 pm25 cd25 ct25 oc26 kV26 dc26 pm26 cd26 ct26 oc27 kV27 dc27 pm27 cd27 ct27 oc28 kV28 dc28 pm28 cd28 ct28 oc29 kV29 dc29 pm29 cd29 ct29 oc30 kV30 dc30 pm30 cd30 ct30 oc31 kV31 dc31 pm31 cd31 ct31 oc32 kV32 dc32 pm32 cd32 ct32 oc33 kV33 dc33 pm33 cd33 ct33 oc34 kV34 dc34 pm34 cd34 ct34 oc35 kV35 dc35 pm35 cd35 ct35 oc36 kV36 dc36 pm36 cd36 ct36 oc37 kV37 dc37 pm37 ct37 ocL0 kVL0 dcL0 pmL0 cdL0 ctL0 ocL1 kVL1 dcL1 pmL1 cdL1 ctL1 ocL2 kVL2 dcL2 pmL2 cdL2 ctL2 : Value} {t_MOST_TERMS t_MOST_INNER t_GREATEST_TIME t_MOST_COUNT t_MOST_PARTS : Tok}
    {ob15 ob16 ob17 : Value} {q15 q16 q17 : Addr} {rs15 rs16 rs17 : List Value}
    {c1_37 Pt_37 : Addr} {oP37 : Value} {odP37 : Option Addr} {vP37 : Array Value} {slP37 : Array (Option Value)}
    {fX_TooMany : Addr} {odX_TooMany anX_TooMany : Option Addr} {slX_TooMany : Array (Option Value)} {ocX_TooMany kVX_TooMany dcX_TooMany pmX_TooMany cdX_TooMany ctX_TooMany : Value}
    (C_Line : PySem.W.nsIn K mainGlobals "Line" = some (some (.ref C1)))
    (pg_Line : PySem.W.plainGet K C1 Str.empty = true)
    (hd_Line : PySem.W.hasDictIn K C1 = true)
    (po_Line : PySem.W.plainOver K C1 = true)
    (sa_Line : PySem.W.findIn K (.ref C1) "__setattr__" = some (some (.builtin "object.__setattr__")))
    (n_Line_all_paths : PySem.W.findIn K (.ref C1) "all_paths" = some none)
    (n_Line_nested : PySem.W.findIn K (.ref C1) "nested" = some none)
    (mk_Line : PySem.W.makesIn K C1 = true)
    (kc_Line : PySem.W.keepIn K (.ref C1) = true)
    (sf_Line : PySem.W.selfFirst K C1 = true)
    (ga_Line : PySem.W.specialIn K (.ref C1) "__getattribute__" = some (some (.builtin "type.__getattribute__")))
    (C_TooMany : PySem.W.nsIn K mainGlobals "TooMany" = some (some (.ref C0)))
    (xl_TooMany : ∃ nm q N bs bm sn sub ab col dd k0 k1 k2 k3 k5, K.lookup C0 = some (PySem.excClassObj nm q C0 N bs bm true sn sub ab col dd k0 k1 k2 k3 k5 "ValueError.__new__") ∧ HandSPX.refsVE bm = true)
    (xs_TooMany : PySem.W.findIn K (.ref C0) "__setattr__" = some (some (.builtin "object.__setattr__")))
    (xe_TooMany : PySem.W.subIn K (.ref C0) (.type "BaseException") = some true)
    (xt_TooMany : PySem.W.typeIn K (.ref C0) = some (.type "type"))
    (xp_TooMany : PySem.W.keepIn K (.ref C0) = true)
    (xa_TooMany : PySem.W.findIn K (.ref C0) "__init__" = some (some (.ref fX_TooMany)))
    (xy_TooMany : PySem.W.typeIn K (.ref fX_TooMany) = some (.type "function"))
    (xL_TooMany : K.lookup fX_TooMany = some ⟨ocX_TooMany, odX_TooMany, .func (PySem.W.fnOf "__init__" "TooMany.__init__" (defArgs sX_TooMany) (defBody sX_TooMany) (defScope sX_TooMany) .none kVX_TooMany dcX_TooMany pmX_TooMany anX_TooMany cdX_TooMany ctX_TooMany), slX_TooMany⟩)
    (xc_TooMany : PySem.W.codeIn K cdX_TooMany "TooMany.__init__" = true)
    (xk0_TooMany : PySem.W.keepIn K (.ref fX_TooMany) = true)
    (xn_TooMany : PySem.W.findIn K (.ref C0) "limit" = some none)
    (i1_TooMany : (PySem.W.clsIn K C0).isSome = true)
    (i2_TooMany : PySem.W.findIn K (.ref C0) "__getattribute__" = some (some (.builtin "BaseException.__getattribute__")))
    (i3_TooMany : PySem.W.findIn K (.ref C0) "__getattr__" = some none)
    (i4_TooMany : PySem.W.subIn K (.ref C0) (.type "BaseException") = some true)
    (i5_TooMany : PySem.W.findIn K (.ref C0) "__class__" = some (some (.builtin "object.__class__")))
    (i6_TooMany : PySem.W.specialIn K (.builtin "object.__class__") "__get__" = some (some (.builtin "getset_descriptor.__get__")))
    (i7_TooMany : PySem.W.takesIn K (.builtin "object.__class__") = some true)
    (i8_TooMany : PySem.W.mroIn K C0 (.type "object") = some true)
    (i9_TooMany : PySem.W.hasDictIn K C0 = true)
    (C_LineError : PySem.W.nsIn K mainGlobals "LineError" = some (some (.ref C2)))
    (C_BadMoments : PySem.W.nsIn K mainGlobals "BadMoments" = some (some (.ref C3)))
    (C_BadCount : PySem.W.nsIn K mainGlobals "BadCount" = some (some (.ref C4)))
    (C_BadTime : PySem.W.nsIn K mainGlobals "BadTime" = some (some (.ref C5)))
    (C_BadPath : PySem.W.nsIn K mainGlobals "BadPath" = some (some (.ref C6)))
    (C_BadNumber : PySem.W.nsIn K mainGlobals "BadNumber" = some (some (.ref C7)))
    (C_TooLate : PySem.W.nsIn K mainGlobals "TooLate" = some (some (.ref C8)))
    (C_BadSight : PySem.W.nsIn K mainGlobals "BadSight" = some (some (.ref C9)))
    (C_BadRule : PySem.W.nsIn K mainGlobals "BadRule" = some (some (.ref C10)))
    (C_BadMoment : PySem.W.nsIn K mainGlobals "BadMoment" = some (some (.ref C11)))
    (C_Differs : PySem.W.nsIn K mainGlobals "Differs" = some (some (.ref C12)))
    (C_Branched : PySem.W.nsIn K mainGlobals "Branched" = some (some (.ref C13)))
    (C_BadText : PySem.W.nsIn K mainGlobals "BadText" = some (some (.ref C14)))
    (C_BadLog : PySem.W.nsIn K mainGlobals "BadLog" = some (some (.ref C15)))
    (C_NothingLeft : PySem.W.nsIn K mainGlobals "NothingLeft" = some (some (.ref C16)))
    (xm_TooMany_LineError : PySem.W.exmOne K (.ref C0) (.ref C2) = some true)
    (xv_TooMany_ValueError : PySem.W.kitOne K (.ref C0) (.type "ValueError") = some true)
    (xk_TooMany_BadCount : PySem.W.kitOne K (.ref C0) (.ref C4) = some false)
    (xk_TooMany_BadLog : PySem.W.kitOne K (.ref C0) (.ref C15) = some false)
    (xk_TooMany_BadMoment : PySem.W.kitOne K (.ref C0) (.ref C11) = some false)
    (xk_TooMany_BadMoments : PySem.W.kitOne K (.ref C0) (.ref C3) = some false)
    (xk_TooMany_BadNumber : PySem.W.kitOne K (.ref C0) (.ref C7) = some false)
    (xk_TooMany_BadPath : PySem.W.kitOne K (.ref C0) (.ref C6) = some false)
    (xk_TooMany_BadRule : PySem.W.kitOne K (.ref C0) (.ref C10) = some false)
    (xk_TooMany_BadSight : PySem.W.kitOne K (.ref C0) (.ref C9) = some false)
    (xk_TooMany_BadText : PySem.W.kitOne K (.ref C0) (.ref C14) = some false)
    (xk_TooMany_BadTime : PySem.W.kitOne K (.ref C0) (.ref C5) = some false)
    (xk_TooMany_Branched : PySem.W.kitOne K (.ref C0) (.ref C13) = some false)
    (xk_TooMany_Differs : PySem.W.kitOne K (.ref C0) (.ref C12) = some false)
    (xk_TooMany_NothingLeft : PySem.W.kitOne K (.ref C0) (.ref C16) = some false)
    (xk_TooMany_TooLate : PySem.W.kitOne K (.ref C0) (.ref C8) = some false)
    (xk_TooMany_TooMany : PySem.W.kitOne K (.ref C0) (.ref C0) = some true)
    (a0 : PySem.W.nsIn K mainGlobals "is_number" = some (some (.ref f0)))
    (l0 : K.lookup f0 = some ⟨oc0, od0, .func (PySem.W.fnOf "is_number" "is_number" (defArgs s0) (defBody s0) (defScope s0) .none kV0 dc0 pm0 an0 cd0 ct0), sl0⟩)
    (c0 : PySem.W.codeIn K cd0 "is_number" = true)
    (k0 : PySem.W.keepIn K (.ref f0) = true)
    (a1 : PySem.W.nsIn K mainGlobals "sorted_pairs" = some (some (.ref f1)))
    (l1 : K.lookup f1 = some ⟨oc1, od1, .func (PySem.W.fnOf "sorted_pairs" "sorted_pairs" (defArgs s1) (defBody s1) (defScope s1) .none kV1 dc1 pm1 an1 cd1 ct1), sl1⟩)
    (c1 : PySem.W.codeIn K cd1 "sorted_pairs" = true)
    (k1 : PySem.W.keepIn K (.ref f1) = true)
    (a2 : PySem.W.nsIn K mainGlobals "joined" = some (some (.ref f2)))
    (l2 : K.lookup f2 = some ⟨oc2, od2, .func (PySem.W.fnOf "joined" "joined" (defArgs s2) (defBody s2) (defScope s2) .none kV2 dc2 pm2 an2 cd2 ct2), sl2⟩)
    (c2 : PySem.W.codeIn K cd2 "joined" = true)
    (k2 : PySem.W.keepIn K (.ref f2) = true)
    (a3 : PySem.W.nsIn K mainGlobals "listed" = some (some (.ref f3)))
    (l3 : K.lookup f3 = some ⟨oc3, od3, .func (PySem.W.fnOf "listed" "listed" (defArgs s3) (defBody s3) (defScope s3) .none kV3 dc3 pm3 an3 cd3 ct3), sl3⟩)
    (c3 : PySem.W.codeIn K cd3 "listed" = true)
    (k3 : PySem.W.keepIn K (.ref f3) = true)
    (a4 : PySem.W.nsIn K mainGlobals "repeated" = some (some (.ref f4)))
    (l4 : K.lookup f4 = some ⟨oc4, od4, .func (PySem.W.fnOf "repeated" "repeated" (defArgs s4) (defBody s4) (defScope s4) .none kV4 dc4 pm4 an4 cd4 ct4), sl4⟩)
    (c4 : PySem.W.codeIn K cd4 "repeated" = true)
    (k4 : PySem.W.keepIn K (.ref f4) = true)
    (a5 : PySem.W.nsIn K mainGlobals "section_terms" = some (some (.ref f5)))
    (l5 : K.lookup f5 = some ⟨oc5, od5, .func (PySem.W.fnOf "section_terms" "section_terms" (defArgs s5) (defBody s5) (defScope s5) .none kV5 dc5 pm5 an5 cd5 ct5), sl5⟩)
    (c5 : PySem.W.codeIn K cd5 "section_terms" = true)
    (k5 : PySem.W.keepIn K (.ref f5) = true)
    (a6 : PySem.W.nsIn K mainGlobals "terms_of" = some (some (.ref f6)))
    (l6 : K.lookup f6 = some ⟨oc6, od6, .func (PySem.W.fnOf "terms_of" "terms_of" (defArgs s6) (defBody s6) (defScope s6) .none kV6 dc6 pm6 an6 cd6 ct6), sl6⟩)
    (c6 : PySem.W.codeIn K cd6 "terms_of" = true)
    (k6 : PySem.W.keepIn K (.ref f6) = true)
    (a7 : PySem.W.nsIn K mainGlobals "terms" = some (some (.ref f7)))
    (l7 : K.lookup f7 = some ⟨oc7, od7, .func (PySem.W.fnOf "terms" "terms" (defArgs s7) (defBody s7) (defScope s7) .none kV7 dc7 pm7 an7 cd7 ct7), sl7⟩)
    (c7 : PySem.W.codeIn K cd7 "terms" = true)
    (k7 : PySem.W.keepIn K (.ref f7) = true)
    (a8 : PySem.W.nsIn K mainGlobals "inner_parts" = some (some (.ref f8)))
    (l8 : K.lookup f8 = some ⟨oc8, od8, .func (PySem.W.fnOf "inner_parts" "inner_parts" (defArgs s8) (defBody s8) (defScope s8) .none kV8 dc8 pm8 an8 cd8 ct8), sl8⟩)
    (c8 : PySem.W.codeIn K cd8 "inner_parts" = true)
    (k8 : PySem.W.keepIn K (.ref f8) = true)
    (a9 : PySem.W.nsIn K mainGlobals "is_time" = some (some (.ref f9)))
    (l9 : K.lookup f9 = some ⟨oc9, od9, .func (PySem.W.fnOf "is_time" "is_time" (defArgs s9) (defBody s9) (defScope s9) .none kV9 dc9 pm9 an9 cd9 ct9), sl9⟩)
    (c9 : PySem.W.codeIn K cd9 "is_time" = true)
    (k9 : PySem.W.keepIn K (.ref f9) = true)
    (a10 : PySem.W.nsIn K mainGlobals "is_count" = some (some (.ref f10)))
    (l10 : K.lookup f10 = some ⟨oc10, od10, .func (PySem.W.fnOf "is_count" "is_count" (defArgs s10) (defBody s10) (defScope s10) .none kV10 dc10 pm10 an10 cd10 ct10), sl10⟩)
    (c10 : PySem.W.codeIn K cd10 "is_count" = true)
    (k10 : PySem.W.keepIn K (.ref f10) = true)
    (a11 : PySem.W.nsIn K mainGlobals "need_count" = some (some (.ref f11)))
    (l11 : K.lookup f11 = some ⟨oc11, od11, .func (PySem.W.fnOf "need_count" "need_count" (defArgs s11) (defBody s11) (defScope s11) .none kV11 dc11 pm11 an11 cd11 ct11), sl11⟩)
    (c11 : PySem.W.codeIn K cd11 "need_count" = true)
    (k11 : PySem.W.keepIn K (.ref f11) = true)
    (a12 : PySem.W.nsIn K mainGlobals "need_time" = some (some (.ref f12)))
    (l12 : K.lookup f12 = some ⟨oc12, od12, .func (PySem.W.fnOf "need_time" "need_time" (defArgs s12) (defBody s12) (defScope s12) .none kV12 dc12 pm12 an12 cd12 ct12), sl12⟩)
    (c12 : PySem.W.codeIn K cd12 "need_time" = true)
    (k12 : PySem.W.keepIn K (.ref f12) = true)
    (a13 : PySem.W.nsIn K mainGlobals "paths_of" = some (some (.ref f13)))
    (l13 : K.lookup f13 = some ⟨oc13, od13, .func (PySem.W.fnOf "paths_of" "paths_of" (defArgs s13) (defBody s13) (defScope s13) .none kV13 dc13 pm13 an13 cd13 ct13), sl13⟩)
    (c13 : PySem.W.codeIn K cd13 "paths_of" = true)
    (k13 : PySem.W.keepIn K (.ref f13) = true)
    (a14 : PySem.W.findIn K (.ref C1) "__init__" = some (some (.ref f14)))
    (i14 : PySem.W.isFn K (.ref f14) = true)
    (l14 : K.lookup f14 = some ⟨oc14, od14, .func (PySem.W.fnOf "__init__" "Line.__init__" (defArgs s14) (defBody s14) (defScope s14) .none kV14 dc14 pm14 an14 cd14 ct14), sl14⟩)
    (c14 : PySem.W.codeIn K cd14 "Line.__init__" = true)
    (k14 : PySem.W.keepIn K (.ref f14) = true)
    (a15 : PySem.W.findCls K (.ref C1) (.type "type") "belt" = some (.get (.builtin "staticmethod.__get__") (.ref q15) ob15 (.ref C1)))
    (r15 : PySem.W.readsIn K C1 (.type "type") = true)
    (v15 : PySem.W.recIn K q15 "staticmethod" = some (.ref f15 :: rs15))
    (l15 : K.lookup f15 = some ⟨oc15, od15, .func (PySem.W.fnOf "belt" "Line.belt" (defArgs s15) (defBody s15) (defScope s15) .none kV15 dc15 pm15 an15 cd15 ct15), sl15⟩)
    (c15 : PySem.W.codeIn K cd15 "Line.belt" = true)
    (k15 : PySem.W.keepIn K (.ref f15) = true)
    (a16 : PySem.W.findCls K (.ref C1) (.type "type") "gap" = some (.get (.builtin "staticmethod.__get__") (.ref q16) ob16 (.ref C1)))
    (r16 : PySem.W.readsIn K C1 (.type "type") = true)
    (v16 : PySem.W.recIn K q16 "staticmethod" = some (.ref f16 :: rs16))
    (l16 : K.lookup f16 = some ⟨oc16, od16, .func (PySem.W.fnOf "gap" "Line.gap" (defArgs s16) (defBody s16) (defScope s16) .none kV16 dc16 pm16 an16 cd16 ct16), sl16⟩)
    (c16 : PySem.W.codeIn K cd16 "Line.gap" = true)
    (k16 : PySem.W.keepIn K (.ref f16) = true)
    (a17 : PySem.W.findCls K (.ref C1) (.type "type") "hold" = some (.get (.builtin "staticmethod.__get__") (.ref q17) ob17 (.ref C1)))
    (r17 : PySem.W.readsIn K C1 (.type "type") = true)
    (v17 : PySem.W.recIn K q17 "staticmethod" = some (.ref f17 :: rs17))
    (l17 : K.lookup f17 = some ⟨oc17, od17, .func (PySem.W.fnOf "hold" "Line.hold" (defArgs s17) (defBody s17) (defScope s17) .none kV17 dc17 pm17 an17 cd17 ct17), sl17⟩)
    (c17 : PySem.W.codeIn K cd17 "Line.hold" = true)
    (k17 : PySem.W.keepIn K (.ref f17) = true)
    (a18 : PySem.W.findIn K (.ref C1) "limited" = some (some (.ref f18)))
    (i18 : PySem.W.isFn K (.ref f18) = true)
    (l18 : K.lookup f18 = some ⟨oc18, od18, .func (PySem.W.fnOf "limited" "Line.limited" (defArgs s18) (defBody s18) (defScope s18) .none kV18 dc18 pm18 an18 cd18 ct18), sl18⟩)
    (c18 : PySem.W.codeIn K cd18 "Line.limited" = true)
    (k18 : PySem.W.keepIn K (.ref f18) = true)
    (a19 : PySem.W.findIn K (.ref C1) "__add__" = some (some (.ref f19)))
    (i19 : PySem.W.isFn K (.ref f19) = true)
    (l19 : K.lookup f19 = some ⟨oc19, od19, .func (PySem.W.fnOf "__add__" "Line.__add__" (defArgs s19) (defBody s19) (defScope s19) .none kV19 dc19 pm19 an19 cd19 ct19), sl19⟩)
    (c19 : PySem.W.codeIn K cd19 "Line.__add__" = true)
    (k19 : PySem.W.keepIn K (.ref f19) = true)
    (a20 : PySem.W.findIn K (.ref C1) "__and__" = some (some (.ref f20)))
    (i20 : PySem.W.isFn K (.ref f20) = true)
    (l20 : K.lookup f20 = some ⟨oc20, od20, .func (PySem.W.fnOf "__and__" "Line.__and__" (defArgs s20) (defBody s20) (defScope s20) .none kV20 dc20 pm20 an20 cd20 ct20), sl20⟩)
    (c20 : PySem.W.codeIn K cd20 "Line.__and__" = true)
    (k20 : PySem.W.keepIn K (.ref f20) = true)
    (a21 : PySem.W.findIn K (.ref C1) "parts" = some (some (.ref f21)))
    (i21 : PySem.W.isFn K (.ref f21) = true)
    (l21 : K.lookup f21 = some ⟨oc21, od21, .func (PySem.W.fnOf "parts" "Line.parts" (defArgs s21) (defBody s21) (defScope s21) .none kV21 dc21 pm21 an21 cd21 ct21), sl21⟩)
    (c21 : PySem.W.codeIn K cd21 "Line.parts" = true)
    (k21 : PySem.W.keepIn K (.ref f21) = true)
    (a22 : PySem.W.nsIn K mainGlobals "_law_begun" = some (some (.ref f22)))
    (l22 : K.lookup f22 = some ⟨oc22, od22, .func (PySem.W.fnOf "_law_begun" "_law_begun" (defArgs s22) (defBody s22) (defScope s22) .none kV22 dc22 pm22 an22 cd22 ct22), sl22⟩)
    (c22 : PySem.W.codeIn K cd22 "_law_begun" = true)
    (k22 : PySem.W.keepIn K (.ref f22) = true)
    (a23 : PySem.W.nsIn K mainGlobals "_law_mixed" = some (some (.ref f23)))
    (l23 : K.lookup f23 = some ⟨oc23, od23, .func (PySem.W.fnOf "_law_mixed" "_law_mixed" (defArgs s23) (defBody s23) (defScope s23) .none kV23 dc23 pm23 an23 cd23 ct23), sl23⟩)
    (c23 : PySem.W.codeIn K cd23 "_law_mixed" = true)
    (k23 : PySem.W.keepIn K (.ref f23) = true)
    (a24 : PySem.W.nsIn K mainGlobals "_law_take" = some (some (.ref f24)))
    (l24 : K.lookup f24 = some ⟨oc24, od24, .func (PySem.W.fnOf "_law_take" "_law_take" (defArgs s24) (defBody s24) (defScope s24) .none kV24 dc24 pm24 an24 cd24 ct24), sl24⟩)
    (c24 : PySem.W.codeIn K cd24 "_law_take" = true)
    (k24 : PySem.W.keepIn K (.ref f24) = true)
    (a25 : PySem.W.nsIn K mainGlobals "_law_pick" = some (some (.ref f25)))
    (l25 : K.lookup f25 = some ⟨oc25, od25, .func (PySem.W.fnOf "_law_pick" "_law_pick" (defArgs s25) (defBody s25) (defScope s25) .none kV25 dc25 pm25 an25 cd25 ct25), sl25⟩)
    (c25 : PySem.W.codeIn K cd25 "_law_pick" = true)
    (k25 : PySem.W.keepIn K (.ref f25) = true)
    (a26 : PySem.W.nsIn K mainGlobals "_law_time" = some (some (.ref f26)))
    (l26 : K.lookup f26 = some ⟨oc26, od26, .func (PySem.W.fnOf "_law_time" "_law_time" (defArgs s26) (defBody s26) (defScope s26) .none kV26 dc26 pm26 an26 cd26 ct26), sl26⟩)
    (c26 : PySem.W.codeIn K cd26 "_law_time" = true)
    (k26 : PySem.W.keepIn K (.ref f26) = true)
    (a27 : PySem.W.nsIn K mainGlobals "_law_leaf" = some (some (.ref f27)))
    (l27 : K.lookup f27 = some ⟨oc27, od27, .func (PySem.W.fnOf "_law_leaf" "_law_leaf" (defArgs s27) (defBody s27) (defScope s27) .none kV27 dc27 pm27 an27 cd27 ct27), sl27⟩)
    (c27 : PySem.W.codeIn K cd27 "_law_leaf" = true)
    (k27 : PySem.W.keepIn K (.ref f27) = true)
    (a28 : PySem.W.nsIn K mainGlobals "_law_tree" = some (some (.ref f28)))
    (l28 : K.lookup f28 = some ⟨oc28, od28, .func (PySem.W.fnOf "_law_tree" "_law_tree" (defArgs s28) (defBody s28) (defScope s28) .none kV28 dc28 pm28 an28 cd28 ct28), sl28⟩)
    (c28 : PySem.W.codeIn K cd28 "_law_tree" = true)
    (k28 : PySem.W.keepIn K (.ref f28) = true)
    (a29 : PySem.W.nsIn K mainGlobals "_law_line" = some (some (.ref f29)))
    (l29 : K.lookup f29 = some ⟨oc29, od29, .func (PySem.W.fnOf "_law_line" "_law_line" (defArgs s29) (defBody s29) (defScope s29) .none kV29 dc29 pm29 an29 cd29 ct29), sl29⟩)
    (c29 : PySem.W.codeIn K cd29 "_law_line" = true)
    (k29 : PySem.W.keepIn K (.ref f29) = true)
    (a30 : PySem.W.nsIn K mainGlobals "_law_inner" = some (some (.ref f30)))
    (l30 : K.lookup f30 = some ⟨oc30, od30, .func (PySem.W.fnOf "_law_inner" "_law_inner" (defArgs s30) (defBody s30) (defScope s30) .none kV30 dc30 pm30 an30 cd30 ct30), sl30⟩)
    (c30 : PySem.W.codeIn K cd30 "_law_inner" = true)
    (k30 : PySem.W.keepIn K (.ref f30) = true)
    (a31 : PySem.W.nsIn K mainGlobals "_law_joined" = some (some (.ref f31)))
    (l31 : K.lookup f31 = some ⟨oc31, od31, .func (PySem.W.fnOf "_law_joined" "_law_joined" (defArgs s31) (defBody s31) (defScope s31) .none kV31 dc31 pm31 an31 cd31 ct31), sl31⟩)
    (c31 : PySem.W.codeIn K cd31 "_law_joined" = true)
    (k31 : PySem.W.keepIn K (.ref f31) = true)
    (a32 : PySem.W.nsIn K mainGlobals "_law_section_terms" = some (some (.ref f32)))
    (l32 : K.lookup f32 = some ⟨oc32, od32, .func (PySem.W.fnOf "_law_section_terms" "_law_section_terms" (defArgs s32) (defBody s32) (defScope s32) .none kV32 dc32 pm32 an32 cd32 ct32), sl32⟩)
    (c32 : PySem.W.codeIn K cd32 "_law_section_terms" = true)
    (k32 : PySem.W.keepIn K (.ref f32) = true)
    (a33 : PySem.W.nsIn K mainGlobals "_law_terms" = some (some (.ref f33)))
    (l33 : K.lookup f33 = some ⟨oc33, od33, .func (PySem.W.fnOf "_law_terms" "_law_terms" (defArgs s33) (defBody s33) (defScope s33) .none kV33 dc33 pm33 an33 cd33 ct33), sl33⟩)
    (c33 : PySem.W.codeIn K cd33 "_law_terms" = true)
    (k33 : PySem.W.keepIn K (.ref f33) = true)
    (a34 : PySem.W.nsIn K mainGlobals "_law_marks" = some (some (.ref f34)))
    (l34 : K.lookup f34 = some ⟨oc34, od34, .func (PySem.W.fnOf "_law_marks" "_law_marks" (defArgs s34) (defBody s34) (defScope s34) .none kV34 dc34 pm34 an34 cd34 ct34), sl34⟩)
    (c34 : PySem.W.codeIn K cd34 "_law_marks" = true)
    (k34 : PySem.W.keepIn K (.ref f34) = true)
    (a35 : PySem.W.nsIn K mainGlobals "_law_kept" = some (some (.ref f35)))
    (l35 : K.lookup f35 = some ⟨oc35, od35, .func (PySem.W.fnOf "_law_kept" "_law_kept" (defArgs s35) (defBody s35) (defScope s35) .none kV35 dc35 pm35 an35 cd35 ct35), sl35⟩)
    (c35 : PySem.W.codeIn K cd35 "_law_kept" = true)
    (k35 : PySem.W.keepIn K (.ref f35) = true)
    (a36 : PySem.W.nsIn K mainGlobals "_law_terms_or_none" = some (some (.ref f36)))
    (l36 : K.lookup f36 = some ⟨oc36, od36, .func (PySem.W.fnOf "_law_terms_or_none" "_law_terms_or_none" (defArgs s36) (defBody s36) (defScope s36) .none kV36 dc36 pm36 an36 cd36 ct36), sl36⟩)
    (c36 : PySem.W.codeIn K cd36 "_law_terms_or_none" = true)
    (k36 : PySem.W.keepIn K (.ref f36) = true)
    (a37 : PySem.W.nsIn K mainGlobals "law" = some (some (.ref f37)))
    (l37 : K.lookup f37 = some ⟨oc37, od37, .func (PySem.W.fnOf "law" "law" (defArgs s37) (defBody s37) (defScope s37) .none kV37 dc37 pm37 an37 (.ref c1_37) ct37), sl37⟩)
    (c37 : PySem.W.codeIn K (.ref c1_37) "law" = true)
    (k37 : PySem.W.keepIn K (.ref f37) = true)
    (tb_37 : K.lookup c1_37 = some ⟨oP37, odP37, .fields vP37, slP37⟩)
    (te_37 : vP37[11]? = some (.ref Pt_37))
    (tn_37 : h.get? Pt_37 = some (PySem.W.tabObj #[]))
    (to_37 : K.lookup Pt_37 = none)
    (th_37 : PySem.W.codeHdIn K c1_37 Pt_37 = true)
    (aL0 : PySem.W.nsIn K mainGlobals "_law_caught" = some (some (.ref fL0)))
    (lL0 : K.lookup fL0 = some ⟨ocL0, odL0, .func (PySem.W.fnOf "_law_caught" "_law_caught" (defArgs sL0) (defBody sL0) (defScope sL0) .none kVL0 dcL0 pmL0 anL0 cdL0 ctL0), slL0⟩)
    (cL0 : PySem.W.codeIn K cdL0 "_law_caught" = true)
    (kL0 : PySem.W.keepIn K (.ref fL0) = true)
    (aL1 : PySem.W.nsIn K mainGlobals "_law_refusal" = some (some (.ref fL1)))
    (lL1 : K.lookup fL1 = some ⟨ocL1, odL1, .func (PySem.W.fnOf "_law_refusal" "_law_refusal" (defArgs sL1) (defBody sL1) (defScope sL1) .none kVL1 dcL1 pmL1 anL1 cdL1 ctL1), slL1⟩)
    (cL1 : PySem.W.codeIn K cdL1 "_law_refusal" = true)
    (kL1 : PySem.W.keepIn K (.ref fL1) = true)
    (aL2 : PySem.W.nsIn K mainGlobals "_law_is" = some (some (.ref fL2)))
    (lL2 : K.lookup fL2 = some ⟨ocL2, odL2, .func (PySem.W.fnOf "_law_is" "_law_is" (defArgs sL2) (defBody sL2) (defScope sL2) .none kVL2 dcL2 pmL2 anL2 cdL2 ctL2), slL2⟩)
    (cL2 : PySem.W.codeIn K cdL2 "_law_is" = true)
    (kL2 : PySem.W.keepIn K (.ref fL2) = true)
    (g_MOST_TERMS : PySem.W.nsIn K mainGlobals "MOST_TERMS" = some (some (.int 100 t_MOST_TERMS)))
    (g_MOST_INNER : PySem.W.nsIn K mainGlobals "MOST_INNER" = some (some (.int 6 t_MOST_INNER)))
    (g_GREATEST_TIME : PySem.W.nsIn K mainGlobals "GREATEST_TIME" = some (some (.int 1000000000 t_GREATEST_TIME)))
    (g_MOST_COUNT : PySem.W.nsIn K mainGlobals "MOST_COUNT" = some (some (.int 12 t_MOST_COUNT)))
    (g_MOST_PARTS : PySem.W.nsIn K mainGlobals "MOST_PARTS" = some (some (.int 12 t_MOST_PARTS)))
    (z_isinstance : PySem.W.nsIn K mainGlobals "isinstance" = some none)
    (z_int : PySem.W.nsIn K mainGlobals "int" = some none)
    (z_bool : PySem.W.nsIn K mainGlobals "bool" = some none)
    (z_sorted : PySem.W.nsIn K mainGlobals "sorted" = some none)
    (z_set : PySem.W.nsIn K mainGlobals "set" = some none)
    (z_tuple : PySem.W.nsIn K mainGlobals "tuple" = some none)
    (z_len : PySem.W.nsIn K mainGlobals "len" = some none)
    (z_enumerate : PySem.W.nsIn K mainGlobals "enumerate" = some none)
    (z_abs : PySem.W.nsIn K mainGlobals "abs" = some none)
    (z_ValueError : PySem.W.nsIn K mainGlobals "ValueError" = some none)
    (z_repr : PySem.W.nsIn K mainGlobals "repr" = some none)
    (z_min : PySem.W.nsIn K mainGlobals "min" = some none)
    (z_range : PySem.W.nsIn K mainGlobals "range" = some none)
    : ∃ (fd : FuncData) (cl : ClsT) (cs : List (Addr × Addr)), TabsOk K h cs ∧ (∀ t ∈ cl.tb, ∃ p ∈ cs, p.2 = t.1) ∧ (∀ (s : Shared) (u : Value), BindsTo s fd ⟨[u], []⟩ [("_law_script", u)]) ∧ ∀ base : Heap, K.In base → base.Ns mainGlobals mg → (∀ p ∈ cs, LamX.TabB base mg p.1 p.2) → FnG l.prog w K mg base (2 * 60 + 2) q0 fd ["_law_script"] (spF ⟨K, cl⟩ 1 (sem 60 37)) := by
  cases hfa.symm.trans (PySem.W.mg_of X G a37)
  obtain ⟨d0, F0, b0⟩ : ∃ d, Fun K "is_number" "is_number" s0 f0 d ∧ Binds K d p0 [] := by
    have F := fun_mk (st := s0) l0 c0 k0
    exact ⟨_, F, F.binds (ps := p0) fun _ _ _ _ _ _ us hl => match us, hl with | [_], _ => rfl⟩
  obtain ⟨d1, F1, b1⟩ : ∃ d, Fun K "sorted_pairs" "sorted_pairs" s1 f1 d ∧ Binds K d p1 [] := by
    have F := fun_mk (st := s1) l1 c1 k1
    exact ⟨_, F, F.binds (ps := p1) fun _ _ _ _ _ _ us hl => match us, hl with | [_], _ => rfl⟩
  obtain ⟨d2, F2, b2⟩ : ∃ d, Fun K "joined" "joined" s2 f2 d ∧ Binds K d p2 [] := by
    have F := fun_mk (st := s2) l2 c2 k2
    exact ⟨_, F, F.binds (ps := p2) fun _ _ _ _ _ _ us hl => match us, hl with | [_, _], _ => rfl⟩
  obtain ⟨d3, F3, b3⟩ : ∃ d, Fun K "listed" "listed" s3 f3 d ∧ Binds K d p3 [] := by
    have F := fun_mk (st := s3) l3 c3 k3
    exact ⟨_, F, F.binds (ps := p3) fun _ _ _ _ _ _ us hl => match us, hl with | [_], _ => rfl⟩
  obtain ⟨d4, F4, b4⟩ : ∃ d, Fun K "repeated" "repeated" s4 f4 d ∧ Binds K d p4 [] := by
    have F := fun_mk (st := s4) l4 c4 k4
    exact ⟨_, F, F.binds (ps := p4) fun _ _ _ _ _ _ us hl => match us, hl with | [_, _], _ => rfl⟩
  obtain ⟨d5, F5, b5⟩ : ∃ d, Fun K "section_terms" "section_terms" s5 f5 d ∧ Binds K d p5 [] := by
    have F := fun_mk (st := s5) l5 c5 k5
    exact ⟨_, F, F.binds (ps := p5) fun _ _ _ _ _ _ us hl => match us, hl with | [_, _], _ => rfl⟩
  obtain ⟨d6, F6, b6⟩ : ∃ d, Fun K "terms_of" "terms_of" s6 f6 d ∧ Binds K d p6 [] := by
    have F := fun_mk (st := s6) l6 c6 k6
    exact ⟨_, F, F.binds (ps := p6) fun _ _ _ _ _ _ us hl => match us, hl with | [_], _ => rfl⟩
  obtain ⟨d7, F7, b7, kw7_0⟩ : ∃ d, Fun K "terms" "terms" s7 f7 d ∧ Binds K d p7 [] ∧ BindsK K d p7 ["line"] [0] := by
    have F := fun_mk (st := s7) l7 c7 k7
    exact ⟨_, F, F.binds (ps := p7) fun _ _ _ _ _ _ us hl => match us, hl with | [_], _ => rfl, fun s ws _ hl => match ws, hl with | [_], _ => .of_eq rfl⟩
  obtain ⟨d8, F8, b8⟩ : ∃ d, Fun K "inner_parts" "inner_parts" s8 f8 d ∧ Binds K d p8 [] := by
    have F := fun_mk (st := s8) l8 c8 k8
    exact ⟨_, F, F.binds (ps := p8) fun _ _ _ _ _ _ us hl => match us, hl with | [_], _ => rfl⟩
  obtain ⟨d9, F9, b9⟩ : ∃ d, Fun K "is_time" "is_time" s9 f9 d ∧ Binds K d p9 [] := by
    have F := fun_mk (st := s9) l9 c9 k9
    exact ⟨_, F, F.binds (ps := p9) fun _ _ _ _ _ _ us hl => match us, hl with | [_], _ => rfl⟩
  obtain ⟨d10, F10, b10⟩ : ∃ d, Fun K "is_count" "is_count" s10 f10 d ∧ Binds K d p10 [] := by
    have F := fun_mk (st := s10) l10 c10 k10
    exact ⟨_, F, F.binds (ps := p10) fun _ _ _ _ _ _ us hl => match us, hl with | [_], _ => rfl⟩
  obtain ⟨d11, F11, b11⟩ : ∃ d, Fun K "need_count" "need_count" s11 f11 d ∧ Binds K d p11 [] := by
    have F := fun_mk (st := s11) l11 c11 k11
    exact ⟨_, F, F.binds (ps := p11) fun _ _ _ _ _ _ us hl => match us, hl with | [_], _ => rfl⟩
  obtain ⟨d12, F12, b12⟩ : ∃ d, Fun K "need_time" "need_time" s12 f12 d ∧ Binds K d p12 [] := by
    have F := fun_mk (st := s12) l12 c12 k12
    exact ⟨_, F, F.binds (ps := p12) fun _ _ _ _ _ _ us hl => match us, hl with | [_], _ => rfl⟩
  obtain ⟨d13, F13, b13⟩ : ∃ d, Fun K "paths_of" "paths_of" s13 f13 d ∧ Binds K d p13 [] := by
    have F := fun_mk (st := s13) l13 c13 k13
    exact ⟨_, F, F.binds (ps := p13) fun _ _ _ _ _ _ us hl => match us, hl with | [_, _], _ => rfl⟩
  obtain ⟨d14, F14, b14⟩ : ∃ d, Fun K "__init__" "Line.__init__" s14 f14 d ∧ Binds K d p14 [] := by
    have F := fun_mk (st := s14) l14 c14 k14
    exact ⟨_, F, F.binds (ps := p14) fun _ _ _ _ _ _ us hl => match us, hl with | [_, _], _ => rfl⟩
  obtain ⟨d15, F15, b15⟩ : ∃ d, Fun K "belt" "Line.belt" s15 f15 d ∧ Binds K d p15 [] := by
    have F := fun_mk (st := s15) l15 c15 k15
    exact ⟨_, F, F.binds (ps := p15) fun _ _ _ _ _ _ us hl => match us, hl with | [_], _ => rfl⟩
  obtain ⟨d16, F16, b16⟩ : ∃ d, Fun K "gap" "Line.gap" s16 f16 d ∧ Binds K d p16 [] := by
    have F := fun_mk (st := s16) l16 c16 k16
    exact ⟨_, F, F.binds (ps := p16) fun _ _ _ _ _ _ us hl => match us, hl with | [_, _], _ => rfl⟩
  obtain ⟨d17, F17, b17⟩ : ∃ d, Fun K "hold" "Line.hold" s17 f17 d ∧ Binds K d p17 [] := by
    have F := fun_mk (st := s17) l17 c17 k17
    exact ⟨_, F, F.binds (ps := p17) fun _ _ _ _ _ _ us hl => match us, hl with | [_, _], _ => rfl⟩
  obtain ⟨d18, F18, b18⟩ : ∃ d, Fun K "limited" "Line.limited" s18 f18 d ∧ Binds K d p18 [] := by
    have F := fun_mk (st := s18) l18 c18 k18
    exact ⟨_, F, F.binds (ps := p18) fun _ _ _ _ _ _ us hl => match us, hl with | [_, _], _ => rfl⟩
  obtain ⟨d19, F19, b19⟩ : ∃ d, Fun K "__add__" "Line.__add__" s19 f19 d ∧ Binds K d p19 [] := by
    have F := fun_mk (st := s19) l19 c19 k19
    exact ⟨_, F, F.binds (ps := p19) fun _ _ _ _ _ _ us hl => match us, hl with | [_, _], _ => rfl⟩
  obtain ⟨d20, F20, b20⟩ : ∃ d, Fun K "__and__" "Line.__and__" s20 f20 d ∧ Binds K d p20 [] := by
    have F := fun_mk (st := s20) l20 c20 k20
    exact ⟨_, F, F.binds (ps := p20) fun _ _ _ _ _ _ us hl => match us, hl with | [_, _], _ => rfl⟩
  obtain ⟨d21, F21, b21⟩ : ∃ d, Fun K "parts" "Line.parts" s21 f21 d ∧ Binds K d p21 [] := by
    have F := fun_mk (st := s21) l21 c21 k21
    exact ⟨_, F, F.binds (ps := p21) fun _ _ _ _ _ _ us hl => match us, hl with | [_], _ => rfl⟩
  obtain ⟨d22, F22, b22⟩ : ∃ d, Fun K "_law_begun" "_law_begun" s22 f22 d ∧ Binds K d p22 [] := by
    have F := fun_mk (st := s22) l22 c22 k22
    exact ⟨_, F, F.binds (ps := p22) fun _ _ _ _ _ _ us hl => match us, hl with | [_], _ => rfl⟩
  obtain ⟨d23, F23, b23⟩ : ∃ d, Fun K "_law_mixed" "_law_mixed" s23 f23 d ∧ Binds K d p23 [] := by
    have F := fun_mk (st := s23) l23 c23 k23
    exact ⟨_, F, F.binds (ps := p23) fun _ _ _ _ _ _ us hl => match us, hl with | [_], _ => rfl⟩
  obtain ⟨d24, F24, b24⟩ : ∃ d, Fun K "_law_take" "_law_take" s24 f24 d ∧ Binds K d p24 [] := by
    have F := fun_mk (st := s24) l24 c24 k24
    exact ⟨_, F, F.binds (ps := p24) fun _ _ _ _ _ _ us hl => match us, hl with | [_, _], _ => rfl⟩
  obtain ⟨d25, F25, b25⟩ : ∃ d, Fun K "_law_pick" "_law_pick" s25 f25 d ∧ Binds K d p25 [] := by
    have F := fun_mk (st := s25) l25 c25 k25
    exact ⟨_, F, F.binds (ps := p25) fun _ _ _ _ _ _ us hl => match us, hl with | [_, _], _ => rfl⟩
  obtain ⟨d26, F26, b26⟩ : ∃ d, Fun K "_law_time" "_law_time" s26 f26 d ∧ Binds K d p26 [] := by
    have F := fun_mk (st := s26) l26 c26 k26
    exact ⟨_, F, F.binds (ps := p26) fun _ _ _ _ _ _ us hl => match us, hl with | [_, _], _ => rfl⟩
  obtain ⟨d27, F27, b27⟩ : ∃ d, Fun K "_law_leaf" "_law_leaf" s27 f27 d ∧ Binds K d p27 [] := by
    have F := fun_mk (st := s27) l27 c27 k27
    exact ⟨_, F, F.binds (ps := p27) fun _ _ _ _ _ _ us hl => match us, hl with | [_, _, _, _], _ => rfl⟩
  obtain ⟨d28, F28, b28⟩ : ∃ d, Fun K "_law_tree" "_law_tree" s28 f28 d ∧ Binds K d p28 [] := by
    have F := fun_mk (st := s28) l28 c28 k28
    exact ⟨_, F, F.binds (ps := p28) fun _ _ _ _ _ _ us hl => match us, hl with | [_, _, _, _, _], _ => rfl⟩
  obtain ⟨d29, F29, b29⟩ : ∃ d, Fun K "_law_line" "_law_line" s29 f29 d ∧ Binds K d p29 [] := by
    have F := fun_mk (st := s29) l29 c29 k29
    exact ⟨_, F, F.binds (ps := p29) fun _ _ _ _ _ _ us hl => match us, hl with | [_], _ => rfl⟩
  obtain ⟨d30, F30, b30⟩ : ∃ d, Fun K "_law_inner" "_law_inner" s30 f30 d ∧ Binds K d p30 [] := by
    have F := fun_mk (st := s30) l30 c30 k30
    exact ⟨_, F, F.binds (ps := p30) fun _ _ _ _ _ _ us hl => match us, hl with | [_], _ => rfl⟩
  obtain ⟨d31, F31, b31⟩ : ∃ d, Fun K "_law_joined" "_law_joined" s31 f31 d ∧ Binds K d p31 [] := by
    have F := fun_mk (st := s31) l31 c31 k31
    exact ⟨_, F, F.binds (ps := p31) fun _ _ _ _ _ _ us hl => match us, hl with | [_, _], _ => rfl⟩
  obtain ⟨d32, F32, b32⟩ : ∃ d, Fun K "_law_section_terms" "_law_section_terms" s32 f32 d ∧ Binds K d p32 [] := by
    have F := fun_mk (st := s32) l32 c32 k32
    exact ⟨_, F, F.binds (ps := p32) fun _ _ _ _ _ _ us hl => match us, hl with | [_, _], _ => rfl⟩
  obtain ⟨d33, F33, b33⟩ : ∃ d, Fun K "_law_terms" "_law_terms" s33 f33 d ∧ Binds K d p33 [] := by
    have F := fun_mk (st := s33) l33 c33 k33
    exact ⟨_, F, F.binds (ps := p33) fun _ _ _ _ _ _ us hl => match us, hl with | [_], _ => rfl⟩
  obtain ⟨d34, F34, b34⟩ : ∃ d, Fun K "_law_marks" "_law_marks" s34 f34 d ∧ Binds K d p34 [] := by
    have F := fun_mk (st := s34) l34 c34 k34
    exact ⟨_, F, F.binds (ps := p34) fun _ _ _ _ _ _ us hl => match us, hl with | [_], _ => rfl⟩
  obtain ⟨d35, F35, b35⟩ : ∃ d, Fun K "_law_kept" "_law_kept" s35 f35 d ∧ Binds K d p35 [] := by
    have F := fun_mk (st := s35) l35 c35 k35
    exact ⟨_, F, F.binds (ps := p35) fun _ _ _ _ _ _ us hl => match us, hl with | [_, _], _ => rfl⟩
  obtain ⟨d36, F36, b36⟩ : ∃ d, Fun K "_law_terms_or_none" "_law_terms_or_none" s36 f36 d ∧ Binds K d p36 [] := by
    have F := fun_mk (st := s36) l36 c36 k36
    exact ⟨_, F, F.binds (ps := p36) fun _ _ _ _ _ _ us hl => match us, hl with | [_], _ => rfl⟩
  obtain ⟨d37, F37, b37, lb, dcd37⟩ : ∃ d, Fun K "law" "law" s37 q0 d ∧ Binds K d p37 [] ∧ (∀ (s : Shared) (u : Value), BindsTo s d ⟨[u], []⟩ [("_law_script", u)]) ∧ d.code = .ref c1_37 := by
    have F := fun_mk (st := s37) l37 c37 k37
    exact ⟨_, F, F.binds (ps := p37) fun _ _ _ _ _ _ us hl => match us, hl with | [_], _ => rfl, fun s u => .of_eq rfl, rfl⟩
  obtain ⟨dL0, FL0, bL0⟩ : ∃ d, Fun K "_law_caught" "_law_caught" sL0 fL0 d ∧ Binds K d pL0 [] := by
    have F := fun_mk (st := sL0) lL0 cL0 kL0
    exact ⟨_, F, F.binds (ps := pL0) fun _ _ _ _ _ _ us hl => match us, hl with | [_], _ => rfl⟩
  obtain ⟨dL1, FL1, bL1⟩ : ∃ d, Fun K "_law_refusal" "_law_refusal" sL1 fL1 d ∧ Binds K d pL1 [] := by
    have F := fun_mk (st := sL1) lL1 cL1 kL1
    exact ⟨_, F, F.binds (ps := pL1) fun _ _ _ _ _ _ us hl => match us, hl with | [_], _ => rfl⟩
  obtain ⟨dL2, FL2, bL2⟩ : ∃ d, Fun K "_law_is" "_law_is" sL2 fL2 d ∧ Binds K d pL2 [] := by
    have F := fun_mk (st := sL2) lL2 cL2 kL2
    exact ⟨_, F, F.binds (ps := pL2) fun _ _ _ _ _ _ us hl => match us, hl with | [_, _, _], _ => rfl⟩
  have xr_TooMany : InitAt K C0 "TooMany.__init__" sX_TooMany ["self", "limit"] := by
    have F := fun_mk (st := sX_TooMany) xL_TooMany xc_TooMany xk0_TooMany
    exact ⟨fX_TooMany, _, xa_TooMany, xy_TooMany, F, F.binds (ps := ["self", "limit"]) fun _ _ _ _ _ _ us hl => match us, hl with | [_, _], _ => rfl⟩
  let fa : Nat → Addr := fun i => [f0, f1, f2, f3, f4, f5, f6, f7, f8, f9, f10, f11, f12, f13, f14, f15, f16, f17, f18, f19, f20, f21, f22, f23, f24, f25, f26, f27, f28, f29, f30, f31, f32, f33, f34, f35, f36, q0].getD i 0
  let fd : Nat → FuncData := fun i => [d0, d1, d2, d3, d4, d5, d6, d7, d8, d9, d10, d11, d12, d13, d14, d15, d16, d17, d18, d19, d20, d21, d22, d23, d24, d25, d26, d27, d28, d29, d30, d31, d32, d33, d34, d35, d36, d37].getD i d0
  let cl : ClsT := ⟨fun i => ([C0, C1, C2, C3, C4, C5, C6, C7, C8, C9, C10, C11, C12, C13, C14, C15, C16] : List Addr).getD i 0, [(Pt_37, lamN "law")]⟩
  let ga : Nat → Addr := fun i => [fL0, fL1, fL2].getD i 0
  let gd : Nat → FuncData := fun i => [dL0, dL1, dL2].getD i dL0
  have FXi : FX K fa fd ga gd := ⟨F0, F1, F2, F3, F4, F5, F6, F7, F8, F9, F10, F11, F12, F13, F14, F15, F16, F17, F18, F19, F20, F21, F22, F23, F24, F25, F26, F27, F28, F29, F30, F31, F32, F33, F34, F35, F36, F37, b0, b1, b2, b3, b4, b5, b6, b7, b8, b9, b10, b11, b12, b13, b14, b15, b16, b17, b18, b19, b20, b21, b22, b23, b24, b25, b26, b27, b28, b29, b30, b31, b32, b33, b34, b35, b36, b37, k0, k1, k2, k3, k4, k5, k6, k7, k8, k9, k10, k11, k12, k13, k14, k15, k16, k17, k18, k19, k20, k21, k22, k23, k24, k25, k26, k27, k28, k29, k30, k31, k32, k33, k34, k35, k36, k37, FL0, FL1, FL2, bL0, bL1, bL2, kL0, kL1, kL2⟩
  have LXi : LX K mg cl fa fd ga := ⟨PySem.W.mg_of X G a0, PySem.W.mg_of X G a1, PySem.W.mg_of X G a2, PySem.W.mg_of X G a3, PySem.W.mg_of X G a4, PySem.W.mg_of X G a5, PySem.W.mg_of X G a6, PySem.W.mg_of X G a7, PySem.W.mg_of X G a8, PySem.W.mg_of X G a9, PySem.W.mg_of X G a10, PySem.W.mg_of X G a11, PySem.W.mg_of X G a12, PySem.W.mg_of X G a13, PySem.W.mg_of X G a22, PySem.W.mg_of X G a23, PySem.W.mg_of X G a24, PySem.W.mg_of X G a25, PySem.W.mg_of X G a26, PySem.W.mg_of X G a27, PySem.W.mg_of X G a28, PySem.W.mg_of X G a29, PySem.W.mg_of X G a30, PySem.W.mg_of X G a31, PySem.W.mg_of X G a32, PySem.W.mg_of X G a33, PySem.W.mg_of X G a34, PySem.W.mg_of X G a35, PySem.W.mg_of X G a36, PySem.W.mg_of X G a37, PySem.W.mg_of X G aL0, PySem.W.mg_of X G aL1, PySem.W.mg_of X G aL2, PySem.W.mg_of X G C_Line, ⟨pg_Line, hd_Line, po_Line, sa_Line⟩, n_Line_all_paths, n_Line_nested, ⟨mk_Line, a14, i14, kc_Line⟩, ⟨a18, i18, k18⟩, ⟨a21, i21, k21⟩, ⟨sf_Line, a19, i19⟩, ⟨sf_Line, a20, i20⟩, ⟨ga_Line, ⟨.type "type", ob15, q15, rs15, r15, a15, v15⟩, k15⟩, ⟨ga_Line, ⟨.type "type", ob16, q16, rs16, r16, a16, v16⟩, k16⟩, ⟨ga_Line, ⟨.type "type", ob17, q17, rs17, r17, a17, v17⟩, k17⟩, PySem.W.mg_of X G C_TooMany, ⟨xl_TooMany, xs_TooMany, xe_TooMany, xt_TooMany, xp_TooMany⟩, xr_TooMany, xn_TooMany, ⟨i1_TooMany, i2_TooMany, i3_TooMany, i4_TooMany, i5_TooMany, i6_TooMany, i7_TooMany, i8_TooMany, i9_TooMany⟩, PySem.W.mg_of X G C_LineError, PySem.W.mg_of X G C_BadMoments, PySem.W.mg_of X G C_BadCount, PySem.W.mg_of X G C_BadTime, PySem.W.mg_of X G C_BadPath, PySem.W.mg_of X G C_BadNumber, PySem.W.mg_of X G C_TooLate, PySem.W.mg_of X G C_BadSight, PySem.W.mg_of X G C_BadRule, PySem.W.mg_of X G C_BadMoment, PySem.W.mg_of X G C_Differs, PySem.W.mg_of X G C_Branched, PySem.W.mg_of X G C_BadText, PySem.W.mg_of X G C_BadLog, PySem.W.mg_of X G C_NothingLeft, xm_TooMany_LineError, xv_TooMany_ValueError, xk_TooMany_BadCount, xk_TooMany_BadLog, xk_TooMany_BadMoment, xk_TooMany_BadMoments, xk_TooMany_BadNumber, xk_TooMany_BadPath, xk_TooMany_BadRule, xk_TooMany_BadSight, xk_TooMany_BadText, xk_TooMany_BadTime, xk_TooMany_Branched, xk_TooMany_Differs, xk_TooMany_NothingLeft, xk_TooMany_TooLate, xk_TooMany_TooMany, ⟨_, PySem.W.mg_of X G g_MOST_TERMS⟩, ⟨_, PySem.W.mg_of X G g_MOST_INNER⟩, ⟨_, PySem.W.mg_of X G g_GREATEST_TIME⟩, ⟨_, PySem.W.mg_of X G g_MOST_COUNT⟩, ⟨_, PySem.W.mg_of X G g_MOST_PARTS⟩, PySem.W.mg_none_of X G z_isinstance, PySem.W.mg_none_of X G z_int, PySem.W.mg_none_of X G z_bool, PySem.W.mg_none_of X G z_sorted, PySem.W.mg_none_of X G z_set, PySem.W.mg_none_of X G z_tuple, PySem.W.mg_none_of X G z_len, PySem.W.mg_none_of X G z_enumerate, PySem.W.mg_none_of X G z_abs, PySem.W.mg_none_of X G z_ValueError, PySem.W.mg_none_of X G z_repr, PySem.W.mg_none_of X G z_min, PySem.W.mg_none_of X G z_range, kw7_0⟩
  have tok : TabsOk K h [(c1_37, Pt_37)] := ⟨(fa1 tn_37 fa0), (fa1 to_37 fa0), (fa1 (PySem.W.codeHd_of_K X th_37) fa0)⟩
  refine ⟨fd 37, cl, [(c1_37, Pt_37)], tok, ?_, lb, fun base _ _ hb => ?_⟩
  · intro t ht
    cases List.mem_singleton.mp ht
    exact ⟨(c1_37, Pt_37), .head _, rfl⟩
  have q1_37 : LamX.TabB base mg c1_37 Pt_37 := hb (c1_37, Pt_37) (.head _)
  have q2_37 : (Pt_37, lamN "law") ∈ cl.tb := .head _
  have q3_37 : ∀ p ∈ cl.tb, p.1 = Pt_37 → p.2 = lamN "law" := by
    intro p hp he
    cases List.mem_singleton.mp hp
    rfl
  exact (fn_all FXi LXi q1_37 q2_37 q3_37 dcd37 60).1 37 (by decide)
theorem all_of {l : PySem.W.OpenLaw} {w : World} {K : PySem.W.Frag} {h : Heap} {mg : Str → Option Value} {q0 : Addr} (c : HSays fa fn ts K h) (G : h.Ns mainGlobals mg) (hfa : mg "law" = some (.ref q0)) : ∃ (fd : FuncData) (cl : ClsT) (cs : List (Addr × Addr)), TabsOk K h cs ∧ (∀ t ∈ cl.tb, ∃ p ∈ cs, p.2 = t.1) ∧ (∀ (s : Shared) (u : Value), BindsTo s fd ⟨[u], []⟩ [("_law_script", u)]) ∧ ∀ base : Heap, K.In base → base.Ns mainGlobals mg → (∀ p ∈ cs, LamX.TabB base mg p.1 p.2) → FnG l.prog w K mg base (2 * 60 + 2) q0 fd ["_law_script"] (spF ⟨K, cl⟩ 1 (sem 60 37)) := by
  have C_Line : PySem.W.nsIn K mainGlobals "Line" = some (some (.ref (aC1 K))) := of_decide_eq_true (c.f 0 rfl)
  have pg_Line : PySem.W.plainGet K (aC1 K) Str.empty = true := c.f 1 rfl
  have hd_Line : PySem.W.hasDictIn K (aC1 K) = true := c.f 2 rfl
  have po_Line : PySem.W.plainOver K (aC1 K) = true := c.f 3 rfl
  have sa_Line : PySem.W.findIn K (.ref (aC1 K)) "__setattr__" = some (some (.builtin "object.__setattr__")) := of_decide_eq_true (c.f 4 rfl)
  have n_Line_all_paths : PySem.W.findIn K (.ref (aC1 K)) "all_paths" = some none := of_decide_eq_true (c.f 5 rfl)
  have n_Line_nested : PySem.W.findIn K (.ref (aC1 K)) "nested" = some none := of_decide_eq_true (c.f 6 rfl)
  have mk_Line : PySem.W.makesIn K (aC1 K) = true := c.f 7 rfl
  have kc_Line : PySem.W.keepIn K (.ref (aC1 K)) = true := c.f 8 rfl
  have sf_Line : PySem.W.selfFirst K (aC1 K) = true := c.f 9 rfl
  have ga_Line : PySem.W.specialIn K (.ref (aC1 K)) "__getattribute__" = some (some (.builtin "type.__getattribute__")) := of_decide_eq_true (c.f 10 rfl)
  have C_TooMany : PySem.W.nsIn K mainGlobals "TooMany" = some (some (.ref (aC0 K))) := of_decide_eq_true (c.f 11 rfl)
  have xl_TooMany := hExc_ok (c.f 12 rfl)
  have xs_TooMany : PySem.W.findIn K (.ref (aC0 K)) "__setattr__" = some (some (.builtin "object.__setattr__")) := of_decide_eq_true (c.f 13 rfl)
  have xe_TooMany : PySem.W.subIn K (.ref (aC0 K)) (.type "BaseException") = some true := of_decide_eq_true (c.f 14 rfl)
  have xt_TooMany : PySem.W.typeIn K (.ref (aC0 K)) = some (.type "type") := of_decide_eq_true (c.f 15 rfl)
  have xp_TooMany : PySem.W.keepIn K (.ref (aC0 K)) = true := c.f 16 rfl
  have xa_TooMany : PySem.W.findIn K (.ref (aC0 K)) "__init__" = some (some (.ref (aX_TooMany K))) := of_decide_eq_true (c.f 17 rfl)
  have xy_TooMany : PySem.W.typeIn K (.ref (aX_TooMany K)) = some (.type "function") := of_decide_eq_true (c.f 18 rfl)
  obtain ⟨ocX_TooMany, odX_TooMany, kVX_TooMany, dcX_TooMany, pmX_TooMany, anX_TooMany, cdX_TooMany, ctX_TooMany, slX_TooMany, xL_TooMany, xc_TooMany⟩ := hdef_ok (st := sX_TooMany) (c.d 41 rfl) (c.f 19 rfl)
  have xk0_TooMany : PySem.W.keepIn K (.ref (aX_TooMany K)) = true := c.f 20 rfl
  have xn_TooMany : PySem.W.findIn K (.ref (aC0 K)) "limit" = some none := of_decide_eq_true (c.f 21 rfl)
  have i1_TooMany : (PySem.W.clsIn K (aC0 K)).isSome = true := c.f 22 rfl
  have i2_TooMany : PySem.W.findIn K (.ref (aC0 K)) "__getattribute__" = some (some (.builtin "BaseException.__getattribute__")) := of_decide_eq_true (c.f 23 rfl)
  have i3_TooMany : PySem.W.findIn K (.ref (aC0 K)) "__getattr__" = some none := of_decide_eq_true (c.f 24 rfl)
  have i4_TooMany : PySem.W.subIn K (.ref (aC0 K)) (.type "BaseException") = some true := of_decide_eq_true (c.f 25 rfl)
  have i5_TooMany : PySem.W.findIn K (.ref (aC0 K)) "__class__" = some (some (.builtin "object.__class__")) := of_decide_eq_true (c.f 26 rfl)
  have i6_TooMany : PySem.W.specialIn K (.builtin "object.__class__") "__get__" = some (some (.builtin "getset_descriptor.__get__")) := of_decide_eq_true (c.f 27 rfl)
  have i7_TooMany : PySem.W.takesIn K (.builtin "object.__class__") = some true := of_decide_eq_true (c.f 28 rfl)
  have i8_TooMany : PySem.W.mroIn K (aC0 K) (.type "object") = some true := of_decide_eq_true (c.f 29 rfl)
  have i9_TooMany : PySem.W.hasDictIn K (aC0 K) = true := c.f 30 rfl
  have C_LineError : PySem.W.nsIn K mainGlobals "LineError" = some (some (.ref (aC2 K))) := of_decide_eq_true (c.f 31 rfl)
  have C_BadMoments : PySem.W.nsIn K mainGlobals "BadMoments" = some (some (.ref (aC3 K))) := of_decide_eq_true (c.f 32 rfl)
  have C_BadCount : PySem.W.nsIn K mainGlobals "BadCount" = some (some (.ref (aC4 K))) := of_decide_eq_true (c.f 33 rfl)
  have C_BadTime : PySem.W.nsIn K mainGlobals "BadTime" = some (some (.ref (aC5 K))) := of_decide_eq_true (c.f 34 rfl)
  have C_BadPath : PySem.W.nsIn K mainGlobals "BadPath" = some (some (.ref (aC6 K))) := of_decide_eq_true (c.f 35 rfl)
  have C_BadNumber : PySem.W.nsIn K mainGlobals "BadNumber" = some (some (.ref (aC7 K))) := of_decide_eq_true (c.f 36 rfl)
  have C_TooLate : PySem.W.nsIn K mainGlobals "TooLate" = some (some (.ref (aC8 K))) := of_decide_eq_true (c.f 37 rfl)
  have C_BadSight : PySem.W.nsIn K mainGlobals "BadSight" = some (some (.ref (aC9 K))) := of_decide_eq_true (c.f 38 rfl)
  have C_BadRule : PySem.W.nsIn K mainGlobals "BadRule" = some (some (.ref (aC10 K))) := of_decide_eq_true (c.f 39 rfl)
  have C_BadMoment : PySem.W.nsIn K mainGlobals "BadMoment" = some (some (.ref (aC11 K))) := of_decide_eq_true (c.f 40 rfl)
  have C_Differs : PySem.W.nsIn K mainGlobals "Differs" = some (some (.ref (aC12 K))) := of_decide_eq_true (c.f 41 rfl)
  have C_Branched : PySem.W.nsIn K mainGlobals "Branched" = some (some (.ref (aC13 K))) := of_decide_eq_true (c.f 42 rfl)
  have C_BadText : PySem.W.nsIn K mainGlobals "BadText" = some (some (.ref (aC14 K))) := of_decide_eq_true (c.f 43 rfl)
  have C_BadLog : PySem.W.nsIn K mainGlobals "BadLog" = some (some (.ref (aC15 K))) := of_decide_eq_true (c.f 44 rfl)
  have C_NothingLeft : PySem.W.nsIn K mainGlobals "NothingLeft" = some (some (.ref (aC16 K))) := of_decide_eq_true (c.f 45 rfl)
  have xm_TooMany_LineError : PySem.W.exmOne K (.ref (aC0 K)) (.ref (aC2 K)) = some true := of_decide_eq_true (c.f 46 rfl)
  have xv_TooMany_ValueError : PySem.W.kitOne K (.ref (aC0 K)) (.type "ValueError") = some true := of_decide_eq_true (c.f 47 rfl)
  have xk_TooMany_BadCount : PySem.W.kitOne K (.ref (aC0 K)) (.ref (aC4 K)) = some false := of_decide_eq_true (c.f 48 rfl)
  have xk_TooMany_BadLog : PySem.W.kitOne K (.ref (aC0 K)) (.ref (aC15 K)) = some false := of_decide_eq_true (c.f 49 rfl)
  have xk_TooMany_BadMoment : PySem.W.kitOne K (.ref (aC0 K)) (.ref (aC11 K)) = some false := of_decide_eq_true (c.f 50 rfl)
  have xk_TooMany_BadMoments : PySem.W.kitOne K (.ref (aC0 K)) (.ref (aC3 K)) = some false := of_decide_eq_true (c.f 51 rfl)
  have xk_TooMany_BadNumber : PySem.W.kitOne K (.ref (aC0 K)) (.ref (aC7 K)) = some false := of_decide_eq_true (c.f 52 rfl)
  have xk_TooMany_BadPath : PySem.W.kitOne K (.ref (aC0 K)) (.ref (aC6 K)) = some false := of_decide_eq_true (c.f 53 rfl)
  have xk_TooMany_BadRule : PySem.W.kitOne K (.ref (aC0 K)) (.ref (aC10 K)) = some false := of_decide_eq_true (c.f 54 rfl)
  have xk_TooMany_BadSight : PySem.W.kitOne K (.ref (aC0 K)) (.ref (aC9 K)) = some false := of_decide_eq_true (c.f 55 rfl)
  have xk_TooMany_BadText : PySem.W.kitOne K (.ref (aC0 K)) (.ref (aC14 K)) = some false := of_decide_eq_true (c.f 56 rfl)
  have xk_TooMany_BadTime : PySem.W.kitOne K (.ref (aC0 K)) (.ref (aC5 K)) = some false := of_decide_eq_true (c.f 57 rfl)
  have xk_TooMany_Branched : PySem.W.kitOne K (.ref (aC0 K)) (.ref (aC13 K)) = some false := of_decide_eq_true (c.f 58 rfl)
  have xk_TooMany_Differs : PySem.W.kitOne K (.ref (aC0 K)) (.ref (aC12 K)) = some false := of_decide_eq_true (c.f 59 rfl)
  have xk_TooMany_NothingLeft : PySem.W.kitOne K (.ref (aC0 K)) (.ref (aC16 K)) = some false := of_decide_eq_true (c.f 60 rfl)
  have xk_TooMany_TooLate : PySem.W.kitOne K (.ref (aC0 K)) (.ref (aC8 K)) = some false := of_decide_eq_true (c.f 61 rfl)
  have xk_TooMany_TooMany : PySem.W.kitOne K (.ref (aC0 K)) (.ref (aC0 K)) = some true := of_decide_eq_true (c.f 62 rfl)
  have a0 : PySem.W.nsIn K mainGlobals "is_number" = some (some (.ref (aF0 K))) := of_decide_eq_true (c.f 63 rfl)
  obtain ⟨oc0, od0, kV0, dc0, pm0, an0, cd0, ct0, sl0, l0, c0⟩ := hdef_ok (st := s0) (c.d 0 rfl) (c.f 64 rfl)
  have k0 : PySem.W.keepIn K (.ref (aF0 K)) = true := c.f 65 rfl
  have a1 : PySem.W.nsIn K mainGlobals "sorted_pairs" = some (some (.ref (aF1 K))) := of_decide_eq_true (c.f 66 rfl)
  obtain ⟨oc1, od1, kV1, dc1, pm1, an1, cd1, ct1, sl1, l1, c1⟩ := hdef_ok (st := s1) (c.d 1 rfl) (c.f 67 rfl)
  have k1 : PySem.W.keepIn K (.ref (aF1 K)) = true := c.f 68 rfl
  have a2 : PySem.W.nsIn K mainGlobals "joined" = some (some (.ref (aF2 K))) := of_decide_eq_true (c.f 69 rfl)
  obtain ⟨oc2, od2, kV2, dc2, pm2, an2, cd2, ct2, sl2, l2, c2⟩ := hdef_ok (st := s2) (c.d 2 rfl) (c.f 70 rfl)
  have k2 : PySem.W.keepIn K (.ref (aF2 K)) = true := c.f 71 rfl
  have a3 : PySem.W.nsIn K mainGlobals "listed" = some (some (.ref (aF3 K))) := of_decide_eq_true (c.f 72 rfl)
  obtain ⟨oc3, od3, kV3, dc3, pm3, an3, cd3, ct3, sl3, l3, c3⟩ := hdef_ok (st := s3) (c.d 3 rfl) (c.f 73 rfl)
  have k3 : PySem.W.keepIn K (.ref (aF3 K)) = true := c.f 74 rfl
  have a4 : PySem.W.nsIn K mainGlobals "repeated" = some (some (.ref (aF4 K))) := of_decide_eq_true (c.f 75 rfl)
  obtain ⟨oc4, od4, kV4, dc4, pm4, an4, cd4, ct4, sl4, l4, c4⟩ := hdef_ok (st := s4) (c.d 4 rfl) (c.f 76 rfl)
  have k4 : PySem.W.keepIn K (.ref (aF4 K)) = true := c.f 77 rfl
  have a5 : PySem.W.nsIn K mainGlobals "section_terms" = some (some (.ref (aF5 K))) := of_decide_eq_true (c.f 78 rfl)
  obtain ⟨oc5, od5, kV5, dc5, pm5, an5, cd5, ct5, sl5, l5, c5⟩ := hdef_ok (st := s5) (c.d 5 rfl) (c.f 79 rfl)
  have k5 : PySem.W.keepIn K (.ref (aF5 K)) = true := c.f 80 rfl
  have a6 : PySem.W.nsIn K mainGlobals "terms_of" = some (some (.ref (aF6 K))) := of_decide_eq_true (c.f 81 rfl)
  obtain ⟨oc6, od6, kV6, dc6, pm6, an6, cd6, ct6, sl6, l6, c6⟩ := hdef_ok (st := s6) (c.d 6 rfl) (c.f 82 rfl)
  have k6 : PySem.W.keepIn K (.ref (aF6 K)) = true := c.f 83 rfl
  have a7 : PySem.W.nsIn K mainGlobals "terms" = some (some (.ref (aF7 K))) := of_decide_eq_true (c.f 84 rfl)
  obtain ⟨oc7, od7, kV7, dc7, pm7, an7, cd7, ct7, sl7, l7, c7⟩ := hdef_ok (st := s7) (c.d 7 rfl) (c.f 85 rfl)
  have k7 : PySem.W.keepIn K (.ref (aF7 K)) = true := c.f 86 rfl
  have a8 : PySem.W.nsIn K mainGlobals "inner_parts" = some (some (.ref (aF8 K))) := of_decide_eq_true (c.f 87 rfl)
  obtain ⟨oc8, od8, kV8, dc8, pm8, an8, cd8, ct8, sl8, l8, c8⟩ := hdef_ok (st := s8) (c.d 8 rfl) (c.f 88 rfl)
  have k8 : PySem.W.keepIn K (.ref (aF8 K)) = true := c.f 89 rfl
  have a9 : PySem.W.nsIn K mainGlobals "is_time" = some (some (.ref (aF9 K))) := of_decide_eq_true (c.f 90 rfl)
  obtain ⟨oc9, od9, kV9, dc9, pm9, an9, cd9, ct9, sl9, l9, c9⟩ := hdef_ok (st := s9) (c.d 9 rfl) (c.f 91 rfl)
  have k9 : PySem.W.keepIn K (.ref (aF9 K)) = true := c.f 92 rfl
  have a10 : PySem.W.nsIn K mainGlobals "is_count" = some (some (.ref (aF10 K))) := of_decide_eq_true (c.f 93 rfl)
  obtain ⟨oc10, od10, kV10, dc10, pm10, an10, cd10, ct10, sl10, l10, c10⟩ := hdef_ok (st := s10) (c.d 10 rfl) (c.f 94 rfl)
  have k10 : PySem.W.keepIn K (.ref (aF10 K)) = true := c.f 95 rfl
  have a11 : PySem.W.nsIn K mainGlobals "need_count" = some (some (.ref (aF11 K))) := of_decide_eq_true (c.f 96 rfl)
  obtain ⟨oc11, od11, kV11, dc11, pm11, an11, cd11, ct11, sl11, l11, c11⟩ := hdef_ok (st := s11) (c.d 11 rfl) (c.f 97 rfl)
  have k11 : PySem.W.keepIn K (.ref (aF11 K)) = true := c.f 98 rfl
  have a12 : PySem.W.nsIn K mainGlobals "need_time" = some (some (.ref (aF12 K))) := of_decide_eq_true (c.f 99 rfl)
  obtain ⟨oc12, od12, kV12, dc12, pm12, an12, cd12, ct12, sl12, l12, c12⟩ := hdef_ok (st := s12) (c.d 12 rfl) (c.f 100 rfl)
  have k12 : PySem.W.keepIn K (.ref (aF12 K)) = true := c.f 101 rfl
  have a13 : PySem.W.nsIn K mainGlobals "paths_of" = some (some (.ref (aF13 K))) := of_decide_eq_true (c.f 102 rfl)
  obtain ⟨oc13, od13, kV13, dc13, pm13, an13, cd13, ct13, sl13, l13, c13⟩ := hdef_ok (st := s13) (c.d 13 rfl) (c.f 103 rfl)
  have k13 : PySem.W.keepIn K (.ref (aF13 K)) = true := c.f 104 rfl
  have a14 : PySem.W.findIn K (.ref (aC1 K)) "__init__" = some (some (.ref (aF14 K))) := of_decide_eq_true (c.f 105 rfl)
  have i14 : PySem.W.isFn K (.ref (aF14 K)) = true := c.f 106 rfl
  obtain ⟨oc14, od14, kV14, dc14, pm14, an14, cd14, ct14, sl14, l14, c14⟩ := hdef_ok (st := s14) (c.d 14 rfl) (c.f 107 rfl)
  have k14 : PySem.W.keepIn K (.ref (aF14 K)) = true := c.f 108 rfl
  obtain ⟨ob15, rs15, a15, v15⟩ := hStB_ok (c.f 109 rfl)
  have r15 : PySem.W.readsIn K (aC1 K) (.type "type") = true := c.f 110 rfl
  obtain ⟨oc15, od15, kV15, dc15, pm15, an15, cd15, ct15, sl15, l15, c15⟩ := hdef_ok (st := s15) (c.d 15 rfl) (c.f 111 rfl)
  have k15 : PySem.W.keepIn K (.ref (aF15 K)) = true := c.f 112 rfl
  obtain ⟨ob16, rs16, a16, v16⟩ := hStB_ok (c.f 113 rfl)
  have r16 : PySem.W.readsIn K (aC1 K) (.type "type") = true := c.f 114 rfl
  obtain ⟨oc16, od16, kV16, dc16, pm16, an16, cd16, ct16, sl16, l16, c16⟩ := hdef_ok (st := s16) (c.d 16 rfl) (c.f 115 rfl)
  have k16 : PySem.W.keepIn K (.ref (aF16 K)) = true := c.f 116 rfl
  obtain ⟨ob17, rs17, a17, v17⟩ := hStB_ok (c.f 117 rfl)
  have r17 : PySem.W.readsIn K (aC1 K) (.type "type") = true := c.f 118 rfl
  obtain ⟨oc17, od17, kV17, dc17, pm17, an17, cd17, ct17, sl17, l17, c17⟩ := hdef_ok (st := s17) (c.d 17 rfl) (c.f 119 rfl)
  have k17 : PySem.W.keepIn K (.ref (aF17 K)) = true := c.f 120 rfl
  have a18 : PySem.W.findIn K (.ref (aC1 K)) "limited" = some (some (.ref (aF18 K))) := of_decide_eq_true (c.f 121 rfl)
  have i18 : PySem.W.isFn K (.ref (aF18 K)) = true := c.f 122 rfl
  obtain ⟨oc18, od18, kV18, dc18, pm18, an18, cd18, ct18, sl18, l18, c18⟩ := hdef_ok (st := s18) (c.d 18 rfl) (c.f 123 rfl)
  have k18 : PySem.W.keepIn K (.ref (aF18 K)) = true := c.f 124 rfl
  have a19 : PySem.W.findIn K (.ref (aC1 K)) "__add__" = some (some (.ref (aF19 K))) := of_decide_eq_true (c.f 125 rfl)
  have i19 : PySem.W.isFn K (.ref (aF19 K)) = true := c.f 126 rfl
  obtain ⟨oc19, od19, kV19, dc19, pm19, an19, cd19, ct19, sl19, l19, c19⟩ := hdef_ok (st := s19) (c.d 19 rfl) (c.f 127 rfl)
  have k19 : PySem.W.keepIn K (.ref (aF19 K)) = true := c.f 128 rfl
  have a20 : PySem.W.findIn K (.ref (aC1 K)) "__and__" = some (some (.ref (aF20 K))) := of_decide_eq_true (c.f 129 rfl)
  have i20 : PySem.W.isFn K (.ref (aF20 K)) = true := c.f 130 rfl
  obtain ⟨oc20, od20, kV20, dc20, pm20, an20, cd20, ct20, sl20, l20, c20⟩ := hdef_ok (st := s20) (c.d 20 rfl) (c.f 131 rfl)
  have k20 : PySem.W.keepIn K (.ref (aF20 K)) = true := c.f 132 rfl
  have a21 : PySem.W.findIn K (.ref (aC1 K)) "parts" = some (some (.ref (aF21 K))) := of_decide_eq_true (c.f 133 rfl)
  have i21 : PySem.W.isFn K (.ref (aF21 K)) = true := c.f 134 rfl
  obtain ⟨oc21, od21, kV21, dc21, pm21, an21, cd21, ct21, sl21, l21, c21⟩ := hdef_ok (st := s21) (c.d 21 rfl) (c.f 135 rfl)
  have k21 : PySem.W.keepIn K (.ref (aF21 K)) = true := c.f 136 rfl
  have a22 : PySem.W.nsIn K mainGlobals "_law_begun" = some (some (.ref (aF22 K))) := of_decide_eq_true (c.f 137 rfl)
  obtain ⟨oc22, od22, kV22, dc22, pm22, an22, cd22, ct22, sl22, l22, c22⟩ := hdef_ok (st := s22) (c.d 22 rfl) (c.f 138 rfl)
  have k22 : PySem.W.keepIn K (.ref (aF22 K)) = true := c.f 139 rfl
  have a23 : PySem.W.nsIn K mainGlobals "_law_mixed" = some (some (.ref (aF23 K))) := of_decide_eq_true (c.f 140 rfl)
  obtain ⟨oc23, od23, kV23, dc23, pm23, an23, cd23, ct23, sl23, l23, c23⟩ := hdef_ok (st := s23) (c.d 23 rfl) (c.f 141 rfl)
  have k23 : PySem.W.keepIn K (.ref (aF23 K)) = true := c.f 142 rfl
  have a24 : PySem.W.nsIn K mainGlobals "_law_take" = some (some (.ref (aF24 K))) := of_decide_eq_true (c.f 143 rfl)
  obtain ⟨oc24, od24, kV24, dc24, pm24, an24, cd24, ct24, sl24, l24, c24⟩ := hdef_ok (st := s24) (c.d 24 rfl) (c.f 144 rfl)
  have k24 : PySem.W.keepIn K (.ref (aF24 K)) = true := c.f 145 rfl
  have a25 : PySem.W.nsIn K mainGlobals "_law_pick" = some (some (.ref (aF25 K))) := of_decide_eq_true (c.f 146 rfl)
  obtain ⟨oc25, od25, kV25, dc25, pm25, an25, cd25, ct25, sl25, l25, c25⟩ := hdef_ok (st := s25) (c.d 25 rfl) (c.f 147 rfl)
  have k25 : PySem.W.keepIn K (.ref (aF25 K)) = true := c.f 148 rfl
  have a26 : PySem.W.nsIn K mainGlobals "_law_time" = some (some (.ref (aF26 K))) := of_decide_eq_true (c.f 149 rfl)
  obtain ⟨oc26, od26, kV26, dc26, pm26, an26, cd26, ct26, sl26, l26, c26⟩ := hdef_ok (st := s26) (c.d 26 rfl) (c.f 150 rfl)
  have k26 : PySem.W.keepIn K (.ref (aF26 K)) = true := c.f 151 rfl
  have a27 : PySem.W.nsIn K mainGlobals "_law_leaf" = some (some (.ref (aF27 K))) := of_decide_eq_true (c.f 152 rfl)
  obtain ⟨oc27, od27, kV27, dc27, pm27, an27, cd27, ct27, sl27, l27, c27⟩ := hdef_ok (st := s27) (c.d 27 rfl) (c.f 153 rfl)
  have k27 : PySem.W.keepIn K (.ref (aF27 K)) = true := c.f 154 rfl
  have a28 : PySem.W.nsIn K mainGlobals "_law_tree" = some (some (.ref (aF28 K))) := of_decide_eq_true (c.f 155 rfl)
  obtain ⟨oc28, od28, kV28, dc28, pm28, an28, cd28, ct28, sl28, l28, c28⟩ := hdef_ok (st := s28) (c.d 28 rfl) (c.f 156 rfl)
  have k28 : PySem.W.keepIn K (.ref (aF28 K)) = true := c.f 157 rfl
  have a29 : PySem.W.nsIn K mainGlobals "_law_line" = some (some (.ref (aF29 K))) := of_decide_eq_true (c.f 158 rfl)
  obtain ⟨oc29, od29, kV29, dc29, pm29, an29, cd29, ct29, sl29, l29, c29⟩ := hdef_ok (st := s29) (c.d 29 rfl) (c.f 159 rfl)
  have k29 : PySem.W.keepIn K (.ref (aF29 K)) = true := c.f 160 rfl
  have a30 : PySem.W.nsIn K mainGlobals "_law_inner" = some (some (.ref (aF30 K))) := of_decide_eq_true (c.f 161 rfl)
  obtain ⟨oc30, od30, kV30, dc30, pm30, an30, cd30, ct30, sl30, l30, c30⟩ := hdef_ok (st := s30) (c.d 30 rfl) (c.f 162 rfl)
  have k30 : PySem.W.keepIn K (.ref (aF30 K)) = true := c.f 163 rfl
  have a31 : PySem.W.nsIn K mainGlobals "_law_joined" = some (some (.ref (aF31 K))) := of_decide_eq_true (c.f 164 rfl)
  obtain ⟨oc31, od31, kV31, dc31, pm31, an31, cd31, ct31, sl31, l31, c31⟩ := hdef_ok (st := s31) (c.d 31 rfl) (c.f 165 rfl)
  have k31 : PySem.W.keepIn K (.ref (aF31 K)) = true := c.f 166 rfl
  have a32 : PySem.W.nsIn K mainGlobals "_law_section_terms" = some (some (.ref (aF32 K))) := of_decide_eq_true (c.f 167 rfl)
  obtain ⟨oc32, od32, kV32, dc32, pm32, an32, cd32, ct32, sl32, l32, c32⟩ := hdef_ok (st := s32) (c.d 32 rfl) (c.f 168 rfl)
  have k32 : PySem.W.keepIn K (.ref (aF32 K)) = true := c.f 169 rfl
  have a33 : PySem.W.nsIn K mainGlobals "_law_terms" = some (some (.ref (aF33 K))) := of_decide_eq_true (c.f 170 rfl)
  obtain ⟨oc33, od33, kV33, dc33, pm33, an33, cd33, ct33, sl33, l33, c33⟩ := hdef_ok (st := s33) (c.d 33 rfl) (c.f 171 rfl)
  have k33 : PySem.W.keepIn K (.ref (aF33 K)) = true := c.f 172 rfl
  have a34 : PySem.W.nsIn K mainGlobals "_law_marks" = some (some (.ref (aF34 K))) := of_decide_eq_true (c.f 173 rfl)
  obtain ⟨oc34, od34, kV34, dc34, pm34, an34, cd34, ct34, sl34, l34, c34⟩ := hdef_ok (st := s34) (c.d 34 rfl) (c.f 174 rfl)
  have k34 : PySem.W.keepIn K (.ref (aF34 K)) = true := c.f 175 rfl
  have a35 : PySem.W.nsIn K mainGlobals "_law_kept" = some (some (.ref (aF35 K))) := of_decide_eq_true (c.f 176 rfl)
  obtain ⟨oc35, od35, kV35, dc35, pm35, an35, cd35, ct35, sl35, l35, c35⟩ := hdef_ok (st := s35) (c.d 35 rfl) (c.f 177 rfl)
  have k35 : PySem.W.keepIn K (.ref (aF35 K)) = true := c.f 178 rfl
  have a36 : PySem.W.nsIn K mainGlobals "_law_terms_or_none" = some (some (.ref (aF36 K))) := of_decide_eq_true (c.f 179 rfl)
  obtain ⟨oc36, od36, kV36, dc36, pm36, an36, cd36, ct36, sl36, l36, c36⟩ := hdef_ok (st := s36) (c.d 36 rfl) (c.f 180 rfl)
  have k36 : PySem.W.keepIn K (.ref (aF36 K)) = true := c.f 181 rfl
  have a37 : PySem.W.nsIn K mainGlobals "law" = some (some (.ref (aF37 K))) := of_decide_eq_true (c.f 182 rfl)
  obtain ⟨oc37, od37, kV37, dc37, pm37, an37, ct37, sl37, l37, c37, oP37, odP37, vP37, slP37, tb_37, te_37⟩ := hLam_ok (st := s37) (c.d 37 rfl) (c.f 183 rfl) (c.f 184 rfl)
  have k37 : PySem.W.keepIn K (.ref (aF37 K)) = true := c.f 185 rfl
  have tn_37 := c.t 0 rfl
  have to_37 := Option.isNone_iff_eq_none.mp (c.f 186 rfl)
  have th_37 : PySem.W.codeHdIn K (aK37 K) (aP37 K) = true := c.f 187 rfl
  have aL0 : PySem.W.nsIn K mainGlobals "_law_caught" = some (some (.ref (aFL0 K))) := of_decide_eq_true (c.f 188 rfl)
  obtain ⟨ocL0, odL0, kVL0, dcL0, pmL0, anL0, cdL0, ctL0, slL0, lL0, cL0⟩ := hdef_ok (st := sL0) (c.d 38 rfl) (c.f 189 rfl)
  have kL0 : PySem.W.keepIn K (.ref (aFL0 K)) = true := c.f 190 rfl
  have aL1 : PySem.W.nsIn K mainGlobals "_law_refusal" = some (some (.ref (aFL1 K))) := of_decide_eq_true (c.f 191 rfl)
  obtain ⟨ocL1, odL1, kVL1, dcL1, pmL1, anL1, cdL1, ctL1, slL1, lL1, cL1⟩ := hdef_ok (st := sL1) (c.d 39 rfl) (c.f 192 rfl)
  have kL1 : PySem.W.keepIn K (.ref (aFL1 K)) = true := c.f 193 rfl
  have aL2 : PySem.W.nsIn K mainGlobals "_law_is" = some (some (.ref (aFL2 K))) := of_decide_eq_true (c.f 194 rfl)
  obtain ⟨ocL2, odL2, kVL2, dcL2, pmL2, anL2, cdL2, ctL2, slL2, lL2, cL2⟩ := hdef_ok (st := sL2) (c.d 40 rfl) (c.f 195 rfl)
  have kL2 : PySem.W.keepIn K (.ref (aFL2 K)) = true := c.f 196 rfl
  obtain ⟨t_MOST_TERMS, g_MOST_TERMS⟩ := hInt_ok (c.f 197 rfl)
  obtain ⟨t_MOST_INNER, g_MOST_INNER⟩ := hInt_ok (c.f 198 rfl)
  obtain ⟨t_GREATEST_TIME, g_GREATEST_TIME⟩ := hInt_ok (c.f 199 rfl)
  obtain ⟨t_MOST_COUNT, g_MOST_COUNT⟩ := hInt_ok (c.f 200 rfl)
  obtain ⟨t_MOST_PARTS, g_MOST_PARTS⟩ := hInt_ok (c.f 201 rfl)
  have z_isinstance : PySem.W.nsIn K mainGlobals "isinstance" = some none := of_decide_eq_true (c.f 202 rfl)
  have z_int : PySem.W.nsIn K mainGlobals "int" = some none := of_decide_eq_true (c.f 203 rfl)
  have z_bool : PySem.W.nsIn K mainGlobals "bool" = some none := of_decide_eq_true (c.f 204 rfl)
  have z_sorted : PySem.W.nsIn K mainGlobals "sorted" = some none := of_decide_eq_true (c.f 205 rfl)
  have z_set : PySem.W.nsIn K mainGlobals "set" = some none := of_decide_eq_true (c.f 206 rfl)
  have z_tuple : PySem.W.nsIn K mainGlobals "tuple" = some none := of_decide_eq_true (c.f 207 rfl)
  have z_len : PySem.W.nsIn K mainGlobals "len" = some none := of_decide_eq_true (c.f 208 rfl)
  have z_enumerate : PySem.W.nsIn K mainGlobals "enumerate" = some none := of_decide_eq_true (c.f 209 rfl)
  have z_abs : PySem.W.nsIn K mainGlobals "abs" = some none := of_decide_eq_true (c.f 210 rfl)
  have z_ValueError : PySem.W.nsIn K mainGlobals "ValueError" = some none := of_decide_eq_true (c.f 211 rfl)
  have z_repr : PySem.W.nsIn K mainGlobals "repr" = some none := of_decide_eq_true (c.f 212 rfl)
  have z_min : PySem.W.nsIn K mainGlobals "min" = some none := of_decide_eq_true (c.f 213 rfl)
  have z_range : PySem.W.nsIn K mainGlobals "range" = some none := of_decide_eq_true (c.f 214 rfl)
  exact all_mk c.inH G hfa C_Line pg_Line hd_Line po_Line sa_Line n_Line_all_paths n_Line_nested mk_Line kc_Line sf_Line ga_Line C_TooMany xl_TooMany xs_TooMany xe_TooMany xt_TooMany xp_TooMany xa_TooMany xy_TooMany xL_TooMany xc_TooMany xk0_TooMany xn_TooMany i1_TooMany i2_TooMany i3_TooMany i4_TooMany i5_TooMany i6_TooMany i7_TooMany i8_TooMany i9_TooMany C_LineError C_BadMoments C_BadCount C_BadTime C_BadPath C_BadNumber C_TooLate C_BadSight C_BadRule C_BadMoment C_Differs C_Branched C_BadText C_BadLog C_NothingLeft xm_TooMany_LineError xv_TooMany_ValueError xk_TooMany_BadCount xk_TooMany_BadLog xk_TooMany_BadMoment xk_TooMany_BadMoments xk_TooMany_BadNumber xk_TooMany_BadPath xk_TooMany_BadRule xk_TooMany_BadSight xk_TooMany_BadText xk_TooMany_BadTime xk_TooMany_Branched xk_TooMany_Differs xk_TooMany_NothingLeft xk_TooMany_TooLate xk_TooMany_TooMany a0 l0 c0 k0 a1 l1 c1 k1 a2 l2 c2 k2 a3 l3 c3 k3 a4 l4 c4 k4 a5 l5 c5 k5 a6 l6 c6 k6 a7 l7 c7 k7 a8 l8 c8 k8 a9 l9 c9 k9 a10 l10 c10 k10 a11 l11 c11 k11 a12 l12 c12 k12 a13 l13 c13 k13 a14 i14 l14 c14 k14 a15 r15 v15 l15 c15 k15 a16 r16 v16 l16 c16 k16 a17 r17 v17 l17 c17 k17 a18 i18 l18 c18 k18 a19 i19 l19 c19 k19 a20 i20 l20 c20 k20 a21 i21 l21 c21 k21 a22 l22 c22 k22 a23 l23 c23 k23 a24 l24 c24 k24 a25 l25 c25 k25 a26 l26 c26 k26 a27 l27 c27 k27 a28 l28 c28 k28 a29 l29 c29 k29 a30 l30 c30 k30 a31 l31 c31 k31 a32 l32 c32 k32 a33 l33 c33 k33 a34 l34 c34 k34 a35 l35 c35 k35 a36 l36 c36 k36 a37 l37 c37 k37 tb_37 te_37 tn_37 to_37 th_37 aL0 lL0 cL0 kL0 aL1 lL1 cL1 kL1 aL2 lL2 cL2 kL2 g_MOST_TERMS g_MOST_INNER g_GREATEST_TIME g_MOST_COUNT g_MOST_PARTS z_isinstance z_int z_bool z_sorted z_set z_tuple z_len z_enumerate z_abs z_ValueError z_repr z_min z_range
end Q
open PySem PySem.W PyProof.Rows
theorem PySem.Challenge.cw_onceburst_k10_terms_listed_holds : PySem.Challenge.rw_onceburst_k10_terms_listed.Holds := by
  w_on; o_law
  refine HandSHeadRun.head_any (r := OpenLaw.row PySem.Challenge.rw_onceburst_k10_terms_listed) (q := view (OpenLaw.row PySem.Challenge.rw_onceburst_k10_terms_listed).prog [74]) (H := Q.hk) (ob := Q.ob) (M := 20000) (loose := Q.loose) (d := HandSHeadRun.topDef (OpenLaw.row PySem.Challenge.rw_onceburst_k10_terms_listed).prog 74) (kwd := []) Q.ob_eq
    (by kernel_rfl) (fun s => by kernel_rfl) Q.run (by kernel_rfl) (by kernel_rfl) (by kernel_rfl) (by rfl) (by first | assumption | decide +kernel) (by decide +kernel) ⟨rfl, rfl, rfl, rfl, rfl, by decide +kernel⟩ ?hw ?hc
  case hw => w_witness2
  case hc =>
  refine DY.law_walksKT (l := PySem.Challenge.rw_onceburst_k10_terms_listed) (m := 63) (k := 122) (x := "_law_script") (G := Q.sem 60 37) rfl (by decide) (by kernel_rfl) ⟨rfl, by decide, by decide⟩ ?F Q.law_ok
  case F =>
  intro w mg fa h Y G hmg0
  obtain ⟨K, c⟩ := Y
  have hmg : mg ("law" : PySem.Str) = some (.ref fa) := by
    have e : (HandSHeadRun.topDef (OpenLaw.row PySem.Challenge.rw_onceburst_k10_terms_listed).prog 74).name = ("law" : PySem.Str) := by kernel_rfl
    rw [← e]
    exact hmg0
  exact ⟨K, c.inH, Q.all_of c G hmg⟩
