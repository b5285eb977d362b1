import PyProof.Rows.All
import Wide.All
import OpenK.AllK
import Wide.FinOn
import KE.KStateDown
import HandS.Base
import HandS.Call
import HandS.Exc
import HandS.Defaults
import HandS.Head0
import HandS.Head1
import HandS.Head2
import HandS.HeadHook1
import HandS.HeadHook2
import HandS.HeadHook3
import HandS.HeadHook4
import KE.KExcSuper
import HandS.ForMost
import HandS.More
import HandS.Star
import HandS.ExcInit
import HandS.ExcSuper
import HandS.IsInst
import HandS.ExcField
import HandS.ExcIs
import KE.KTypeName
import HandS.Conv
import HandS.Wide
import HandS.Strs
import HandS.Flow
import HandS.NamedTupGet
import HandS.TupAny
import HandS.RaiseMore
import HandS.Codes
import HandS.NoneIn
import HandS.TryOnly
import HandS.Lambda
import HandS.EndTab
import HandS.HeadWalk
import HandS.ExcOwn
import PyProof.Conv_bool
import PyProof.Rows.Range3
import HandS.OwnEq
import HandS.Text
import PyProof.SumAny
import PyProof.ListOps
import PyProof.FactsAll.subtypes_4
import PyProof.EqAt
import PyProof.NeKinds
import PyProof.StrOps2
import HandS.SetFor
import HandS.Walk
import PySem.Challenge.RW_alwaysso_k95_texts_of_papers_that_cannot
set_option Elab.async false
set_option linter.all false
set_option maxRecDepth 100000
set_option maxHeartbeats 2000000
/-! The head's facts with defs that close over their class (super()). -/
namespace HeS
open PySem PySem.Spec PyProof.Rows L2 He
abbrev FnS : Type := Option (Str × Str × Arguments × FuncBody × Scope × Addr × List Str × Addr)
def fnS (K : PySem.W.Frag) (p : Str × Option Str) : FnS := match K.lookup (fAd K p) with
  | some ⟨_, _, .func fd, _⟩ => some (fd.name, fd.qualname, fd.params, fd.body, fd.scope, fd.globals, fd.closure.map (·.1), fd.builtins)
  | _ => none
/-- a def that closes over its class alone: where it stands, its names, parameters, body, scope, the class's name -/
structure SupD where
  at_ : Str × Option Str
  name : Str
  qual : Str
  params : Arguments
  body : List Stmt
  scope : Scope
  cls : Str
def SupD.val (d : SupD) : FnS := some (d.name, d.qual, d.params, .stmts d.body, d.scope, mainGlobals, ["__class__"], builtinsNs)
def cellB (K : PySem.W.Frag) (cl : List (Str × Addr)) (D : Addr) : Bool := match cl with
  | [(_, cc)] => (match K.lookup cc with
    | some ⟨_, _, .cell (some (.ref D')), _⟩ => decide (D' = D)
    | _ => false)
  | _ => false
def fileB (K : PySem.W.Frag) (cd : Value) (file : Str) : Bool := match cd with
  | .ref c => (match K.lookup c with
    | some ⟨_, _, .fields vs, _⟩ => (match (vs.toList[2]? : Option Value) with
      | some (.str f _) => file == f
      | _ => false)
    | _ => false)
  | _ => false
def SupD.ok (file : Str) (K : PySem.W.Frag) (d : SupD) : Bool := PySem.W.keepIn K (.ref (fAd K d.at_)) && (match K.lookup (fAd K d.at_) with
  | some ⟨_, _, .func fd, _⟩ => PySem.W.codeIn K fd.code d.qual && (dflB K fd.defaults [] && (cellB K fd.closure (ga K d.cls) && (fileB K fd.code file && (PySem.W.clsIn K (ga K d.cls)).isSome)))
  | _ => false)
/-- such a def as it stands behind the top -/
structure FunS (K : PySem.W.Frag) (x qual : Str) (params : Arguments) (body : List Stmt) (scope : Scope) (file : Str) (D : Addr) (f : Addr) (fd : FuncData) : Prop where
  ex : ∃ (oc : Value) (od : Option Addr) (kV doc pm : Value) (an : Option Addr) (cda : Addr) (ct : Value) (osl : Array (Option Value)) (cc : Addr),
    fd = PySem.W.fnX x qual params body scope [("__class__", cc)] .none kV doc pm an (.ref cda) ct ∧ K.lookup f = some ⟨oc, od, .func fd, osl⟩ ∧ PySem.W.codeIn K (.ref cda) qual = true ∧
    (∃ c d s, K.lookup cc = some ⟨c, d, .cell (some (.ref D)), s⟩) ∧ ∃ c d vs s tf, K.lookup cda = some ⟨c, d, .fields vs, s⟩ ∧ vs[2]? = some (.str file tf)
  kp : PySem.W.keepIn K (.ref f) = true
  cls : (PySem.W.clsIn K D).isSome = true
theorem SupD.funS {file : Str} {K : PySem.W.Frag} {d : SupD} (e : fnS K d.at_ = d.val) (c : d.ok file K = true) : ∃ fd, FunS K d.name d.qual d.params d.body d.scope file (ga K d.cls) (fAd K d.at_) fd := by
  obtain ⟨kp, c2⟩ := ba c
  unfold fnS at e
  cases q : K.lookup (fAd K d.at_) with
  | none =>
    rw [q] at c2
    cases c2
  | some o =>
    obtain ⟨oc, od, dt, osl⟩ := o
    rw [q] at c2 e
    cases dt with
    | func fd =>
      obtain ⟨n1, n2, n3, n4, n5, n6, n7, n8, n9, n10, n11, n12, n13, n14, n15⟩ := fd
      have e2 : (some (n1, n2, n3, n4, n5, n6, n7.map (fun z : Str × Addr => z.1), n15) : FnS) = some (d.name, d.qual, d.params, FuncBody.stmts d.body, d.scope, mainGlobals, ([("__class__" : Str)] : List Str), builtinsNs) := e
      simp only [Option.some.injEq, Prod.mk.injEq] at e2
      obtain ⟨h1, h2, h3, h4, h5, h6, h7, h8⟩ := e2
      subst h1 h2 h3 h4 h5 h6 h8
      have c3 : (PySem.W.codeIn K n13 d.qual && (dflB K n8 [] && (cellB K n7 (ga K d.cls) && (fileB K n13 file && (PySem.W.clsIn K (ga K d.cls)).isSome)))) = true := c2
      obtain ⟨k1, k2⟩ := ba c3
      obtain ⟨k3, k4⟩ := ba k2
      obtain ⟨k5, k6⟩ := ba k4
      obtain ⟨k7, k8⟩ := ba k6
      have hdv : n8 = .none := by
        cases n8 with
        | none => rfl
        | _ => cases k3
      subst hdv
      cases n7 with
      | nil => cases k5
      | cons z r =>
        obtain ⟨z1, cc⟩ := z
        cases r with
        | cons _ _ => cases k5
        | nil =>
          have ez : z1 = "__class__" := by
            have := List.cons.inj h7
            exact this.1
          subst ez
          have k5' : (match K.lookup cc with
            | some ⟨_, _, .cell (some (.ref D')), _⟩ => decide (D' = ga K d.cls)
            | _ => false) = true := k5
          cases n13 with
          | ref cda =>
            have k7' : (match K.lookup cda with
              | some ⟨_, _, .fields vs, _⟩ => (match (vs.toList[2]? : Option Value) with
                | some (.str f _) => file == f
                | _ => false)
              | _ => false) = true := k7
            refine ⟨_, ⟨oc, od, n9, n10, n11, n12, cda, n14, osl, cc, rfl, q, k1, ?_, ?_⟩, kp, k8⟩
            · split at k5'
              · rename_i c' d' D' s' hl
                have := of_decide_eq_true k5'
                subst this
                exact ⟨_, _, _, hl⟩
              · cases k5'
            · split at k7'
              · rename_i c' d' vs s' hl
                split at k7'
                · rename_i f tf hv
                  have ef : file = f := beq_iff_eq.mp k7'
                  subst ef
                  exact ⟨_, _, vs, _, tf, hl, by rw [← Array.getElem?_toList]; exact hv⟩
                · cases k7'
              · cases k7'
          | _ => cases k7
    | _ => cases c2
/-! ### the Hook -/
/-- what is looked at: what the module's names reach, and the statics -/
def asS (g : Addr → Option Obj) (n : Nat) : List Addr := cStatics :: asD g n
abbrev AlS : Type := (AlT × Bool) × List FnS
def supB (file : Str) (fs : List SupD) (K : PySem.W.Frag) : Bool := fs.all fun d => d.ok file K
def obsK (n : Nat) (fa : List Fa) (fn : List DefD) (ts : List Tab) (tf : List Defn) (ex : PySem.W.Frag → Bool) (file : Str) (fs : List SupD) (g : Addr → Option Obj) (K : PySem.W.Frag) : AlS :=
  ((obsT fa fn ts K, (ex K && supB file fs K) && tabsB g tf K), fs.map fun d => fnS K d.at_)
def obsS (n : Nat) (fa : List Fa) (fn : List DefD) (ts : List Tab) (tf : List Defn) (ex : PySem.W.Frag → Bool) (file : Str) (fs : List SupD) (g : Addr → Option Obj) : AlS :=
  obsK n fa fn ts tf ex file fs g (frT g (asS g n))
def valS (fn : List DefD) (ts : List Tab) (fs : List SupD) (w : World) : AlS := ((valT fn ts w, true), fs.map SupD.val)
structure SaysS (fa : List Fa) (fn : List DefD) (ts : List Tab) (tf : List Defn) (ex : PySem.W.Frag → Bool) (file : Str) (fs : List SupD) (w : World) (h : Heap) (K : PySem.W.Frag) : Prop where
  t : SaysT fa fn ts w K
  ex : ex K = true
  sb : supB file fs K = true
  hd : ∀ p ∈ tf, PySem.W.codeHdIn K (cT K p).1 (cT K p).2 = true
  out : ∀ p ∈ tf, K.lookup (cT K p).2 = none
  empty : ∀ p ∈ tf, h.get? (cT K p).2 = some { cls := .none, data := .fields #[] }
  s : fs.map (fun d => fnS K d.at_) = fs.map SupD.val
theorem saysS_of {n : Nat} {fa : List Fa} {fn : List DefD} {ts : List Tab} {tf : List Defn} {ex : PySem.W.Frag → Bool} {file : Str} {fs : List SupD} {w : World} {h : Heap} (e : obsS n fa fn ts tf ex file fs h.get? = valS fn ts fs w) :
    SaysS fa fn ts tf ex file fs w h (frT h.get? (asS h.get? n)) := by
  have e1 : obsT fa fn ts (frT h.get? (asS h.get? n)) = valT fn ts w := congrArg (fun z : AlS => z.1.1) e
  have e2 : ((ex (frT h.get? (asS h.get? n)) && supB file fs (frT h.get? (asS h.get? n))) && tabsB h.get? tf (frT h.get? (asS h.get? n))) = true := congrArg (fun z : AlS => z.1.2) e
  have e3 : fs.map (fun d => fnS (frT h.get? (asS h.get? n)) d.at_) = fs.map SupD.val := congrArg (fun z : AlS => z.2) e
  obtain ⟨h12, h3⟩ := ba e2
  obtain ⟨h1, h2⟩ := ba h12
  have key : ∀ p ∈ tf, PySem.W.codeHdIn (frT h.get? (asS h.get? n)) (cT (frT h.get? (asS h.get? n)) p).1 (cT (frT h.get? (asS h.get? n)) p).2 = true ∧ ∃ o, h.get? (cT (frT h.get? (asS h.get? n)) p).2 = some o ∧ emptyTab o = true := fun p hp => by
    obtain ⟨h3, h4⟩ := ba (List.all_eq_true.mp h3 p hp)
    refine ⟨h3, ?_⟩
    cases q : h.get? (cT (frT h.get? (asS h.get? n)) p).2 with
    | none =>
      rw [q] at h4
      cases h4
    | some o =>
      rw [q] at h4
      exact ⟨o, rfl, h4⟩
  exact ⟨e1, h1, h2, fun p hp => (key p hp).1, fun p hp => by
    obtain ⟨_, o, q, z⟩ := key p hp
    exact frT_none q z, fun p hp => by
    obtain ⟨_, o, q, z⟩ := key p hp
    rw [q, emptyTab_eq z], e3⟩
def hookS (n : Nat) (fa : List Fa) (fn : List DefD) (ts : List Tab) (tf : List Defn) (ex : PySem.W.Frag → Bool) (file : Str) (fs : List SupD) : PySem.W.Hook where
  α := AlS
  obs := fun s => obsS n fa fn ts tf ex file fs s.heap.get?
  val := fun w => valS fn ts fs w
  says := fun w h => ∃ K : PySem.W.Frag, K.In h ∧ SaysS fa fn ts tf ex file fs w h K
  of := fun _ _ e => ⟨_, frT_in, saysS_of e⟩
  keeps := fun _ _ _ ⟨K, hK, c⟩ k => ⟨K, PySem.W.Frag.In.keeps hK k, ⟨c.t, c.ex, c.sb, c.hd, c.out, fun p hp => k _ _ (c.empty p hp), c.s⟩⟩
theorem obsS_eq {n : Nat} {fa : List Fa} {fn : List DefD} {ts : List Tab} {tf : List Defn} {ex : PySem.W.Frag → Bool} {file : Str} {fs : List SupD} {g : Addr → Option Obj} {s : Shared} (h : ∀ a, g a = s.heap.get? a) :
    obsS n fa fn ts tf ex file fs g = (hookS n fa fn ts tf ex file fs).obs s := by
  have e : g = s.heap.get? := funext h
  rw [e] <;> rfl
section
variable {fa : List Fa} {fn : List DefD} {ts : List Tab} {tf : List Defn} {ex : PySem.W.Frag → Bool} {file : Str} {fs : List SupD} {w : World} {h : Heap} {K : PySem.W.Frag}
theorem SaysS.sup (c : SaysS fa fn ts tf ex file fs w h K) {d : SupD} (hd : d ∈ fs) : ∃ fd, FunS K d.name d.qual d.params d.body d.scope file (ga K d.cls) (fAd K d.at_) fd := by
  have c2 := c.sb
  obtain ⟨i, hi, e⟩ := List.mem_iff_getElem.mp hd
  have e2 : (fs.map fun d => fnS K d.at_)[i]? = (fs.map SupD.val)[i]? := by rw [c.s]
  rw [List.getElem?_map, List.getElem?_map, List.getElem?_eq_getElem hi, e] at e2
  exact SupD.funS (Option.some.inj e2) (List.all_eq_true.mp c2 d hd)
theorem SaysS.fact (c : SaysS fa fn ts tf ex file fs w h K) {f : Fa} (hf : f ∈ fa) : f.ok K = true := SaysD.facts c.t.d hf
theorem SaysS.def_ (c : SaysS fa fn ts tf ex file fs w h K) {d : DefD} (hd : d ∈ fn) : ∃ fd, FunD K d.name d.qual d.params d.body d.scope (d.dvs K) (d.kws K) (fAd K d.at_) fd := SaysD.defs c.t.d hd
end
end HeS
set_option maxRecDepth 100000
set_option maxHeartbeats 2000000
/-! A def whose first statement is super().__init__(..): the own class's __init__ above, or ValueError's. -/
namespace L2.SupX
open PySem PySem.Spec PyProof.Rows
/-- names: the parameters first; the one captured name is __class__ -/
structure SupScope (N P : List Str) (sc : Scope) : Prop where
  kind : sc.kind = .function
  co : sc.isCoroutine = false
  gen : sc.isGenerator = false
  nd : N.Nodup
  pre : N.take P.length = P
  par : ∀ x ∈ P, sc.names.lookup x = some .local
  nocell : ∀ y ∈ sc.names, y.2 ≠ .cell
  fr : ∀ y ∈ sc.names, y.2 = .free → y.1 = "__class__"
  hks : sc.names.lookup ("super" : Str) = some .globalImplicit
  hkc : sc.names.lookup ("__class__" : Str) = some .free
abbrev envS (qual : Str) (scope : Scope) (L f : Addr) (cd : Value) (cc : Addr) : Env := PySem.W.ksEnv qual scope L f cd cc
/-- the context of such a def's body -/
def cxS (CX : CXT) (P : Program) (w : World) (K : PySem.W.Frag) (mg : Str → Option Value) (base : Heap) (N : List Str) (qual : Str) (scope : Scope) (f : Addr) (cd : Value) (cc : Addr) (A : Around) (outer : List Env) (s : Shared) (H : Hp) (E : XK) : Cx where
  prog := P
  w := w
  K := K
  mg := mg
  base := base
  A := A.deeper (envS qual scope s.heap.objs.size f cd cc)
  N := N
  s_0 := s
  H_0 := H
  env := envS qual scope s.heap.objs.size f cd cc
  outer := outer
  stack := envS qual scope s.heap.objs.size f cd cc :: outer
  ex := []
  calm := true
  fn := fun _ => false
  pn := []
  xe := fun e s' => wpAny (model P w) (A.deeper (envS qual scope s.heap.objs.size f cd cc)) (leaving (envS qual scope s.heap.objs.size f cd cc) e) (fun _ s'' => CX outer H s E e s'') (fun e' s'' => CX outer H s E e' s'') s'
theorem lookup_of_mem {α : Type} {x : Str} {u : α} : ∀ {l : List (Str × α)}, (l.map (·.1)).Nodup → (x, u) ∈ l → l.lookup x = some u
  | [], _, h => by cases h
  | (y, v) :: r, nd, h => by
    have nd' := List.nodup_cons.mp nd
    rcases List.mem_cons.mp h with e | h2
    · cases e
      simp [List.lookup]
    · have ne : x ≠ y := fun e => nd'.1 (List.mem_map.mpr ⟨(x, u), h2, e⟩)
      have hb : (x == y) = false := beq_eq_false_iff_ne.mpr ne
      simp only [List.lookup, hb]
      exact lookup_of_mem nd'.2 h2
theorem zip_keys {α : Type} : ∀ {P : List Str} {us : List α}, P.length = us.length → (P.zip us).map (·.1) = P
  | [], _, _ => rfl
  | p :: P, [], h => by cases h
  | p :: P, u :: us, h => by
    show p :: (P.zip us).map (·.1) = p :: P
    rw [zip_keys (by simpa using h)]
theorem rev_lookup {P : List Str} {us : List Value} {i : Nat} {x : Str} {u : Value} (nd : P.Nodup) (hl : P.length = us.length) (h1 : P[i]? = some x) (h2 : us[i]? = some u) : (P.zip us).reverse.lookup x = some u := by
  refine lookup_of_mem ?_ ?_
  · rw [List.map_reverse, zip_keys hl]
    exact List.pairwise_reverse.mpr (nd.imp fun {a b} h => h.symm)
  · refine List.mem_reverse.mpr (List.mem_of_getElem? (i := i) ?_)
    rw [List.getElem?_zip_eq_some]
    exact ⟨h1, h2⟩
theorem inv_startS {CX : CXT} {P : Program} {w : World} {K : PySem.W.Frag} {mg : Str → Option Value} {base : Heap} {N ps : List Str} {qual : Str} {scope : Scope} {f : Addr} {cd : Value} {cc : Addr} {A : Around} {outer : List Env} {s : Shared} {H : Hp} {E : XK} {us : List Value} {vs : List V} {h₁ : Heap} {tk : Nat} {D : Addr}
    (S : SupScope N ps scope) (hd : A.handled = none) (e0 : Env0 P w K mg base A outer s H) (hl : vs.length = ps.length) (r : Vals vs us) (hcc : ∃ c d sl, K.lookup cc = some ⟨c, d, .cell (some (.ref D)), sl⟩)
    (hns : h₁.Ns s.heap.objs.size fun y => (ps.zip us).reverse.lookup y) (hk : ∀ b o, s.heap.get? b = some o → h₁.get? b = some o) :
    Inv (cxS CX P w K mg base N qual scope f cd cc A outer s H E) [] (start N vs) H { s with heap := h₁, toks := tk } := by
  have hpl : ps.length ≤ N.length := by have := congrArg List.length S.pre; rw [List.length_take] at this; omega
  have noA : ∀ b : Addr, b ∉ (cxS CX P w K mg base N qual scope f cd cc A outer s H E).ex := fun b z => absurd (show b ∈ ([] : List Addr) from z) (by simp)
  obtain ⟨oc, od, osl, hc⟩ := hcc
  have hcb := e0.mod.kin _ _ hc
  have hcs := e0.bs _ _ hcb
  have cl : ∀ {x : Str} {c : Addr}, (envS qual scope s.heap.objs.size f cd cc).cells.lookup x = some c → x = "__class__" ∧ c = cc := fun {x c} h => by
    have h' : List.lookup x [(("__class__" : Str), cc)] = some c := h
    by_cases e : x = "__class__"
    · subst e
      simp [List.lookup] at h'
      exact ⟨rfl, h'.symm⟩
    · have hb : (x == ("__class__" : Str)) = false := beq_eq_false_iff_ne.mpr e
      simp [List.lookup, hb] at h'
  refine ⟨⟨e0.mod, S.kind, rfl, rfl, Nat.le_refl _, fun y z c h1 h2 => (cl h1).1.trans (cl h2).1.symm, fun y hy => ?_, fun y c h _ => (Bool.noConfusion (show false = true from h)), fun _ => hd, Around.frames_deeper e0.frames, .inr ⟨rfl, rfl⟩, fun b z => absurd z (noA b), e0.bs, e0.bsz, fun b _ _ => noA b, fun b z => absurd z (noA b), e0.funs, e0.frf⟩,
    rfl, e0.bare, Un.kept hk, ⟨_, hns, fun i y v h1 h2 h3 => ?_⟩, fun y c h => ?_, e0.hok.fresh (Nat.le_refl _), fun y c h => ?_, fun p hp => absurd (show p ∈ ([] : List (Addr × Obj)) from hp) (by simp), e0.hok.kept hk, ?_⟩
  · have hy : scope.names.lookup y = some .cell ∨ scope.names.lookup y = some .free := hy
    rcases hy with hy | hy
    · exact absurd rfl (S.nocell _ (PySem.mem_of_lookup hy))
    · have e := S.fr _ (PySem.mem_of_lookup hy) rfl
      have e : y = "__class__" := e
      subst e
      exact ⟨cc, by show List.lookup _ [(("__class__" : Str), cc)] = some cc; simp [List.lookup]⟩
  · have hi : i < vs.length := by
      unfold start at h2
      by_cases hi : i < vs.length
      · exact hi
      · rw [List.getElem?_append_right (by simpa using hi)] at h2
        rw [List.getElem?_replicate] at h2
        split at h2 <;> cases h2
    have ha : vs[i]? = some v := by
      unfold start at h2
      rw [List.getElem?_append_left (by simpa using hi), List.getElem?_map] at h2
      cases e : vs[i]? with
      | none => rw [e] at h2; cases h2
      | some a => rw [e] at h2; cases h2; rfl
    obtain ⟨u, hu, rv⟩ := r.get ha
    have hp : ps[i]? = some y := by
      rw [← S.pre, List.getElem?_take_of_lt (by omega)]; exact h1
    have ndP : ps.Nodup := by rw [← S.pre]; exact S.nd.sublist (List.take_sublist _ _)
    exact ⟨u, rv, .inl ⟨S.par y (List.mem_of_getElem? hp), rev_lookup ndP (by rw [← hl]; exact r.length) hp hu⟩⟩
  · obtain ⟨_, rfl⟩ := cl h
    exact ⟨_, _, hk _ _ hcs.1, rfl⟩
  · obtain ⟨_, rfl⟩ := cl h
    exact hcs.2
  · unfold start
    show _ = N.length
    rw [List.length_append, List.length_map, List.length_replicate]
    omega
/-- a statement told of the activation itself -/
structure PF (X : Cx) (c : Code) (st : Stmt) (t : TS) : Prop where
  run : ∀ (pins : List (Addr × Obj)) (s : Shared) (σ : St) (H : Hp) (D : Ends), Inv X pins σ H s → t D σ H → PySem.wpAt (model X.prog X.w) X.A c (exec st X.env) (SP X pins D) X.xe s
/-- THE RULE for such a def -/
theorem fn_sup {CX : CXT} {P : Program} {w : World} {K : PySem.W.Frag} {mg : Str → Option Value} {base : Heap} {k : Nat} {f : Addr} {name qual file : Str} {params : Arguments} {st : Stmt} {rest : List Stmt} {scope : Scope} {D : Addr} {fd : FuncData} {N ps : List Str} {sp : Sp}
    (F : HeS.FunS K name qual params (st :: rest) scope file D f fd) (S : SupScope N ps scope) (len : ∀ vs H Q E, sp vs H Q E → vs.length = ps.length)
    (hb : ∀ (cc : Addr) (kV doc pm : Value) (an : Option Addr) (cda : Addr) (ct : Value) (us : List Value), us.length = ps.length → bindArgs (PySem.W.fnX name qual params (st :: rest) scope [("__class__", cc)] .none kV doc pm an (.ref cda) ct) ⟨us, []⟩ = pure (ps.zip us))
    (hbody : ∀ (cc cda : Addr) (A : Around) (outer : List Env) (s : Shared) (H : Hp) (vs : List V) (Q : VK) (E : XK), (∃ (oc : Value) (od : Option Addr) (kV doc pm : Value) (an : Option Addr) (ct : Value) (osl : Array (Option Value)), K.lookup f = some ⟨oc, od, .func (PySem.W.fnX name qual params (st :: rest) scope [("__class__", cc)] .none kV doc pm an (.ref cda) ct), osl⟩) →
      (∃ c d s, K.lookup cc = some ⟨c, d, .cell (some (.ref D)), s⟩) → (∃ c d vs s tf, K.lookup cda = some ⟨c, d, .fields vs, s⟩ ∧ vs[2]? = some (.str file tf)) →
      Room k (A.deeper (envS qual scope s.heap.objs.size f (.ref cda) cc)) → sp vs H Q E →
      ∃ t1 t2, PF (cxS CX P w K mg base N qual scope f (.ref cda) cc A outer s H E) (.func (st :: rest) (envS qual scope s.heap.objs.size f (.ref cda) cc)) st t1 ∧ PSs (cxS CX P w K mg base N qual scope f (.ref cda) cc A outer s H E) rest t2 ∧
        tSeq t1 t2 { nx := fun _ H' => Q .non H', rt := Q } (start N vs) H) :
    FnR P w K mg base CX (k + 1) f sp := by
  intro A outer s H us vs Q E hr e0 r hsp
  obtain ⟨oc, od, kV, doc, pm, an, cda, ct, osl, cc, rfl, lk, hcd, hcc, hfl⟩ := F.ex
  have hl := len _ _ _ _ hsp
  have hul : us.length = ps.length := by rw [← r.length]; exact hl
  have KX : K.In s.heap := e0.mod.kin.keeps fun b o e => (e0.bs b o e).1
  have lim : s.heap.NoLimit := e0.mod.nolimit.keeps fun b o e => (e0.bs b o e).1
  refine ks_codeAny_call_defAt (fd := PySem.W.fnX name qual params (st :: rest) scope [("__class__", cc)] .none kV doc pm an (.ref cda) ct) (body := st :: rest) (binds := ps.zip us) hr.depth (KX _ _ lk) rfl lim (PySem.W.codeRec_of KX hcd) rfl (BindsTo.of_eq (hb cc kV doc pm an cda ct us hul)) S.nocell (fun y hy => S.par y.1 (List.of_mem_zip hy).1) (fun h₁ hns hk => ?_) S.co S.gen S.kind
  obtain ⟨t1, t2, h1, h2, hq⟩ := hbody cc cda A outer s H vs Q E ⟨oc, od, kV, doc, pm, an, ct, osl, lk⟩ hcc hfl (hr.deeper _) hsp
  have I : Inv (cxS CX P w K mg base N qual scope f (.ref cda) cc A outer s H E) [] (start N vs) H { s with heap := h₁, toks := s.toks + (ps.zip us).length } := inv_startS S hr.hd e0 hl r hcc hns hk
  refine ks_wpAt_mono (ks_wpAt_execs_cons (ks_wpAt_mono (h1.run [] _ (start N vs) H _ I hq) (fun fl s' hs => ?_) fun _ _ z => z)) (fun fl s' (hs : SP (cxS CX P w K mg base N qual scope f (.ref cda) cc A outer s H E) [] { nx := fun _ H' => Q .non H', rt := Q } fl s') => ?_) fun e s' hs => hs
  · cases fl with
    | next =>
      obtain ⟨σ', H', I', q⟩ := hs
      exact wpAt_of_wpAny (h2.run [] s' σ' H' _ I' q)
    | ret v => exact hs
    | brk => exact hs
    | cont => exact hs
  · have fin : ∀ {σ' : St} {H' : Hp} {v : V} {u : Value}, Inv (cxS CX P w K mg base N qual scope f (.ref cda) cc A outer s H E) [] σ' H' s' → RelV v u → Q v H' → CE outer P w H s Q u s' :=
      fun {σ' H' v u} J rv q => ⟨v, H', J.os, J.bare, J.base, J.hok, rv, q⟩
    cases fl with
    | ret u =>
      obtain ⟨v, σ', H', J, rv, q⟩ := hs
      exact fin J rv q
    | next =>
      obtain ⟨σ', H', J, q⟩ := hs
      exact fin (v := V.non) (u := Value.none) J rfl q
    | brk =>
      obtain ⟨_, _, _, q⟩ := hs
      exact False.elim q
    | cont =>
      obtain ⟨_, _, _, q⟩ := hs
      exact False.elim q
/-! ### super() -/
/-- what the making of the super object asks of the text -/
structure SupT (K : PySem.W.Frag) (mg : Str → Option Value) (prog : Program) (f cc cda D : Addr) (file : Str) : Prop where
  fd : ∃ (oc : Value) (od : Option Addr) (fd : FuncData) (osl : Array (Option Value)) (ar : Arg), K.lookup f = some ⟨oc, od, .func fd, osl⟩ ∧ (fd.params.posonlyargs ++ fd.params.args).head? = some ar ∧ ar.arg = "self"
  cell : ∃ c d s, K.lookup cc = some ⟨c, d, .cell (some (.ref D)), s⟩
  code : ∃ c d vs s tf, K.lookup cda = some ⟨c, d, .fields vs, s⟩ ∧ vs[2]? = some (.str file tf)
  cls : (PySem.W.clsIn K D).isSome = true
  sup : mg "super" = none
  file : ((prog.main.file : Str) == file) = true
  top : (prog.main.scope.names.lookup ("super" : Str)).isSome = false
  opq : PySem.W.nsIn K cStatics "thirdparty.any" = some none
theorem boot_super : bootBuiltins "super" = some (.type "super") := by first | rfl | kernel_rfl
theorem clsIn_some {K : PySem.W.Frag} {h : Heap} {D : Addr} (X : K.In h) (e : (PySem.W.clsIn K D).isSome = true) : ∃ oD cd, h.get? D = some oD ∧ oD.data = .cls cd ∧ PySem.W.clsIn K D = some cd := by
  cases q : PySem.W.clsIn K D with
  | none => rw [q] at e; cases e
  | some cd =>
    have q' := q
    unfold PySem.W.clsIn at q
    split at q
    · rename_i c d cd' sl ho
      cases q
      exact ⟨_, _, X _ _ ho, rfl, rfl⟩
    · cases q
section
variable {X : Cx} {pins : List (Addr × Obj)} {σ : St} {H : Hp} {s : Shared} {f cc cda D : Addr} {file qual : Str} {scope : Scope} {L : Addr} {body : List Stmt} {N ps : List Str}
theorem super_ok {x C : Addr} {ox : Obj} {p0 p1 : Pos} {attr : Str} {whole : Sem Value} {Q : Value → Shared → Prop} {E : Value → Shared → Prop} {i : Nat} (I : Inv X pins σ H s) (T : SupT X.K X.mg X.prog f cc cda D file) (S : SupScope N ps scope) (he : X.env = envS qual scope L f (.ref cda) cc)
    (hN : X.N[i]? = some ("self" : Str)) (hv : σ[i]? = some (some (.ref x))) (hsl : scope.names.lookup ("self" : Str) = some .local) (hx : s.heap.get? x = some ox) (hxc : ox.cls = .ref C) (hnc : ∀ c, ox.data ≠ .cls c) (hsub : PySem.W.mroIn X.K C (.ref D) = some true) (hat : (attr == ("__class__" : Str)) = false)
    (h : ∀ so s', Inv X pins σ H s' → (∀ b o, s.heap.get? b = some o → s'.heap.get? b = some o) → s'.heap.get? so = some (PySem.W.ks_superObj D x C) → Q (.ref so) s') :
    PySem.wpAt (model X.prog X.w) X.A (.func body X.env) (attributeBase (.Call (.Name "super" p0) [] [] p1) attr X.env whole) Q E s := by
  obtain ⟨oc, od, fd, osl, ar, lf, hp, har⟩ := T.fd
  obtain ⟨c1, d1, s1, lc⟩ := T.cell
  obtain ⟨c2, d2, vs, s2, tf, lcd, hvs⟩ := T.code
  have KX := I.kIn
  obtain ⟨oD, cdD, hD1, hD2, _⟩ := clsIn_some KX T.cls
  have ek : X.env.scope = scope := by rw [he]
  have hk : X.env.scope.kind = .function := I.ok.kind
  have k1 : X.env.kindOf "super" = some .globalImplicit := by show X.env.scope.names.lookup _ = _; rw [ek]; exact S.hks
  have k2 : X.env.kindOf "__class__" = some .free := by show X.env.scope.names.lookup _ = _; rw [ek]; exact S.hkc
  have k3 : X.env.kindOf "self" = some .local := by show X.env.scope.names.lookup _ = _; rw [ek]; exact hsl
  have kf : X.env.func = some f := by rw [he]
  have kc : X.env.code = .ref cda := by rw [he]
  have kcl : X.env.cells.lookup ("__class__" : Str) = some cc := by rw [he]; show List.lookup _ [(("__class__" : Str), cc)] = some cc; simp [List.lookup]
  refine ks_wpAt_super_base (env := X.env) k1 k2 hat kf (KX _ _ lf) rfl hp kc (KX _ _ lcd) rfl hvs T.file T.top ?_
  obtain ⟨mb, h1, h2⟩ := I.mod.blt
  refine PySem.W.ks_loadName_global hk k1 (Calls.loadGlobal_builtin (by rw [I.ok.glob]; exact I.mod.glob.keeps I.bk) T.sup (by rw [I.ok.blt]; exact h1.keeps I.bk) ((h2 "super" (by decide)).trans boot_super) ⟨rfl, ?_⟩)
  refine wpAny_loadName_free hk k2 kcl ⟨_, KX _ _ lc, rfl⟩ ?_
  rw [har]
  obtain ⟨m, hn, hl⟩ := I.loc
  obtain ⟨u, ru, lk⟩ := hl i "self" (.ref x) hN hv (.inl (by rw [ek]; exact hsl))
  have hm : m "self" = some (.ref x) := by
    rcases lk with ⟨_, e⟩ | ⟨z, _⟩
    · cases ru; exact e
    · rcases z with z | z <;> rw [k3] at z <;> cases z
  refine wpAny_loadName_local hk k3 hn hm ?_
  obtain ⟨hp', g, d, t, os⟩ := s
  refine ks_wpAny_isType_cls hD1 hD2 ⟨rfl, ?_⟩
  refine ks_wpAny_call_super hD1 hD2 hx hxc hnc (PySem.W.looks_mroIn KX hsub) fun h' e k => ?_
  exact h _ _ (I.kept (h' := h') (t' := t) k) k e
end
section
variable {X : Cx} {CX : CXT} {k : Nat} {f f2 cc cda D : Addr} {file qual : Str} {scope : Scope} {L : Addr} {body : List Stmt} {N ps : List Str} {sp : Sp} {E : XK} {e : Expr} {es : List Expr} {ta : TA} {p0 p1 ap cp ep : Pos}
/-- super().__init__(..): the own class's __init__ above -/
def tSupM (K : PySem.W.Frag) (D f2 : Addr) (sp : Sp) (E : XK) (ta : TA) : TS := fun D' σ H => ∃ a C dx fs, σ[0]? = some (some (.ref a)) ∧ H a = some (.ins C dx fs) ∧ Cls K C ∧ PySem.W.mroIn K C (.ref D) = some true ∧ PySem.W.ks_superIn K C D "__init__" = some (some (.ref f2)) ∧
  ta σ H fun vs H1 => sp (.ref a :: vs) H1 (fun _ H2 => D'.nx σ H2) E
theorem pf_superM {pl : Sem Bool} (T : SupT X.K X.mg X.prog f cc cda D file) (S : SupScope N ps scope) (hX : X.env = envS qual scope L f (.ref cda) cc) (hN : X.N[0]? = some ("self" : Str)) (hsl : scope.names.lookup ("self" : Str) = some .local)
    (ht2 : PySem.W.typeIn X.K (.ref f2) = some (.type "function")) (hf2 : PySem.W.fnIn X.K f2 = true) (F : FnR X.prog X.w X.K X.mg X.base CX k f2 sp) (hr : Room k X.A) (hx : Passes CX X E) (ha : PA X (e :: es) ta)
    (ht : eval (.Call (.Attribute (.Call (.Name "super" p0) [] [] p1) "__init__" ap) (e :: es) [] cp) X.env = (do
      let ov ← attributeBase (.Call (.Name "super" p0) [] [] p1) "__init__" X.env (eval (.Call (.Name "super" p0) [] [] p1) X.env)
      standAt ap.atName
      let (f, first) ← holding [ov] (getMethod ov "__init__" pl)
      callWith cp f first (backTo cp (starEach (e :: es) X.env)) []) := by rfl)
    (he : starEach (e :: es) X.env = (false, eval e X.env) :: starEach es X.env := by rfl) (hpl : (backTo cp (starEach es X.env)).any (·.1) = false := by rfl)
    (hsw : swapsWith (.Call (.Attribute (.Call (.Name "super" p0) [] [] p1) "__init__" ap) (e :: es) [] cp) none ep.line X.env = pure false := by rfl) :
    PF X (.func body X.env) (.Expr (.Call (.Attribute (.Call (.Name "super" p0) [] [] p1) "__init__" ap) (e :: es) [] cp) ep) (tSupM X.K D f2 sp E ta) := by
  refine ⟨fun pins s σ H D' I h => ?_⟩
  obtain ⟨a, C, dx, fs, hσ, hH, cl, hsub, hsup, q⟩ := h
  refine ks_wpAt_Expr_any (ks_wpAt_MethodCall (pl := pl) ?_ ht) I.quiet hsw
  obtain ⟨mA, O, _, _, _, _⟩ := ins_get I.hok hH
  refine super_ok I T S hX hN hσ hsl O.obj rfl (fun c z => by cases z) hsub (by decide) fun so s1 I1 k1 hso => ?_
  obtain ⟨mA, O1, _, _, _, _⟩ := ins_get I1.hok hH
  obtain ⟨od, J, _⟩ := O1.look
  have KX := I1.kIn
  obtain ⟨cd, hcd⟩ : ∃ cd, PySem.W.clsIn X.K C = some cd := by
    cases z : PySem.W.clsIn X.K C with
    | none => unfold PySem.W.ks_superIn at hsup; rw [z] at hsup; cases hsup
    | some cd => exact ⟨cd, rfl⟩
  unfold PySem.W.ks_superIn at hsup
  rw [hcd] at hsup
  obtain ⟨of, hof, hofc⟩ : ∃ of, s1.heap.get? f2 = some of ∧ of.cls = .type "function" := by
    have ht' : (X.K.lookup f2).map (·.cls) = some (.type "function") := ht2
    cases z : X.K.lookup f2 with
    | none => rw [z] at ht'; cases ht'
    | some of => rw [z] at ht'; exact ⟨of, KX _ _ z, Option.some.inj ht'⟩
  obtain ⟨hp, g, d, t, os⟩ := s1
  refine ks_wpAny_getMethod_super hso (PySem.W.looks_opaque KX T.opq) (l₀ := cd.mro) (fun A Q E s k q => wpAny_bind ((PySem.W.looks_clsIn KX hcd) A _ E s k (wpAny_pure q))) rfl KX hsup hof hofc (PySem.W.ks_ne KX J hcd) (by decide) ?_
  have I2 : Inv X pins σ H ⟨hp.push (PySem.W.methodObj (.ref f2) (.ref a)), g, d, t + 1, os⟩ := I1.kept (t' := t + 1) fun b o z => Heap.get?_push_of_some _ z
  have hq2 : (hp.push (PySem.W.methodObj (.ref f2) (.ref a))).get? hp.objs.size = some (PySem.W.methodObj (.ref f2) (.ref a)) := Heap.get?_push_size _ rfl
  have I3 : Inv X ((hp.objs.size, PySem.W.methodObj (.ref f2) (.ref a)) :: pins) σ H ⟨hp.push (PySem.W.methodObj (.ref f2) (.ref a)), g, d, t + 1, os⟩ := I2.pins_of fun p hpn => by
    rcases List.mem_cons.mp hpn with rfl | hpn
    · exact ⟨hq2, I1.hok.fresh (Nat.le_refl _), Nat.ne_of_gt I1.lt, I1.nofs (Nat.le_refl _), fun v z => by cases z⟩
    · exact I2.pin p (List.mem_append_right _ hpn)
  refine PySem.W.callWith_of (P := PySem.W.MethP X.K hp.objs.size f2 (.ref a)) (by rw [he]; show ((false || (backTo cp (starEach es X.env)).any (·.1)) || false) = false; rw [hpl]; rfl) (PySem.W.keeps_M hf2) ?_
  have hargs := ha.run cp _ _ σ H _ I3 q
  rw [he] at hargs ⊢
  refine Calls.evalArgs_plain (thn hargs fun us s3 ⟨vs, H1, I4, r4, q4⟩ => ?_)
  have pm := (I4.pin (hp.objs.size, PySem.W.methodObj (.ref f2) (.ref a)) (List.mem_append_right _ List.mem_cons_self)).1
  refine ⟨⟨pm, I4.kIn⟩, wpAny_call (PySem.W.method_call pm ?_)⟩
  refine codeAny_mono (run_fnR (us := .ref a :: us) (vs := .ref a :: vs) F hr hx I4 (.cons rfl r4) q4) fun r s' hr' => ?_
  cases r with
  | error er => exact hr'
  | ok fl =>
    cases fl with
    | ret v =>
      obtain ⟨_, H2, I5, _, q5⟩ := hr'
      exact ⟨σ, H2, I5.pins_of fun p hpn => I5.pin p (List.mem_append_right _ (List.mem_cons_of_mem _ hpn)), q5⟩
    | _ => exact hr'.elim

/-! ### an exception's super().__init__(..) -/
section
variable {prog : Program} {w : World} {A : Around} {E : Value → Shared → Prop} {h : Heap} {g : Array GenState} {d : Drawn} {t : Nat} {os : OsState}
variable {nm q : Str} {C N : Addr} {bs bm : List Value} {hdct : Bool} {sn : List Str} {sub : List Value} {ab : Bool} {col : Option Bool} {dd : Option Addr} {k0 k1 k2 k3 k5 : Option Value}
theorem call_mw {u e t0 : Addr} {rest : List Value} {Q : Value → Shared → Prop}
    (hC : h.get? C = some (excClassObj nm q C N bs bm hdct sn sub ab col dd k0 k1 k2 k3 k5 "ValueError.__new__")) (he : h.get? e = some (HandSPX.excO C t0)) (hu : h.get? u = some (PySem.W.kxs_mw "ValueError.__init__" e)) (hrest : rest.length ≤ sizeLine)
    (hq : ∀ h' t1, (∀ b o, b ≠ e → h.get? b = some o → h'.get? b = some o) → h'.get? e = some (HandSPX.excO C t1) → Q .none ⟨h', g, d, t, os⟩) :
    wpAny (model prog w) A (call (.ref u) rest) Q E ⟨h, g, d, t, os⟩ := by
  refine wpAny_call (codeAny_of_tree ?_)
  show wpAny _ A.in1 (callAny (.ref u) ⟨rest, []⟩) _ _ _
  simp only [callAny]
  refine wpAny_bind (wpAny_load hu ?_)
  simp only [PySem.W.kxs_mw, show (Value.type "method-wrapper" == Value.type "method" || Value.type "method-wrapper" == Value.type "builtin_function_or_method" || Value.type "method-wrapper" == Value.type "method-wrapper") = true by decide, if_true]
  refine PySem.W.KFB.if_so (by decide) ?_
  refine wpAny_bind (ESX.check_bound PySem.F.excBase_ValueError hC he rfl ?_)
  refine wpAny_bind (wpAny_pure (wpAny_pure ?_))
  refine ⟨Code.quiet_builtin _ (by decide +kernel), codeAny_builtin PySem.F.excBase_ValueError.initEntry ?_⟩
  rw [Around.under_plainId PySem.F.excBase_ValueError.init.plain _]
  wp_walk
  refine hq _ h.objs.size (fun b o hb ho => ?_) ?_
  · rw [Heap.get?_update_other _ _ (Ne.symm hb)]
    exact Heap.get?_push_of_some _ ho
  · rw [Heap.get?_update_self _ (Heap.get?_push_of_some _ he) rfl]
    rfl
end
/-- super().__init__(..): ValueError's -/
def tSupB (K : PySem.W.Frag) (D : Addr) (ta : TA) : TS := fun D' σ H => ∃ a C, σ[0]? = some (some (.ref a)) ∧ H a = some (exo a C none) ∧ OexC K C ∧ PySem.W.mroIn K C (.ref D) = some true ∧ PySem.W.ks_superIn K C D "__init__" = some (some (.builtin "ValueError.__init__")) ∧
  PySem.W.subIn K (.ref C) (.type "ValueError") = some true ∧ ta σ H fun vs H1 => vs.length ≤ 1000 ∧ H1 a = some (exo a C none) ∧ D'.nx σ H1
theorem pf_superB {pl : Sem Bool} (T : SupT X.K X.mg X.prog f cc cda D file) (S : SupScope N ps scope) (hX : X.env = envS qual scope L f (.ref cda) cc) (hN : X.N[0]? = some ("self" : Str)) (hsl : scope.names.lookup ("self" : Str) = some .local) (ha : PA X (e :: es) ta)
    (ht : eval (.Call (.Attribute (.Call (.Name "super" p0) [] [] p1) "__init__" ap) (e :: es) [] cp) X.env = (do
      let ov ← attributeBase (.Call (.Name "super" p0) [] [] p1) "__init__" X.env (eval (.Call (.Name "super" p0) [] [] p1) X.env)
      standAt ap.atName
      let (f, first) ← holding [ov] (getMethod ov "__init__" pl)
      callWith cp f first (backTo cp (starEach (e :: es) X.env)) []) := by rfl)
    (he : starEach (e :: es) X.env = (false, eval e X.env) :: starEach es X.env := by rfl) (hpl : (backTo cp (starEach es X.env)).any (·.1) = false := by rfl)
    (hsw : swapsWith (.Call (.Attribute (.Call (.Name "super" p0) [] [] p1) "__init__" ap) (e :: es) [] cp) none ep.line X.env = pure false := by rfl) :
    PF X (.func body X.env) (.Expr (.Call (.Attribute (.Call (.Name "super" p0) [] [] p1) "__init__" ap) (e :: es) [] cp) ep) (tSupB X.K D ta) := by
  refine ⟨fun pins s σ H D' I h => ?_⟩
  obtain ⟨a, C, hσ, hH, TC, hsub, hsup, hVE, q⟩ := h
  refine ks_wpAt_Expr_any (ks_wpAt_MethodCall (pl := pl) ?_ ht) I.quiet hsw
  obtain ⟨t0, ho⟩ := exo_at I.hok hH
  refine super_ok I T S hX hN hσ hsl ho rfl (fun c z => by cases z) hsub (by decide) fun so s1 I1 k1 hso => ?_
  obtain ⟨t1, ho1⟩ := exo_at I1.hok hH
  have J : PySem.W.InstAt s1.heap a _ C none := ⟨ho1, rfl, rfl, trivial⟩
  have KX := I1.kIn
  have hI : PySem.W.Looks (model X.prog X.w) s1.heap (isInstance (.ref a) (.type "ValueError")) true := J.type.andThen (PySem.W.looks_subIn KX hVE)
  obtain ⟨cd, hcd⟩ : ∃ cd, PySem.W.clsIn X.K C = some cd := by
    cases z : PySem.W.clsIn X.K C with
    | none => unfold PySem.W.ks_superIn at hsup; rw [z] at hsup; cases hsup
    | some cd => exact ⟨cd, rfl⟩
  unfold PySem.W.ks_superIn at hsup
  rw [hcd] at hsup
  obtain ⟨hp, g, d, t, os⟩ := s1
  refine PySem.W.kxs_getMethod PySem.W.kxs_ValueError hso (PySem.W.looks_opaque KX T.opq) (l₀ := cd.mro) (fun A Q E s k q => wpAny_bind ((PySem.W.looks_clsIn KX hcd) A _ E s k (wpAny_pure q))) rfl KX hsup hI (PySem.W.ks_ne KX J hcd) (by decide) ?_
  have I2 : Inv X pins σ H ⟨hp.push (PySem.W.kxs_mw "ValueError.__init__" a), g, d, t + 1, os⟩ := I1.kept (t' := t + 1) fun b o z => Heap.get?_push_of_some _ z
  have hq2 : (hp.push (PySem.W.kxs_mw "ValueError.__init__" a)).get? hp.objs.size = some (PySem.W.kxs_mw "ValueError.__init__" a) := Heap.get?_push_size _ rfl
  have I3 : Inv X ((hp.objs.size, PySem.W.kxs_mw "ValueError.__init__" a) :: pins) σ H ⟨hp.push (PySem.W.kxs_mw "ValueError.__init__" a), g, d, t + 1, os⟩ := I2.pins_of fun p hpn => by
    rcases List.mem_cons.mp hpn with rfl | hpn
    · exact ⟨hq2, I1.hok.fresh (Nat.le_refl _), Nat.ne_of_gt I1.lt, I1.nofs (Nat.le_refl _), fun v z => by cases z⟩
    · exact I2.pin p (List.mem_append_right _ hpn)
  refine PySem.W.kxs_callWith (i := "ValueError.__init__") (x := a) (by rw [he]; show (false || (backTo cp (starEach es X.env)).any (·.1)) = false; rw [hpl]; rfl) ?_
  have hargs := ha.run cp _ _ σ H _ I3 q
  rw [he] at hargs ⊢
  refine Calls.evalArgs_plain (thn hargs fun us s3 ⟨vs, H1, I4, r4, hz, hH4, q4⟩ => ?_)
  have pm := (I4.pin (hp.objs.size, PySem.W.kxs_mw "ValueError.__init__" a) (List.mem_append_right _ List.mem_cons_self)).1
  refine ⟨pm, ?_⟩
  obtain ⟨nm, q', N', bs, bm, sn, sub, ab, col, dd, k0, k1', k2, k3, k5, hC, hbm⟩ := TC.cls
  obtain ⟨t4, ho4⟩ := exo_at I4.hok hH4
  have hus : us.length ≤ sizeLine := by
    rw [← Paired.length r4, sizeLine_eq]
    omega
  obtain ⟨hp3, g3, d3, tk3, os3⟩ := s3
  show wpAny _ _ (call (.ref hp.objs.size) us) _ _ _
  refine call_mw (I4.kIn _ _ hC) ho4 pm hus fun h' t5 k5' hx => ?_
  have J5 := I4.write (t' := tk3) (x := a) (e := a) (o := exo a C none) (by rw [hH4]; exact True.intro) (.inl rfl) k5' ⟨_, hx⟩ (exo_ok hx)
  have eu : upd H1 a (exo a C none) = H1 := by
    funext b
    by_cases hb : b = a
    · rw [hb, upd_same, hH4]
    · rw [upd_ne hb]
  rw [eu] at J5
  exact ⟨σ, H1, J5.pins_of fun p hpn => J5.pin p (List.mem_append_right _ (List.mem_cons_of_mem _ hpn)), q4⟩
/-- C(e, ..), C's __init__ keeping sp by positions -/
theorem pmk_oexR {x : Str} {C fI : Addr} {p pos : Pos} (T : OexC X.K C) (iC : PySem.W.findIn X.K (.ref C) "__init__" = some (some (.ref fI))) (tI : PySem.W.typeIn X.K (.ref fI) = some (.type "function"))
    (F1 : FnR X.prog X.w X.K X.mg X.base CX k fI sp) (hr : Room (k + 1) X.A) (hx : Passes CX X (fun _ _ _ => False)) (hg : Gl X x) (hm : X.mg x = some (.ref C)) (ha : PA X (e :: es) ta)
    (hdb : (x == ("__debug__" : Str)) = false := by decide) (he : starEach (e :: es) X.env = (false, eval e X.env) :: starEach es X.env := by rfl) (hpl : (backTo pos (starEach es X.env)).any (·.1) = false := by rfl) :
    PMk X (.Call (.Name x p) (e :: es) [] pos) (tMkO C sp [] ta) := by
  intro pins s σ H Q I h
  obtain ⟨nm, q, N, bs, bm, sn, sub, ab, col, dd, k0, k1, k2, k3, k5, hC, hbm⟩ := T.cls
  refine wpAny_Call_Name_kw (ld_glob I hg hm ?_ hdb)
  refine PySem.W.callWith_K (h₀ := X.base) I.ok.mod.kin T.kC (thn (ha.run pos pins s σ H _ I h) fun us s1 ⟨vs, H1, I1, r1, hz, q1⟩ => ⟨I1.kIn, ?_⟩) he hpl
  show wpAny _ _ (call (.ref C) us) _ _ _
  obtain ⟨hp, g, dr, tk, os⟩ := s1
  have hsz : hp.objs.size ≤ hp.objs.size + 1 := Nat.le_succ _
  have hn : H1 (hp.objs.size + 1) = none := I1.hok.fresh hsz
  have hq := q1 (hp.objs.size + 1) hn
  rw [List.append_nil] at hq
  have kk : ∀ b o, hp.get? b = some o → ((hp.push (PySem.W.kdv_tup us)).push (PySem.HandSPX.excO C hp.objs.size)).get? b = some o := fun b o e => Heap.get?_push_of_some _ (Heap.get?_push_of_some _ e)
  have hget : ((hp.push (PySem.W.kdv_tup us)).push (PySem.HandSPX.excO C hp.objs.size)).get? (hp.objs.size + 1) = some (PySem.HandSPX.excO C hp.objs.size) := by heap_get
  have I2 : Inv X pins σ (upd H1 (hp.objs.size + 1) (exo (hp.objs.size + 1) C none)) ⟨(hp.push (PySem.W.kdv_tup us)).push (PySem.HandSPX.excO C hp.objs.size), g, dr, tk, os⟩ :=
    I1.laid (t' := tk) (a := hp.objs.size + 1) (o := exo (hp.objs.size + 1) C none) (h' := (hp.push (PySem.W.kdv_tup us)).push (PySem.HandSPX.excO C hp.objs.size)) kk hsz (exo_ok hget)
  have r2 : Vals (V.ref (hp.objs.size + 1) :: vs) (Value.ref (hp.objs.size + 1) :: us) := .cons rfl r1
  have hus : us.length ≤ sizeLine := by
    rw [← Paired.length r1, sizeLine_eq]
    omega
  refine wpAny_call (PySem.HandSPX.call_own F.excBase_ValueError (fun Y => PySem.HandSPX.refsVE_contains Y bm hbm) (I1.kIn _ _ hC) (PySem.W.looks_findIn I1.kIn iC) (fun self => PySem.W.bind_fn I1.kIn self tI) hus
    (codeAny_mono (F1 _ X.stack _ _ (Value.ref (hp.objs.size + 1) :: us) _ _ (fun _ _ _ => False) (hr.make C us []) (I2.env0.make C us []) r2 hq) fun r s' hq' => ?_))
  cases r with
  | error er => exact hx pins σ _ _ er s' I2 hq'
  | ok fl =>
    cases fl with
    | ret u =>
      obtain ⟨v, H2, os2, bare2, un2, hok2, rv, ev, d, fs, ea, ed, hd1, q2⟩ := hq'
      subst ev
      obtain ⟨h2, g2, d2, t2, os'⟩ := s'
      exact ⟨rv, mk_end (raises_own T.exC T.tyC) I1 hsz kk un2 hok2 os2 bare2 ea ed hd1 q2⟩
    | next => exact False.elim hq'
    | brk => exact False.elim hq'
    | cont => exact False.elim hq'
end
end L2.SupX
set_option maxRecDepth 100000
set_option maxHeartbeats 2000000
/-! Further facts that a head tells, by names. -/
namespace HeX
open PySem PySem.Spec PyProof.Rows L2 He
inductive Fb where
  | sub (C D : Str) (b : Bool)
  | subT (C : Str) (T : String) (b : Bool)
  | kit (C D : Str) (b : Bool)
  | kitT (T : String) (D : Str) (b : Bool)
  | kitR (C : Str) (T : String) (b : Bool)
  | cat (C : Str)
  | supM (C D E : Str)
  | supB (C D : Str)
  | oex (C : Str)
  | xc (C : Str)
  | exm (C D : Str) (b : Bool)
  | eqm (C D m : Str)
  | nm (C n : Str)
  | opq
  | same (C : Str) (m : String) (id : String)
  | tab (x : Str) (kvs : List (Str × Int))
def oexB (K : PySem.W.Frag) (C : Addr) : Bool := match K.lookup C with
  | some ⟨.type "type", _, .cls cd, sl⟩ => (match cd.mro, sl.toList with
    | .ref C' :: bm, [_, _, _, _, some (.builtin n), _] => decide (C' = C) && (decide (n = "ValueError.__new__") && (!cd.hasDel && (cd.hasDict && PySem.HandSPX.refsVE bm)))
    | _, _ => false)
  | _ => false
def nmB (K : PySem.W.Frag) (C : Addr) (n : Str) : Bool := match K.lookup C with
  | some ⟨.type "type", _, .cls cd, sl⟩ => (match sl.toList with
    | _ :: _ :: some (.str m _) :: _ => decide (m = n)
    | _ => false)
  | _ => false
def Fb.ok (K : PySem.W.Frag) : Fb → Bool
  | .sub C D b => decide (PySem.W.mroIn K (ga K C) (.ref (ga K D)) = some b)
  | .subT C T b => decide (PySem.W.mroIn K (ga K C) (.type T) = some b)
  | .kit C D b => decide (PySem.W.kitOne K (.ref (ga K C)) (.ref (ga K D)) = some b)
  | .kitT T D b => decide (PySem.W.kitOne K (.type T) (.ref (ga K D)) = some b)
  | .kitR C T b => decide (PySem.W.kitOne K (.ref (ga K C)) (.type T) = some b)
  | .cat C => eqO (PySem.W.findIn K (.ref (ga K C)) "__class__") (some (some (.builtin "object.__class__"))) && (eqO (PySem.W.specialIn K (.builtin "object.__class__") "__get__") (some (some (.builtin "getset_descriptor.__get__"))) &&
      (decide (PySem.W.takesIn K (.builtin "object.__class__") = some true) && decide (PySem.W.mroIn K (ga K C) (.type "object") = some true)))
  | .supM C D E => eqO (PySem.W.ks_superIn K (ga K C) (ga K D) "__init__") (some (some (.ref (ma K (ga K E) "__init__")))) && (decide (PySem.W.typeIn K (.ref (ma K (ga K E) "__init__")) = some (.type "function")) && PySem.W.fnIn K (ma K (ga K E) "__init__"))
  | .supB C D => eqO (PySem.W.ks_superIn K (ga K C) (ga K D) "__init__") (some (some (.builtin "ValueError.__init__")))
  | .oex C => oexB K (ga K C) && (eqO (PySem.W.findIn K (.ref (ga K C)) "__setattr__") (some (some (.builtin "object.__setattr__"))) && (decide (PySem.W.subIn K (.ref (ga K C)) (.type "BaseException") = some true) &&
      (decide (PySem.W.typeIn K (.ref (ga K C)) = some (.type "type")) && (PySem.W.keepIn K (.ref (ga K C)) && (eqO (PySem.W.findIn K (.ref (ga K C)) "__init__") (some (some (.ref (ma K (ga K C) "__init__")))) &&
      (decide (PySem.W.typeIn K (.ref (ma K (ga K C) "__init__")) = some (.type "function")) && decide (PySem.W.subIn K (.ref (ga K C)) (.type "ValueError") = some true)))))))
  | .xc C => xfB K (ga K C) && (eqO (PySem.W.findIn K (.ref (ga K C)) "__class__") (some (some (.builtin "object.__class__"))) && (eqO (PySem.W.specialIn K (.builtin "object.__class__") "__get__") (some (some (.builtin "getset_descriptor.__get__"))) &&
      (decide (PySem.W.takesIn K (.builtin "object.__class__") = some true) && decide (PySem.W.mroIn K (ga K C) (.type "object") = some true))))
  | .exm C D b => decide (PySem.W.exmOne K (.ref (ga K C)) (.ref (ga K D)) = some b)
  | .eqm C D m => decide (ma K (ga K C) m = ma K (ga K D) m)
  | .nm C n => nmB K (ga K C) n
  | .opq => eqO (PySem.W.nsIn K cStatics "thirdparty.any") (some none)
  | .tab x kvs => valsB K (ga K x) (kvs.map fun q => (q.1, Dv.int q.2))
  | .same C m id => eqO (PySem.W.findIn K (.ref (ga K C)) m) (some (some (.builtin id)))
def exAll (fb : List Fb) (K : PySem.W.Frag) : Bool := fb.all fun f => f.ok K
theorem exAll_mem {fb : List Fb} {K : PySem.W.Frag} (h : exAll fb K = true) {f : Fb} (hf : f ∈ fb) : f.ok K = true := List.all_eq_true.mp h f hf
section
variable {K : PySem.W.Frag} {C D E m : Str} {T : String} {b : Bool}
theorem sub_ok (h : (Fb.sub C D b).ok K = true) : PySem.W.mroIn K (ga K C) (.ref (ga K D)) = some b := of_decide_eq_true h
theorem subT_ok (h : (Fb.subT C T b).ok K = true) : PySem.W.mroIn K (ga K C) (.type T) = some b := of_decide_eq_true h
theorem kit_ok (h : (Fb.kit C D b).ok K = true) : PySem.W.kitOne K (.ref (ga K C)) (.ref (ga K D)) = some b := of_decide_eq_true h
theorem kitT_ok (h : (Fb.kitT T D b).ok K = true) : PySem.W.kitOne K (.type T) (.ref (ga K D)) = some b := of_decide_eq_true h
theorem kitR_ok (h : (Fb.kitR C T b).ok K = true) : PySem.W.kitOne K (.ref (ga K C)) (.type T) = some b := of_decide_eq_true h
/-- what isinstance asks of an own class -/
structure CatC (K : PySem.W.Frag) (C : Addr) : Prop where
  ha : PySem.W.findIn K (.ref C) "__class__" = some (some (.builtin "object.__class__"))
  hn : PySem.W.specialIn K (.builtin "object.__class__") "__get__" = some (some (.builtin "getset_descriptor.__get__"))
  ht : PySem.W.takesIn K (.builtin "object.__class__") = some true
  hm : PySem.W.mroIn K C (.type "object") = some true
theorem cat_ok (h : (Fb.cat C).ok K = true) : CatC K (ga K C) := by
  obtain ⟨h1, h⟩ := ba h
  obtain ⟨h2, h⟩ := ba h
  obtain ⟨h3, h4⟩ := ba h
  exact ⟨eqO_ok h1, eqO_ok h2, of_decide_eq_true h3, of_decide_eq_true h4⟩
theorem supM_ok (h : (Fb.supM C D E).ok K = true) : PySem.W.ks_superIn K (ga K C) (ga K D) "__init__" = some (some (.ref (ma K (ga K E) "__init__"))) ∧ PySem.W.typeIn K (.ref (ma K (ga K E) "__init__")) = some (.type "function") ∧ PySem.W.fnIn K (ma K (ga K E) "__init__") = true := by
  obtain ⟨h1, h⟩ := ba h
  obtain ⟨h2, h3⟩ := ba h
  exact ⟨eqO_ok h1, of_decide_eq_true h2, h3⟩
theorem supB_ok (h : (Fb.supB C D).ok K = true) : PySem.W.ks_superIn K (ga K C) (ga K D) "__init__" = some (some (.builtin "ValueError.__init__")) := eqO_ok h
theorem oexB_ok {C : Addr} (h : oexB K C = true) : ∃ nm q N bs bm sn sub ab col dd k0 k1 k2 k3 k5, K.lookup C = some (excClassObj nm q C N bs bm true sn sub ab col dd k0 k1 k2 k3 k5 "ValueError.__new__") ∧ PySem.HandSPX.refsVE bm = true := by
  unfold oexB at h
  split at h
  · rename_i dd cd sl ho
    split at h
    · rename_i C' bm k0 k1 k2 k3 n k5 hm hs
      obtain ⟨h1, h⟩ := ba h
      obtain ⟨h2, h⟩ := ba h
      obtain ⟨h3, h⟩ := ba h
      obtain ⟨h4, h5⟩ := ba h
      have h1 := of_decide_eq_true h1
      have h2 := of_decide_eq_true h2
      replace h3 : cd.hasDel = false := by simpa using h3
      subst h1 h2
      obtain ⟨nm, bs, mro, ns, qn, hd, sn, sub, ab, col, del⟩ := cd
      dsimp only at hm h3 h4
      subst hm h3 h4
      have hsl : sl = #[k0, k1, k2, k3, some (.builtin "ValueError.__new__"), k5] := by
        obtain ⟨l⟩ := sl
        simp only at hs
        rw [hs]
      subst hsl
      exact ⟨nm, qn, ns, bs, bm, sn, sub, ab, col, dd, k0, k1, k2, k3, k5, ho, h5⟩
    · cases h
  · cases h
theorem oex_ok (h : (Fb.oex C).ok K = true) : OexC K (ga K C) ∧ PySem.W.findIn K (.ref (ga K C)) "__init__" = some (some (.ref (ma K (ga K C) "__init__"))) ∧ PySem.W.typeIn K (.ref (ma K (ga K C) "__init__")) = some (.type "function") ∧ PySem.W.subIn K (.ref (ga K C)) (.type "ValueError") = some true := by
  obtain ⟨h1, h⟩ := ba h
  obtain ⟨h2, h⟩ := ba h
  obtain ⟨h3, h⟩ := ba h
  obtain ⟨h4, h⟩ := ba h
  obtain ⟨h5, h⟩ := ba h
  obtain ⟨h6, h⟩ := ba h
  obtain ⟨h7, h8⟩ := ba h
  exact ⟨⟨oexB_ok h1, eqO_ok h2, of_decide_eq_true h3, of_decide_eq_true h4, h5⟩, eqO_ok h6, of_decide_eq_true h7, of_decide_eq_true h8⟩
theorem xc_ok (h : (Fb.xc C).ok K = true) : XfC K (ga K C) ∧ ExcC K (ga K C) := by
  obtain ⟨h1, h⟩ := ba h
  obtain ⟨h2, h⟩ := ba h
  obtain ⟨h3, h⟩ := ba h
  obtain ⟨h4, h5⟩ := ba h
  have x := xfB_ok h1
  exact ⟨x, ⟨x.ga, x.gg, x.exC, x.hdC, eqO_ok h2, eqO_ok h3, of_decide_eq_true h4, of_decide_eq_true h5⟩⟩
theorem exm_ok' (h : (Fb.exm C D b).ok K = true) : PySem.W.exmOne K (.ref (ga K C)) (.ref (ga K D)) = some b := of_decide_eq_true h
theorem eqm_ok (h : (Fb.eqm C D m).ok K = true) : ma K (ga K C) m = ma K (ga K D) m := of_decide_eq_true h
theorem same_ok {m id : String} (h : (Fb.same C m id).ok K = true) : PySem.W.findIn K (.ref (ga K C)) m = some (some (.builtin id)) := eqO_ok h
theorem opq_ok (h : Fb.opq.ok K = true) : PySem.W.nsIn K cStatics "thirdparty.any" = some none := eqO_ok h
/-- the class object at C keeps its name -/
def NmC (K : PySem.W.Frag) (C : Addr) (n : Str) : Prop := ∃ dd cd sl t, K.lookup C = some ⟨.type "type", dd, .cls cd, sl⟩ ∧ sl[2]? = some (some (.str n t))
theorem nm_ok {n : Str} (h : (Fb.nm C n).ok K = true) : NmC K (ga K C) n := by
  have h' : nmB K (ga K C) n = true := h
  unfold nmB at h'
  split at h'
  · rename_i dd cd sl ho
    split at h'
    · rename_i a b m t r hs
      have e := of_decide_eq_true h'
      subst e
      refine ⟨dd, cd, sl, t, ho, ?_⟩
      rw [← Array.getElem?_toList, hs] <;> rfl
    · cases h'
  · cases h'
end
/-! ### a table -/
theorem find_keys {P : Params} {z : Str} : ∀ {l : List DictEntry} {ks : List Str}, l.map He.keyOf = He.keysIn P ks → ((l.find? (·.key.isStr z)).isSome = decide (z ∈ ks)) ∧ l.any (·.refKey) = false
  | [], [], _ => ⟨by simp, rfl⟩
  | [], k :: ks, h => by cases h
  | e :: r, [], h => by cases h
  | e :: r, k :: ks, h => by
    have h1 : He.keyOf e :: r.map He.keyOf = some (k, PyData.keyHash P k) :: He.keysIn P ks := h
    injection h1 with h2 h3
    obtain ⟨i1, i2⟩ := find_keys (z := z) h3
    unfold He.keyOf at h2
    split at h2
    · rename_i x t q
      have h4 := Option.some.inj h2
      obtain ⟨h5, h6⟩ := Prod.mk.inj h4
      subst h5
      have hk : e.refKey = false := by unfold DictEntry.refKey; rw [q]
      have hs : e.key.isStr z = (x == z) := by rw [q]; rfl
      constructor
      · rw [List.find?_cons, hs]
        by_cases e2 : x = z
        · subst e2
          simp
        · have : (x == z) = false := beq_eq_false_iff_ne.mpr e2
          rw [this]
          simp only [i1]
          have : z ≠ x := fun h => e2 h.symm
          simp [this]
      · rw [List.any_cons, hk, i2]; rfl
    · cases h2
/-- the table at a: its keys ks -/
theorem tab_of {K : PySem.W.Frag} {w : World} {a : Addr} {ks : List Str} (h : dicW K a = some (He.keysIn w.params ks)) : ∃ es n, KDict K w a es n ∧ ∀ z, ∃ r, PySem.W.nsIn K a z = some r ∧ r.isSome = decide (z ∈ ks) := by
  obtain ⟨es, n, D⟩ := dicW_ok h
  refine ⟨es, n, D, fun z => ?_⟩
  have e : es.toList.map He.keyOf = He.keysIn w.params ks := by
    unfold dicW at h
    rw [D.at_] at h
    simp only at h
    split at h
    · exact Option.some.inj h
    · cases h
  obtain ⟨i1, i2⟩ := find_keys (z := z) e
  unfold PySem.W.nsIn
  rw [D.at_]
  cases q : es.toList.find? (·.key.isStr z) with
  | some e1 =>
    refine ⟨some e1.val, by simp only [q], ?_⟩
    rw [q] at i1
    exact i1
  | none =>
    refine ⟨none, by simp only [q, i2]; rfl, ?_⟩
    rw [q] at i1
    exact i1
theorem tabAt {fa : List Fa} {fn : List DefD} {ts : List Tab} {w : World} {K : PySem.W.Frag} (c : SaysT fa fn ts w K) {i : Nat} {t : Tab} (h : ts[i]? = some t) : dicW K (t.1 K) = some (He.keysIn w.params t.2) := by
  have e : (ts.map fun t => dicW K (t.1 K)) = ts.map fun t => some (He.keysIn w.params t.2) := congrArg (fun z : AlT => z.2) c
  have e2 := congrArg (fun l => l[i]?) e
  simp only [List.getElem?_map, h, Option.map_some, Option.some.injEq] at e2
  exact e2
/-- a dict of ints: op in and [] -/
structure TabI (K : PySem.W.Frag) (w : World) (a : Addr) (kvs : List (Str × Int)) : Prop where
  kd : ∃ es n, KDict K w a es n
  isin : ∀ z, ∃ r, PySem.W.nsIn K a z = some r ∧ r.isSome = decide (z ∈ kvs.map (·.1))
  get : ∀ q ∈ kvs, KDct K w a q.1 (.int q.2)
theorem tabI_of {K : PySem.W.Frag} {w : World} {x : Str} {kvs : List (Str × Int)} (h : dicW K (ga K x) = some (He.keysIn w.params (kvs.map (·.1)))) (h2 : (Fb.tab x kvs).ok K = true) : TabI K w (ga K x) kvs := by
  obtain ⟨es, n, D, hz⟩ := tab_of h
  refine ⟨⟨es, n, D⟩, hz, fun q hq => ?_⟩
  obtain ⟨u, e, r⟩ := valsB_ok h2 (q := (q.1, Dv.int q.2)) (List.mem_map.mpr ⟨q, hq, rfl⟩)
  exact ⟨es, n, u, D.at_, D.lit, e, r⟩
section
variable {X : Cx} {a : Addr} {kvs : List (Str × Int)}
theorem op_in_tab (T : TabI X.K X.w a kvs) : OpR X (compareOp .In) (fun x y H Q => ∃ z, x = .str z ∧ y = .ref a ∧ Q (.bl (decide (z ∈ kvs.map (·.1)))) H) := by
  obtain ⟨es, n, D⟩ := T.kd
  intro pins s σ H x y v u Q I rx ry ⟨z, e1, e2, q⟩
  obtain ⟨r, h1, h2⟩ := T.isin z
  exact op_in_kd D pins s σ H x y v u Q I rx ry ⟨z, r, e1, e2, h1, by rw [h2]; exact q⟩
theorem op_notIn_tab (T : TabI X.K X.w a kvs) : OpR X (compareOp .NotIn) (fun x y H Q => ∃ z, x = .str z ∧ y = .ref a ∧ Q (.bl (!decide (z ∈ kvs.map (·.1)))) H) := by
  obtain ⟨es, n, D⟩ := T.kd
  intro pins s σ H x y v u Q I rx ry ⟨z, e1, e2, q⟩
  obtain ⟨r, h1, h2⟩ := T.isin z
  exact op_notIn_kd D pins s σ H x y v u Q I rx ry ⟨z, r, e1, e2, h1, by rw [h2]; exact q⟩
end
end HeX
set_option maxRecDepth 100000
set_option maxHeartbeats 2000000
/-! Own words over the hand layer: promises by positions, globals, targets, heaps that grow. -/
namespace L2.Q
open PySem PySem.Spec PyProof.Rows StX
section
variable {P : Program} {w : World} {K : PySem.W.Frag} {mg : Str → Option Value} {base : Heap}
/-- a def that raises nothing, by its body -/
theorem fnr {N ps : List Str} {k : Nat} {sp : Sp} {x qual : Str} {st : Stmt} {f : Addr} (F : ∃ fd, FunD K x qual (defArgs st) (defBody st) (defScope st) [] [] f fd) (S : FnScope N ps (defScope st)) (len : ∀ vs H Q E, sp vs H Q E → vs.length = ps.length)
    (hb : ∀ (kV doc pm : Value) (an : Option Addr) (cdv ct : Value) (us : List Value), us.length = ps.length → bindArgs (PySem.W.fnOf x qual (defArgs st) (defBody st) (defScope st) .none kV doc pm an cdv ct) ⟨us, []⟩ = pure (ps.zip us))
    (hbody : ∀ (cdv : Value) (A : Around) (outer : List Env) (s : Shared) (H : Hp) (vs : List V) (Q : VK) (E : XK), Room k (A.deeper (envOfC qual (defScope st) s.heap.objs.size f cdv)) → sp vs H Q E →
      ∃ t, PSs (cxOf CX0 P w K mg base N qual (defScope st) f cdv A outer s H E).nox (defBody st) t ∧ t { nx := fun _ H' => Q .non H', rt := Q } (start N vs) H) : FnR P w K mg base CX0 (k + 1) f sp := by
  obtain ⟨fd, F⟩ := F
  have G : FnOk P w K mg base CX0 (k + 1) f fd ps sp := F.ok S len fun cdv A outer s H vs Q E hr h => by
    obtain ⟨t, h1, h2⟩ := hbody cdv A outer s H vs Q E hr h
    exact ⟨t, h1.nox, h2⟩
  have R := G.raw (F.bindsN hb) .nil
  exact R.imp fun vs H Q E h => by rw [List.append_nil]; exact h
/-- a def that may raise -/
theorem fnrx {N ps : List Str} {k : Nat} {sp : Sp} {x qual : Str} {st : Stmt} {f : Addr} (F : ∃ fd, FunD K x qual (defArgs st) (defBody st) (defScope st) [] [] f fd) (S : FnScope N ps (defScope st)) (len : ∀ vs H Q E, sp vs H Q E → vs.length = ps.length)
    (hb : ∀ (kV doc pm : Value) (an : Option Addr) (cdv ct : Value) (us : List Value), us.length = ps.length → bindArgs (PySem.W.fnOf x qual (defArgs st) (defBody st) (defScope st) .none kV doc pm an cdv ct) ⟨us, []⟩ = pure (ps.zip us))
    (hbody : ∀ (cdv : Value) (A : Around) (outer : List Env) (s : Shared) (H : Hp) (vs : List V) (Q : VK) (E : XK), Room k (A.deeper (envOfC qual (defScope st) s.heap.objs.size f cdv)) → sp vs H Q E →
      ∃ t, PSs (cxOf (CX P w) P w K mg base N qual (defScope st) f cdv A outer s H E) (defBody st) t ∧ t { nx := fun _ H' => Q .non H', rt := Q } (start N vs) H) : FnR P w K mg base (CX P w) (k + 1) f sp := by
  obtain ⟨fd, F⟩ := F
  have G : FnOk P w K mg base (CX P w) (k + 1) f fd ps sp := F.ok S len fun cdv A outer s H vs Q E hr h => hbody cdv A outer s H vs Q E hr h
  have R := G.raw (F.bindsN hb) .nil
  exact R.imp fun vs H Q E h => by rw [List.append_nil]; exact h
/-- nothing is promised of a def that is not reached -/
theorem fnNever {CX : CXT} {k : Nat} {f : Addr} : FnR P w K mg base CX k f fun _ _ _ _ => False := fun _ _ _ _ _ _ _ _ _ _ _ h => h.elim
end
section
variable {X : Cx} {CX : CXT} {k : Nat} {f C : Addr} {sp : Sp} {E : XK} {x m : Str} {e o : Expr} {es : List Expr} {te ta : TE} {t : TA} {p pos apos : Pos}
/-! ### globals -/
theorem pe_gs {z : Str} (h : ∃ t, X.mg x = some (.str z t)) (hg : Gl X x) (hd : (x == ("__debug__" : Str)) = false := by decide) : PE X (.Name x pos) (tC (.str z)) := by
  obtain ⟨t, h⟩ := h
  exact pe_glob hg h ⟨t, rfl⟩ hd
theorem pe_gi {z : Int} (h : ∃ t, X.mg x = some (.int z t)) (hg : Gl X x) (hd : (x == ("__debug__" : Str)) = false := by decide) : PE X (.Name x pos) (tC (.int z)) := by
  obtain ⟨t, h⟩ := h
  exact pe_glob hg h ⟨t, rfl⟩ hd
theorem pe_gr {a : Addr} (h : X.mg x = some (.ref a)) (hg : Gl X x) (hd : (x == ("__debug__" : Str)) = false := by decide) : PE X (.Name x pos) (tC (.ref a)) := pe_glob hg h rfl hd
theorem pe_bt {n : String} (h : X.mg x = none) (hv : bootBuiltins x = some (.type n)) (hg : Gl X x) (hn : x ≠ "__name__" := by decide) (hd : (x == ("__debug__" : Str)) = false := by decide) : PE X (.Name x pos) (tC (.ty n)) := pe_bltn hg h hv rfl hn hd
/-! ### calls by positions -/
def tCallR (sp : Sp) (E : XK) (t : TA) : TE := fun σ H Q => t σ H fun vs H1 => sp vs H1 Q E
/-- x(e, ..) -/
theorem pe_callR (F : FnR X.prog X.w X.K X.mg X.base CX k f sp) (hr : Room k X.A) (hk : PySem.W.keepIn X.K (.ref f) = true) (hm : X.mg x = some (.ref f)) (hg : Gl X x) (hx : Passes CX X E) (ha : PA X (e :: es) t) (hd : (x == ("__debug__" : Str)) = false := by decide)
    (he : starEach (e :: es) X.env = (false, eval e X.env) :: starEach es X.env := by rfl) (hpl : (backTo pos (starEach es X.env)).any (·.1) = false := by rfl) : PE X (.Call (.Name x p) (e :: es) [] pos) (tCallR sp E t) := by
  refine ⟨fun pins s σ H Q I h => ?_⟩
  refine wpAny_Call_Name_kw (ld_glob I hg hm ?_ hd)
  refine PySem.W.callWith_K (h₀ := X.base) I.ok.mod.kin hk (thn (ha.run pos pins s σ H _ I h) fun us s1 ⟨vs, H1, I1, r, q⟩ => ⟨I1.kIn, ?_⟩) he hpl
  exact wpAny_call (run_fnR F hr hx I1 r q)
theorem pe_callR0 (F : FnR X.prog X.w X.K X.mg X.base CX k f sp) (hr : Room k X.A) (hk : PySem.W.keepIn X.K (.ref f) = true) (hm : X.mg x = some (.ref f)) (hg : Gl X x) (hx : Passes CX X E) (hd : (x == ("__debug__" : Str)) = false := by decide) :
    PE X (.Call (.Name x p) [] [] pos) (tCallR sp E tNil) := by
  refine ⟨fun pins s σ H Q I h => ?_⟩
  refine wpAny_Call_Name_kw (ld_glob I hg hm ?_ hd)
  exact PySem.W.callWith_K0 I.kIn hk (wpAny_call (run_fnR (us := []) F hr hx I .nil h))
/-- o.m() -/
theorem pe_methR0 {pl : Sem Bool} (he : PE X o ta) (c : Cls X.K C) (hm : Meth X.K C m f) (F : FnR X.prog X.w X.K X.mg X.base CX k f sp) (hr : Room k X.A) (hx : Passes CX X E)
    (ht : eval (.Call (.Attribute o m apos) [] [] pos) X.env = (do
      let ov ← eval o X.env
      standAt apos.atName
      let (f, first) ← holding [ov] (getMethod ov m pl)
      callWith pos f first (backTo pos (starEach [] X.env)) (backToKw pos (keywordEach [] X.env))) := by rfl) :
    PE X (.Call (.Attribute o m apos) [] [] pos) (tMethR C m sp E ta tNil) := by
  refine ⟨fun pins s σ H Q I h => ?_⟩
  refine PySem.W.methodCall_KW (pl := pl) (thn (he.run pins s σ H _ I h) fun u s1 ⟨x, H1, I1, rx, a, dx, fs, ex, ea, l, q⟩ => ?_) ht
  subst ex
  obtain rfl : u = Value.ref a := rx
  refine getmeth_ok I1 ea c hm l ?_
  exact PySem.W.callWith_K0 (first := [.ref a]) I1.kIn hm.kp (wpAny_call (run_fnR (us := [.ref a]) (vs := [.ref a]) F hr hx I1 (.cons rfl .nil) q))
/-- C() -/
theorem pe_makeR0 (M : Mk X.K C f) (F : FnR X.prog X.w X.K X.mg X.base CX k f sp) (hr : Room (k + 1) X.A) (hm : X.mg x = some (.ref C)) (hg : Gl X x) (hx : Passes CX X E) (hdb : (x == ("__debug__" : Str)) = false := by decide) :
    PE X (.Call (.Name x p) [] [] pos) (tMakeR C sp E tNil) := by
  refine ⟨fun pins s σ H Q I h => ?_⟩
  refine wpAny_Call_Name_kw (ld_glob I hg hm ?_ hdb)
  exact PySem.W.callWith_K0 I.kIn M.kp (run_makeR (us := []) M F hr hx I .nil h)
/-! ### targets -/
/-- o.f as a target -/
def gFld (K : PySem.W.Frag) (ta : TE) (f : Str) : TG := fun v σ H Q => ta σ H fun x H2 => ∃ a C dx fs, x = .ref a ∧ H2 a = some (.ins C dx fs) ∧ Cls K C ∧ NoAttr K C f ∧ fs.length < 1000 ∧ Q σ (upd H2 a (.ins C dx (putF f v fs)))
theorem pg_fld {fl : Str} (ho : PE X o ta) : PG X (.Attribute o fl pos) (gFld X.K ta fl) := by
  refine ⟨fun pins s σ H v u Q I r h => ?_⟩
  rw [assign_Attribute]
  refine wpAny_bind (wpAny_holding (thn (ho.run pins s σ H _ I h) fun ov s1 ⟨x, H1, I1, rx, a, C, dx, fs, ex, ea, c, n, l, q⟩ => ?_))
  subst ex
  obtain rfl : ov = Value.ref a := rx
  refine wpAny_bind (wpAny_standAt (wpAny_bind (wpAny_holding ?_)))
  exact setattr_ok I1 ea c n l r fun s3 I3 => wpAny_release' ⟨σ, _, I3, q⟩
end
end L2.Q
set_option maxRecDepth 100000
set_option maxHeartbeats 2000000
/-! Rules that the hand layer lacks: type(x).__name__, repr(text), bool of an instance with its own __bool__, a list or a tuple walked, .. -/
namespace L2.Q
open PySem PySem.Spec PyProof.Rows StX
section
variable {X : Cx}
/-! ### a list or a tuple, walked -/
def iSeq (K : PySem.W.Frag) (tl : TE) : TI := fun σ H R => tl σ H fun x H1 => ∃ a, x = .ref a ∧ (((∃ xs, SqL K H1 a xs) ∧ R (Itl K a) H1) ∨ ((∃ xs, SqT K H1 a xs) ∧ R (Itt K a) H1))
theorem pi_seq {tg l : Expr} {tl : TE} (hl : PE X l tl) : PI X tg l (iSeq X.K tl) := by
  refine ⟨fun pins s σ H R I h => ?_⟩
  refine thn (hl.run pins s σ H _ I h) fun v s1 ⟨x, H1, I1, r1, q1⟩ => ?_
  obtain ⟨a, e, ⟨⟨xs, hq⟩, q⟩ | ⟨⟨xs, hq⟩, q⟩⟩ := q1
  · subst e
    cases r1
    obtain ⟨its, rv, p, hz⟩ := I1.list hq
    refine wpAny_pyIter_list p.isList ?_
    refine ⟨s1.heap.objs.size, [s1.heap.objs.size], _, _, H1, rfl, I1.kept (t' := s1.toks) fun b o e => Heap.get?_push_of_some _ e, turn_list a _, ⟨_, Heap.get?_push_size _ rfl, rfl, rfl⟩, fun b hb => ?_, q⟩
    have e : b = s1.heap.objs.size := by simpa using hb
    subst e
    exact I1.fpOk (Nat.le_refl _) (I1.hok.fresh (Nat.le_refl _))
  · subst e
    cases r1
    obtain ⟨its, rv, p, hz⟩ := I1.tuple hq
    refine wpAny_pyIter_tuple (show s1.heap.IsTuple a its.toArray from p) ?_
    refine ⟨s1.heap.objs.size, [s1.heap.objs.size], _, _, H1, rfl, I1.kept (t' := s1.toks) fun b o e => Heap.get?_push_of_some _ e, turn_tuple a _, ⟨_, Heap.get?_push_size _ rfl, rfl, rfl⟩, fun b hb => ?_, q⟩
    have e : b = s1.heap.objs.size := by simpa using hb
    subst e
    exact I1.fpOk (Nat.le_refl _) (I1.hok.fresh (Nat.le_refl _))
/-! ### type(x).__name__ -/
open PySem.Calls Builtin Builtin.ObjectAttr Builtin.Getset_descriptor PySem.W in
theorem name_get {prog : Program} {w : World} {A : Around} {R : Result → Shared → Prop} {s : Shared} {K : PySem.W.Frag} {C : Addr} {n : Str} {tp : Value} (KX : K.In s.heap) (hn : HeX.NmC K C n)
    (h : ∀ tk, R (.ok (.ret (.str n tk))) s) : codeAny (model prog w) A (.call (.builtin "getset_descriptor.__get__") ⟨[.builtin "type.__name__", .ref C, tp], []⟩) R s := by
  obtain ⟨dd, cd, sl, t, hl, hs⟩ := hn
  have tC : PySem.W.typeIn K (.ref C) = some (.type "type") := by
    show (K.lookup C).map (·.cls) = _
    rw [hl] <;> rfl
  obtain ⟨hh, g, dr, tk, os⟩ := s
  have hC := KX _ _ hl
  have L0 : PySem.W.Looks (model prog w) hh (typeOf (.ref C)) (.type "type") := PySem.W.looks_typeIn KX tC
  have L1 : PySem.W.Looks (model prog w) hh (isSubtype (.type "type") (.type "type")) true := PySem.W.Looks.of_pure (by rw [isSubtype_type]; kernel_rfl)
  have dga : descrGetArgs ⟨[.builtin "type.__name__", .ref C, tp], []⟩ = pure (.builtin "type.__name__", some (.ref C), given tp) := by kernel_rfl
  refine codeAny_call_builtin PySem.W.KF.slot_gs.plain PySem.W.KF.entry_gs (PySem.W.KF.slot_gs.check _ _ _ _ _ _ _ _ PySem.W.ktyn_type (PySem.W.KF.args_gs _ _ _) ?_)
  unfold Builtin.«getset_descriptor.__get__» descrGet
  rw [dga]
  refine wpAny_bind (wpAny_pure ?_)
  unfold descrGetter descrCheckInstance descrNameAndClass isInstance
  simp only [PySem.W.ktyn_owner]
  repeat lk
  refine ⟨Code.quiet_builtin _ (by decide +kernel), codeAny_builtin PySem.W.ktyn_entry ?_⟩
  unfold Builtin.«type.__name__» keptObject
  show wpAny _ _ (PySem.slotAt C 2 >>= _) _ _ _
  unfold PySem.slotAt
  refine wpAny_bind (wpAny_bind (wpAny_loadPart_at hC (wpAny_pure ?_)))
  rw [show (sl[2]?).join = some (.str n t) by rw [hs] <;> rfl]
  exact wpAny_pure (h t)
/-! ### repr(text) -/
theorem call_reprS : CallR X (.builtin "repr") (fun xs H Q => ∃ z, xs = [.str z] ∧ (reprText z).length ≤ sizeLine ∧ Q (.str (reprText z)) H) := by
  intro pins s σ H xs us Q I r h
  obtain ⟨z, rfl, hz, q⟩ := h
  obtain ⟨u, rfl, t, rfl⟩ := vals1 r
  exact PySem.P.repr_of_str ⟨.str (reprText z), H, I.tok _, ⟨_, rfl⟩, q⟩ hz
/-- e.__name__, e a class of the text -/
def tNm (K : PySem.W.Frag) (te : TE) : TE := fun σ H Q => te σ H fun x H1 => ∃ C n, x = .ref C ∧ HeX.NmC K C n ∧ Q (.str n) H1
theorem pe_nm {e : Expr} {te : TE} {pos : Pos} (ho : PySem.W.nsIn X.K cStatics "thirdparty.any" = some none) (he : PE X e te) (hb : attributeBase e "__name__" X.env (eval e X.env) = eval e X.env := by rfl) : PE X (.Attribute e "__name__" pos) (tNm X.K te) := by
  refine ⟨fun pins s σ H Q I h => ?_⟩
  refine attr_of hb (thn (he.run pins s σ H _ I h) fun u s1 hh => ?_)
  obtain ⟨x, H1, I1, rx, C, n, ex, hn, q⟩ := hh
  subst ex
  obtain rfl : u = Value.ref C := rx
  obtain ⟨dd, cd, sl, t, hl, hs⟩ := id hn
  have tC : PySem.W.typeIn X.K (.ref C) = some (.type "type") := by
    show (X.K.lookup C).map (·.cls) = _
    rw [hl] <;> rfl
  have rd : PySem.W.readsIn X.K C (.type "type") = true := by
    unfold PySem.W.readsIn
    rw [ho, tC]
    rfl
  refine PySem.W.cls_bind (g := .builtin "getset_descriptor.__get__") (a := .builtin "type.__name__") (obj := .ref C) (tp := .type "type") I1.kIn rd (by rfl) (wpAny_call ?_)
  exact name_get (s := { s1 with toks := s1.toks + 1 }) I1.kIn hn fun tk => PySem.W.handed_on rfl ⟨.str n, H1, I1.tok _, ⟨_, rfl⟩, q⟩
/-! ### bool of an instance with its own __bool__ -/
theorem call_bool_x {prog : Program} {w : World} {A : Around} {E : Value → Shared → Prop} {s : Shared} {Q : Value → Shared → Prop} {x : Value} (h : wpAny (model prog w) A.in1.in1 (truthy x) (fun b s' => Q (.bool b) s') E s) :
    wpAny (model prog w) A (call (.type "bool") [x]) Q E s :=
  callType_newIn F.called_bool F.newNe_bool (F.typeCall_bool_1 x) (F.newCall_bool_1 x) (fun obj => F.args_object_init_2 obj x) F.entry_bool_new
    (S := fun A R s => wpAny (model prog w) A.in1 (truthy x) (fun b s' => R (.ok (.ret (.bool b))) s') (fun e s' => R (.error e) s') s)
    (.of_wp fun A R s h => by
      have f1 := F.conv_sub_bool
      obtain ⟨hp, g, d, tk, os⟩ := s
      repeat (any_goals (first | assumption | (with_reducible refine wpAny_mono h (fun _ _ z => ?_) fun _ _ z => z) | wp_step))
      all_goals first | exact ⟨_, rfl, z⟩ | exact z | skip) (wpAny_mono h (fun b s' q => ⟨rfl, q⟩) fun _ _ z => z)
/-- what a promise gives to truthy -/
theorem tru_ins {CX : CXT} {n : Nat} {C f : Addr} {dx : Addr} {fs : List (Str × V)} {sp : Sp} {E : XK} {A : Around} {pins : List (Addr × Obj)} {s : Shared} {σ : St} {H : Hp} {a : Addr} {Q : Bool → Shared → Prop} (F : FnR X.prog X.w X.K X.mg X.base CX n f sp)
    (hs : PySem.W.findIn X.K (.ref C) "__bool__" = some (some (.ref f))) (hf : PySem.W.isFn X.K (.ref f) = true) (hx : Passes CX X E) (hr : Room n A) (hfr : A.frames = X.A.frames) (I : Inv X pins σ H s) (ha : H a = some (.ins C dx fs))
    {Qh : Bool → Hp → Prop} (h : sp [.ref a] H (fun v H' => ∃ b, v = .bl b ∧ Qh b H') E) (hQ : ∀ b H' s', Inv X pins σ H' s' → Qh b H' → Q b s') : wpAny (model X.prog X.w) A (truthy (.ref a)) Q X.xe s := by
  obtain ⟨mA, J, _⟩ := ins_get I.hok ha
  obtain ⟨od, J, _⟩ := J.look
  obtain ⟨m, hF⟩ := I.fr
  refine PySem.W.truthy_K hF I.ok.mod.kin J hs hf ?_
  have e0 : Env0 X.prog X.w X.K X.mg X.base A X.stack s H := by
    have e := I.env0
    exact ⟨by rw [hfr]; exact e.frames, e.mod, e.bs, e.bsz, e.funs, e.frf, e.hok, e.bare⟩
  refine wpAny_call (codeAny_mono (F A X.stack s H [.ref a] [.ref a] _ E hr e0 (.cons rfl .nil) h) fun r s' hq => ?_)
  cases r with
  | error e => exact hx pins σ H s e s' I hq
  | ok fl =>
    cases fl with
    | ret w =>
      obtain ⟨z, H', I', rz, b, ez, q⟩ := I.after hq
      subst ez
      cases rz
      exact hQ b H' s' I' q
    | next => exact False.elim hq
    | brk => exact False.elim hq
    | cont => exact False.elim hq
/-- bool(x), the class's own __bool__ keeping sp -/
def rBoolI (C : Addr) (sp : Sp) (E : XK) : List V → Hp → VK → Prop := fun xs H Q => ∃ a dx fs, xs = [.ref a] ∧ H a = some (.ins C dx fs) ∧ sp [.ref a] H (fun v H' => ∃ b, v = .bl b ∧ Q (.bl b) H') E
theorem call_boolI {CX : CXT} {n : Nat} {C f : Addr} {sp : Sp} {E : XK} (F : FnR X.prog X.w X.K X.mg X.base CX n f sp)
    (hs : PySem.W.findIn X.K (.ref C) "__bool__" = some (some (.ref f))) (hf : PySem.W.isFn X.K (.ref f) = true) (hx : Passes CX X E) (hr : Room (n + 2) X.A) : CallR X (.type "bool") (rBoolI C sp E) := by
  intro pins s σ H xs us Q I r h
  obtain ⟨a, dx, fs, rfl, ha, q⟩ := h
  obtain ⟨u, rfl, ru⟩ := vals1 r
  obtain rfl : u = Value.ref a := ru
  refine call_bool_x (tru_ins (A := X.A.in1.in1) F hs hf hx hr.in1.in1 rfl I ha q fun b H' s' I' z => ⟨.bl b, H', I', rfl, z⟩)
/-! ### == and != by the text's own __eq__ -/
theorem rcG_insR {CX : CXT} {n : Nat} {C f : Addr} {R : Addr → Addr → Hp → Prop} {E : XK} (F : FnR X.prog X.w X.K X.mg X.base CX n f (spEq R))
    (hs : PySem.W.findIn X.K (.ref C) "__eq__" = some (some (.ref f))) (hf : PySem.W.isFn X.K (.ref f) = true) (hx : Passes CX X E) : RcG X n (DIns C R) := by
  intro A pins s σ H x y u v sb I rx ry d
  obtain ⟨a, b, dx, dy, fs, gs, rfl, rfl, ha, hb', hr⟩ := d
  cases rx
  cases ry
  obtain ⟨mA, J, _⟩ := ins_get I.hok ha
  obtain ⟨mB, J', _⟩ := ins_get I.hok hb'
  obtain ⟨od, J, _⟩ := J.look
  obtain ⟨od', J', _⟩ := J'.look
  obtain ⟨m, hF⟩ := I.fr
  refine PySem.W.cmp_K (op := .Eq) (tb := .ref C) sb.room.units0 hF I.ok.mod.kin J J'.type (by simp [PySem.W.notFirst]) hs hf ?_
  have hsp : spEq R [.ref a, .ref b] H (fun v H' => v = .bl true ∧ Ext H H') E := ⟨a, b, rfl, hr, fun H' e => ⟨rfl, e⟩⟩
  have e0 : Env0 X.prog X.w X.K X.mg X.base A X.stack s H := by
    have e := I.env0
    exact ⟨by rw [sb.fr]; exact e.frames, e.mod, e.bs, e.bsz, e.funs, e.frf, e.hok, e.bare⟩
  refine wpAny_call (codeAny_mono (F A X.stack s H [.ref a, .ref b] [.ref a, .ref b] _ E sb.room e0 (.cons rfl (.cons rfl .nil)) hsp) fun r s' hq => ?_)
  cases r with
  | error e => exact hx pins σ H s e s' I hq
  | ok fl =>
    cases fl with
    | ret w =>
      obtain ⟨z, H', I', rz, ez, ex⟩ := I.after hq
      subst ez
      cases rz
      exact ⟨rfl, H', I', ex⟩
    | next => exact False.elim hq
    | brk => exact False.elim hq
    | cont => exact False.elim hq
open PySem.Calls PySem.W in
theorem ifBound_B {prog : Program} {w : World} {A : Around} {E : Value → Shared → Prop} {s : Shared} {K : PySem.W.Frag} {x C : Addr} {ox : Obj} {od : Option Obj} {name : Str} {id : String} {M : Model} {args : List Value} {Q : Option Value → Shared → Prop}
    (X : K.In s.heap) (I : PySem.W.InstAt s.heap x ox C od) (hs : PySem.W.findIn K (.ref C) name = some (some (.builtin id))) (hb : bindSpecial (.builtin id) (.ref x) = pure (.builtin id, [.ref x]))
    (h : wpAny M A (call (.builtin id) (.ref x :: args)) (fun v => Q (some v)) E s) : wpAny M A (callSpecialIfBound? (.ref x) name args) Q E s := by
  simp only [callSpecialIfBound?, bindSpecialIfBound?]
  refine wpAny_holding (wpAny_bind (wpAny_bind (wpAny_bind (I.type.here ((looks_findIn X hs).here ?_)))))
  refine wpAny_bind (wpAny_askSetting (wpAny_ite ?_))
  have fin : wpAny M A (call (.builtin id) ([.ref x] ++ args) >>= fun v => pure (some v)) Q E s := wpAny_bind (wpAny_mono h (fun v s' h' => wpAny_pure h') fun _ _ h' => h')
  rw [hb]
  split
  · exact wpAny_bind (wpAny_pure (wpAny_pure (by exact fin)))
  · exact wpAny_tryCatch (wpAny_bind (wpAny_pure (wpAny_pure (by exact fin))))
open PySem.Calls PySem.W in
/-- a comparison by a slot of a built-in type, both of one class -/
theorem cmp_B {prog : Program} {w : World} {A : Around} {E : Value → Shared → Prop} {s : Shared} {K : PySem.W.Frag} {x C : Addr} {b : Value} {ox : Obj} {od : Option Obj} {id : String} {op : CmpOp} {Q : Value → Shared → Prop} (hu : A.units < cLine)
    (X : K.In s.heap) (I : PySem.W.InstAt s.heap x ox C od) (hb : PySem.W.Looks (model prog w) s.heap (typeOf b) (.ref C)) (hs : PySem.W.findIn K (.ref C) (cmpInfo op).2.1 = some (some (.builtin id))) (hbd : bindSpecial (.builtin id) (.ref x) = pure (.builtin id, [.ref x]))
    (h : wpAny (model prog w) A (call (.builtin id) [.ref x, b]) (PySem.W.CmpBack Q) E s) : wpAny (model prog w) A (richCompare op (.ref x) b) Q E s := by
  have one : wpAny (model prog w) A (tryCompare (.ref x) (cmpInfo op).2.1 b) (fun r s' => ∃ v, r = some v ∧ Q v s') E s := by
    unfold tryCompare
    refine wpAny_bind (ifBound_B (prog := prog) (w := w) X I hs hbd (wpAny_mono h (fun v s' hv => ?_) fun _ _ e => e))
    cases v <;> first | exact hv.elim | exact wpAny_pure ⟨_, rfl, hv⟩
  unfold richCompare
  simp only [oneThing_ref]
  refine wpAny_holding (wpAny_bind (wpAny_cRoomFor hu ?_))
  refine wpAny_bind (I.type.here (wpAny_bind (hb.here ?_)))
  split
  · rename_i q
    simp at q
  · refine wpAny_bind (wpAny_pure ?_)
    simp only [Bool.false_eq_true, if_false]
    refine wpAny_bind (wpAny_mono one (fun r s' z => ?_) fun _ _ e => e)
    obtain ⟨v, rfl, hq⟩ := z
    exact wpAny_pure hq
theorem ne_plain : plainId "object.__ne__" = true := by decide +kernel
theorem ne_entry : entryFor table "object.__ne__" = some Builtin.«object.__ne__» := entryFor_of_tree (by kernel_rfl)
theorem ne_args (a b : Value) : argsOk "object.__ne__" ⟨[a, b], []⟩ := by unfold argsOk; kernel_rfl
theorem ne_slot (a b : Value) : slotArgs "__ne__" 1 ⟨[a, b], []⟩ = pure (a, [b]) := by kernel_rfl
theorem ne_bind (self : Value) : bindSpecial (.builtin "object.__ne__") self = pure (.builtin "object.__ne__", [self]) :=
  (Slot.of (T := "object") (name := "__ne__") (owner := "object") (n := "__ne__") (by rw [typeLookup_type, builtinLookup_eq_fast]; kernel_rfl) (by decide +kernel) (by decide +kernel) (by decide +kernel)
    (.inl (by decide +kernel)) (by rw [isSubtype_type]; kernel_rfl)).bind self
open PySem.Calls PySem.W in
/-- object.__ne__ by the class's own __eq__ -/
theorem call_objne {prog : Program} {w : World} {A : Around} {E : Value → Shared → Prop} {s : Shared} {K : PySem.W.Frag} {x C f : Addr} {b : Value} {ox : Obj} {od : Option Obj} {Q : Value → Shared → Prop} (hu : A.in1.units < cLine)
    (X : K.In s.heap) (I : PySem.W.InstAt s.heap x ox C od) (hob : PySem.W.mroIn K C (.type "object") = some true) (hs : PySem.W.findIn K (.ref C) "__eq__" = some (some (.ref f))) (hf : PySem.W.isFn K (.ref f) = true)
    (h : wpAny (model prog w) A.in1 (call (.ref f) [.ref x, b]) (fun v s' => ∃ r, v = .bool r ∧ Q (.bool (!r)) s') E s) : wpAny (model prog w) A (call (.builtin "object.__ne__") [.ref x, b]) Q E s := by
  refine wpAny_call (codeAny_call_builtin ne_plain ne_entry ?_)
  have hsub : Looks (model prog w) s.heap (isInstance (.ref x) (.type "object")) true := I.type.andThen (looks_mroIn X hob)
  refine @check_slot (model prog w) _ _ s "object.__ne__" "object" "__ne__" (.ref x) [b] [] _ (by decide +kernel) (by decide +kernel) hsub (ne_args _ _) ?_
  unfold Builtin.«object.__ne__»
  refine wpAny_bind (wpAny_of_eq (a := (.ref x, [b])) (ne_slot _ _) ?_)
  refine wpAny_bind (wpAny_cRoomFor hu ?_)
  refine wpAny_bind (ifBound_K X I hs hf (wpAny_mono h (fun v s' hv => ?_) fun _ _ z => z))
  obtain ⟨r, rfl, q⟩ := hv
  refine wpAny_bind (wpAny_pure ?_)
  exact wpAny_pure q
/-- x != y, instances of one class with the text's own __eq__, that are equal -/
theorem op_neG {CX : CXT} {n : Nat} {C f : Addr} {R : Addr → Addr → Hp → Prop} {E : XK} (F : FnR X.prog X.w X.K X.mg X.base CX n f (spEq R)) (hne : PySem.W.findIn X.K (.ref C) "__ne__" = some (some (.builtin "object.__ne__"))) (hob : PySem.W.mroIn X.K C (.type "object") = some true)
    (hs : PySem.W.findIn X.K (.ref C) "__eq__" = some (some (.ref f))) (hf : PySem.W.isFn X.K (.ref f) = true) (hx : Passes CX X E) (hr : Room (n + 1) X.A) : OpR X (compareOp .NotEq) (fun x y H Q => DIns C R x y H ∧ ∀ H', Ext H H' → Q (.bl false) H') := by
  intro pins s σ H x y v u Q I rx ry hq
  obtain ⟨d, q⟩ := hq
  obtain ⟨a, b, dx, dy, fs, gs, rfl, rfl, ha, hb', hR⟩ := d
  cases rx
  cases ry
  obtain ⟨mA, J, _⟩ := ins_get I.hok ha
  obtain ⟨mB, J', _⟩ := ins_get I.hok hb'
  obtain ⟨od, J, _⟩ := J.look
  obtain ⟨od', J', _⟩ := J'.look
  show wpAny (model X.prog X.w) X.A (richCompare .NotEq (.ref a) (.ref b)) (EP X pins σ Q) X.xe s
  refine cmp_B (op := .NotEq) hr.units0 I.kIn J J'.type hne (ne_bind _) (call_objne hr.in1.units0 I.kIn J hob hs hf ?_)
  have hsp : spEq R [.ref a, .ref b] H (fun v H' => v = .bl true ∧ Ext H H') E := ⟨a, b, rfl, hR, fun H' e => ⟨rfl, e⟩⟩
  have e0 : Env0 X.prog X.w X.K X.mg X.base X.A.in1 X.stack s H := I.env0.in1
  refine wpAny_call (codeAny_mono (F X.A.in1 X.stack s H [.ref a, .ref b] [.ref a, .ref b] _ E hr.in1 e0 (.cons rfl (.cons rfl .nil)) hsp) fun r s' hq => ?_)
  cases r with
  | error e => exact hx pins σ H s e s' I hq
  | ok fl =>
    cases fl with
    | ret w =>
      obtain ⟨z, H', I', rz, ez, ex⟩ := I.after hq
      subst ez
      cases rz
      exact ⟨true, rfl, .bl false, H', I', rfl, q H' ex⟩
    | next => exact False.elim hq
    | brk => exact False.elim hq
    | cont => exact False.elim hq
theorem eqG_insR {CX : CXT} {n : Nat} {C f : Addr} {R : Addr → Addr → Hp → Prop} {E : XK} (F : FnR X.prog X.w X.K X.mg X.base CX n f (spEq R))
    (hs : PySem.W.findIn X.K (.ref C) "__eq__" = some (some (.ref f))) (hf : PySem.W.isFn X.K (.ref f) = true) (hx : Passes CX X E) : EqG X n (DIns C R) :=
  (rcG_insR F hs hf hx).eqG fun _ _ _ d => let ⟨a, b, _, _, _, _, hx, hy, _⟩ := d; ⟨a, b, hx, hy⟩
end
end L2.Q
set_option maxRecDepth 100000
set_option maxHeartbeats 2000000
/-! sum(a list of lists, []). -/
namespace L2.Q
open PySem PySem.Spec PyProof.Rows StX
section
variable {prog : Program} {w : World} {A : Around} {R : Result → Shared → Prop}
abbrev lstO (its : List Value) (n : Nat) : Obj := { cls := .type "list", data := .seq its.toArray n }
/-- the lists at bs hold vals in the heap -/
def LsAt (h : Heap) (bs : List Addr) (vals : List (List Value)) : Prop := bs.length = vals.length ∧ ∀ (j : Nat) b v, bs[j]? = some b → vals[j]? = some v → ∃ n, h.get? b = some (lstO v n)
theorem LsAt.keep {h h' : Heap} {bs : List Addr} {vals : List (List Value)} (a : LsAt h bs vals) (k : ∀ b o, b ∈ bs → h.get? b = some o → h'.get? b = some o) : LsAt h' bs vals :=
  ⟨a.1, fun j b v e1 e2 => let ⟨n, e⟩ := a.2 j b v e1 e2; ⟨n, k _ _ (List.mem_of_getElem? e1) e⟩⟩
theorem sumL_loop (hh : A.in1.handled = none) (h0 : Heap) (l I S : Addr) (bs : List Addr) (vals : List (List Value)) (hIl : h0.objs.size ≤ I) (hSl : h0.objs.size ≤ S) (hSI : S ≠ I) (hl0 : ∃ n, h0.get? l = some (lstO (bs.map Value.ref) n)) (hb0 : LsAt h0 bs vals) (hz : vals.flatten.length ≤ sizeLine) :
    ∀ (k i : Nat) (s : Shared) (p : Addr) (acc : List Value) (c : Nat) (stage : Int), bs.length - i = k → i ≤ bs.length → (∀ b o, h0.get? b = some o → s.heap.get? b = some o) → h0.objs.size ≤ s.heap.objs.size → s.heap.IsListIter I l i →
      s.heap.get? S = some { cls := .type "list", dict := none, data := .seq #[.ref p] c, slots := #[] } → (∃ n, s.heap.get? p = some (lstO acc n)) → p ≠ I → p ≠ S → acc = (vals.take i).flatten →
      (∀ h' tk p', (∀ b o, h0.get? b = some o → h'.get? b = some o) → (i = bs.length → p' = p) → (i < bs.length → h0.objs.size ≤ p') → (∃ n, h'.get? p' = some (lstO vals.flatten n)) → R (.ok (.ret (.ref p'))) { s with heap := h', toks := tk }) →
      codeAny (model prog w) A (.builtin "sum.loop" ⟨[.ref I, .ref S, rawInt stage, rawInt 0], []⟩) R s := by
  intro k
  have nI : ∀ b o, h0.get? b = some o → b ≠ I := fun b o e z => by subst z; exact absurd (Heap.lt_size e) (Nat.not_lt.mpr hIl)
  have nS : ∀ b o, h0.get? b = some o → b ≠ S := fun b o e z => by subst z; exact absurd (Heap.lt_size e) (Nat.not_lt.mpr hSl)
  induction k with
  | zero =>
    intro i s p acc c stage hk hi hkeep hsz hst hS hp hpI hpS hacc hR
    have hin : i = bs.length := by omega
    subst hin
    obtain ⟨n0, hl⟩ := hl0
    have hL : s.heap.IsList l (bs.map Value.ref).toArray := ⟨_, hkeep _ _ hl, rfl, n0, rfl⟩
    refine codeAny_builtin F.entry_sum_loop ?_
    rw [Around.under_plainId F.plain_sum_loop _]
    show wpAny _ A.in1 (seqItems? (.ref S) >>= _) _ _ s
    refine wpAny_bind (wpAny_seqItems hS rfl ?_)
    show wpAny _ A.in1 (tryCatch (pyNext (.ref I)) _ >>= _) _ _ s
    refine wpAny_bind (wpAny_tryCatch (wpAny_pyNext_list_end hh hst hL (by simp) fun h' he => ?_))
    obtain ⟨n, hp⟩ := hp
    refine wpAny_pure (hR h' s.toks p (fun b o e => he b o (nI b o e) (hkeep b o e)) (fun _ => rfl) (fun z => by omega) ⟨n, ?_⟩)
    rw [hb0.1, List.take_length] at hacc
    rw [he p _ hpI hp, hacc]
  | succ k ih =>
    intro i s p acc c stage hk hi hkeep hsz hst hS hp hpI hpS hacc hR
    have hlt : i < bs.length := by omega
    have hlt2 : i < vals.length := by rw [← hb0.1]; exact hlt
    obtain ⟨n0, hl⟩ := hl0
    have hL : s.heap.IsList l (bs.map Value.ref).toArray := ⟨_, hkeep _ _ hl, rfl, n0, rfl⟩
    refine codeAny_builtin F.entry_sum_loop ?_
    rw [Around.under_plainId F.plain_sum_loop _]
    show wpAny _ A.in1 (seqItems? (.ref S) >>= _) _ _ s
    refine wpAny_bind (wpAny_seqItems hS rfl ?_)
    show wpAny _ A.in1 (tryCatch (pyNext (.ref I)) _ >>= _) _ _ s
    refine wpAny_bind (wpAny_tryCatch (wpAny_pyNext_list_item hst hL (x := .ref bs[i]) (by simp [hlt]) fun h' st' sb => ?_))
    have hS' : h'.get? S = some { cls := .type "list", dict := none, data := .seq #[.ref p] c, slots := #[] } := (sb.2 S hSI).trans hS
    obtain ⟨n, hp⟩ := hp
    have hp' : h'.get? p = some (lstO acc n) := (sb.2 p hpI).trans hp
    obtain ⟨nb, hb⟩ := hb0.2 i bs[i] vals[i] (by simp [hlt]) (by simp [hlt2])
    have hb' : h'.get? bs[i] = some (lstO vals[i] nb) := (sb.2 _ (nI _ _ hb)).trans (hkeep _ _ hb)
    have e1 : acc ++ vals[i] = (vals.take (i + 1)).flatten := by
      rw [hacc, List.take_succ_eq_append_getElem hlt2, List.flatten_append]
      simp only [List.flatten_cons, List.flatten_nil, List.append_nil]
    have hle : acc.length + vals[i].length ≤ sizeLine := by
      have q0 : vals.flatten = (vals.take (i + 1)).flatten ++ (vals.drop (i + 1)).flatten := by rw [← List.flatten_append, List.take_append_drop]
      have q : (acc ++ vals[i]).length ≤ vals.flatten.length := by
        rw [e1, q0, List.length_append]
        exact Nat.le_add_right _ _
      rw [List.length_append] at q
      omega
    show wpAny _ A.in1 ((holding [Value.ref bs[i]] (binaryOp .Add (.ref p) (.ref bs[i]))).attempt >>= _) _ _ _
    refine wpAny_bind (wpAny_attempt (wpAny_holding (PySem.P.add_list hp' hb' ?_ (by simpa using hle))))
    show wpAny _ A.in1 (updateSeq S (fun _ => #[.ref h'.objs.size]) >>= _) _ _ _
    have hS2 : (h'.push { cls := .type "list", data := .seq (acc.toArray ++ vals[i].toArray) }).get? S = some { cls := .type "list", dict := none, data := .seq #[.ref p] c, slots := #[] } := Heap.get?_push_of_some _ hS'
    refine wpAny_bind (wpAny_updateSeq hS2 rfl ?_)
    have hS3 := Heap.get?_update_self (Obj.mapSeq fun _ => #[Value.ref h'.objs.size]) hS2 rfl
    refine wpAny_bind (wpAny_letGo ?_)
    have neS : h'.objs.size ≠ S := fun z => by
      rw [← z] at hS'
      exact Nat.lt_irrefl _ (Heap.lt_size hS')
    have neI : h'.objs.size ≠ I := fun z => by
      obtain ⟨o, e, _⟩ := st'
      rw [← z] at e
      exact Nat.lt_irrefl _ (Heap.lt_size e)
    refine wpAny_bind (wpAny_updateSeq hS3 rfl (wpAny_pure ⟨plainId_quiet F.plain_sum_loop _, ih (i + 1) _ h'.objs.size (acc ++ vals[i]) _ 2 (by omega) hlt (fun b o e => ?_) ?_ (st'.at fun o e => ?_) (Heap.get?_update_self _ hS3 rfl) ⟨0, ?_⟩ neI neS e1 fun h'' tk'' p'' hk'' hi1 hi2 hq => ?_⟩))
    · exact (Heap.get?_update_other _ _ (Ne.symm (nS b o e))).trans ((Heap.get?_update_other _ _ (Ne.symm (nS b o e))).trans (Heap.get?_push_of_some _ ((sb.2 b (nI b o e)).trans (hkeep b o e))))
    · simp only [Heap.size_update, Heap.size_push]
      have := sb.1
      omega
    · exact (Heap.get?_update_other _ _ hSI).trans ((Heap.get?_update_other _ _ hSI).trans (Heap.get?_push_of_some _ e))
    · rw [Heap.get?_update_other _ _ (Ne.symm neS), Heap.get?_update_other _ _ (Ne.symm neS), Heap.get?_push_size _ rfl]
      simp
    · refine hR h'' tk'' p'' hk'' (fun z => by omega) (fun _ => ?_) hq
      by_cases hf : i + 1 = bs.length
      · rw [hi1 hf]
        have := sb.1
        omega
      · exact hi2 (by omega)
end
section
variable {X : Cx}
theorem args_sum2 (a b : Value) : argsOk "sum" ⟨[a, b], []⟩ := by unfold argsOk; kernel_rfl
theorem vals_refs : ∀ {ls : List Addr} {us : List Value}, Vals (ls.map V.ref) us → us = ls.map Value.ref
  | [], _, .nil => rfl
  | _ :: _, _, .cons h t => by
    have e := vals_refs t
    rw [e]
    cases h
    rfl
/-- the lists at bs, as the abstract heap says them -/
def LsH (H : Hp) (bs : List Addr) (xss : List (List V)) : Prop := bs.length = xss.length ∧ ∀ (j : Nat) b v, bs[j]? = some b → xss[j]? = some v → H b = some (.lst v)
theorem lsAt_of {P : Program} {w : World} {H : Hp} {h : Heap} (k : HOk P w H h) : ∀ {bs : List Addr} {xss : List (List V)}, LsH H bs xss → ∃ vals, LsAt h bs vals ∧ Vals xss.flatten vals.flatten
  | [], [], _ => ⟨[], ⟨rfl, fun j b v e => by simp at e⟩, .nil⟩
  | [], _ :: _, a => by simp [LsH] at a
  | _ :: _, [], a => by simp [LsH] at a
  | b :: bs, x :: xss, a => by
    obtain ⟨vals, h1, h2⟩ := lsAt_of k (bs := bs) (xss := xss) ⟨by have := a.1; simpa using this, fun j b v e1 e2 => a.2 (j + 1) b v (by simpa using e1) (by simpa using e2)⟩
    obtain ⟨z, its, n, r, e⟩ := k b _ (a.2 0 b x rfl rfl)
    refine ⟨its :: vals, ⟨by simp [h1.1], fun j c v e1 e2 => ?_⟩, ?_⟩
    · cases j with
      | zero =>
        simp at e1 e2
        subst e1 e2
        exact ⟨n, e⟩
      | succ j => exact h1.2 j c v (by simpa using e1) (by simpa using e2)
    · simp only [List.flatten_cons]
      exact r.append h2
/-- sum(ls, []) -/
def rSumL : List V → Hp → VK → Prop := fun xs H Q => ∃ (l z : Addr) (bs : List Addr) (xss : List (List V)), xs = [.ref l, .ref z] ∧ H l = some (.lst (bs.map V.ref)) ∧ H z = some (.lst []) ∧ LsH H bs xss ∧ xss.flatten.length ≤ sizeLine ∧
  (bs = [] → Q (.ref z) H) ∧ (bs ≠ [] → ∀ p, H p = none → Q (.ref p) (upd H p (.lst xss.flatten)))
theorem call_sumL (hc : X.calm = true) : CallR X (.builtin "sum") rSumL := by
  intro pins s σ H xs us Q I r h
  obtain ⟨l, z, bs, xss, rfl, hl, hz, hbs, hsz, q0, q1⟩ := h
  obtain ⟨u1, u2, rfl, r1, r2⟩ := vals2 r
  cases (show u1 = Value.ref l from r1)
  cases (show u2 = Value.ref z from r2)
  obtain ⟨_, its, n, rl, el, hlg⟩ := I.lstM hl
  have eits := vals_refs rl
  subst eits
  obtain ⟨_, itz, nz, rz, _, hzg⟩ := I.lstM hz
  cases rz
  obtain ⟨vals, ha, hv⟩ := lsAt_of I.hok hbs
  refine call_function_tree F.kind_sum F.plain_sum F.entry_sum (args_sum2 _ _) ?_
  unfold Builtin.«sum»
  simp only [List.length_cons, List.length_nil]
  rw [if_neg (by decide)]
  refine wpAny_bind (wpAny_of_eq (show Builtin.Builtins.bindParams "sum" ["start"] 0 ⟨[.ref z], []⟩ = pure [some (.ref z)] from rfl) ?_)
  refine wpAny_bind (wpAny_pyIter_list (items := (bs.map Value.ref).toArray) ⟨_, hlg, rfl, n, rfl⟩ ?_)
  refine wpAny_bind (wpAny_pure ?_)
  have hz2 : (s.heap.push { cls := .type "list_iterator", data := .fields #[.ref l, .int 0 0] }).get? z = some { cls := .type "list", data := .seq ([] : List Value).toArray nz } := Heap.get?_push_of_some _ hzg
  have tz : ({ s with heap := s.heap.push { cls := .type "list_iterator", data := .fields #[.ref l, .int 0 0] } } : Shared).TypeIs (.ref z) "list" := ⟨_, hz2, rfl⟩
  simp only [List.forIn_cons, List.forIn_nil]
  refine wpAny_bind (wpAny_bind (wpAny_bind (wpAny_isInstance (T := "list") (b := false) tz F.sub_list_str ?_)))
  simp only [Bool.false_eq_true, if_false]
  refine wpAny_pure (wpAny_bind (wpAny_bind (wpAny_isInstance (T := "list") (b := false) tz F.sub_list_bytes ?_)))
  simp only [Bool.false_eq_true, if_false]
  refine wpAny_pure (wpAny_bind (wpAny_bind (wpAny_isInstance (T := "list") (b := false) tz F.sub_list_bytearray ?_)))
  simp only [Bool.false_eq_true, if_false]
  refine wpAny_pure (wpAny_pure ?_)
  refine wpAny_bind (wpAny_newObj_type ?_)
  have zI : z ≠ s.heap.objs.size := fun e => by
    rw [e] at hzg
    exact Nat.lt_irrefl _ (Heap.lt_size hzg)
  refine wpAny_pure ⟨plainId_quiet F.plain_sum_loop _, sumL_loop (I.ok.hd hc) s.heap l s.heap.objs.size (s.heap.push { cls := .type "list_iterator", data := .fields #[.ref l, .int 0 0] }).objs.size bs vals (Nat.le_refl _) (by rw [Heap.size_push]; exact Nat.le_succ _) (by rw [Heap.size_push]; exact Nat.succ_ne_self _) ⟨n, hlg⟩ ha
    (by rw [← hv.length]; exact hsz) bs.length 0 _ z [] 0 2 rfl (Nat.zero_le _) (fun b o e => Heap.get?_push_of_some _ (Heap.get?_push_of_some _ e)) (by simp only [Heap.size_push]; omega) ?_ (Heap.get?_push_size _ rfl) ⟨nz, Heap.get?_push_of_some _ hz2⟩ zI ?_ rfl fun h' tk p' hk h1 h2 hp => ?_⟩
  · exact ⟨_, Heap.get?_push_of_some _ (Heap.get?_push_size _ rfl), rfl, rfl⟩
  · intro e
    rw [e] at hz2
    exact Nat.lt_irrefl _ (Heap.lt_size hz2)
  · by_cases hb : bs = []
    · have e := h1 (by rw [hb]; rfl)
      subst e
      exact ⟨.ref p', H, I.kept (t' := tk) hk, rfl, q0 hb⟩
    · have hp0 := h2 (List.length_pos_iff.mpr hb)
      obtain ⟨m, hp⟩ := hp
      exact ⟨.ref p', _, I.laid (t' := tk) (o := .lst xss.flatten) hk hp0 ⟨hsz, vals.flatten, m, hv, hp⟩, rfl, q1 hb p' (I.hok.fresh hp0)⟩
end
end L2.Q
set_option maxRecDepth 100000
set_option maxHeartbeats 4000000
/-! try .. except X as n: m = n, the exception kept behind the suite. -/
namespace PySem.W
open PySem PySem.Spec PySem.Calls PyProof.Rows
section
variable {prog : Program} {w : World} {A : Around} {E : Value → Shared → Prop} {s : Shared} {K : Frag} {x D : Addr} {ox : Obj}
theorem findObj_dataD {C : Addr} {od : Option Obj} {name : Str} {a g : Value} (hc : (clsIn K C).isSome = true) (ha : findIn K (.ref C) name = some (some a)) (hg : specialIn K a "__get__" = some (some g)) (ht : takesIn K a = some true) : findObj K C od name = some (.bind g a) := by
  obtain ⟨cd, hc⟩ := Option.isSome_iff_exists.mp hc
  unfold findObj
  rw [hc, Option.bind_some, ha, Option.bind_some]
  simp [hg, ht]
theorem kin_classD {od : Option Obj} {Q : Option Value → Shared → Prop} (hga : findIn K (.ref D) "__getattribute__" = some (some (.builtin "BaseException.__getattribute__"))) (hgt : findIn K (.ref D) "__getattr__" = some none) (hsub : subIn K (.ref D) (.type "BaseException") = some true)
    (hdct : hasDictIn K D = true) (ha : findIn K (.ref D) "__class__" = some (some (.builtin "object.__class__")))
    (hn : specialIn K (.builtin "object.__class__") "__get__" = some (some (.builtin "getset_descriptor.__get__"))) (htk : takesIn K (.builtin "object.__class__") = some true) (hm : mroIn K D (.type "object") = some true)
    (X : K.In s.heap) (I : InstAt s.heap x ox D od) (h : Q (some (.ref D)) { s with toks := s.toks + 1 }) : wpAny (model prog w) A (getAttr? (.ref x) "__class__") Q E s := by
  have hf : findObj K D od "__class__" = some (.bind (.builtin "getset_descriptor.__get__") (.builtin "object.__class__")) := findObj_dataD (by obtain ⟨cd, hc, _⟩ := any_some hdct; rw [hc]; rfl) ha hn htk
  obtain ⟨hp, g, d, t, os⟩ := s
  have L0 := I.type (M := model prog w)
  have L1 := looks_findIn (M := model prog w) X hga
  have L2 := looks_findIn (M := model prog w) X hgt
  have L3 := looks_find (M := model prog w) X I hf
  have sub : Looks (model prog w) hp (isInstance (.ref x) (.type "BaseException")) true := L0.andThen (looks_subIn X hsub)
  have hx0 : (false && onTheHeap (Value.builtin "BaseException.__getattribute__")) = false := rfl
  have hx2 : (Value.builtin "BaseException.__getattribute__" == Value.builtin "object.__getattribute__") = false := by decide +kernel
  have hx1 : (onTheHeap (Value.ref D) && Value.builtin "BaseException.__getattribute__" == Value.builtin "object.__getattribute__") = false := by rw [hx2]; rfl
  unfold getAttr? getAttrBy? getAttrBy
  refine wpAny_bind (wpAny_mkText (wpAny_bind (wpAny_attempt (wpAny_holding (wpAny_bind (L0.at (wpAny_bind (L1.at ?_))))))))
  show wpAny _ _ (if (onTheHeap (Value.ref D) && Value.builtin "BaseException.__getattribute__" == Value.builtin "object.__getattribute__") = true then _ else _) _ _ _
  rw [hx1, if_neg Bool.false_ne_true]
  unfold getAttrByItsOwn hookBefore
  refine wpAny_bind ?_
  rw [if_pos (show onTheHeap (Value.ref D) = true from rfl)]
  refine L2.at ?_
  refine wpAny_bind (wpAny_attempt (wpAny_holding ?_))
  unfold callGetattribute
  rw [hx0, if_neg Bool.false_ne_true]
  unfold boundAndCalled
  rw [PySem.F.excAttr_ValueError.ga.bind (.ref x)]
  refine wpAny_bind (wpAny_pure ?_)
  show wpAny _ _ (call (.builtin "BaseException.__getattribute__") [.ref x, .str "__class__" t]) _ _ _
  refine wpAny_call (codeAny_call_builtin PySem.F.excAttr_ValueError.ga.plain PySem.F.entry_bexc_ga ?_)
  refine @check_slot (model prog w) _ _ ⟨hp, g, d, t + 1, os⟩ "BaseException.__getattribute__" "BaseException" "__getattribute__" (.ref x) [.str "__class__" t] [] _ (by decide +kernel) (by decide +kernel) sub (PySem.F.args_bexc_ga (.ref x) (.str "__class__" t)) ?_
  unfold Builtin.«object.__getattribute__»
  refine wpAny_bind (wpAny_of_eq (a := ((Value.ref x : Value), [Value.str "__class__" t])) (by first | rfl | (simp only [slotArgs]; rfl)) ?_)
  refine wpAny_bind (wpAny_pure (wpAny_bind (L0.at (wpAny_bind (L3.at ?_)))))
  show wpAny _ _ (holding [Value.builtin "object.__class__"] (call (.builtin "getset_descriptor.__get__") [.builtin "object.__class__", .ref x, .ref D]) >>= ret) _ _ _
  refine wpAny_bind (wpAny_holding (wpAny_call (class_get (s := ⟨hp, g, d, t + 1, os⟩) (ox := ox) (od := od) X I hm ?_)))
  refine wpAny_pure ?_
  show wpAny _ _ (handedOut (.ref D)) _ _ _
  rw [handedOut_of (v := .ref D) rfl]
  first
    | exact wpAny_pure (wpAny_pure h)
    | exact wpAny_pure h
    | exact wpAny_pure (wpAny_bind (wpAny_pure (wpAny_pure h)))
theorem kitx_excD {od : Option Obj} (hga : findIn K (.ref D) "__getattribute__" = some (some (.builtin "BaseException.__getattribute__"))) (hgt : findIn K (.ref D) "__getattr__" = some none) (hsub : subIn K (.ref D) (.type "BaseException") = some true) (hdct : hasDictIn K D = true) (ha : findIn K (.ref D) "__class__" = some (some (.builtin "object.__class__")))
    (hn : specialIn K (.builtin "object.__class__") "__get__" = some (some (.builtin "getset_descriptor.__get__"))) (htk : takesIn K (.builtin "object.__class__") = some true) (hm : mroIn K D (.type "object") = some true) :
    KitX K (.ref x) (.ref D) (fun h => InstAt h x ox D od) where
  ty := fun _ _ _ I => I.type
  it := fun _ _ X _ => by
    obtain ⟨cdD, hcD, _⟩ := any_some hdct
    unfold clsIn at hcD
    split at hcD
    · rename_i c' d' cd' sl' ho
      intro A' Q' E' s' k q
      unfold isType loadHead
      exact wpAny_bind (wpAny_loadPart (k _ _ (X _ _ ho)) (wpAny_pure q))
    · cases hcD
  ne := fun h tp dd its n sl X htp => by
    obtain ⟨cdD, hcD, _⟩ := any_some hdct
    refine Bool.eq_false_iff.mpr fun q => ?_
    have e : D = tp := Value.ref.inj (beq_iff_eq.mp q)
    subst e
    unfold clsIn at hcD
    split at hcD
    · rename_i c' d' cd' sl' ho
      have z := (X _ _ ho).symm.trans htp
      cases z
    · cases hcD
  ca := fun X I k => kin_classD hga hgt hsub hdct ha hn htk hm X I k
end
end PySem.W
namespace L2.Q
open PySem PySem.Spec PyProof.Rows StX
/-- at a: an exception that was caught and kept: its class, its dict -/
def exk (a : Addr) (cls : Value) (d : Option Addr) : HO := .ext fun h => ∃ oe vs, h.get? a = some oe ∧ Zc cls d oe ∧ oe.data = .fields vs
theorem exk_ok {P : Program} {w : World} {H : Hp} {h : Heap} {a : Addr} {cls : Value} {d : Option Addr} {oe : Obj} {vs : Array Value} (e : h.get? a = some oe) (hz : Zc cls d oe) (hd : oe.data = .fields vs) : ObjOk P w H h a (exk a cls d) :=
  ⟨⟨oe, vs, e, hz, hd⟩, ⟨_, e⟩, fun h1 h2 z k => by
    obtain ⟨oe, vs, e, hz, hd⟩ := z
    exact ⟨oe, vs, k _ e, hz, hd⟩⟩
theorem exk_at {P : Program} {w : World} {H : Hp} {h : Heap} {a : Addr} {cls : Value} {d : Option Addr} (hok : HOk P w H h) (he : H a = some (exk a cls d)) : ∃ oe vs, h.get? a = some oe ∧ Zc cls d oe ∧ oe.data = .fields vs := by
  have x : ObjOk P w H h a (.ext fun h => ∃ oe vs, h.get? a = some oe ∧ Zc cls d oe ∧ oe.data = .fields vs) := hok a _ he
  exact x.1
section
variable {X : Cx} {pins : List (Addr × Obj)} {σ : St} {H : Hp} {s : Shared}
theorem Inv.keepExc {a : Addr} {cls : Value} {d : Option Addr} {oe : Obj} {vs : Array Value} (I : Inv X pins σ H s) (e : s.heap.get? a = some oe) (hz : Zc cls d oe) (hd : oe.data = .fields vs) (na : H a = none) (n0 : X.s_0.heap.get? a = none) (nL : a ≠ X.env.locals) (np : ∀ p ∈ X.pn ++ pins, p.1 ≠ a) :
    Inv X pins σ (upd H a (exk a cls d)) s := by
  have h0 : ∀ b o, X.s_0.heap.get? b = some o → b ≠ a := fun b o q z => by rw [z, n0] at q; cases q
  have h1 : ∀ b o, H b = some o → b ≠ a := fun b o q z => by rw [z, na] at q; cases q
  refine ⟨I.ok, I.os, I.bare, ⟨I.base.keep, I.base.slot, fun b o q n hx => ?_, I.base.there, fun b xs q => ?_, fun b o u q => ?_, fun b ps q => ?_⟩, I.loc, I.cell, ?_, fun x c q => ?_, fun p hp => ?_, fun b ob q => ?_, I.len⟩
  · rw [upd_ne (h0 b o q)]
    exact I.base.free b o q n hx
  · have z := I.base.tups b xs q
    rw [upd_ne (h1 _ _ z)]
    exact z
  · have z := I.base.frzs b o u q
    rw [upd_ne (h1 _ _ z)]
    exact z
  · obtain ⟨more, z⟩ := I.base.tbls b ps q
    refine ⟨more, ?_⟩
    rw [upd_ne (h1 _ _ z)]
    exact z
  · rw [upd_ne (Ne.symm nL)]
    exact I.free
  · have nc : c ≠ a := fun z => by
      obtain ⟨v, o, ho, hv⟩ := I.cell x c q
      rw [z, e] at ho
      cases ho
      rw [hd] at hv
      cases hv
    rw [upd_ne nc]
    exact I.freeC x c q
  · obtain ⟨p1, p2, p3, p4, p5⟩ := I.pin p hp
    exact ⟨p1, by rw [upd_ne (np p hp)]; exact p2, p3, p4, p5⟩
  · by_cases hb : b = a
    · subst hb
      rw [upd_same] at q
      cases q
      exact exk_ok e hz hd
    · rw [upd_ne hb] at q
      exact (I.hok b ob q).stay (fun _ _ _ z => z) (fun c hc => by rw [upd_ne (h1 _ _ hc)]; exact hc) (fun c xs hc => by rw [upd_ne (h1 _ _ hc)]; exact hc)
/-- isinstance(e, c), e kept -/
def rIsK (K : PySem.W.Frag) : List V → Hp → VK → Prop := fun xs H Q => ∃ (a D : Addr) (d : Option Addr) (c : V) (cv : Value) (b : Bool), xs = [.ref a, c] ∧ H a = some (exk a (.ref D) d) ∧ ExcC K D ∧ ClsV c cv ∧ PySem.W.kitOne K (.ref D) cv = some b ∧
  (∀ dd, d = some dd → ∃ fs, H dd = some (.xd fs)) ∧ Q (.bl b) H
theorem exk_inst {a D : Addr} {d : Option Addr} (I : Inv X pins σ H s) (he : H a = some (exk a (.ref D) d)) (hd : ∀ dd, d = some dd → ∃ fs, H dd = some (.xd fs)) : ∃ oe od, PySem.W.InstAt s.heap a oe D od := by
  obtain ⟨oe, vs, e, hz, hv⟩ := exk_at I.hok he
  have nc : PySem.W.notCls oe = true := by unfold PySem.W.notCls; rw [hv] <;> rfl
  cases d with
  | none => exact ⟨oe, none, e, hz.1, nc, by rw [hz.2]; trivial⟩
  | some dd =>
    obtain ⟨fs, hdd⟩ := hd dd rfl
    have hx : ObjOk X.prog X.w H s.heap dd (.xd fs) := I.hok dd _ hdd
    obtain ⟨mA, hns, hr⟩ := hx
    obtain ⟨od, ho, hl⟩ := lookIn_ns hns
    exact ⟨oe, some od, e, hz.1, nc, by rw [hz.2]; exact ho⟩
theorem call_isK : CallR X (.builtin "isinstance") (rIsK X.K) := by
  intro pins s σ H xs us Q I r h
  obtain ⟨a, D, d, c, cv, b, rfl, ha, C, k, e, hd, q⟩ := h
  obtain ⟨u1, u2, rfl, r1, r2⟩ := vals2 r
  cases (show u1 = Value.ref a from r1)
  have e2 := k.eq r2
  subst e2
  obtain ⟨oe, od, J⟩ := exk_inst I ha hd
  exact PySem.W.kia_one (PySem.W.kitx_excD C.hg C.hk C.hs C.hd C.ha C.hn C.ht C.hm) I.kIn J e (fun z => nomatch z) fun tk => ⟨.bl b, H, I.tok tk, rfl, q⟩
/-- e.f, e kept -/
def tXk (K : PySem.W.Frag) (f : Str) (te : TE) : TE := fun σ H Q => te σ H fun x H1 => ∃ (a C dd : Addr) (fs : List (Str × V)) (v : V), x = .ref a ∧ H1 a = some (exk a (.ref C) (some dd)) ∧ XfC K C ∧ PySem.W.findIn K (.ref C) f = some none ∧ H1 dd = some (.xd fs) ∧ fs.lookup f = some v ∧ Q v H1
theorem pe_xk {e : Expr} {te : TE} {pos : Pos} {n : Str} (he : PE X e te) (hb : attributeBase e n X.env (eval e X.env) = eval e X.env := by rfl) : PE X (.Attribute e n pos) (tXk X.K n te) := by
  refine ⟨fun pins s σ H Q I h => ?_⟩
  refine attr_of hb (thn (he.run pins s σ H _ I h) fun u s1 hh => ?_)
  obtain ⟨x, H1, I1, rx, a, C, dd, fs, v, ex, ha, T, hno, ea, l, q⟩ := hh
  subst ex
  obtain rfl : u = Value.ref a := rx
  obtain ⟨oe, vs, e1, hz, hv⟩ := exk_at I1.hok ha
  have hx : ObjOk X.prog X.w H1 s1.heap dd (.xd fs) := I1.hok dd _ ea
  obtain ⟨mA, hns, hr⟩ := hx
  obtain ⟨od, ho, hl⟩ := lookIn_ns hns
  obtain ⟨u, hu, ru⟩ := RelO.some_of (v := v) (o := mA n) (by rw [← l]; exact hr n)
  have J : PySem.W.InstAt s1.heap a oe C (some od) := ⟨e1, hz.1, by unfold PySem.W.notCls; rw [hv] <;> rfl, by rw [hz.2]; exact ho⟩
  exact HandSPX.exc_get I1.kIn J T.ga T.gg T.exC (PySem.W.findObj_own T.hdC hno rfl (by rw [hl, hu])) (handed_of ru) ⟨v, H1, I1.tok _, ru, q⟩
end
/-! ### the rule -/
/-- what the clause 'except x as n: m = n' wishes: slot i is n's, slot j m's -/
def wKeep (K : PySem.W.Frag) (c : Value) (i j : Nat) (Wout : WX) (D : Ends) : WX := fun cls d σ H =>
  ∃ b, PySem.W.exmOne K cls c = some b ∧ (b = true → ∀ a, H a = none → D.nx (((σ.set i (some (.ref a))).set j (some (.ref a))).set i none) (upd H a (exk a cls d))) ∧ (b = false → Wout cls d σ H)
section
variable {X : Cx} {x n m : Str} {c : Value} {i j : Nat} {body : List Stmt} {np pos pos' : Pos} {tb : WX → TS} {Wout : WX} {q1 q2 q3 : Pos}
theorem ps_try_keep (hs : X.stack = X.env :: X.outer) (hf : X.env.frame = some X.env.locals) (hex : X.ex = []) (hN : X.N.Nodup) (hi : X.N[i]? = some n) (hj : X.N[j]? = some m) (hij : j ≠ i) (hln : X.env.kindOf n = some .local) (hlm : Loc X.env.scope m) (hlm2 : X.env.scope.names.lookup m = some .local) (hc : Names X x c) (tk : Takes X Wout)
    (hsw : swapsWith (.Name n q1) (some (.Name m q2)) q3.line X.env = pure false) (hnd : (n == ("__debug__" : Str)) = false) (hnc : (n == ("__classdict__" : Str)) = false)
    (hb : ∀ (W : WX) (pn : List (Addr × Obj)) (xe : Value → Shared → Prop), Takes (X.tr pn xe) W → PassesOwn (model X.prog X.w) X.A X.env xe → PSs (X.tr pn xe) body (tb W)) :
    PS X (.Try body [.ExceptHandler (some (.Name x np)) (some n) [.Assign [.Name m q2] (.Name n q1) q3] pos'] [] [] pos) (fun D σ H => tb (wKeep X.K c i j Wout D) D σ H) := by
  refine ⟨fun pins s σ H D I h => ?_⟩
  have ok := I.ok
  have hfr : X.A.frames = some (X.env :: X.outer) := by rw [ok.frames, hs]
  have hloc : Loc X.env.scope n := .inl hln
  refine wpAny_Try_except ?_
  refine wpAny_mono ((hb (wKeep X.K c i j Wout D) (X.pn ++ pins) (fun e s₁ => wpAny (model X.prog X.w) X.A (noteFrame e X.env) (fun _ s₂ => wpAny (model X.prog X.w) X.A (setFlight e none) (fun _ s₃ =>
    wpAny (model X.prog X.w) X.A (handleBy e X.env [.ExceptHandler (some (.Name x np)) (some n) [.Assign [.Name m q2] (.Name n q1) q3] pos']) (SP X pins D) X.xe s₃) X.xe s₂) X.xe s₁) (fun u s' xx => ?_) PassesOwn.looking).run [] s σ H D (I.toTry _) h) (fun f s1 hsp => ?_) (fun e s1 he => he)
  · -- the catch
    obtain ⟨a, B, sI, pins', σ', H', cls, d, rfl, J', nb, up, sky, na, os, ag, b, hb1, hyes, hno⟩ := xx
    have J : Inv X pins σ' H' sI := J'.ofTry ok
    have sky' : Sky B (X.env :: X.outer) a (Zc cls d) X.env.locals s'.heap := by rw [← hs]; exact sky
    show wpAny (model X.prog X.w) X.A (noteFrame (.ref a) X.env) _ _ _
    refine Sky.land Zc.steady hfr hf sky' fun h3 fl3 up3 => ?_
    have J3 : Inv X pins σ' H' { s' with heap := h3 } := J.landed nb fl3.1 (up.trans up3) os ag
    obtain ⟨oe3, vs3, he3, hz3, hd3⟩ := fl3.there
    have notFr : ∀ {h : Heap} {o : Obj} {vs : Array Value}, h.FunFrames B (X.env :: X.outer) → h.get? a = some o → o.data = .fields vs → a ∉ frs (X.env :: X.outer) := fun {h o vs} ff e dd hm => by
      obtain ⟨_, o', e', hnf⟩ := ff.mem hm
      rw [e] at e'; cases e'
      exact hnf _ dd
    have nfr := notFr fl3.2.2.1 he3 hd3
    have nL : a ≠ X.env.locals := fun z => nfr (List.mem_filterMap.mpr ⟨X.env, List.mem_cons_self, by rw [hf, z]⟩)
    have nF : a ∉ X.fs := fun hm => by
      obtain ⟨e, he, q⟩ := List.mem_filterMap.mp hm
      exact nfr (List.mem_filterMap.mpr ⟨e, List.mem_cons_of_mem _ he, q⟩)
    have S3 := J3.suite he3 hd3 na nL nF
    refine wpAny_handleBy_cons (codeAny_handlers_test ?_) (by intro q; cases q)
    have LT : PySem.W.Looks (model X.prog X.w) h3 (typeOf (.ref a)) cls := fun A Q E s k q => wpAny_typeOf_ref (k _ _ he3) (by rw [hz3.1]; exact q)
    have LM := PySem.W.exm_one (M := model X.prog X.w) (J3.kIn) LT hb1
    have test : ∀ {Q : Value → Shared → Prop} {E : Value → Shared → Prop}, Q c { s' with heap := h3 } → wpAny (model X.prog X.w) (X.A.mark (some (.ref a))) (eval (.Name x np) X.env) Q E { s' with heap := h3 } := fun {Q E} q => by
      obtain ⟨hg, hdbg, hm | ⟨hm, hv, hnn⟩⟩ := hc
      · exact ld_glob (X := X.suite a ((a, oe3) :: (X.pn ++ pins))) S3 hg hm q hdbg
      · exact ld_blt (X := X.suite a ((a, oe3) :: (X.pn ++ pins))) S3 hg hm hv q hnn hdbg
    refine test (LM.here ?_)
    cases b with
    | true =>
      refine codeAny_handlers_suite_as ?_
      refine HandSPX.lands_againZ fl3 fun h4 fl4 up4 => ?_
      have J4 : Inv X pins σ' H' { s' with heap := h4 } := J.landed nb fl4.1 ((up.trans up3).trans up4) os ag
      obtain ⟨oe4, vs4, he4, hz4, hd4⟩ := fl4.there
      have S4 := J4.suite he4 hd4 na nL nF
      refine store_ok (X := X.suite a ((a, oe4) :: (X.pn ++ pins))) (v := .ref a) S4 hN hi hloc rfl (fun s5 S5 => ?_) (.inr hln)
      have nsI : sI.heap.get? a = none := by
        cases z : sI.heap.get? a with
        | none => rfl
        | some o =>
          have z2 := nb a o z (by rw [hs]; exact nfr)
          rw [fl4.2.1] at z2
          cases z2
      have ns0 : X.s_0.heap.get? a = none := by
        cases z : X.s_0.heap.get? a with
        | none => rfl
        | some o =>
          obtain ⟨o', z2⟩ := J.base.there a o z (by rw [hex]; simp)
          rw [nsI] at z2
          cases z2
      have npin : ∀ p ∈ X.pn ++ pins, p.1 ≠ a := fun p hp z => by
        have := (J.pin p hp).1
        rw [z, nsI] at this
        cases this
      have set_ : PS (X.suite a ((a, oe4) :: (X.pn ++ pins))) (.Assign [.Name m q2] (.Name n q1) q3) (tAsg (tVar i) (gName j)) := ps_set hN hj hlm (pe_var hi (.inl hln) hnd hnc) hsw (.inr hlm2)
      refine wpAny_mono ((pss_one set_).run [] s5 _ H' { nx := fun σ6 H6 => σ6 = (σ'.set i (some (.ref a))).set j (some (.ref a)) ∧ H6 = H', rt := fun _ _ => False, bk := fun _ _ => False, ct := fun _ _ => False } S5 ⟨.ref a, ?_, rfl, rfl⟩) (fun f s6 hsp => ?_) (fun _ _ z => False.elim z)
      · have hlt : i < σ'.length := by rw [J.len]; exact (List.getElem?_eq_some_iff.mp hi).1
        simp [hlt]
      have end_ : ∀ {σ6 : St} {H6 : Hp} {Q : Shared → Prop}, Inv (X.suite a ((a, oe4) :: (X.pn ++ pins))) [] σ6 H6 s6 → (∀ s7, Inv (X.suite a ((a, oe4) :: (X.pn ++ pins))) [] (σ6.set i none) H6 s7 → Q s7) →
          wpAny (model X.prog X.w) X.A (do bindName X.env n .none; unbindBehindTheSuite X.env n pos') (fun _ s7 => Q s7) X.xe s6 := fun {σ6 H6 Q} S6 hq => gone_ok (X := X.suite a ((a, oe4) :: (X.pn ++ pins))) S6 hN hi hln hq
      cases f with
      | next =>
        obtain ⟨σ6, H6, S6, e6, eH⟩ := hsp
        subst e6 eH
        refine end_ S6 fun s7 S7 => ?_
        obtain ⟨g1, g2, g3, g4, g5⟩ := S7.pin (a, oe4) (List.mem_append_left _ List.mem_cons_self)
        exact ⟨_, _, Q.Inv.keepExc (S7.unsuite ok) g1 hz4 hd4 g2 ns0 nL npin, hyes rfl a na⟩
      | brk =>
        obtain ⟨_, _, _, q6⟩ := hsp
        exact (show False from q6).elim
      | cont =>
        obtain ⟨_, _, _, q6⟩ := hsp
        exact (show False from q6).elim
      | ret u =>
        obtain ⟨_, _, _, _, _, q6⟩ := hsp
        exact (show False from q6).elim
    | false =>
      show wpAny _ X.A (handleBy (.ref a) X.env []) _ _ _
      refine wpAny_handleBy_nil ?_
      obtain ⟨k1, k2, k3, oe, vs, T, oT, ts', he, hz, hd, h1, hr⟩ := id fl3
      unfold PySem.passOn
      refine wpAny_bind (wpAny_field he hd h1 ?_)
      rw [if_neg (show ¬ ((Value.ref T == Value.none) = true) from by simp)]
      have fin : wpAny (model X.prog X.w) X.A (setFlight (.ref a) X.env.frame) (fun _ s4 => wpAny (model X.prog X.w) X.A (throw (.ref a) : Sem Flow) (SP X pins D) X.xe s4) X.xe { s' with heap := h3 } := by
        rw [hf]
        refine HandSPX.setFlight_upZ fl3 fun h4 hh4 up4 => wpAny_throw (tk _ _ ?_)
        exact ⟨a, B, sI, pins, σ', H', cls, d, rfl, J, nb, (up.trans up3).trans up4, .inr (.inr (by rw [hs]; exact hh4)), na, os, ag, hno rfl⟩
      first
        | exact wpAny_bind (wpAny_pure (wpAny_bind fin))
        | exact wpAny_bind fin
  · cases f with
    | next =>
      obtain ⟨σ', H', J', q⟩ := hsp
      exact wpAny_execs_nil ⟨σ', H', J'.ofTry ok, q⟩
    | brk =>
      obtain ⟨σ', H', J', q⟩ := hsp
      exact ⟨σ', H', J'.ofTry ok, q⟩
    | cont =>
      obtain ⟨σ', H', J', q⟩ := hsp
      exact ⟨σ', H', J'.ofTry ok, q⟩
    | ret u =>
      obtain ⟨v, σ', H', J', r, q⟩ := hsp
      exact ⟨v, σ', H', J'.ofTry ok, r, q⟩
end
end L2.Q
set_option maxRecDepth 100000
set_option maxHeartbeats 4000000
/-! == [], == (), count of bools, text * int, f(k = v). -/
namespace L2.Q
open PySem PySem.Spec PyProof.Rows StX
section
variable {X : Cx}
theorem eqNil_raw {I : Nat} {A : Around} {s : Shared} {l b : Addr} {its : List Value} (hl : s.heap.IsList l its.toArray) (hb : s.heap.IsList b ([] : List Value).toArray) (hu : A.units < cLine) : SeqAt.RcAt A s (.ref l) (.ref b) its.isEmpty := by
  cases its with
  | nil =>
    have := SeqAt.RcAt.lists (A := A) (e := fun _ => true) hl hb rfl hu fun j h1 _ => absurd h1 (by simp)
    exact this
  | cons x r => exact SeqAt.RcAt.lists_lengths hl hb (by simp) hu
/-- a list == [] -/
def rEqNil (K : PySem.W.Frag) : R2 := fun x y H Q => ∃ a b xs, x = .ref a ∧ y = .ref b ∧ SqL K H a xs ∧ H b = some (.lst []) ∧ Q (.bl xs.isEmpty) H
def rNeNil (K : PySem.W.Frag) : R2 := fun x y H Q => ∃ a b xs, x = .ref a ∧ y = .ref b ∧ SqL K H a xs ∧ H b = some (.lst []) ∧ Q (.bl (!xs.isEmpty)) H
theorem isEmpty_len {α β : Type} {l : List α} {m : List β} (h : l.length = m.length) : l.isEmpty = m.isEmpty := by
  cases l <;> cases m <;> simp_all
theorem op_eqNil (hu : X.A.units < cLine) : OpR X (compareOp .Eq) (rEqNil X.K) := by
  intro pins s σ H x y v u Q I rx ry ⟨a, b, xs, e1, e2, hs, hb, q⟩
  subst e1 e2
  cases rx
  cases ry
  obtain ⟨its, rv, p, hz⟩ := I.list hs
  obtain ⟨its2, r2, p2, _⟩ := I.list (SqL.of (K := X.K) hb)
  cases r2
  exact eqNil_raw (I := 0) p.isList p2.isList hu X.prog X.w X.xe _ ⟨.bl xs.isEmpty, H, I, by rw [isEmpty_len rv.length]; rfl, q⟩
theorem op_neNil (hu : X.A.units < cLine) : OpR X (compareOp .NotEq) (rNeNil X.K) := by
  intro pins s σ H x y v u Q I rx ry ⟨a, b, xs, e1, e2, hs, hb, q⟩
  subst e1 e2
  cases rx
  cases ry
  obtain ⟨its, rv, p, hz⟩ := I.list hs
  obtain ⟨its2, r2, p2, _⟩ := I.list (SqL.of (K := X.K) hb)
  cases r2
  have hE : SeqAt.RcNeAt X.A s (.ref a) (.ref b) (!its.isEmpty) := by
    cases its with
    | nil => exact SeqAt.RcNeAt.lists (A := X.A) (e := fun _ => true) p.isList p2.isList rfl hu fun j h1 _ => absurd h1 (by simp)
    | cons x r => exact SeqAt.RcNeAt.lists_lengths p.isList p2.isList (by simp) hu
  exact hE X.prog X.w X.xe _ ⟨.bl (!xs.isEmpty), H, I, by rw [isEmpty_len rv.length]; rfl, q⟩
/-- a tuple == () -/
def rEqNilT (K : PySem.W.Frag) : R2 := fun x y H Q => ∃ a b xs, x = .ref a ∧ y = .ref b ∧ SqT K H a xs ∧ SqT K H b [] ∧ Q (.bl xs.isEmpty) H
theorem op_eqNilT (hu : X.A.units < cLine) : OpR X (compareOp .Eq) (rEqNilT X.K) := by
  intro pins s σ H x y v u Q I rx ry ⟨a, b, xs, e1, e2, hs, hb, q⟩
  subst e1 e2
  cases rx
  cases ry
  obtain ⟨its, rv, p, hz⟩ := I.tuple hs
  obtain ⟨its2, r2, p2, _⟩ := I.tuple hb
  cases r2
  have hE := SeqAt.RcAt.tuples (A := X.A) (e := fun _ => true) p p2 hu fun j h1 h2 => absurd h2 (by simp)
  refine hE X.prog X.w X.xe _ ⟨.bl xs.isEmpty, H, I, ?_, q⟩
  rw [isEmpty_len rv.length]
  cases its <;> simp [RelV]
/-- a text times an int -/
def rRepS : R2 := fun x y H Q => ∃ z n, x = .str z ∧ y = .int n ∧ 2 ≤ n ∧ n ≤ 1000 ∧ 1 ≤ z.length ∧ z.length ≤ 1000 ∧ Q (.str ⟨(List.replicate n.toNat z.cps).foldl (· ++ ·) #[]⟩) H
theorem rep_size {z : Array Nat} : ∀ (n : Nat) (acc : Array Nat), (List.foldl (fun x1 x2 => x1 ++ x2) acc (List.replicate n z)).size = acc.size + n * z.size
  | 0, acc => by simp
  | n + 1, acc => by
    rw [List.replicate_succ, List.foldl_cons, rep_size n (acc ++ z), Array.size_append, Nat.add_mul]
    omega
theorem op_repS : OpR X (binaryOp .Mult) rRepS := by
  intro pins s σ H x y v u Q I rx ry ⟨z, n, e1, e2, h1, h2, h3, h4, q⟩
  subst e1 e2
  obtain ⟨t, rfl⟩ := rx
  obtain ⟨t2, rfl⟩ := ry
  refine PySem.P.mul_str (by simp; omega) (fun _ _ => ?_) (fun _ _ => ?_) ?_
  · have : ((2 ^ 63 - 1) / n : Int) ≥ 1000 := by
      have : (1000 : Int) * n ≤ 2 ^ 63 - 1 := by omega
      exact Int.le_ediv_of_mul_le (by omega) this
    omega
  · unfold Builtin.Str.tooLong
    have : z.length * n.toNat ≤ 1000 * 1000 := Nat.mul_le_mul h4 (by omega)
    have h5 : sizeLine = 16777216 := sizeLine_eq
    simp
    omega
  · rw [if_neg (by omega), if_neg (by simp; omega)]
    refine ⟨?_, .str _, H, I.tok _, ⟨_, rfl⟩, q⟩
    show (List.foldl (fun x1 x2 => x1 ++ x2) #[] (List.replicate n.toNat z.cps)).size ≤ sizeLine
    rw [rep_size]
    have : z.length * n.toNat ≤ 1000 * 1000 := Nat.mul_le_mul h4 (by omega)
    have h5 : sizeLine = 16777216 := sizeLine_eq
    have h6 : n.toNat * z.cps.size = z.length * n.toNat := Nat.mul_comm _ _
    simp only [Array.size_empty]
    omega
/-! ### list.count(True) of bools -/
def eqbT (v : Value) : Bool := match v with
  | .bool b => b == true
  | _ => false
def rCntB (K : PySem.W.Frag) : V → List V → Hp → VK → Prop := fun x xs H Q => ∃ (p : Addr) (bs : List Bool), x = .ref p ∧ xs = [.bl true] ∧ SqL K H p (bs.map V.bl) ∧ Q (.int (bs.count true : Nat)) H
theorem vals_bools : ∀ {bs : List Bool} {us : List Value}, Vals (bs.map V.bl) us → us = bs.map Value.bool
  | [], _, .nil => rfl
  | _ :: _, _, .cons h t => by
    have e := vals_bools t
    rw [e]
    cases h
    rfl
theorem mt_countB : MtR X "list.count" (rCntB X.K) := by
  intro pins s σ H x xs v us Q I rx rxs h
  obtain ⟨p, bs, rfl, rfl, hs, q⟩ := h
  cases rx
  obtain ⟨u, rfl, ru⟩ := rxs.one
  cases ru
  obtain ⟨its, rv, ⟨⟨cls, dd, data, sl⟩, n, ho, hc, hdn, hd⟩, hlen⟩ := I.list hs
  simp only at hc hd
  subst hc hd
  have ei := vals_bools rv
  subst ei
  refine call_meets PySem.F.slot_list_count ⟨_, ho, rfl⟩ PySem.F.entry_list_count (PySem.F.args_list_count_2 _ _)
    (SeqAt.list_countAt p (bs.map Value.bool).toArray n dd sl (.bool true) eqbT) ⟨ho, fun y hy => ?_, ?_⟩
  · have hy' : y ∈ bs.map Value.bool := by simpa using hy
    obtain ⟨b, _, rfl⟩ := List.mem_map.mp hy'
    exact eqAt_V (y := .bl b) (x := .bl true) rfl rfl rfl rfl
  · have ec : ∀ l : List Bool, (l.map Value.bool).countP eqbT = l.count true := fun l => by
      induction l with
      | nil => rfl
      | cons a r ih => rw [List.map_cons, List.countP_cons, List.count_cons, ih]; rfl
    refine ⟨.int (bs.count true : Nat), H, I.tok _, ⟨s.toks, ?_⟩, q⟩
    show Value.int ((((bs.map Value.bool).toArray.toList).countP eqbT : Nat) : Int) s.toks = Value.int ((bs.count true : Nat) : Int) s.toks
    rw [ec bs]
/-! ### f(k = v, ..) without values by positions -/
variable {CX : CXT} {k : Nat} {f : Addr} {fd : FuncData} {ps ks : List Str} {sp : Sp} {E : XK} {x : Str} {p pos : Pos} {kws : List Keyword} {tk : TA}
def tCallKw (sp : Sp) (E : XK) (n : Nat) (tk : TA) : TE := fun σ H Q => tk σ H fun zs H2 => zs.length = n ∧ sp zs H2 Q E
theorem pe_callKw (F : FnOk X.prog X.w X.K X.mg X.base CX k f fd ps sp) (hr : Room k X.A) (hg : Gl X x) (hm : X.mg x = some (.ref f)) (hk : PySem.W.keepIn X.K (.ref f) = true)
    (hb : ∀ (s : Shared) (ws : List Value), X.K.In s.heap → ws.length = ks.length → BindsTo s fd ⟨[], ks.zip ws⟩ (ps.zip ws)) (hx : Passes CX X E)
    (hkw : PK X kws tk) (hall : (backToKw pos (keywordEach kws X.env)).all (·.1.isSome) = true := by rfl) (hks : (backToKw pos (keywordEach kws X.env)).filterMap (·.1) = ks := by rfl)
    (hdb : (x == ("__debug__" : Str)) = false := by decide) (hpl : ((backTo pos (starEach [] X.env)).any (·.1) || (backToKw pos (keywordEach kws X.env)).any (·.1.isNone)) = false := by rfl) :
    PE X (.Call (.Name x p) [] kws pos) (tCallKw sp E ks.length tk) := by
  refine ⟨fun pins s σ H Q I h => ?_⟩
  refine wpAny_Call_Name_kw (ld_glob I hg hm ?_ hdb)
  refine PySem.W.callWith_KW0 (h₀ := X.base) I.ok.mod.kin hk hall ?_ hpl
  refine thn (hkw.run pos pins s σ H _ I h) fun ws s2 ⟨zs, H2, I2, rz, l2, q2⟩ => ⟨I2.kIn, ?_⟩
  rw [hks]
  refine wpAny_call (codeAny_mono (F.run X.A X.stack s2 H2 ⟨[], ks.zip ws⟩ ws zs Q E hr I2.env0 (hb s2 ws I2.kIn (rz.length.symm.trans l2)) rz q2) fun r s' hq => ?_)
  cases r with
  | error e => exact hx pins σ H2 s2 e s' I2 hq
  | ok fl =>
    cases fl with
    | ret u => exact I2.after hq
    | next => exact False.elim hq
    | brk => exact False.elim hq
    | cont => exact False.elim hq
/-- a def whose body is proved: its promise as FnOk (called by keywords) -/
theorem fnokx {P : Program} {w : World} {K : PySem.W.Frag} {mg : Str → Option Value} {base : Heap} {N ps : List Str} {k : Nat} {sp : Sp} {x qual : Str} {st : Stmt} {f : Addr} (F : ∃ fd, FunD K x qual (defArgs st) (defBody st) (defScope st) [] [] f fd) (S : FnScope N ps (defScope st)) (len : ∀ vs H Q E, sp vs H Q E → vs.length = ps.length) (ks : List Str)
    (hb0 : ∀ (kV doc pm : Value) (an : Option Addr) (cdv ct : Value) (us : List Value), us.length = ps.length → bindArgs (PySem.W.fnOf x qual (defArgs st) (defBody st) (defScope st) .none kV doc pm an cdv ct) ⟨us, []⟩ = pure (ps.zip us))
    (hb : ∀ (kV doc pm : Value) (an : Option Addr) (cdv ct : Value) (us : List Value), us.length = ks.length → bindArgs (PySem.W.fnOf x qual (defArgs st) (defBody st) (defScope st) .none kV doc pm an cdv ct) ⟨[], ks.zip us⟩ = pure (ps.zip us))
    (hbody : ∀ (cdv : Value) (A : Around) (outer : List Env) (s : Shared) (H : Hp) (vs : List V) (Q : VK) (E : XK), Room k (A.deeper (envOfC qual (defScope st) s.heap.objs.size f cdv)) → sp vs H Q E →
      ∃ t, PSs (cxOf (L2.CX P w) P w K mg base N qual (defScope st) f cdv A outer s H E) (defBody st) t ∧ t { nx := fun _ H' => Q .non H', rt := Q } (start N vs) H) :
    (∃ fd, FnOk P w K mg base (L2.CX P w) (k + 1) f fd ps sp ∧ ∀ (s : Shared) (ws : List Value), K.In s.heap → ws.length = ks.length → BindsTo s fd ⟨[], ks.zip ws⟩ (ps.zip ws)) ∧ FnR P w K mg base (L2.CX P w) (k + 1) f sp := by
  refine ⟨?_, fnrx F S len hb0 hbody⟩
  obtain ⟨fd, F⟩ := F
  refine ⟨fd, F.ok S len fun cdv A outer s H vs Q E hr h => hbody cdv A outer s H vs Q E hr h, fun s ws X hl => ?_⟩
  obtain ⟨oc, od, dV, kV, doc, pm, an, cdv, ct, osl, rfl, lk, hcd, hD, hK⟩ := F.ex
  have ed : dV = .none := by
    rcases hD with ⟨_, e⟩ | ⟨e, _⟩
    · exact e
    · exact absurd rfl e
  subst ed
  exact BindsTo.of_eq (hb kV doc pm an cdv ct ws hl)
/-- a def(a, .., *rest) that raises nothing -/
theorem fnstar {P : Program} {w : World} {K : PySem.W.Frag} {mg : Str → Option Value} {base : Heap} {N ps : List Str} {pv : Str} {k : Nat} {sp : Sp} {x qual : Str} {st : Stmt} {f : Addr} (F : ∃ fd, FunD K x qual (defArgs st) (defBody st) (defScope st) [] [] f fd) (S : FnScope N (ps ++ [pv]) (defScope st))
    (hb : ∀ (kV doc pm : Value) (an : Option Addr) (cdv ct : Value) (us rest : List Value), us.length = ps.length → bindArgs (PySem.W.fnOf x qual (defArgs st) (defBody st) (defScope st) .none kV doc pm an cdv ct) ⟨us ++ rest, []⟩ = (newTuple rest >>= fun t => pure (ps.zip us ++ [(pv, t)])))
    (hbody : ∀ (cdv : Value) (A : Around) (outer : List Env) (s : Shared) (H : Hp) (vs : List V) (Q : VK) (E : XK), Room k (A.deeper (envOfC qual (defScope st) s.heap.objs.size f cdv)) → sp vs H Q E →
      ∃ t, PSs (cxOf CX0 P w K mg base N qual (defScope st) f cdv A outer s H E).nox (defBody st) t ∧ t { nx := fun _ H' => Q .non H', rt := Q } (start N vs) H) :
    FnR P w K mg base CX0 (k + 1) f (fun vs H Q E => ∃ ws rest, vs = ws ++ rest ∧ ws.length = ps.length ∧ rest.length ≤ sizeLine ∧ ∀ p, H p = Option.none → sp (ws ++ [V.ref p]) (upd H p (.tup rest)) Q E) := by
  obtain ⟨fd, F⟩ := F
  obtain ⟨oc, od, dV, kV, doc, pm, an, cdv, ct, osl, rfl, lk, hcd, hD, hK⟩ := F.ex
  have ed : dV = .none := by
    rcases hD with ⟨_, e⟩ | ⟨e, _⟩
    · exact e
    · exact absurd rfl e
  subst ed
  exact fn_star lk hcd S cxUp_none (fun us rest hl => hb kV doc pm an cdv ct us rest hl) fun A outer s H vs Q E hr h => by
    obtain ⟨t, h1, h2⟩ := hbody cdv A outer s H vs Q E hr h
    exact ⟨t, h1.nox, h2⟩
end
end L2.Q
set_option maxRecDepth 100000
set_option maxHeartbeats 2000000
/-! Papers as plain data, and how a heap shows them. -/
namespace Pp
open PySem PySem.Spec PyProof.Rows L2
inductive PK where
  | paper | denial | code | family | alike | unlike | stays | spoilt | holds | breaks | guards | checked | broken
  deriving DecidableEq
/-- the class's name -/
def PK.name : PK → Str
  | .paper => "Paper" | .denial => "Denial" | .code => "Code" | .family => "Family" | .alike => "Alike" | .unlike => "Unlike" | .stays => "Stays" | .spoilt => "Spoilt" | .holds => "Holds" | .breaks => "Breaks" | .guards => "Guards" | .checked => "Checked" | .broken => "Broken"
/-- the paper's word -/
def PK.word : PK → Str
  | .paper => "paper" | .denial => "denial" | .code => "code" | .family => "family" | .alike => "alike" | .unlike => "unlike" | .stays => "stays" | .spoilt => "spoilt" | .holds => "holds" | .breaks => "breaks" | .guards => "guards" | .checked => "checked" | .broken => "broken"
/-- its table entry: how many parts -/
def PK.size : PK → Option Nat
  | .paper => none | .denial => none | .code => some 2 | .family => some 2 | .alike => some 1 | .unlike => some 2 | .stays => some 1 | .spoilt => some 2 | .holds => some 1 | .breaks => some 1 | .guards => some 2 | .checked => some 1 | .broken => some 2
/-- its truth -/
def PK.tru : PK → Bool
  | .denial => false | .unlike => false | .spoilt => false | .breaks => false | .broken => false | _ => true
inductive D where
  | non
  | bl (b : Bool)
  | int (z : Int)
  | str (s : Str)
  | tup (xs : List D)
  | lst (xs : List D)
  | dct
  | pap (c : PK) (xs : List D)
/-! ### how a heap shows them; L: lists may be within -/
mutual
inductive Rep (K : PySem.W.Frag) : Bool → Hp → V → D → Prop where
  | non {L : Bool} {H : Hp} : Rep K L H .non .non
  | bl {L : Bool} {H : Hp} {b : Bool} : Rep K L H (.bl b) (.bl b)
  | int {L : Bool} {H : Hp} {z : Int} : Rep K L H (.int z) (.int z)
  | str {L : Bool} {H : Hp} {s : Str} : Rep K L H (.str s) (.str s)
  | tup {L : Bool} {H : Hp} {a : Addr} {vs : List V} {xs : List D} (e : H a = some (.tup vs)) (l : vs.length ≤ 4000) (r : Reps K L H vs xs) : Rep K L H (.ref a) (.tup xs)
  | lst {H : Hp} {a : Addr} {vs : List V} {xs : List D} (e : H a = some (.lst vs)) (l : vs.length ≤ 4000) (r : Reps K true H vs xs) : Rep K true H (.ref a) (.lst xs)
  | dct {L : Bool} {H : Hp} {a : Addr} {kvs : List (Key × V)} (e : H a = some (.dK kvs)) : Rep K L H (.ref a) .dct
  | pap {L : Bool} {H : Hp} {a dx p : Addr} {c : PK} {fs : List (Str × V)} {vs : List V} {xs : List D} (e : H a = some (.ins (He.ga K c.name) dx fs)) (w : fs.lookup ("word" : Str) = some (.str c.word)) (q : fs.lookup ("parts" : Str) = some (.ref p))
      (m : fs.lookup ("__eq__" : Str) = none ∧ fs.lookup ("__bool__" : Str) = none) (e2 : H p = some (.tup vs)) (l : vs.length ≤ 4000) (r : Reps K false H vs xs) : Rep K L H (.ref a) (.pap c xs)
inductive Reps (K : PySem.W.Frag) : Bool → Hp → List V → List D → Prop where
  | nil {L : Bool} {H : Hp} : Reps K L H [] []
  | cons {L : Bool} {H : Hp} {v : V} {d : D} {vs : List V} {ds : List D} (h : Rep K L H v d) (t : Reps K L H vs ds) : Reps K L H (v :: vs) (d :: ds)
end
section
variable {K : PySem.W.Frag} {L : Bool} {H H' : Hp} {v : V} {d : D} {vs ws : List V} {ds es : List D}
/-- objects that no paper's code writes -/
def Imm : HO → Prop
  | .tup _ => True
  | .dK _ => True
  | .ins _ _ fs => ∃ v, fs.lookup ("parts" : Str) = some v
  | _ => False
/-- what is kept of such objects -/
def ImmGr (H H' : Hp) : Prop := ∀ b o, Imm o → H b = some o → H' b = some o
theorem ImmGr.of (h : Ext H H') : ImmGr H H' := fun b o _ e => h b o e
theorem ImmGr.trans {H1 : Hp} (a : ImmGr H H1) (b : ImmGr H1 H') : ImmGr H H' := fun c o i e => b c o i (a c o i e)
mutual
theorem Rep.ext (h : Ext H H') : ∀ {L v d}, Rep K L H v d → Rep K L H' v d
  | _, _, _, .non => .non
  | _, _, _, .bl => .bl
  | _, _, _, .int => .int
  | _, _, _, .str => .str
  | _, _, _, .tup e l r => .tup (h _ _ e) l (r.ext h)
  | _, _, _, .lst e l r => .lst (h _ _ e) l (r.ext h)
  | _, _, _, .dct e => .dct (h _ _ e)
  | _, _, _, .pap e w q m e2 l r => .pap (h _ _ e) w q m (h _ _ e2) l (r.ext h)
theorem Reps.ext (h : Ext H H') : ∀ {L vs ds}, Reps K L H vs ds → Reps K L H' vs ds
  | _, _, _, .nil => .nil
  | _, _, _, .cons a t => .cons (a.ext h) (t.ext h)
end
mutual
theorem Rep.imm (h : ImmGr H H') : ∀ {v d}, Rep K false H v d → Rep K false H' v d
  | _, _, .non => .non
  | _, _, .bl => .bl
  | _, _, .int => .int
  | _, _, .str => .str
  | _, _, .tup e l r => .tup (h _ _ trivial e) l (r.imm h)
  | _, _, .dct e => .dct (h _ _ trivial e)
  | _, _, .pap e w q m e2 l r => .pap (h _ _ ⟨_, q⟩ e) w q m (h _ _ trivial e2) l (r.imm h)
theorem Reps.imm (h : ImmGr H H') : ∀ {vs ds}, Reps K false H vs ds → Reps K false H' vs ds
  | _, _, .nil => .nil
  | _, _, .cons a t => .cons (a.imm h) (t.imm h)
end
/-- .. lists too -/
def ImmL (H H' : Hp) : Prop := ∀ b o, (Imm o ∨ ∃ xs, o = .lst xs) → H b = some o → H' b = some o
mutual
theorem Rep.immL (h : ImmL H H') : ∀ {L v d}, Rep K L H v d → Rep K L H' v d
  | _, _, _, .non => .non
  | _, _, _, .bl => .bl
  | _, _, _, .int => .int
  | _, _, _, .str => .str
  | _, _, _, .tup e l r => .tup (h _ _ (.inl trivial) e) l (r.immL h)
  | _, _, _, .lst e l r => .lst (h _ _ (.inr ⟨_, rfl⟩) e) l (r.immL h)
  | _, _, _, .dct e => .dct (h _ _ (.inl trivial) e)
  | _, _, _, .pap e w q m e2 l r => .pap (h _ _ (.inl ⟨_, q⟩) e) w q m (h _ _ (.inl trivial) e2) l (r.immL h)
theorem Reps.immL (h : ImmL H H') : ∀ {L vs ds}, Reps K L H vs ds → Reps K L H' vs ds
  | _, _, _, .nil => .nil
  | _, _, _, .cons a t => .cons (a.immL h) (t.immL h)
end
theorem ImmL.imm (h : ImmL H H') : ImmGr H H' := fun b o i e => h b o (.inl i) e
/-- an instance without parts is written -/
theorem immL_ins {a C dx : Addr} {fs : List (Str × V)} {o : HO} (h : H a = some (.ins C dx fs)) (n : fs.lookup ("parts" : Str) = none) : ImmL H (upd H a o) := fun b u i e => by
  have hb : b ≠ a := fun z => by
    rw [z, h] at e
    cases e
    rcases i with ⟨v, i⟩ | ⟨xs, i⟩
    · rw [n] at i; cases i
    · cases i
  rw [upd_ne hb]
  exact e
mutual
theorem Rep.up : ∀ {v d}, Rep K false H v d → ∀ {L}, Rep K L H v d
  | _, _, .non, _ => .non
  | _, _, .bl, _ => .bl
  | _, _, .int, _ => .int
  | _, _, .str, _ => .str
  | _, _, .tup e l r, _ => .tup e l r.up
  | _, _, .dct e, _ => .dct e
  | _, _, .pap e w q m e2 l r, _ => .pap e w q m e2 l r
theorem Reps.up : ∀ {vs ds}, Reps K false H vs ds → ∀ {L}, Reps K L H vs ds
  | _, _, .nil, _ => .nil
  | _, _, .cons a t, _ => .cons a.up t.up
end
theorem Reps.length : ∀ {L vs ds}, Reps K L H vs ds → vs.length = ds.length
  | _, _, _, .nil => rfl
  | _, _, _, .cons _ t => by rw [List.length_cons, List.length_cons, t.length]
theorem Reps.get : ∀ {L vs ds}, Reps K L H vs ds → ∀ {i : Nat} {v}, vs[i]? = some v → ∃ d, ds[i]? = some d ∧ Rep K L H v d
  | _, _, _, .nil, i, v, e => by simp at e
  | _, _, _, .cons h t, 0, v, e => by simp at e; subst e; exact ⟨_, rfl, h⟩
  | _, _, _, .cons h t, i + 1, v, e => by simpa using t.get (by simpa using e)
theorem Reps.append (a : Reps K L H vs ds) (b : Reps K L H ws es) : Reps K L H (vs ++ ws) (ds ++ es) := by
  induction vs generalizing ds with
  | nil => cases a; exact b
  | cons v vs ih =>
    cases a with
    | cons h t => exact .cons h (ih t)
theorem Reps.one (h : Rep K L H v d) : Reps K L H [v] [d] := .cons h .nil
theorem Reps.two {w : V} {e : D} (h : Rep K L H v d) (g : Rep K L H w e) : Reps K L H [v, w] [d, e] := .cons h (.cons g .nil)
end
/-- everything but the object at a is as it was -/
def ExtB (a : Addr) (H H' : Hp) : Prop := ∀ b o, b ≠ a → H b = some o → H' b = some o
theorem ExtB.trans {a : Addr} {H H1 H2 : Hp} (x : ExtB a H H1) (y : ExtB a H1 H2) : ExtB a H H2 := fun b o n e => y b o n (x b o n e)
theorem ExtB.of {a : Addr} {H H1 : Hp} (x : Ext H H1) : ExtB a H H1 := fun b o _ e => x b o e
theorem ExtB.upd {a : Addr} {H : Hp} {o : HO} : ExtB a H (upd H a o) := fun b u n e => by rw [upd_ne n]; exact e
theorem putF_lt {f : Str} {v : V} {n : Nat} : ∀ {fs : List (Str × V)}, fs.length + 1 < n → (putF f v fs).length < n
  | [], h => by simpa [putF] using h
  | (g, x) :: r, h => by
    unfold putF
    split
    · simp at h ⊢; omega
    · have := putF_lt (f := f) (v := v) (n := n - 1) (fs := r) (by simp at h; omega)
      simp at h ⊢
      omega
/-! ### plain functions -/
mutual
/-- nesting -/
def D.dep : D → Nat
  | .tup xs => depL xs + 1
  | .lst xs => depL xs + 1
  | .pap _ xs => depL xs + 1
  | _ => 0
def depL : List D → Nat
  | [] => 0
  | x :: r => max x.dep (depL r)
end
theorem dep_mem : ∀ {xs : List D} {x : D}, x ∈ xs → x.dep ≤ depL xs
  | y :: r, x, h => by
    rcases List.mem_cons.mp h with e | h
    · subst e; exact Nat.le_max_left _ _
    · exact Nat.le_trans (dep_mem h) (Nat.le_max_right _ _)
theorem depL_append : ∀ (xs ys : List D), depL (xs ++ ys) = max (depL xs) (depL ys)
  | [], ys => by simp [depL]
  | x :: r, ys => by
    show max x.dep (depL (r ++ ys)) = max (max x.dep (depL r)) (depL ys)
    rw [depL_append r ys, Nat.max_assoc]
mutual
/-- kept(value) -/
def keptD : D → D
  | .tup xs => .tup (keptL xs)
  | .lst xs => .tup (keptL xs)
  | d => d
def keptL : List D → List D
  | [] => []
  | x :: r => keptD x :: keptL r
end
theorem keptL_map (xs : List D) : keptL xs = xs.map keptD := by
  induction xs with
  | nil => rfl
  | cons x r ih => unfold keptL; rw [ih]; rfl
mutual
theorem dep_kept : ∀ d : D, (keptD d).dep = d.dep
  | .non => rfl
  | .bl _ => rfl
  | .int _ => rfl
  | .str _ => rfl
  | .dct => rfl
  | .pap _ _ => rfl
  | .tup xs => by show depL (keptL xs) + 1 = depL xs + 1; rw [depL_kept xs]
  | .lst xs => by show depL (keptL xs) + 1 = depL xs + 1; rw [depL_kept xs]
theorem depL_kept : ∀ xs : List D, depL (keptL xs) = depL xs
  | [] => rfl
  | x :: r => by show max (keptD x).dep (depL (keptL r)) = max x.dep (depL r); rw [dep_kept x, depL_kept r]
end
def D.isInt : D → Bool
  | .int _ => true
  | _ => false
def D.isBl : D → Bool
  | .bl _ => true
  | _ => false
def D.isStr : D → Bool
  | .str _ => true
  | _ => false
def D.isTup : D → Bool
  | .tup _ => true
  | _ => false
def D.isLst : D → Bool
  | .lst _ => true
  | _ => false
def D.isPap : D → Bool
  | .pap _ _ => true
  | _ => false
def D.isKind : D → Bool
  | .pap c _ => c.size.isSome
  | _ => false
def letters : Str := "abcdefghijklmnopqrstuvwxyz"
def signs : Str := "abcdefghijklmnopqrstuvwxyz0123456789."
def digits : Str := "0123456789"
/-- is_word of a text -/
def isWordS (z : Str) : Bool := match z.cps.toList with
  | [] => false
  | c :: r => decide (z.length ≤ 100) && (decide (c ∈ letters.cps.toList) && (c :: r).all fun c => decide (c ∈ signs.cps.toList))
def D.isWord : D → Bool
  | .str z => isWordS z
  | _ => false
mutual
/-- words_of(value, deep) -/
def wordsD : Nat → D → List (Option Str)
  | _, .non => [some ("-" : Str)]
  | _, .int z => if (Str.ofString (toString (if z < 0 then -z else z))).length ≤ 400 then [some (Str.ofString (toString z))] else [none]
  | _, .str z => [if isWordS z then some z else none]
  | 0, _ => [none]
  | n + 1, .tup xs => some ("(" : Str) :: (wordsL n xs ++ [some (")" : Str)])
  | n + 1, .pap c xs => if c.size.isSome then some ("[" : Str) :: some c.word :: (wordsL n xs ++ [some ("]" : Str)]) else [none]
  | _ + 1, _ => [none]
def wordsL : Nat → List D → List (Option Str)
  | _, [] => []
  | n, x :: r => wordsD n x ++ wordsL n r
end
theorem PK.kind_word (c : PK) : c.size.isSome = decide (c.word ∈ ([("family" : Str), "holds", "breaks", "guards", "checked", "broken", "alike", "unlike", "stays", "spoilt", "code"] : List Str)) := by
  cases c <;> decide +kernel
/-- isWordS by its parts -/
theorem isWordS_nil {z : Str} (h : z.cps.toList = []) : isWordS z = false := by unfold isWordS; rw [h]
theorem isWordS_cons {z : Str} {c : Nat} {r : List Nat} (h : z.cps.toList = c :: r) : isWordS z = (decide (z.length ≤ 100) && (decide (c ∈ letters.cps.toList) && z.cps.toList.all fun c => decide (c ∈ signs.cps.toList))) := by unfold isWordS; rw [h]
theorem str_empty {z : Str} (h : z = "") : z.cps.toList = [] := by subst h; rfl
theorem str_nil {z : Str} (h : z.cps.toList = []) : z = "" := by
  obtain ⟨⟨l⟩⟩ := z
  simp at h
  subst h
  rfl
/-- texts laid, numbers short, few parts -/
def okWs (z : Str) : Bool := decide (z.length ≤ 1000000)
mutual
def okW : D → Bool
  | .int z => decide (z.natAbs.log2 < 1920)
  | .str z => okWs z
  | .tup xs => okWL xs
  | .pap _ xs => okWL xs
  | _ => true
def okWL : List D → Bool
  | [] => true
  | x :: r => okW x && okWL r
end
theorem okW_mem : ∀ {xs : List D} {x : D}, okWL xs = true → x ∈ xs → okW x = true
  | y :: r, x, h, hm => by
    unfold okWL at h
    obtain ⟨h1, h2⟩ := Bool.and_eq_true_iff.mp h
    rcases List.mem_cons.mp hm with e | hm
    · subst e; exact h1
    · exact okW_mem h2 hm
theorem ext_none {H H1 : Hp} {a : Addr} (e : Ext H H1) (h : H1 a = none) : H a = none := by
  cases z : H a with
  | none => rfl
  | some o => rw [e _ _ z] at h; cases h
theorem wordsD_non (n : Nat) : wordsD n .non = [some ("-" : Str)] := by unfold wordsD; rfl
theorem wordsD_int (n : Nat) (z : Int) : wordsD n (.int z) = if (Str.ofString (toString (if z < 0 then -z else z))).length ≤ 400 then [some (Str.ofString (toString z))] else [none] := by unfold wordsD; rfl
theorem wordsD_str (n : Nat) (z : Str) : wordsD n (.str z) = [if isWordS z then some z else none] := by unfold wordsD; rfl
theorem wordsD_bl (n : Nat) (b : Bool) : wordsD n (.bl b) = [none] := by cases n <;> rfl
theorem wordsD_dct (n : Nat) : wordsD n .dct = [none] := by cases n <;> rfl
theorem wordsD_tup0 (xs : List D) : wordsD 0 (.tup xs) = [none] := rfl
theorem wordsD_pap0 (c : PK) (xs : List D) : wordsD 0 (.pap c xs) = [none] := rfl
theorem wordsD_tup (n : Nat) (xs : List D) : wordsD (n + 1) (.tup xs) = some ("(" : Str) :: (wordsL n xs ++ [some (")" : Str)]) := rfl
theorem wordsD_pap (n : Nat) (c : PK) (xs : List D) : wordsD (n + 1) (.pap c xs) = if c.size.isSome then some ("[" : Str) :: some c.word :: (wordsL n xs ++ [some ("]" : Str)]) else [none] := rfl
theorem abs_nat (z : Int) : (if z < 0 then -z else z).natAbs = z.natAbs := by split <;> omega
theorem wordsL_flat (n : Nat) (xs : List D) : wordsL n xs = xs.flatMap (wordsD n) := by
  induction xs with
  | nil => simp [wordsL]
  | cons x r ih => rw [wordsL, ih]; simp
theorem flat_range {α β : Type} (f : α → List β) : ∀ (xs : List α), (List.range xs.length).flatMap (fun i => (xs[i]?).elim [] f) = xs.flatMap f
  | [] => rfl
  | x :: r => by
    rw [List.length_cons, List.range_succ_eq_map, List.flatMap_cons, List.flatMap_map, List.flatMap_cons, ← flat_range f r]
    rfl
def wV : Option Str → V
  | some z => .str z
  | none => .non
theorem inV_non : ∀ (ws : List (Option Str)), inV .non (ws.map wV) = decide (none ∈ ws)
  | [] => rfl
  | none :: r => by simp [inV, wV, eqV]
  | some z :: r => by
    have ih := inV_non r
    simp only [inV, List.map_cons, List.any_cons] at ih ⊢
    rw [ih]
    simp [wV, eqV]
theorem flat_wV : ∀ (ws : List (Option Str)), (ws.map wV).all flatV = true
  | [] => rfl
  | none :: r => by simpa [wV, flatV] using flat_wV r
  | some z :: r => by simpa [wV, flatV] using flat_wV r
theorem all_some : ∀ {ws : List (Option Str)}, none ∉ ws → ∃ zs : List Str, ws = zs.map some
  | [], _ => ⟨[], rfl⟩
  | none :: r, h => absurd List.mem_cons_self h
  | some z :: r, h => by
    obtain ⟨zs, e⟩ := all_some (ws := r) fun m => h (List.mem_cons_of_mem _ m)
    exact ⟨z :: zs, by rw [e]; rfl⟩
theorem words_le {n : Nat} {xs : List D} {x : D} (h : x ∈ xs) : (wordsD n x).length ≤ (wordsL n xs).length := by
  induction xs with
  | nil => cases h
  | cons y r ih =>
    rw [wordsL, List.length_append]
    rcases List.mem_cons.mp h with e | h
    · subst e; omega
    · have := ih h; omega
/-! ### words for the walks -/
theorem Reps.of {K : PySem.W.Frag} {L : Bool} {H : Hp} : ∀ {vs : List V} {ds : List D}, vs.length = ds.length → (∀ (i : Nat) v d, vs[i]? = some v → ds[i]? = some d → Rep K L H v d) → Reps K L H vs ds
  | [], [], _, _ => .nil
  | [], _ :: _, h, _ => by simp at h
  | _ :: _, [], h, _ => by simp at h
  | v :: vs, d :: ds, h, r => .cons (r 0 v d rfl rfl) (Reps.of (by simpa using h) fun i v d e1 e2 => r (i + 1) v d (by simpa using e1) (by simpa using e2))
theorem imm_lst {H : Hp} {D : Addr} {xs ys : List V} (h : H D = some (.lst xs)) : ImmGr H (upd H D (.lst ys)) := fun b o i e => by
  have hb : b ≠ D := fun z => by
    rw [z, h] at e
    cases e
    exact i
  rw [upd_ne hb]
  exact e
theorem ext_ne {H H1 : Hp} {D : Addr} {o : HO} (hD : H D = none) (h : Ext H H1) : Ext H (upd H1 D o) := fun b u e => by
  rw [upd_ne (ne_of_none e hD)]
  exact h b u e
theorem wipe_one {σ : L2.St} {j : Nat} {v : Option V} : wipe ((wipe σ [j]).set j v) [j] = wipe σ [j] := by
  simp [wipe]
/-- a comprehension behind its source -/
def LC (J : It) (g : TG) (tt : TT) (te : TE) (vs : List Nat) (σ : L2.St) (H1 : Hp) (Q : VK) : Prop := ∀ D, H1 D = none → ∃ W : Nat → Nat → Hp → Prop, (∃ m, W 0 m (upd H1 D (.lst []))) ∧ ∀ i m H, W i m H →
  (J.stop i H ∧ Q (.ref D) H) ∨ (J.go i H ∧ ∃ Nx : Hp → Prop, (∀ H', Nx H' → ∃ m', m' < m ∧ W (i + 1) m' H') ∧ ∀ x H', J.yld i H x H' → g x (wipe σ vs) H' fun σ2 H2 => wipe σ2 vs = wipe σ vs ∧ tt σ2 H2 fun b H3 =>
    if b = true then te σ2 H3 fun y H4 => ∃ acc, H4 D = some (.lst acc) ∧ acc.length < sizeLine ∧ Nx (upd H4 D (.lst (acc ++ [y]))) else Nx H3)
theorem tLc_eq {wi : TI} {g : TG} {tt : TT} {te : TE} {vs : List Nat} : tLc wi g tt te vs = fun σ H Q => wi σ H fun J H1 => LC J g tt te vs σ H1 Q := rfl
/-- a loop behind its source -/
def FO (J : It) (g : TG) (tb : TS) (D : Ends) (σ : L2.St) (H1 : Hp) : Prop := ∃ W : Nat → Nat → L2.St → Hp → Prop, (∃ m, W 0 m σ H1) ∧ ∀ i m σ H, W i m σ H →
  (J.stop i H ∧ D.nx σ H) ∨ (J.go i H ∧ ∃ N : L2.St → Hp → Prop, (∀ σ' H', N σ' H' → ∃ m', m' < m ∧ W (i + 1) m' σ' H') ∧ ∀ x H', J.yld i H x H' → g x σ H' fun σ2 H2 => tb { D with nx := N, ct := N, bk := D.nx } σ2 H2)
theorem tFor_eq {wi : TI} {g : TG} {tb : TS} : tFor wi g tb = fun D σ H => wi σ H fun J H1 => FO J g tb D σ H1 := rfl
/-- [e for x in ..]: what e makes lies in new objects -/
theorem LC_ext {J : It} {n : Nat} {G : Hp → Prop} {Y : Nat → Hp → V → Hp → Prop} (w : Walk J n G Y) {te : TE} {j : Nat} {σ : L2.St} {H1 : Hp} {Q : VK} (hn : n ≤ 4000) (hY : ∀ i H x H', Y i H x H' → H' = H) (R : Nat → Hp → V → Prop) (Rm : ∀ i H H' y, ImmGr H H' → R i H y → R i H' y) (hG : ∀ H, Ext H1 H → G H)
    (hs : ∀ i x H, i < n → Ext H1 H → Y i H x H → ∀ Qc : VK, (∀ y H4, Ext H H4 → R i H4 y → Qc y H4) → te ((wipe σ [j]).set j (some x)) H Qc)
    (hd : ∀ D H acc, H1 D = none → Ext H1 H → H D = some (.lst acc) → acc.length = n → (∀ (i : Nat) y, acc[i]? = some y → R i H y) → Q (.ref D) H) :
    LC J (gName j) tYes te [j] σ H1 Q := by
  intro D hD
  refine lc_it w (fun i H => Ext H1 H ∧ ∃ acc, H D = some (.lst acc) ∧ acc.length = i ∧ ∀ (i : Nat) y, acc[i]? = some y → R i H y) ⟨Ext.upd hD, [], upd_same, rfl, fun i y e => by simp at e⟩ (fun i H hi p => hG H p.1) (fun i x H H' hi p y => ?_) (fun H p => ?_)
  · have eH := hY i H x H' y
    subst eH
    obtain ⟨e1, acc, hacc, hl, hR⟩ := p
    refine ⟨wipe_one, ?_⟩
    refine hs i x H' hi e1 y _ fun y H4 e2 r => ?_
    have h4 := e2 _ _ hacc
    refine ⟨acc, h4, by have : sizeLine = 16777216 := sizeLine_eq; omega, ext_ne hD (e1.trans e2), acc ++ [y], upd_same, by simp [hl], fun m z e => ?_⟩
    have im : ImmGr H' (upd H4 D (.lst (acc ++ [y]))) := (ImmGr.of e2).trans (imm_lst h4)
    by_cases hm : m < acc.length
    · rw [List.getElem?_append_left hm] at e
      exact Rm _ _ _ _ im (hR m z e)
    · have em : m = acc.length := by
        rw [List.getElem?_append_right (by omega)] at e
        have := (List.getElem?_eq_some_iff.mp e).1
        simp at this
        omega
      subst em
      simp at e
      subst e
      rw [hl]
      exact Rm _ _ _ _ (imm_lst h4) r
  · obtain ⟨e1, acc, hacc, hl, hR⟩ := p
    exact hd D H acc hD e1 hacc hl hR
/-- a comprehension with two clauses behind its first source -/
def LC2 (J : It) (g : TG) (tt : TT) (wi1 : TI) (g1 : TG) (tt1 : TT) (te : TE) (vs vs1 : List Nat) (σ : L2.St) (H1 : Hp) (Q : VK) : Prop := ∀ D, H1 D = none → ∃ W : Nat → Nat → Hp → Prop, (∃ m, W 0 m (upd H1 D (.lst []))) ∧ ∀ i m H, W i m H →
  (J.stop i H ∧ Q (.ref D) H) ∨ (J.go i H ∧ ∃ Nx : Hp → Prop, (∀ H', Nx H' → ∃ m', m' < m ∧ W (i + 1) m' H') ∧ ∀ x H', J.yld i H x H' → g x (wipe σ vs) H' fun σ2 H2 => wipe σ2 vs = wipe σ vs ∧ tt σ2 H2 fun b H3 =>
    if b = true then wi1 σ2 H3 fun J1 H4 => ∃ W1 : Nat → Nat → Hp → Prop, (∃ m, W1 0 m H4) ∧ ∀ j k H, W1 j k H →
      (J1.stop j H ∧ Nx H) ∨ (J1.go j H ∧ ∃ Nx1 : Hp → Prop, (∀ H', Nx1 H' → ∃ k', k' < k ∧ W1 (j + 1) k' H') ∧ ∀ x H', J1.yld j H x H' → g1 x (wipe σ2 vs1) H' fun σ3 H5 => wipe σ3 vs1 = wipe σ2 vs1 ∧ tt1 σ3 H5 fun b H6 =>
        if b = true then te σ3 H6 fun y H7 => ∃ acc, H7 D = some (.lst acc) ∧ acc.length < sizeLine ∧ Nx1 (upd H7 D (.lst (acc ++ [y]))) else Nx1 H6)
    else Nx H3)
theorem tLc2_eq {wi : TI} {g : TG} {tt : TT} {wi1 : TI} {g1 : TG} {tt1 : TT} {te : TE} {vs vs1 : List Nat} : tLc2 wi g tt wi1 g1 tt1 te vs vs1 = fun σ H Q => wi σ H fun J H1 => LC2 J g tt wi1 g1 tt1 te vs vs1 σ H1 Q := rfl
theorem wipe_two {σ : L2.St} {j j1 : Nat} {v : Option V} (hj : j ≠ j1) : wipe ((wipe σ [j, j1]).set j v) [j, j1] = wipe σ [j, j1] := by
  simp only [wipe]
  apply List.ext_getElem?
  intro m
  simp only [List.getElem?_set, List.length_set]
  by_cases h1 : j1 = m
  · subst h1; simp [hj]
  · by_cases h2 : j = m
    · subst h2; simp [h1]
    · simp [h1, h2]
/-- [y for x in .. for y in f(x)], f(x) a new list -/
theorem LC2_ext {K : PySem.W.Frag} {J : It} {n : Nat} {G : Hp → Prop} {Y : Nat → Hp → V → Hp → Prop} (w : Walk J n G Y) {te1 : TE} {j j1 : Nat} {σ : L2.St} {H1 : Hp} {Q : VK} (hj : j ≠ j1) (hσ : j1 < σ.length) (wss : Nat → List V) (hY : ∀ i H x H', Y i H x H' → H' = H) (hG : ∀ H, Ext H1 H → G H)
    (hz : ((List.range n).flatMap wss).length < sizeLine)
    (hs : ∀ i x H, i < n → Ext H1 H → Y i H x H → ∀ Qc : VK, (∀ l H4, H l = none → Ext H H4 → H4 l = some (.lst (wss i)) → Qc (.ref l) H4) → te1 ((wipe σ [j, j1]).set j (some x)) H Qc)
    (hd : ∀ D H, H1 D = none → Ext H1 H → H D = some (.lst ((List.range n).flatMap wss)) → Q (.ref D) H) :
    LC2 J (gName j) tYes (iList K te1) (gName j1) tYes (tVar j1) [j, j1] [j1] σ H1 Q := by
  intro D hD
  refine ⟨fun i m H => m = n - i ∧ i ≤ n ∧ Ext H1 H ∧ H D = some (.lst ((List.range i).flatMap wss)), ⟨n, by simp, Nat.zero_le _, Ext.upd hD, by simp [upd_same]⟩, ?_⟩
  rintro i m H ⟨rfl, hi, e1, hacc⟩
  have g := hG H e1
  by_cases hlt : i < n
  · refine .inr ⟨w.goes i H hlt g, fun H => Ext H1 H ∧ H D = some (.lst ((List.range (i + 1)).flatMap wss)), fun H' p' => ⟨n - (i + 1), by omega, rfl, hlt, p'.1, p'.2⟩, fun x H' y => ?_⟩
    have y' := w.yields i H x H' hlt g y
    have eH := hY _ _ _ _ y'
    subst eH
    refine ⟨wipe_two hj, ?_⟩
    refine hs i x H' hlt e1 y' _ fun l H4 hl e2 h4 => ?_
    have hlD : l ≠ D := fun z => by rw [z, hacc] at hl; cases hl
    have hsplit : (List.range n).flatMap wss = (List.range (i + 1)).flatMap wss ++ ((List.range n).drop (i + 1)).flatMap wss := by
      rw [← List.flatMap_append]
      congr 1
      rw [show List.range (i + 1) = (List.range n).take (i + 1) by rw [List.take_range]; congr 1; omega, List.take_append_drop]
    have hlen : ((List.range (i + 1)).flatMap wss).length < sizeLine := by
      rw [hsplit, List.length_append] at hz
      omega
    have hsucc : (List.range (i + 1)).flatMap wss = (List.range i).flatMap wss ++ wss i := by
      rw [List.range_succ, List.flatMap_append]
      simp
    rw [hsucc] at hlen
    refine ⟨l, rfl, ⟨_, .of h4⟩, fun k m H => m = (wss i).length - k ∧ k ≤ (wss i).length ∧ Ext H1 H ∧ H l = some (.lst (wss i)) ∧ H D = some (.lst ((List.range i).flatMap wss ++ (wss i).take k)), ⟨(wss i).length, by simp, Nat.zero_le _, e1.trans e2, h4, by simp; exact e2 _ _ hacc⟩, ?_⟩
    rintro k m H ⟨rfl, hk, e3, hl3, hD3⟩
    by_cases hklt : k < (wss i).length
    · refine .inr ⟨⟨_, (wss i)[k], .of hl3, by simp [hklt]⟩, fun H => Ext H1 H ∧ H l = some (.lst (wss i)) ∧ H D = some (.lst ((List.range i).flatMap wss ++ (wss i).take (k + 1))), fun H' p' => ⟨(wss i).length - (k + 1), by omega, rfl, hklt, p'.1, p'.2.1, p'.2.2⟩, fun x' H5 y5 => ?_⟩
      obtain ⟨eH5, y5⟩ := y5
      subst eH5
      have ex := y5 _ (.of hl3)
      rw [List.getElem?_eq_getElem hklt] at ex
      cases ex
      refine ⟨wipe_one, ?_⟩
      refine ⟨(wss i)[k], ?_, _, hD3, ?_, ext_ne hD e3, by rw [upd_ne hlD]; exact hl3, ?_⟩
      · have : j1 < (wipe ((wipe σ [j, j1]).set j (some x)) [j1]).length := by simp [wipe, hσ]
        simp [List.getElem?_set, this]
      · rw [List.length_append] at hlen ⊢
        rw [List.length_take]
        omega
      · rw [upd_same, List.append_assoc]
        congr 2
        rw [List.take_succ_eq_append_getElem hklt]
    · have ek : k = (wss i).length := by omega
      subst ek
      refine .inl ⟨⟨_, .of hl3, Nat.le_refl _⟩, e3, ?_⟩
      rw [hD3, hsucc, List.take_length]
  · have e : i = n := by omega
    subst e
    exact .inl ⟨w.stops H g, hd D H hD e1 hacc⟩
/-- [sign in S for sign in z] -/
theorem LC_signs {S z : Str} {j : Nat} {σ : L2.St} {H : Hp} {Q : VK} (hz : z.length ≤ 4000) (hj : j < σ.length) (hq : ∀ D' H', Ext H H' → H' D' = some (.lst ((z.cps.toList.map fun c => decide (c ∈ S.cps.toList)).map V.bl)) → Q (.ref D') H') :
    LC (Its z) (gName j) tYes (tOp (fun x y H Q => ∃ (c : Nat) (z : Str), x = .str ⟨#[c]⟩ ∧ y = .str z ∧ Q (.bl (decide (c ∈ z.cps.toList))) H) (tVar j) (tC (V.str S))) [j] σ H Q := by
  refine LC_ext (walk_str (z := z)) hz (fun _ _ _ _ y => y.1) (fun i _ y => y = V.bl (decide ((z.cps.toList.getD i 0) ∈ S.cps.toList))) (fun _ _ _ _ _ h => h) (fun _ _ => trivial) (fun i x H' hi e1 y Qc hq => ?_) fun D' H' acc hD e1 hacc hl hR => hq D' H' e1 ?_
  · obtain ⟨_, c', hc', rfl⟩ := y
    refine ⟨.str ⟨#[c']⟩, ?_, c', S, rfl, rfl, hq _ _ Ext.rfl' ?_⟩
    · have : j < (wipe σ [j]).length := by rw [wipe_length]; exact hj
      simp [List.getElem?_set, this]
    · have : z.cps.toList.getD i 0 = c' := by
        rw [List.getD_eq_getElem?_getD, Array.getElem?_toList, hc']; rfl
      rw [this]
  · rw [hacc]
    congr 2
    refine List.ext_getElem (by simp [hl]) fun i h1 h2 => ?_
    have := hR i acc[i] (List.getElem?_eq_getElem h1)
    rw [this]
    have h3 : i < z.cps.toList.length := by simpa using h2
    simp only [List.getElem_map, List.getD_eq_getElem?_getD, List.getElem?_eq_getElem h3, Option.getD_some]
theorem cutS_le (z : Str) (lo hi : Option Int) : (cutS z lo hi).length ≤ z.length := by
  show ((z.cps.toList.drop (HT.sIx z.length 0 lo)).take (HT.sIx z.length z.length hi - HT.sIx z.length 0 lo)).toArray.size ≤ z.cps.size
  rw [List.size_toArray, List.length_take, List.length_drop, Array.length_toList]
  omega
end Pp
set_option maxRecDepth 100000
set_option maxHeartbeats 0
namespace K94
open PySem PySem.W PySem.Spec PyProof.Rows L2
def top (i : Nat) : Stmt := PySem.Challenge.pw_alwaysso_k95_texts_of_papers_that_cannot.main.body.getD i (.Pass ⟨0, 0, 0, 0⟩)
abbrev s_is_integer : Stmt := top 1
def d_is_integer : He.DefD := ⟨("is_integer", none), "is_integer", "is_integer", defArgs s_is_integer, defBody s_is_integer, defScope s_is_integer, [], []⟩
abbrev s_PartError_init : Stmt := inClass (top 4) 0
def d_PartError_init : HeS.SupD := ⟨("PartError", some "__init__"), "__init__", "PartError.__init__", defArgs s_PartError_init, defBody s_PartError_init, defScope s_PartError_init, "PartError"⟩
abbrev s_BadText_init : Stmt := inClass (top 9) 0
def d_BadText_init : HeS.SupD := ⟨("BadText", some "__init__"), "__init__", "BadText.__init__", defArgs s_BadText_init, defBody s_BadText_init, defScope s_BadText_init, "BadText"⟩
abbrev s_BadCommand_init : Stmt := inClass (top 10) 0
def d_BadCommand_init : HeS.SupD := ⟨("BadCommand", some "__init__"), "__init__", "BadCommand.__init__", defArgs s_BadCommand_init, defBody s_BadCommand_init, defScope s_BadCommand_init, "BadCommand"⟩
abbrev s_TooMany_init : Stmt := inClass (top 12) 0
def d_TooMany_init : HeS.SupD := ⟨("TooMany", some "__init__"), "__init__", "TooMany.__init__", defArgs s_TooMany_init, defBody s_TooMany_init, defScope s_TooMany_init, "TooMany"⟩
abbrev s_kept : Stmt := top 14
def d_kept : He.DefD := ⟨("kept", none), "kept", "kept", defArgs s_kept, defBody s_kept, defScope s_kept, [], []⟩
abbrev s_Paper_init : Stmt := inClass (top 15) 0
def d_Paper_init : He.DefD := ⟨("Paper", some "__init__"), "__init__", "Paper.__init__", defArgs s_Paper_init, defBody s_Paper_init, defScope s_Paper_init, [], []⟩
abbrev s_Paper_bool : Stmt := inClass (top 15) 1
def d_Paper_bool : He.DefD := ⟨("Paper", some "__bool__"), "__bool__", "Paper.__bool__", defArgs s_Paper_bool, defBody s_Paper_bool, defScope s_Paper_bool, [], []⟩
abbrev s_Paper_eq : Stmt := inClass (top 15) 2
def d_Paper_eq : He.DefD := ⟨("Paper", some "__eq__"), "__eq__", "Paper.__eq__", defArgs s_Paper_eq, defBody s_Paper_eq, defScope s_Paper_eq, [], []⟩
abbrev s_Denial_bool : Stmt := inClass (top 16) 0
def d_Denial_bool : He.DefD := ⟨("Denial", some "__bool__"), "__bool__", "Denial.__bool__", defArgs s_Denial_bool, defBody s_Denial_bool, defScope s_Denial_bool, [], []⟩
abbrev s_Code_init : Stmt := inClass (top 18) 0
def d_Code_init : HeS.SupD := ⟨("Code", some "__init__"), "__init__", "Code.__init__", defArgs s_Code_init, defBody s_Code_init, defScope s_Code_init, "Code"⟩
abbrev s_Family_init : Stmt := inClass (top 20) 0
def d_Family_init : HeS.SupD := ⟨("Family", some "__init__"), "__init__", "Family.__init__", defArgs s_Family_init, defBody s_Family_init, defScope s_Family_init, "Family"⟩
abbrev s_Alike_init : Stmt := inClass (top 22) 0
def d_Alike_init : HeS.SupD := ⟨("Alike", some "__init__"), "__init__", "Alike.__init__", defArgs s_Alike_init, defBody s_Alike_init, defScope s_Alike_init, "Alike"⟩
abbrev s_Unlike_init : Stmt := inClass (top 23) 0
def d_Unlike_init : HeS.SupD := ⟨("Unlike", some "__init__"), "__init__", "Unlike.__init__", defArgs s_Unlike_init, defBody s_Unlike_init, defScope s_Unlike_init, "Unlike"⟩
abbrev s_Stays_init : Stmt := inClass (top 25) 0
def d_Stays_init : HeS.SupD := ⟨("Stays", some "__init__"), "__init__", "Stays.__init__", defArgs s_Stays_init, defBody s_Stays_init, defScope s_Stays_init, "Stays"⟩
abbrev s_Spoilt_init : Stmt := inClass (top 26) 0
def d_Spoilt_init : HeS.SupD := ⟨("Spoilt", some "__init__"), "__init__", "Spoilt.__init__", defArgs s_Spoilt_init, defBody s_Spoilt_init, defScope s_Spoilt_init, "Spoilt"⟩
abbrev s_Holds_init : Stmt := inClass (top 28) 0
def d_Holds_init : HeS.SupD := ⟨("Holds", some "__init__"), "__init__", "Holds.__init__", defArgs s_Holds_init, defBody s_Holds_init, defScope s_Holds_init, "Holds"⟩
abbrev s_Breaks_init : Stmt := inClass (top 29) 0
def d_Breaks_init : HeS.SupD := ⟨("Breaks", some "__init__"), "__init__", "Breaks.__init__", defArgs s_Breaks_init, defBody s_Breaks_init, defScope s_Breaks_init, "Breaks"⟩
abbrev s_Guards_init : Stmt := inClass (top 31) 0
def d_Guards_init : HeS.SupD := ⟨("Guards", some "__init__"), "__init__", "Guards.__init__", defArgs s_Guards_init, defBody s_Guards_init, defScope s_Guards_init, "Guards"⟩
abbrev s_Checked_init : Stmt := inClass (top 33) 0
def d_Checked_init : HeS.SupD := ⟨("Checked", some "__init__"), "__init__", "Checked.__init__", defArgs s_Checked_init, defBody s_Checked_init, defScope s_Checked_init, "Checked"⟩
abbrev s_Broken_init : Stmt := inClass (top 34) 0
def d_Broken_init : HeS.SupD := ⟨("Broken", some "__init__"), "__init__", "Broken.__init__", defArgs s_Broken_init, defBody s_Broken_init, defScope s_Broken_init, "Broken"⟩
abbrev s_is_word : Stmt := top 44
def d_is_word : He.DefD := ⟨("is_word", none), "is_word", "is_word", defArgs s_is_word, defBody s_is_word, defScope s_is_word, [], []⟩
abbrev s_is_kind : Stmt := top 45
def d_is_kind : He.DefD := ⟨("is_kind", none), "is_kind", "is_kind", defArgs s_is_kind, defBody s_is_kind, defScope s_is_kind, [], []⟩
abbrev s_words_of : Stmt := top 46
def d_words_of : He.DefD := ⟨("words_of", none), "words_of", "words_of", defArgs s_words_of, defBody s_words_of, defScope s_words_of, [], []⟩
abbrev s_paper_text : Stmt := top 47
def d_paper_text : He.DefD := ⟨("paper_text", none), "paper_text", "paper_text", defArgs s_paper_text, defBody s_paper_text, defScope s_paper_text, [], []⟩
abbrev s_made_of : Stmt := top 48
def d_made_of : He.DefD := ⟨("made_of", none), "made_of", "made_of", defArgs s_made_of, defBody s_made_of, defScope s_made_of, [], []⟩
abbrev s_Opened_init : Stmt := inClass (top 49) 0
def d_Opened_init : He.DefD := ⟨("Opened", some "__init__"), "__init__", "Opened.__init__", defArgs s_Opened_init, defBody s_Opened_init, defScope s_Opened_init, [], []⟩
abbrev s_Opened_is_full : Stmt := inClass (top 49) 1
def d_Opened_is_full : He.DefD := ⟨("Opened", some "is_full"), "is_full", "Opened.is_full", defArgs s_Opened_is_full, defBody s_Opened_is_full, defScope s_Opened_is_full, [], []⟩
abbrev s_Opened_made : Stmt := inClass (top 49) 2
def d_Opened_made : He.DefD := ⟨("Opened", some "made"), "made", "Opened.made", defArgs s_Opened_made, defBody s_Opened_made, defScope s_Opened_made, [], []⟩
abbrev s_number_of : Stmt := top 50
def d_number_of : He.DefD := ⟨("number_of", none), "number_of", "number_of", defArgs s_number_of, defBody s_number_of, defScope s_number_of, [], []⟩
abbrev s_plain_of : Stmt := top 51
def d_plain_of : He.DefD := ⟨("plain_of", none), "plain_of", "plain_of", defArgs s_plain_of, defBody s_plain_of, defScope s_plain_of, [], []⟩
abbrev s_Reading_init : Stmt := inClass (top 52) 0
def d_Reading_init : He.DefD := ⟨("Reading", some "__init__"), "__init__", "Reading.__init__", defArgs s_Reading_init, defBody s_Reading_init, defScope s_Reading_init, [], []⟩
abbrev s_Reading_stop : Stmt := inClass (top 52) 1
def d_Reading_stop : He.DefD := ⟨("Reading", some "stop"), "stop", "Reading.stop", defArgs s_Reading_stop, defBody s_Reading_stop, defScope s_Reading_stop, [], []⟩
abbrev s_Reading_begin : Stmt := inClass (top 52) 2
def d_Reading_begin : He.DefD := ⟨("Reading", some "begin"), "begin", "Reading.begin", defArgs s_Reading_begin, defBody s_Reading_begin, defScope s_Reading_begin, [], []⟩
abbrev s_Reading_put : Stmt := inClass (top 52) 3
def d_Reading_put : He.DefD := ⟨("Reading", some "put"), "put", "Reading.put", defArgs s_Reading_put, defBody s_Reading_put, defScope s_Reading_put, [], []⟩
abbrev s_Reading_end : Stmt := inClass (top 52) 4
def d_Reading_end : He.DefD := ⟨("Reading", some "end"), "end", "Reading.end", defArgs s_Reading_end, defBody s_Reading_end, defScope s_Reading_end, [], []⟩
abbrev s_Reading_whole : Stmt := inClass (top 52) 5
def d_Reading_whole : He.DefD := ⟨("Reading", some "whole"), "whole", "Reading.whole", defArgs s_Reading_whole, defBody s_Reading_whole, defScope s_Reading_whole, [], []⟩
abbrev s_read_paper : Stmt := top 53
def d_read_paper : He.DefD := ⟨("read_paper", none), "read_paper", "read_paper", defArgs s_read_paper, defBody s_read_paper, defScope s_read_paper, [], []⟩
abbrev s__law_well : Stmt := top 55
def d__law_well : He.DefD := ⟨("_law_well", none), "_law_well", "_law_well", defArgs s__law_well, defBody s__law_well, defScope s__law_well, [], []⟩
abbrev s__law_draw : Stmt := top 56
def d__law_draw : He.DefD := ⟨("_law_draw", none), "_law_draw", "_law_draw", defArgs s__law_draw, defBody s__law_draw, defScope s__law_draw, [], []⟩
abbrev s__law_one : Stmt := top 57
def d__law_one : He.DefD := ⟨("_law_one", none), "_law_one", "_law_one", defArgs s__law_one, defBody s__law_one, defScope s__law_one, [], []⟩
abbrev s__law_said : Stmt := top 58
def d__law_said : He.DefD := ⟨("_law_said", none), "_law_said", "_law_said", defArgs s__law_said, defBody s__law_said, defScope s__law_said, [], []⟩
abbrev s__law_sizes : Stmt := top 59
def d__law_sizes : He.DefD := ⟨("_law_sizes", none), "_law_sizes", "_law_sizes", defArgs s__law_sizes, defBody s__law_sizes, defScope s__law_sizes, [], []⟩
abbrev s__law_is_plain : Stmt := top 60
def d__law_is_plain : He.DefD := ⟨("_law_is_plain", none), "_law_is_plain", "_law_is_plain", defArgs s__law_is_plain, defBody s__law_is_plain, defScope s__law_is_plain, [], []⟩
abbrev s__law_fault : Stmt := top 61
def d__law_fault : He.DefD := ⟨("_law_fault", none), "_law_fault", "_law_fault", defArgs s__law_fault, defBody s__law_fault, defScope s__law_fault, [], []⟩
abbrev s__law_words : Stmt := top 62
def d__law_words : He.DefD := ⟨("_law_words", none), "_law_words", "_law_words", defArgs s__law_words, defBody s__law_words, defScope s__law_words, [], []⟩
abbrev s__law_paper_words : Stmt := top 63
def d__law_paper_words : He.DefD := ⟨("_law_paper_words", none), "_law_paper_words", "_law_paper_words", defArgs s__law_paper_words, defBody s__law_paper_words, defScope s__law_paper_words, [], []⟩
abbrev s__law_deep_right : Stmt := top 64
def d__law_deep_right : He.DefD := ⟨("_law_deep_right", none), "_law_deep_right", "_law_deep_right", defArgs s__law_deep_right, defBody s__law_deep_right, defScope s__law_deep_right, [], []⟩
abbrev s_law : Stmt := top 65
def d_law : He.DefD := ⟨("law", none), "law", "law", defArgs s_law, defBody s_law, defScope s_law, [], []⟩
def fn : List He.DefD := [d_is_integer, d_kept, d_Paper_init, d_Paper_bool, d_Paper_eq, d_Denial_bool, d_is_word, d_is_kind, d_words_of, d_paper_text, d_made_of, d_Opened_init, d_Opened_is_full, d_Opened_made, d_number_of, d_plain_of, d_Reading_init, d_Reading_stop, d_Reading_begin, d_Reading_put, d_Reading_end, d_Reading_whole, d_read_paper, d__law_well, d__law_draw, d__law_one, d__law_said, d__law_sizes, d__law_is_plain, d__law_fault, d__law_words, d__law_paper_words, d__law_deep_right, d_law]
def fs : List HeS.SupD := [d_PartError_init, d_BadText_init, d_BadCommand_init, d_TooMany_init, d_Code_init, d_Family_init, d_Alike_init, d_Unlike_init, d_Stays_init, d_Spoilt_init, d_Holds_init, d_Breaks_init, d_Guards_init, d_Checked_init, d_Broken_init]
def fa0 : List He.Fa := [.glo "is_integer", .glo "kept", .glo "is_word", .glo "is_kind", .glo "words_of", .glo "paper_text", .glo "made_of", .glo "number_of", .glo "plain_of", .glo "read_paper", .glo "_law_well", .glo "_law_draw", .glo "_law_one", .glo "_law_said", .glo "_law_sizes", .glo "_law_is_plain", .glo "_law_fault", .glo "_law_words", .glo "_law_paper_words", .glo "_law_deep_right", .glo "law", .glo "SoError", .glo "PartError", .glo "BadProgram", .glo "BadPlace", .glo "BadNumber", .glo "BadValue", .glo "BadText", .glo "BadCommand", .glo "Nothing", .glo "TooMany", .glo "Paper", .glo "Denial", .glo "Code", .glo "Family", .glo "Alike", .glo "Unlike", .glo "Stays", .glo "Spoilt", .glo "Holds"]
def fa1 : List He.Fa := [.glo "Breaks", .glo "Guards", .glo "Checked", .glo "Broken", .glo "Opened", .glo "Reading", .int "MOST_DIGITS" 400, .int "MOST_SIGNS" 100, .int "MOST_DEEP" 20, .str "DIGITS" "0123456789", .str "LETTERS" "abcdefghijklmnopqrstuvwxyz", .str "SIGNS" "abcdefghijklmnopqrstuvwxyz0123456789.", .str "NOTHING" "-", .glo "SIZES", .free "ValueError", .free "abs", .free "all", .free "bool", .free "enumerate", .free "int", .free "isinstance", .free "len", .free "list", .free "range", .free "sorted", .free "str", .free "sum", .free "super", .free "tuple", .free "type", .cls "Paper", .mkr "Paper", .noat "Paper" "word", .noat "Paper" "parts", .meth "Paper" "__init__", .meth "Paper" "__bool__", .meth "Paper" "__eq__", .cls "Denial", .mkr "Denial", .noat "Denial" "word"]
def fa2 : List He.Fa := [.noat "Denial" "parts", .meth "Denial" "__bool__", .meth "Denial" "__init__", .meth "Denial" "__eq__", .cls "Code", .mkr "Code", .noat "Code" "addresses", .noat "Code" "instructions", .noat "Code" "word", .noat "Code" "parts", .meth "Code" "__init__", .meth "Code" "__bool__", .meth "Code" "__eq__", .cls "Family", .mkr "Family", .noat "Family" "vectors", .noat "Family" "matrices", .noat "Family" "word", .noat "Family" "parts", .meth "Family" "__init__", .meth "Family" "__bool__", .meth "Family" "__eq__", .cls "Alike", .mkr "Alike", .noat "Alike" "family", .noat "Alike" "word", .noat "Alike" "parts", .meth "Alike" "__init__", .meth "Alike" "__bool__", .meth "Alike" "__eq__", .cls "Unlike", .mkr "Unlike", .noat "Unlike" "at", .noat "Unlike" "way", .noat "Unlike" "word", .noat "Unlike" "parts", .meth "Unlike" "__init__", .meth "Unlike" "__bool__", .meth "Unlike" "__eq__", .cls "Stays"]
def fa3 : List He.Fa := [.mkr "Stays", .noat "Stays" "family", .noat "Stays" "word", .noat "Stays" "parts", .meth "Stays" "__init__", .meth "Stays" "__bool__", .meth "Stays" "__eq__", .cls "Spoilt", .mkr "Spoilt", .noat "Spoilt" "point", .noat "Spoilt" "way", .noat "Spoilt" "word", .noat "Spoilt" "parts", .meth "Spoilt" "__init__", .meth "Spoilt" "__bool__", .meth "Spoilt" "__eq__", .cls "Holds", .mkr "Holds", .noat "Holds" "family", .noat "Holds" "word", .noat "Holds" "parts", .meth "Holds" "__init__", .meth "Holds" "__bool__", .meth "Holds" "__eq__", .cls "Breaks", .mkr "Breaks", .noat "Breaks" "pieces", .noat "Breaks" "word", .noat "Breaks" "parts", .meth "Breaks" "__init__", .meth "Breaks" "__bool__", .meth "Breaks" "__eq__", .cls "Guards", .mkr "Guards", .noat "Guards" "least", .noat "Guards" "greatest", .noat "Guards" "word", .noat "Guards" "parts", .meth "Guards" "__init__", .meth "Guards" "__bool__"]
def fa4 : List He.Fa := [.meth "Guards" "__eq__", .cls "Checked", .mkr "Checked", .noat "Checked" "family", .noat "Checked" "word", .noat "Checked" "parts", .meth "Checked" "__init__", .meth "Checked" "__bool__", .meth "Checked" "__eq__", .cls "Broken", .mkr "Broken", .noat "Broken" "family", .noat "Broken" "rows", .noat "Broken" "word", .noat "Broken" "parts", .meth "Broken" "__init__", .meth "Broken" "__bool__", .meth "Broken" "__eq__", .cls "Opened", .mkr "Opened", .noat "Opened" "word", .noat "Opened" "told", .meth "Opened" "__init__", .meth "Opened" "is_full", .meth "Opened" "made", .cls "Reading", .mkr "Reading", .noat "Reading" "words", .noat "Reading" "line", .noat "Reading" "at", .noat "Reading" "begun", .meth "Reading" "__init__", .meth "Reading" "stop", .meth "Reading" "begin", .meth "Reading" "put", .meth "Reading" "end", .meth "Reading" "whole", .noat "BadValue" "part", .noat "BadText" "line", .noat "BadText" "word"]
def fa : List He.Fa := fa0 ++ fa1 ++ fa2 ++ fa3 ++ fa4
def ts : List He.Tab := [(fun K => He.ga K "SIZES", ["family", "holds", "breaks", "guards", "checked", "broken", "alike", "unlike", "stays", "spoilt", "code"])]
def tf : List He.Defn := [("_law_deep_right", none), ("law", none)]
def fb0 : List HeX.Fb := [.opq, .cat "Paper", .nm "Paper" "Paper", .same "Paper" "__ne__" "object.__ne__", .kit "Paper" "Paper" true, .kitR "Paper" "int" false, .kitR "Paper" "bool" false, .kitR "Paper" "str" false, .kitR "Paper" "list" false, .kitR "Paper" "tuple" false, .cat "Denial", .nm "Denial" "Denial", .eqm "Denial" "Paper" "__init__", .eqm "Denial" "Paper" "__eq__", .same "Denial" "__ne__" "object.__ne__", .kit "Denial" "Paper" true, .kitR "Denial" "int" false, .kitR "Denial" "bool" false, .kitR "Denial" "str" false, .kitR "Denial" "list" false, .kitR "Denial" "tuple" false, .cat "Code", .nm "Code" "Code", .sub "Code" "Code" true, .supM "Code" "Code" "Paper", .eqm "Code" "Paper" "__bool__", .eqm "Code" "Paper" "__eq__", .same "Code" "__ne__" "object.__ne__", .kit "Code" "Paper" true, .kitR "Code" "int" false, .kitR "Code" "bool" false, .kitR "Code" "str" false, .kitR "Code" "list" false, .kitR "Code" "tuple" false, .cat "Family", .nm "Family" "Family", .sub "Family" "Family" true, .supM "Family" "Family" "Paper", .eqm "Family" "Paper" "__bool__", .eqm "Family" "Paper" "__eq__"]
def fb1 : List HeX.Fb := [.same "Family" "__ne__" "object.__ne__", .kit "Family" "Paper" true, .kitR "Family" "int" false, .kitR "Family" "bool" false, .kitR "Family" "str" false, .kitR "Family" "list" false, .kitR "Family" "tuple" false, .cat "Alike", .nm "Alike" "Alike", .sub "Alike" "Alike" true, .supM "Alike" "Alike" "Paper", .eqm "Alike" "Paper" "__bool__", .eqm "Alike" "Paper" "__eq__", .same "Alike" "__ne__" "object.__ne__", .kit "Alike" "Paper" true, .kitR "Alike" "int" false, .kitR "Alike" "bool" false, .kitR "Alike" "str" false, .kitR "Alike" "list" false, .kitR "Alike" "tuple" false, .cat "Unlike", .nm "Unlike" "Unlike", .sub "Unlike" "Unlike" true, .supM "Unlike" "Unlike" "Paper", .eqm "Unlike" "Denial" "__bool__", .eqm "Unlike" "Paper" "__eq__", .same "Unlike" "__ne__" "object.__ne__", .kit "Unlike" "Paper" true, .kitR "Unlike" "int" false, .kitR "Unlike" "bool" false, .kitR "Unlike" "str" false, .kitR "Unlike" "list" false, .kitR "Unlike" "tuple" false, .cat "Stays", .nm "Stays" "Stays", .sub "Stays" "Stays" true, .supM "Stays" "Stays" "Paper", .eqm "Stays" "Paper" "__bool__", .eqm "Stays" "Paper" "__eq__", .same "Stays" "__ne__" "object.__ne__"]
def fb2 : List HeX.Fb := [.kit "Stays" "Paper" true, .kitR "Stays" "int" false, .kitR "Stays" "bool" false, .kitR "Stays" "str" false, .kitR "Stays" "list" false, .kitR "Stays" "tuple" false, .cat "Spoilt", .nm "Spoilt" "Spoilt", .sub "Spoilt" "Spoilt" true, .supM "Spoilt" "Spoilt" "Paper", .eqm "Spoilt" "Denial" "__bool__", .eqm "Spoilt" "Paper" "__eq__", .same "Spoilt" "__ne__" "object.__ne__", .kit "Spoilt" "Paper" true, .kitR "Spoilt" "int" false, .kitR "Spoilt" "bool" false, .kitR "Spoilt" "str" false, .kitR "Spoilt" "list" false, .kitR "Spoilt" "tuple" false, .cat "Holds", .nm "Holds" "Holds", .sub "Holds" "Holds" true, .supM "Holds" "Holds" "Paper", .eqm "Holds" "Paper" "__bool__", .eqm "Holds" "Paper" "__eq__", .same "Holds" "__ne__" "object.__ne__", .kit "Holds" "Paper" true, .kitR "Holds" "int" false, .kitR "Holds" "bool" false, .kitR "Holds" "str" false, .kitR "Holds" "list" false, .kitR "Holds" "tuple" false, .cat "Breaks", .nm "Breaks" "Breaks", .sub "Breaks" "Breaks" true, .supM "Breaks" "Breaks" "Paper", .eqm "Breaks" "Denial" "__bool__", .eqm "Breaks" "Paper" "__eq__", .same "Breaks" "__ne__" "object.__ne__", .kit "Breaks" "Paper" true]
def fb3 : List HeX.Fb := [.kitR "Breaks" "int" false, .kitR "Breaks" "bool" false, .kitR "Breaks" "str" false, .kitR "Breaks" "list" false, .kitR "Breaks" "tuple" false, .cat "Guards", .nm "Guards" "Guards", .sub "Guards" "Guards" true, .supM "Guards" "Guards" "Paper", .eqm "Guards" "Paper" "__bool__", .eqm "Guards" "Paper" "__eq__", .same "Guards" "__ne__" "object.__ne__", .kit "Guards" "Paper" true, .kitR "Guards" "int" false, .kitR "Guards" "bool" false, .kitR "Guards" "str" false, .kitR "Guards" "list" false, .kitR "Guards" "tuple" false, .cat "Checked", .nm "Checked" "Checked", .sub "Checked" "Checked" true, .supM "Checked" "Checked" "Paper", .eqm "Checked" "Paper" "__bool__", .eqm "Checked" "Paper" "__eq__", .same "Checked" "__ne__" "object.__ne__", .kit "Checked" "Paper" true, .kitR "Checked" "int" false, .kitR "Checked" "bool" false, .kitR "Checked" "str" false, .kitR "Checked" "list" false, .kitR "Checked" "tuple" false, .cat "Broken", .nm "Broken" "Broken", .sub "Broken" "Broken" true, .supM "Broken" "Broken" "Paper", .eqm "Broken" "Denial" "__bool__", .eqm "Broken" "Paper" "__eq__", .same "Broken" "__ne__" "object.__ne__", .kit "Broken" "Paper" true, .kitR "Broken" "int" false]
def fb4 : List HeX.Fb := [.kitR "Broken" "bool" false, .kitR "Broken" "str" false, .kitR "Broken" "list" false, .kitR "Broken" "tuple" false, .cat "Opened", .nm "Opened" "Opened", .kit "Opened" "Paper" false, .kitR "Opened" "int" false, .kitR "Opened" "bool" false, .kitR "Opened" "str" false, .kitR "Opened" "list" false, .kitR "Opened" "tuple" false, .cat "Reading", .nm "Reading" "Reading", .kit "Reading" "Paper" false, .kitR "Reading" "int" false, .kitR "Reading" "bool" false, .kitR "Reading" "str" false, .kitR "Reading" "list" false, .kitR "Reading" "tuple" false, .kitT "NoneType" "Paper" false, .kitT "bool" "Paper" false, .kitT "int" "Paper" false, .kitT "str" "Paper" false, .kitT "list" "Paper" false, .kitT "tuple" "Paper" false, .kitT "dict" "Paper" false, .xc "BadValue", .oex "BadValue", .sub "BadValue" "PartError" true, .supB "BadValue" "PartError", .eqm "BadValue" "PartError" "__init__", .exm "BadValue" "SoError" true, .kit "BadValue" "BadProgram" false, .kit "BadValue" "BadPlace" false, .kit "BadValue" "BadNumber" false, .kit "BadValue" "BadValue" true, .kit "BadValue" "BadText" false, .kit "BadValue" "BadCommand" false, .kit "BadValue" "Nothing" false]
def fb5 : List HeX.Fb := [.kit "BadValue" "TooMany" false, .xc "BadText", .oex "BadText", .sub "BadText" "BadText" true, .supB "BadText" "BadText", .exm "BadText" "SoError" true, .kit "BadText" "BadProgram" false, .kit "BadText" "BadPlace" false, .kit "BadText" "BadNumber" false, .kit "BadText" "BadValue" false, .kit "BadText" "BadText" true, .kit "BadText" "BadCommand" false, .kit "BadText" "Nothing" false, .kit "BadText" "TooMany" false, .tab "SIZES" [("family", 2), ("holds", 1), ("breaks", 1), ("guards", 2), ("checked", 1), ("broken", 2), ("alike", 1), ("unlike", 2), ("stays", 1), ("spoilt", 2), ("code", 2)]]
def fb : List HeX.Fb := fb0 ++ fb1 ++ fb2 ++ fb3 ++ fb4 ++ fb5
def tfNe (K : PySem.W.Frag) : Bool := decide ((tf.map fun p => (He.cT K p).2).Nodup)
def ex (K : PySem.W.Frag) : Bool := HeX.exAll fb K && tfNe K
abbrev R : PySem.W.OpenRow := PySem.W.OpenLaw.row PySem.Challenge.rw_alwaysso_k95_texts_of_papers_that_cannot
abbrev file : Str := "/claim/cut.py"
abbrev hk : PySem.W.Hook := HeS.hookS 5 fa fn ts tf ex file fs
def ob (s : PySem.W.SharedT) : HeS.AlS := HeS.obsS 5 fa fn ts tf ex file fs (HandSHeadRun.getT s)
theorem ob_eq (s : PySem.W.SharedT) : ob s = hk.obs s.abs := HeS.obsS_eq (HandSHeadRun.getT_eq s)
def loose : List Str := [("is_integer" : Str), ("SoError" : Str), ("PartError" : Str), ("BadProgram" : Str), ("BadPlace" : Str), ("BadNumber" : Str), ("BadValue" : Str), ("BadText" : Str), ("BadCommand" : Str), ("Nothing" : Str), ("TooMany" : Str), ("kept" : Str), ("Paper" : Str), ("Denial" : Str), ("Code" : Str), ("Family" : Str), ("Alike" : Str), ("Unlike" : Str), ("Stays" : Str), ("Spoilt" : Str), ("Holds" : Str), ("Breaks" : Str), ("Guards" : Str), ("Checked" : Str), ("Broken" : Str), ("MOST_DIGITS" : Str), ("MOST_SIGNS" : Str), ("MOST_DEEP" : Str), ("DIGITS" : Str), ("LETTERS" : Str), ("SIGNS" : Str), ("NOTHING" : Str), ("SIZES" : Str), ("is_word" : Str), ("is_kind" : Str), ("words_of" : Str), ("paper_text" : Str), ("made_of" : Str), ("Opened" : Str), ("number_of" : Str)] ++ [("plain_of" : Str), ("Reading" : Str), ("read_paper" : Str), ("_law_well" : Str), ("_law_draw" : Str), ("_law_one" : Str), ("_law_said" : Str), ("_law_sizes" : Str), ("_law_is_plain" : Str), ("_law_fault" : Str), ("_law_words" : Str), ("_law_paper_words" : Str), ("_law_deep_right" : Str)]
def RunP (w : World) : Prop := HandSHeadRun.RunEq R (PySem.W.view R.prog [65]) hk ob 9000 loose w
end K94
set_option maxRecDepth 100000
set_option maxHeartbeats 0
namespace K94
open PySem PySem.W PySem.Spec PyProof.Rows L2
theorem runF (w : World) : RunP (w.withFollow "special-get-raises" false) := by
  intro os
  kernel_rfl
theorem runT (w : World) : RunP (w.withFollow "special-get-raises" true) := by
  intro os
  kernel_rfl
theorem run (w : World) : RunP w := PySem.W.byRow2 "special-get-raises" runF runT w
end K94
set_option maxRecDepth 100000
set_option maxHeartbeats 2000000
namespace K94
open PySem PySem.Spec PyProof.Rows L2
def PR : Program := (PySem.Challenge.rw_alwaysso_k95_texts_of_papers_that_cannot).prog
/-- the text behind the top -/
structure Txt (w : World) (K : PySem.W.Frag) (mg : Str → Option Value) : Prop where
  ex : ∃ h : Heap, K.In h ∧ h.Ns mainGlobals mg ∧ HeS.SaysS fa fn ts tf ex file fs w h K
namespace Txt
section
variable {w : World} {K : PySem.W.Frag} {mg : Str → Option Value} (T : Txt w K mg)
include T
theorem fact {f : He.Fa} (h : f ∈ fa) : f.ok K = true := by
  obtain ⟨_, _, _, s⟩ := T.ex
  exact s.fact h
theorem bact {f : HeX.Fb} (h : f ∈ fb) : f.ok K = true := by
  obtain ⟨_, _, _, s⟩ := T.ex
  exact HeX.exAll_mem (Bool.and_eq_true_iff.mp s.ex).1 h
theorem tne : (tf.map fun p => (He.cT K p).2).Nodup := by
  obtain ⟨_, _, _, s⟩ := T.ex
  exact of_decide_eq_true (Bool.and_eq_true_iff.mp s.ex).2
theorem def_ {d : He.DefD} (h : d ∈ fn) : ∃ fd, FunD K d.name d.qual d.params d.body d.scope (d.dvs K) (d.kws K) (He.fAd K d.at_) fd := by
  obtain ⟨_, _, _, s⟩ := T.ex
  exact s.def_ h
theorem sup_ {d : HeS.SupD} (h : d ∈ fs) : ∃ fd, HeS.FunS K d.name d.qual d.params d.body d.scope file (He.ga K d.cls) (He.fAd K d.at_) fd := by
  obtain ⟨_, _, _, s⟩ := T.ex
  exact s.sup h
theorem g_is_integer : mg "is_integer" = some (.ref (He.ga K "is_integer")) := by
  obtain ⟨_, X, G, s⟩ := T.ex
  exact He.glo_ok X G (T.fact (List.mem_of_getElem? (i := 0) (by kernel_rfl)))
theorem g_kept : mg "kept" = some (.ref (He.ga K "kept")) := by
  obtain ⟨_, X, G, s⟩ := T.ex
  exact He.glo_ok X G (T.fact (List.mem_of_getElem? (i := 1) (by kernel_rfl)))
theorem g_is_word : mg "is_word" = some (.ref (He.ga K "is_word")) := by
  obtain ⟨_, X, G, s⟩ := T.ex
  exact He.glo_ok X G (T.fact (List.mem_of_getElem? (i := 2) (by kernel_rfl)))
theorem g_is_kind : mg "is_kind" = some (.ref (He.ga K "is_kind")) := by
  obtain ⟨_, X, G, s⟩ := T.ex
  exact He.glo_ok X G (T.fact (List.mem_of_getElem? (i := 3) (by kernel_rfl)))
theorem g_words_of : mg "words_of" = some (.ref (He.ga K "words_of")) := by
  obtain ⟨_, X, G, s⟩ := T.ex
  exact He.glo_ok X G (T.fact (List.mem_of_getElem? (i := 4) (by kernel_rfl)))
theorem g_paper_text : mg "paper_text" = some (.ref (He.ga K "paper_text")) := by
  obtain ⟨_, X, G, s⟩ := T.ex
  exact He.glo_ok X G (T.fact (List.mem_of_getElem? (i := 5) (by kernel_rfl)))
theorem g_made_of : mg "made_of" = some (.ref (He.ga K "made_of")) := by
  obtain ⟨_, X, G, s⟩ := T.ex
  exact He.glo_ok X G (T.fact (List.mem_of_getElem? (i := 6) (by kernel_rfl)))
theorem g_number_of : mg "number_of" = some (.ref (He.ga K "number_of")) := by
  obtain ⟨_, X, G, s⟩ := T.ex
  exact He.glo_ok X G (T.fact (List.mem_of_getElem? (i := 7) (by kernel_rfl)))
theorem g_plain_of : mg "plain_of" = some (.ref (He.ga K "plain_of")) := by
  obtain ⟨_, X, G, s⟩ := T.ex
  exact He.glo_ok X G (T.fact (List.mem_of_getElem? (i := 8) (by kernel_rfl)))
theorem g_read_paper : mg "read_paper" = some (.ref (He.ga K "read_paper")) := by
  obtain ⟨_, X, G, s⟩ := T.ex
  exact He.glo_ok X G (T.fact (List.mem_of_getElem? (i := 9) (by kernel_rfl)))
theorem g__law_well : mg "_law_well" = some (.ref (He.ga K "_law_well")) := by
  obtain ⟨_, X, G, s⟩ := T.ex
  exact He.glo_ok X G (T.fact (List.mem_of_getElem? (i := 10) (by kernel_rfl)))
theorem g__law_draw : mg "_law_draw" = some (.ref (He.ga K "_law_draw")) := by
  obtain ⟨_, X, G, s⟩ := T.ex
  exact He.glo_ok X G (T.fact (List.mem_of_getElem? (i := 11) (by kernel_rfl)))
theorem g__law_one : mg "_law_one" = some (.ref (He.ga K "_law_one")) := by
  obtain ⟨_, X, G, s⟩ := T.ex
  exact He.glo_ok X G (T.fact (List.mem_of_getElem? (i := 12) (by kernel_rfl)))
theorem g__law_said : mg "_law_said" = some (.ref (He.ga K "_law_said")) := by
  obtain ⟨_, X, G, s⟩ := T.ex
  exact He.glo_ok X G (T.fact (List.mem_of_getElem? (i := 13) (by kernel_rfl)))
theorem g__law_sizes : mg "_law_sizes" = some (.ref (He.ga K "_law_sizes")) := by
  obtain ⟨_, X, G, s⟩ := T.ex
  exact He.glo_ok X G (T.fact (List.mem_of_getElem? (i := 14) (by kernel_rfl)))
theorem g__law_is_plain : mg "_law_is_plain" = some (.ref (He.ga K "_law_is_plain")) := by
  obtain ⟨_, X, G, s⟩ := T.ex
  exact He.glo_ok X G (T.fact (List.mem_of_getElem? (i := 15) (by kernel_rfl)))
theorem g__law_fault : mg "_law_fault" = some (.ref (He.ga K "_law_fault")) := by
  obtain ⟨_, X, G, s⟩ := T.ex
  exact He.glo_ok X G (T.fact (List.mem_of_getElem? (i := 16) (by kernel_rfl)))
theorem g__law_words : mg "_law_words" = some (.ref (He.ga K "_law_words")) := by
  obtain ⟨_, X, G, s⟩ := T.ex
  exact He.glo_ok X G (T.fact (List.mem_of_getElem? (i := 17) (by kernel_rfl)))
theorem g__law_paper_words : mg "_law_paper_words" = some (.ref (He.ga K "_law_paper_words")) := by
  obtain ⟨_, X, G, s⟩ := T.ex
  exact He.glo_ok X G (T.fact (List.mem_of_getElem? (i := 18) (by kernel_rfl)))
theorem g__law_deep_right : mg "_law_deep_right" = some (.ref (He.ga K "_law_deep_right")) := by
  obtain ⟨_, X, G, s⟩ := T.ex
  exact He.glo_ok X G (T.fact (List.mem_of_getElem? (i := 19) (by kernel_rfl)))
theorem g_law : mg "law" = some (.ref (He.ga K "law")) := by
  obtain ⟨_, X, G, s⟩ := T.ex
  exact He.glo_ok X G (T.fact (List.mem_of_getElem? (i := 20) (by kernel_rfl)))
theorem g_SoError : mg "SoError" = some (.ref (He.ga K "SoError")) := by
  obtain ⟨_, X, G, s⟩ := T.ex
  exact He.glo_ok X G (T.fact (List.mem_of_getElem? (i := 21) (by kernel_rfl)))
theorem g_PartError : mg "PartError" = some (.ref (He.ga K "PartError")) := by
  obtain ⟨_, X, G, s⟩ := T.ex
  exact He.glo_ok X G (T.fact (List.mem_of_getElem? (i := 22) (by kernel_rfl)))
theorem g_BadProgram : mg "BadProgram" = some (.ref (He.ga K "BadProgram")) := by
  obtain ⟨_, X, G, s⟩ := T.ex
  exact He.glo_ok X G (T.fact (List.mem_of_getElem? (i := 23) (by kernel_rfl)))
theorem g_BadPlace : mg "BadPlace" = some (.ref (He.ga K "BadPlace")) := by
  obtain ⟨_, X, G, s⟩ := T.ex
  exact He.glo_ok X G (T.fact (List.mem_of_getElem? (i := 24) (by kernel_rfl)))
theorem g_BadNumber : mg "BadNumber" = some (.ref (He.ga K "BadNumber")) := by
  obtain ⟨_, X, G, s⟩ := T.ex
  exact He.glo_ok X G (T.fact (List.mem_of_getElem? (i := 25) (by kernel_rfl)))
theorem g_BadValue : mg "BadValue" = some (.ref (He.ga K "BadValue")) := by
  obtain ⟨_, X, G, s⟩ := T.ex
  exact He.glo_ok X G (T.fact (List.mem_of_getElem? (i := 26) (by kernel_rfl)))
theorem g_BadText : mg "BadText" = some (.ref (He.ga K "BadText")) := by
  obtain ⟨_, X, G, s⟩ := T.ex
  exact He.glo_ok X G (T.fact (List.mem_of_getElem? (i := 27) (by kernel_rfl)))
theorem g_BadCommand : mg "BadCommand" = some (.ref (He.ga K "BadCommand")) := by
  obtain ⟨_, X, G, s⟩ := T.ex
  exact He.glo_ok X G (T.fact (List.mem_of_getElem? (i := 28) (by kernel_rfl)))
theorem g_Nothing : mg "Nothing" = some (.ref (He.ga K "Nothing")) := by
  obtain ⟨_, X, G, s⟩ := T.ex
  exact He.glo_ok X G (T.fact (List.mem_of_getElem? (i := 29) (by kernel_rfl)))
theorem g_TooMany : mg "TooMany" = some (.ref (He.ga K "TooMany")) := by
  obtain ⟨_, X, G, s⟩ := T.ex
  exact He.glo_ok X G (T.fact (List.mem_of_getElem? (i := 30) (by kernel_rfl)))
theorem g_Paper : mg "Paper" = some (.ref (He.ga K "Paper")) := by
  obtain ⟨_, X, G, s⟩ := T.ex
  exact He.glo_ok X G (T.fact (List.mem_of_getElem? (i := 31) (by kernel_rfl)))
theorem g_Denial : mg "Denial" = some (.ref (He.ga K "Denial")) := by
  obtain ⟨_, X, G, s⟩ := T.ex
  exact He.glo_ok X G (T.fact (List.mem_of_getElem? (i := 32) (by kernel_rfl)))
theorem g_Code : mg "Code" = some (.ref (He.ga K "Code")) := by
  obtain ⟨_, X, G, s⟩ := T.ex
  exact He.glo_ok X G (T.fact (List.mem_of_getElem? (i := 33) (by kernel_rfl)))
theorem g_Family : mg "Family" = some (.ref (He.ga K "Family")) := by
  obtain ⟨_, X, G, s⟩ := T.ex
  exact He.glo_ok X G (T.fact (List.mem_of_getElem? (i := 34) (by kernel_rfl)))
theorem g_Alike : mg "Alike" = some (.ref (He.ga K "Alike")) := by
  obtain ⟨_, X, G, s⟩ := T.ex
  exact He.glo_ok X G (T.fact (List.mem_of_getElem? (i := 35) (by kernel_rfl)))
theorem g_Unlike : mg "Unlike" = some (.ref (He.ga K "Unlike")) := by
  obtain ⟨_, X, G, s⟩ := T.ex
  exact He.glo_ok X G (T.fact (List.mem_of_getElem? (i := 36) (by kernel_rfl)))
theorem g_Stays : mg "Stays" = some (.ref (He.ga K "Stays")) := by
  obtain ⟨_, X, G, s⟩ := T.ex
  exact He.glo_ok X G (T.fact (List.mem_of_getElem? (i := 37) (by kernel_rfl)))
theorem g_Spoilt : mg "Spoilt" = some (.ref (He.ga K "Spoilt")) := by
  obtain ⟨_, X, G, s⟩ := T.ex
  exact He.glo_ok X G (T.fact (List.mem_of_getElem? (i := 38) (by kernel_rfl)))
theorem g_Holds : mg "Holds" = some (.ref (He.ga K "Holds")) := by
  obtain ⟨_, X, G, s⟩ := T.ex
  exact He.glo_ok X G (T.fact (List.mem_of_getElem? (i := 39) (by kernel_rfl)))
theorem g_Breaks : mg "Breaks" = some (.ref (He.ga K "Breaks")) := by
  obtain ⟨_, X, G, s⟩ := T.ex
  exact He.glo_ok X G (T.fact (List.mem_of_getElem? (i := 40) (by kernel_rfl)))
theorem g_Guards : mg "Guards" = some (.ref (He.ga K "Guards")) := by
  obtain ⟨_, X, G, s⟩ := T.ex
  exact He.glo_ok X G (T.fact (List.mem_of_getElem? (i := 41) (by kernel_rfl)))
theorem g_Checked : mg "Checked" = some (.ref (He.ga K "Checked")) := by
  obtain ⟨_, X, G, s⟩ := T.ex
  exact He.glo_ok X G (T.fact (List.mem_of_getElem? (i := 42) (by kernel_rfl)))
theorem g_Broken : mg "Broken" = some (.ref (He.ga K "Broken")) := by
  obtain ⟨_, X, G, s⟩ := T.ex
  exact He.glo_ok X G (T.fact (List.mem_of_getElem? (i := 43) (by kernel_rfl)))
theorem g_Opened : mg "Opened" = some (.ref (He.ga K "Opened")) := by
  obtain ⟨_, X, G, s⟩ := T.ex
  exact He.glo_ok X G (T.fact (List.mem_of_getElem? (i := 44) (by kernel_rfl)))
theorem g_Reading : mg "Reading" = some (.ref (He.ga K "Reading")) := by
  obtain ⟨_, X, G, s⟩ := T.ex
  exact He.glo_ok X G (T.fact (List.mem_of_getElem? (i := 45) (by kernel_rfl)))
theorem g_MOST_DIGITS : ∃ t, mg "MOST_DIGITS" = some (.int 400 t) := by
  obtain ⟨_, X, G, s⟩ := T.ex
  exact He.int_ok X G (T.fact (List.mem_of_getElem? (i := 46) (by kernel_rfl)))
theorem g_MOST_SIGNS : ∃ t, mg "MOST_SIGNS" = some (.int 100 t) := by
  obtain ⟨_, X, G, s⟩ := T.ex
  exact He.int_ok X G (T.fact (List.mem_of_getElem? (i := 47) (by kernel_rfl)))
theorem g_MOST_DEEP : ∃ t, mg "MOST_DEEP" = some (.int 20 t) := by
  obtain ⟨_, X, G, s⟩ := T.ex
  exact He.int_ok X G (T.fact (List.mem_of_getElem? (i := 48) (by kernel_rfl)))
theorem g_DIGITS : ∃ t, mg "DIGITS" = some (.str "0123456789" t) := by
  obtain ⟨_, X, G, s⟩ := T.ex
  exact He.str_ok X G (T.fact (List.mem_of_getElem? (i := 49) (by kernel_rfl)))
theorem g_LETTERS : ∃ t, mg "LETTERS" = some (.str "abcdefghijklmnopqrstuvwxyz" t) := by
  obtain ⟨_, X, G, s⟩ := T.ex
  exact He.str_ok X G (T.fact (List.mem_of_getElem? (i := 50) (by kernel_rfl)))
theorem g_SIGNS : ∃ t, mg "SIGNS" = some (.str "abcdefghijklmnopqrstuvwxyz0123456789." t) := by
  obtain ⟨_, X, G, s⟩ := T.ex
  exact He.str_ok X G (T.fact (List.mem_of_getElem? (i := 51) (by kernel_rfl)))
theorem g_NOTHING : ∃ t, mg "NOTHING" = some (.str "-" t) := by
  obtain ⟨_, X, G, s⟩ := T.ex
  exact He.str_ok X G (T.fact (List.mem_of_getElem? (i := 52) (by kernel_rfl)))
theorem g_SIZES : mg "SIZES" = some (.ref (He.ga K "SIZES")) := by
  obtain ⟨_, X, G, s⟩ := T.ex
  exact He.glo_ok X G (T.fact (List.mem_of_getElem? (i := 53) (by kernel_rfl)))
theorem n_ValueError : mg "ValueError" = none := by
  obtain ⟨_, X, G, s⟩ := T.ex
  exact He.free_ok X G (T.fact (List.mem_of_getElem? (i := 54) (by kernel_rfl)))
theorem n_abs : mg "abs" = none := by
  obtain ⟨_, X, G, s⟩ := T.ex
  exact He.free_ok X G (T.fact (List.mem_of_getElem? (i := 55) (by kernel_rfl)))
theorem n_all : mg "all" = none := by
  obtain ⟨_, X, G, s⟩ := T.ex
  exact He.free_ok X G (T.fact (List.mem_of_getElem? (i := 56) (by kernel_rfl)))
theorem n_bool : mg "bool" = none := by
  obtain ⟨_, X, G, s⟩ := T.ex
  exact He.free_ok X G (T.fact (List.mem_of_getElem? (i := 57) (by kernel_rfl)))
theorem n_enumerate : mg "enumerate" = none := by
  obtain ⟨_, X, G, s⟩ := T.ex
  exact He.free_ok X G (T.fact (List.mem_of_getElem? (i := 58) (by kernel_rfl)))
theorem n_int : mg "int" = none := by
  obtain ⟨_, X, G, s⟩ := T.ex
  exact He.free_ok X G (T.fact (List.mem_of_getElem? (i := 59) (by kernel_rfl)))
theorem n_isinstance : mg "isinstance" = none := by
  obtain ⟨_, X, G, s⟩ := T.ex
  exact He.free_ok X G (T.fact (List.mem_of_getElem? (i := 60) (by kernel_rfl)))
theorem n_len : mg "len" = none := by
  obtain ⟨_, X, G, s⟩ := T.ex
  exact He.free_ok X G (T.fact (List.mem_of_getElem? (i := 61) (by kernel_rfl)))
theorem n_list : mg "list" = none := by
  obtain ⟨_, X, G, s⟩ := T.ex
  exact He.free_ok X G (T.fact (List.mem_of_getElem? (i := 62) (by kernel_rfl)))
theorem n_range : mg "range" = none := by
  obtain ⟨_, X, G, s⟩ := T.ex
  exact He.free_ok X G (T.fact (List.mem_of_getElem? (i := 63) (by kernel_rfl)))
theorem n_sorted : mg "sorted" = none := by
  obtain ⟨_, X, G, s⟩ := T.ex
  exact He.free_ok X G (T.fact (List.mem_of_getElem? (i := 64) (by kernel_rfl)))
theorem n_str : mg "str" = none := by
  obtain ⟨_, X, G, s⟩ := T.ex
  exact He.free_ok X G (T.fact (List.mem_of_getElem? (i := 65) (by kernel_rfl)))
theorem n_sum : mg "sum" = none := by
  obtain ⟨_, X, G, s⟩ := T.ex
  exact He.free_ok X G (T.fact (List.mem_of_getElem? (i := 66) (by kernel_rfl)))
theorem n_super : mg "super" = none := by
  obtain ⟨_, X, G, s⟩ := T.ex
  exact He.free_ok X G (T.fact (List.mem_of_getElem? (i := 67) (by kernel_rfl)))
theorem n_tuple : mg "tuple" = none := by
  obtain ⟨_, X, G, s⟩ := T.ex
  exact He.free_ok X G (T.fact (List.mem_of_getElem? (i := 68) (by kernel_rfl)))
theorem n_type : mg "type" = none := by
  obtain ⟨_, X, G, s⟩ := T.ex
  exact He.free_ok X G (T.fact (List.mem_of_getElem? (i := 69) (by kernel_rfl)))
theorem c_Paper : Cls K (He.ga K "Paper") := He.cls_ok (T.fact (List.mem_of_getElem? (i := 70) (by kernel_rfl)))
theorem mk_Paper : Mk K (He.ga K "Paper") (He.ma K (He.ga K "Paper") "__init__") := He.mkr_ok (T.fact (List.mem_of_getElem? (i := 71) (by kernel_rfl)))
theorem na_Paper_word : PySem.W.findIn K (.ref (He.ga K "Paper")) "word" = some none := He.noat_ok (T.fact (List.mem_of_getElem? (i := 72) (by kernel_rfl)))
theorem na_Paper_parts : PySem.W.findIn K (.ref (He.ga K "Paper")) "parts" = some none := He.noat_ok (T.fact (List.mem_of_getElem? (i := 73) (by kernel_rfl)))
theorem m_Paper_init : Meth K (He.ga K "Paper") "__init__" (He.ma K (He.ga K "Paper") "__init__") := He.meth_ok (T.fact (List.mem_of_getElem? (i := 74) (by kernel_rfl)))
theorem m_Paper_bool : Meth K (He.ga K "Paper") "__bool__" (He.ma K (He.ga K "Paper") "__bool__") := He.meth_ok (T.fact (List.mem_of_getElem? (i := 75) (by kernel_rfl)))
theorem m_Paper_eq : Meth K (He.ga K "Paper") "__eq__" (He.ma K (He.ga K "Paper") "__eq__") := He.meth_ok (T.fact (List.mem_of_getElem? (i := 76) (by kernel_rfl)))
theorem c_Denial : Cls K (He.ga K "Denial") := He.cls_ok (T.fact (List.mem_of_getElem? (i := 77) (by kernel_rfl)))
theorem mk_Denial : Mk K (He.ga K "Denial") (He.ma K (He.ga K "Denial") "__init__") := He.mkr_ok (T.fact (List.mem_of_getElem? (i := 78) (by kernel_rfl)))
theorem na_Denial_word : PySem.W.findIn K (.ref (He.ga K "Denial")) "word" = some none := He.noat_ok (T.fact (List.mem_of_getElem? (i := 79) (by kernel_rfl)))
theorem na_Denial_parts : PySem.W.findIn K (.ref (He.ga K "Denial")) "parts" = some none := He.noat_ok (T.fact (List.mem_of_getElem? (i := 80) (by kernel_rfl)))
theorem m_Denial_bool : Meth K (He.ga K "Denial") "__bool__" (He.ma K (He.ga K "Denial") "__bool__") := He.meth_ok (T.fact (List.mem_of_getElem? (i := 81) (by kernel_rfl)))
theorem m_Denial_init : Meth K (He.ga K "Denial") "__init__" (He.ma K (He.ga K "Denial") "__init__") := He.meth_ok (T.fact (List.mem_of_getElem? (i := 82) (by kernel_rfl)))
theorem m_Denial_eq : Meth K (He.ga K "Denial") "__eq__" (He.ma K (He.ga K "Denial") "__eq__") := He.meth_ok (T.fact (List.mem_of_getElem? (i := 83) (by kernel_rfl)))
theorem c_Code : Cls K (He.ga K "Code") := He.cls_ok (T.fact (List.mem_of_getElem? (i := 84) (by kernel_rfl)))
theorem mk_Code : Mk K (He.ga K "Code") (He.ma K (He.ga K "Code") "__init__") := He.mkr_ok (T.fact (List.mem_of_getElem? (i := 85) (by kernel_rfl)))
theorem na_Code_addresses : PySem.W.findIn K (.ref (He.ga K "Code")) "addresses" = some none := He.noat_ok (T.fact (List.mem_of_getElem? (i := 86) (by kernel_rfl)))
theorem na_Code_instructions : PySem.W.findIn K (.ref (He.ga K "Code")) "instructions" = some none := He.noat_ok (T.fact (List.mem_of_getElem? (i := 87) (by kernel_rfl)))
theorem na_Code_word : PySem.W.findIn K (.ref (He.ga K "Code")) "word" = some none := He.noat_ok (T.fact (List.mem_of_getElem? (i := 88) (by kernel_rfl)))
theorem na_Code_parts : PySem.W.findIn K (.ref (He.ga K "Code")) "parts" = some none := He.noat_ok (T.fact (List.mem_of_getElem? (i := 89) (by kernel_rfl)))
theorem m_Code_init : Meth K (He.ga K "Code") "__init__" (He.ma K (He.ga K "Code") "__init__") := He.meth_ok (T.fact (List.mem_of_getElem? (i := 90) (by kernel_rfl)))
theorem m_Code_bool : Meth K (He.ga K "Code") "__bool__" (He.ma K (He.ga K "Code") "__bool__") := He.meth_ok (T.fact (List.mem_of_getElem? (i := 91) (by kernel_rfl)))
theorem m_Code_eq : Meth K (He.ga K "Code") "__eq__" (He.ma K (He.ga K "Code") "__eq__") := He.meth_ok (T.fact (List.mem_of_getElem? (i := 92) (by kernel_rfl)))
theorem c_Family : Cls K (He.ga K "Family") := He.cls_ok (T.fact (List.mem_of_getElem? (i := 93) (by kernel_rfl)))
theorem mk_Family : Mk K (He.ga K "Family") (He.ma K (He.ga K "Family") "__init__") := He.mkr_ok (T.fact (List.mem_of_getElem? (i := 94) (by kernel_rfl)))
theorem na_Family_vectors : PySem.W.findIn K (.ref (He.ga K "Family")) "vectors" = some none := He.noat_ok (T.fact (List.mem_of_getElem? (i := 95) (by kernel_rfl)))
theorem na_Family_matrices : PySem.W.findIn K (.ref (He.ga K "Family")) "matrices" = some none := He.noat_ok (T.fact (List.mem_of_getElem? (i := 96) (by kernel_rfl)))
theorem na_Family_word : PySem.W.findIn K (.ref (He.ga K "Family")) "word" = some none := He.noat_ok (T.fact (List.mem_of_getElem? (i := 97) (by kernel_rfl)))
theorem na_Family_parts : PySem.W.findIn K (.ref (He.ga K "Family")) "parts" = some none := He.noat_ok (T.fact (List.mem_of_getElem? (i := 98) (by kernel_rfl)))
theorem m_Family_init : Meth K (He.ga K "Family") "__init__" (He.ma K (He.ga K "Family") "__init__") := He.meth_ok (T.fact (List.mem_of_getElem? (i := 99) (by kernel_rfl)))
theorem m_Family_bool : Meth K (He.ga K "Family") "__bool__" (He.ma K (He.ga K "Family") "__bool__") := He.meth_ok (T.fact (List.mem_of_getElem? (i := 100) (by kernel_rfl)))
theorem m_Family_eq : Meth K (He.ga K "Family") "__eq__" (He.ma K (He.ga K "Family") "__eq__") := He.meth_ok (T.fact (List.mem_of_getElem? (i := 101) (by kernel_rfl)))
theorem c_Alike : Cls K (He.ga K "Alike") := He.cls_ok (T.fact (List.mem_of_getElem? (i := 102) (by kernel_rfl)))
theorem mk_Alike : Mk K (He.ga K "Alike") (He.ma K (He.ga K "Alike") "__init__") := He.mkr_ok (T.fact (List.mem_of_getElem? (i := 103) (by kernel_rfl)))
theorem na_Alike_family : PySem.W.findIn K (.ref (He.ga K "Alike")) "family" = some none := He.noat_ok (T.fact (List.mem_of_getElem? (i := 104) (by kernel_rfl)))
theorem na_Alike_word : PySem.W.findIn K (.ref (He.ga K "Alike")) "word" = some none := He.noat_ok (T.fact (List.mem_of_getElem? (i := 105) (by kernel_rfl)))
theorem na_Alike_parts : PySem.W.findIn K (.ref (He.ga K "Alike")) "parts" = some none := He.noat_ok (T.fact (List.mem_of_getElem? (i := 106) (by kernel_rfl)))
theorem m_Alike_init : Meth K (He.ga K "Alike") "__init__" (He.ma K (He.ga K "Alike") "__init__") := He.meth_ok (T.fact (List.mem_of_getElem? (i := 107) (by kernel_rfl)))
theorem m_Alike_bool : Meth K (He.ga K "Alike") "__bool__" (He.ma K (He.ga K "Alike") "__bool__") := He.meth_ok (T.fact (List.mem_of_getElem? (i := 108) (by kernel_rfl)))
theorem m_Alike_eq : Meth K (He.ga K "Alike") "__eq__" (He.ma K (He.ga K "Alike") "__eq__") := He.meth_ok (T.fact (List.mem_of_getElem? (i := 109) (by kernel_rfl)))
theorem c_Unlike : Cls K (He.ga K "Unlike") := He.cls_ok (T.fact (List.mem_of_getElem? (i := 110) (by kernel_rfl)))
theorem mk_Unlike : Mk K (He.ga K "Unlike") (He.ma K (He.ga K "Unlike") "__init__") := He.mkr_ok (T.fact (List.mem_of_getElem? (i := 111) (by kernel_rfl)))
theorem na_Unlike_at : PySem.W.findIn K (.ref (He.ga K "Unlike")) "at" = some none := He.noat_ok (T.fact (List.mem_of_getElem? (i := 112) (by kernel_rfl)))
theorem na_Unlike_way : PySem.W.findIn K (.ref (He.ga K "Unlike")) "way" = some none := He.noat_ok (T.fact (List.mem_of_getElem? (i := 113) (by kernel_rfl)))
theorem na_Unlike_word : PySem.W.findIn K (.ref (He.ga K "Unlike")) "word" = some none := He.noat_ok (T.fact (List.mem_of_getElem? (i := 114) (by kernel_rfl)))
theorem na_Unlike_parts : PySem.W.findIn K (.ref (He.ga K "Unlike")) "parts" = some none := He.noat_ok (T.fact (List.mem_of_getElem? (i := 115) (by kernel_rfl)))
theorem m_Unlike_init : Meth K (He.ga K "Unlike") "__init__" (He.ma K (He.ga K "Unlike") "__init__") := He.meth_ok (T.fact (List.mem_of_getElem? (i := 116) (by kernel_rfl)))
theorem m_Unlike_bool : Meth K (He.ga K "Unlike") "__bool__" (He.ma K (He.ga K "Unlike") "__bool__") := He.meth_ok (T.fact (List.mem_of_getElem? (i := 117) (by kernel_rfl)))
theorem m_Unlike_eq : Meth K (He.ga K "Unlike") "__eq__" (He.ma K (He.ga K "Unlike") "__eq__") := He.meth_ok (T.fact (List.mem_of_getElem? (i := 118) (by kernel_rfl)))
theorem c_Stays : Cls K (He.ga K "Stays") := He.cls_ok (T.fact (List.mem_of_getElem? (i := 119) (by kernel_rfl)))
theorem mk_Stays : Mk K (He.ga K "Stays") (He.ma K (He.ga K "Stays") "__init__") := He.mkr_ok (T.fact (List.mem_of_getElem? (i := 120) (by kernel_rfl)))
theorem na_Stays_family : PySem.W.findIn K (.ref (He.ga K "Stays")) "family" = some none := He.noat_ok (T.fact (List.mem_of_getElem? (i := 121) (by kernel_rfl)))
theorem na_Stays_word : PySem.W.findIn K (.ref (He.ga K "Stays")) "word" = some none := He.noat_ok (T.fact (List.mem_of_getElem? (i := 122) (by kernel_rfl)))
theorem na_Stays_parts : PySem.W.findIn K (.ref (He.ga K "Stays")) "parts" = some none := He.noat_ok (T.fact (List.mem_of_getElem? (i := 123) (by kernel_rfl)))
theorem m_Stays_init : Meth K (He.ga K "Stays") "__init__" (He.ma K (He.ga K "Stays") "__init__") := He.meth_ok (T.fact (List.mem_of_getElem? (i := 124) (by kernel_rfl)))
theorem m_Stays_bool : Meth K (He.ga K "Stays") "__bool__" (He.ma K (He.ga K "Stays") "__bool__") := He.meth_ok (T.fact (List.mem_of_getElem? (i := 125) (by kernel_rfl)))
theorem m_Stays_eq : Meth K (He.ga K "Stays") "__eq__" (He.ma K (He.ga K "Stays") "__eq__") := He.meth_ok (T.fact (List.mem_of_getElem? (i := 126) (by kernel_rfl)))
theorem c_Spoilt : Cls K (He.ga K "Spoilt") := He.cls_ok (T.fact (List.mem_of_getElem? (i := 127) (by kernel_rfl)))
theorem mk_Spoilt : Mk K (He.ga K "Spoilt") (He.ma K (He.ga K "Spoilt") "__init__") := He.mkr_ok (T.fact (List.mem_of_getElem? (i := 128) (by kernel_rfl)))
theorem na_Spoilt_point : PySem.W.findIn K (.ref (He.ga K "Spoilt")) "point" = some none := He.noat_ok (T.fact (List.mem_of_getElem? (i := 129) (by kernel_rfl)))
theorem na_Spoilt_way : PySem.W.findIn K (.ref (He.ga K "Spoilt")) "way" = some none := He.noat_ok (T.fact (List.mem_of_getElem? (i := 130) (by kernel_rfl)))
theorem na_Spoilt_word : PySem.W.findIn K (.ref (He.ga K "Spoilt")) "word" = some none := He.noat_ok (T.fact (List.mem_of_getElem? (i := 131) (by kernel_rfl)))
theorem na_Spoilt_parts : PySem.W.findIn K (.ref (He.ga K "Spoilt")) "parts" = some none := He.noat_ok (T.fact (List.mem_of_getElem? (i := 132) (by kernel_rfl)))
theorem m_Spoilt_init : Meth K (He.ga K "Spoilt") "__init__" (He.ma K (He.ga K "Spoilt") "__init__") := He.meth_ok (T.fact (List.mem_of_getElem? (i := 133) (by kernel_rfl)))
theorem m_Spoilt_bool : Meth K (He.ga K "Spoilt") "__bool__" (He.ma K (He.ga K "Spoilt") "__bool__") := He.meth_ok (T.fact (List.mem_of_getElem? (i := 134) (by kernel_rfl)))
theorem m_Spoilt_eq : Meth K (He.ga K "Spoilt") "__eq__" (He.ma K (He.ga K "Spoilt") "__eq__") := He.meth_ok (T.fact (List.mem_of_getElem? (i := 135) (by kernel_rfl)))
theorem c_Holds : Cls K (He.ga K "Holds") := He.cls_ok (T.fact (List.mem_of_getElem? (i := 136) (by kernel_rfl)))
theorem mk_Holds : Mk K (He.ga K "Holds") (He.ma K (He.ga K "Holds") "__init__") := He.mkr_ok (T.fact (List.mem_of_getElem? (i := 137) (by kernel_rfl)))
theorem na_Holds_family : PySem.W.findIn K (.ref (He.ga K "Holds")) "family" = some none := He.noat_ok (T.fact (List.mem_of_getElem? (i := 138) (by kernel_rfl)))
theorem na_Holds_word : PySem.W.findIn K (.ref (He.ga K "Holds")) "word" = some none := He.noat_ok (T.fact (List.mem_of_getElem? (i := 139) (by kernel_rfl)))
theorem na_Holds_parts : PySem.W.findIn K (.ref (He.ga K "Holds")) "parts" = some none := He.noat_ok (T.fact (List.mem_of_getElem? (i := 140) (by kernel_rfl)))
theorem m_Holds_init : Meth K (He.ga K "Holds") "__init__" (He.ma K (He.ga K "Holds") "__init__") := He.meth_ok (T.fact (List.mem_of_getElem? (i := 141) (by kernel_rfl)))
theorem m_Holds_bool : Meth K (He.ga K "Holds") "__bool__" (He.ma K (He.ga K "Holds") "__bool__") := He.meth_ok (T.fact (List.mem_of_getElem? (i := 142) (by kernel_rfl)))
theorem m_Holds_eq : Meth K (He.ga K "Holds") "__eq__" (He.ma K (He.ga K "Holds") "__eq__") := He.meth_ok (T.fact (List.mem_of_getElem? (i := 143) (by kernel_rfl)))
theorem c_Breaks : Cls K (He.ga K "Breaks") := He.cls_ok (T.fact (List.mem_of_getElem? (i := 144) (by kernel_rfl)))
theorem mk_Breaks : Mk K (He.ga K "Breaks") (He.ma K (He.ga K "Breaks") "__init__") := He.mkr_ok (T.fact (List.mem_of_getElem? (i := 145) (by kernel_rfl)))
theorem na_Breaks_pieces : PySem.W.findIn K (.ref (He.ga K "Breaks")) "pieces" = some none := He.noat_ok (T.fact (List.mem_of_getElem? (i := 146) (by kernel_rfl)))
theorem na_Breaks_word : PySem.W.findIn K (.ref (He.ga K "Breaks")) "word" = some none := He.noat_ok (T.fact (List.mem_of_getElem? (i := 147) (by kernel_rfl)))
theorem na_Breaks_parts : PySem.W.findIn K (.ref (He.ga K "Breaks")) "parts" = some none := He.noat_ok (T.fact (List.mem_of_getElem? (i := 148) (by kernel_rfl)))
theorem m_Breaks_init : Meth K (He.ga K "Breaks") "__init__" (He.ma K (He.ga K "Breaks") "__init__") := He.meth_ok (T.fact (List.mem_of_getElem? (i := 149) (by kernel_rfl)))
theorem m_Breaks_bool : Meth K (He.ga K "Breaks") "__bool__" (He.ma K (He.ga K "Breaks") "__bool__") := He.meth_ok (T.fact (List.mem_of_getElem? (i := 150) (by kernel_rfl)))
theorem m_Breaks_eq : Meth K (He.ga K "Breaks") "__eq__" (He.ma K (He.ga K "Breaks") "__eq__") := He.meth_ok (T.fact (List.mem_of_getElem? (i := 151) (by kernel_rfl)))
theorem c_Guards : Cls K (He.ga K "Guards") := He.cls_ok (T.fact (List.mem_of_getElem? (i := 152) (by kernel_rfl)))
theorem mk_Guards : Mk K (He.ga K "Guards") (He.ma K (He.ga K "Guards") "__init__") := He.mkr_ok (T.fact (List.mem_of_getElem? (i := 153) (by kernel_rfl)))
theorem na_Guards_least : PySem.W.findIn K (.ref (He.ga K "Guards")) "least" = some none := He.noat_ok (T.fact (List.mem_of_getElem? (i := 154) (by kernel_rfl)))
theorem na_Guards_greatest : PySem.W.findIn K (.ref (He.ga K "Guards")) "greatest" = some none := He.noat_ok (T.fact (List.mem_of_getElem? (i := 155) (by kernel_rfl)))
theorem na_Guards_word : PySem.W.findIn K (.ref (He.ga K "Guards")) "word" = some none := He.noat_ok (T.fact (List.mem_of_getElem? (i := 156) (by kernel_rfl)))
theorem na_Guards_parts : PySem.W.findIn K (.ref (He.ga K "Guards")) "parts" = some none := He.noat_ok (T.fact (List.mem_of_getElem? (i := 157) (by kernel_rfl)))
theorem m_Guards_init : Meth K (He.ga K "Guards") "__init__" (He.ma K (He.ga K "Guards") "__init__") := He.meth_ok (T.fact (List.mem_of_getElem? (i := 158) (by kernel_rfl)))
theorem m_Guards_bool : Meth K (He.ga K "Guards") "__bool__" (He.ma K (He.ga K "Guards") "__bool__") := He.meth_ok (T.fact (List.mem_of_getElem? (i := 159) (by kernel_rfl)))
theorem m_Guards_eq : Meth K (He.ga K "Guards") "__eq__" (He.ma K (He.ga K "Guards") "__eq__") := He.meth_ok (T.fact (List.mem_of_getElem? (i := 160) (by kernel_rfl)))
theorem c_Checked : Cls K (He.ga K "Checked") := He.cls_ok (T.fact (List.mem_of_getElem? (i := 161) (by kernel_rfl)))
theorem mk_Checked : Mk K (He.ga K "Checked") (He.ma K (He.ga K "Checked") "__init__") := He.mkr_ok (T.fact (List.mem_of_getElem? (i := 162) (by kernel_rfl)))
theorem na_Checked_family : PySem.W.findIn K (.ref (He.ga K "Checked")) "family" = some none := He.noat_ok (T.fact (List.mem_of_getElem? (i := 163) (by kernel_rfl)))
theorem na_Checked_word : PySem.W.findIn K (.ref (He.ga K "Checked")) "word" = some none := He.noat_ok (T.fact (List.mem_of_getElem? (i := 164) (by kernel_rfl)))
theorem na_Checked_parts : PySem.W.findIn K (.ref (He.ga K "Checked")) "parts" = some none := He.noat_ok (T.fact (List.mem_of_getElem? (i := 165) (by kernel_rfl)))
theorem m_Checked_init : Meth K (He.ga K "Checked") "__init__" (He.ma K (He.ga K "Checked") "__init__") := He.meth_ok (T.fact (List.mem_of_getElem? (i := 166) (by kernel_rfl)))
theorem m_Checked_bool : Meth K (He.ga K "Checked") "__bool__" (He.ma K (He.ga K "Checked") "__bool__") := He.meth_ok (T.fact (List.mem_of_getElem? (i := 167) (by kernel_rfl)))
theorem m_Checked_eq : Meth K (He.ga K "Checked") "__eq__" (He.ma K (He.ga K "Checked") "__eq__") := He.meth_ok (T.fact (List.mem_of_getElem? (i := 168) (by kernel_rfl)))
theorem c_Broken : Cls K (He.ga K "Broken") := He.cls_ok (T.fact (List.mem_of_getElem? (i := 169) (by kernel_rfl)))
theorem mk_Broken : Mk K (He.ga K "Broken") (He.ma K (He.ga K "Broken") "__init__") := He.mkr_ok (T.fact (List.mem_of_getElem? (i := 170) (by kernel_rfl)))
theorem na_Broken_family : PySem.W.findIn K (.ref (He.ga K "Broken")) "family" = some none := He.noat_ok (T.fact (List.mem_of_getElem? (i := 171) (by kernel_rfl)))
theorem na_Broken_rows : PySem.W.findIn K (.ref (He.ga K "Broken")) "rows" = some none := He.noat_ok (T.fact (List.mem_of_getElem? (i := 172) (by kernel_rfl)))
theorem na_Broken_word : PySem.W.findIn K (.ref (He.ga K "Broken")) "word" = some none := He.noat_ok (T.fact (List.mem_of_getElem? (i := 173) (by kernel_rfl)))
theorem na_Broken_parts : PySem.W.findIn K (.ref (He.ga K "Broken")) "parts" = some none := He.noat_ok (T.fact (List.mem_of_getElem? (i := 174) (by kernel_rfl)))
theorem m_Broken_init : Meth K (He.ga K "Broken") "__init__" (He.ma K (He.ga K "Broken") "__init__") := He.meth_ok (T.fact (List.mem_of_getElem? (i := 175) (by kernel_rfl)))
theorem m_Broken_bool : Meth K (He.ga K "Broken") "__bool__" (He.ma K (He.ga K "Broken") "__bool__") := He.meth_ok (T.fact (List.mem_of_getElem? (i := 176) (by kernel_rfl)))
theorem m_Broken_eq : Meth K (He.ga K "Broken") "__eq__" (He.ma K (He.ga K "Broken") "__eq__") := He.meth_ok (T.fact (List.mem_of_getElem? (i := 177) (by kernel_rfl)))
theorem c_Opened : Cls K (He.ga K "Opened") := He.cls_ok (T.fact (List.mem_of_getElem? (i := 178) (by kernel_rfl)))
theorem mk_Opened : Mk K (He.ga K "Opened") (He.ma K (He.ga K "Opened") "__init__") := He.mkr_ok (T.fact (List.mem_of_getElem? (i := 179) (by kernel_rfl)))
theorem na_Opened_word : PySem.W.findIn K (.ref (He.ga K "Opened")) "word" = some none := He.noat_ok (T.fact (List.mem_of_getElem? (i := 180) (by kernel_rfl)))
theorem na_Opened_told : PySem.W.findIn K (.ref (He.ga K "Opened")) "told" = some none := He.noat_ok (T.fact (List.mem_of_getElem? (i := 181) (by kernel_rfl)))
theorem m_Opened_init : Meth K (He.ga K "Opened") "__init__" (He.ma K (He.ga K "Opened") "__init__") := He.meth_ok (T.fact (List.mem_of_getElem? (i := 182) (by kernel_rfl)))
theorem m_Opened_is_full : Meth K (He.ga K "Opened") "is_full" (He.ma K (He.ga K "Opened") "is_full") := He.meth_ok (T.fact (List.mem_of_getElem? (i := 183) (by kernel_rfl)))
theorem m_Opened_made : Meth K (He.ga K "Opened") "made" (He.ma K (He.ga K "Opened") "made") := He.meth_ok (T.fact (List.mem_of_getElem? (i := 184) (by kernel_rfl)))
theorem c_Reading : Cls K (He.ga K "Reading") := He.cls_ok (T.fact (List.mem_of_getElem? (i := 185) (by kernel_rfl)))
theorem mk_Reading : Mk K (He.ga K "Reading") (He.ma K (He.ga K "Reading") "__init__") := He.mkr_ok (T.fact (List.mem_of_getElem? (i := 186) (by kernel_rfl)))
theorem na_Reading_words : PySem.W.findIn K (.ref (He.ga K "Reading")) "words" = some none := He.noat_ok (T.fact (List.mem_of_getElem? (i := 187) (by kernel_rfl)))
theorem na_Reading_line : PySem.W.findIn K (.ref (He.ga K "Reading")) "line" = some none := He.noat_ok (T.fact (List.mem_of_getElem? (i := 188) (by kernel_rfl)))
theorem na_Reading_at : PySem.W.findIn K (.ref (He.ga K "Reading")) "at" = some none := He.noat_ok (T.fact (List.mem_of_getElem? (i := 189) (by kernel_rfl)))
theorem na_Reading_begun : PySem.W.findIn K (.ref (He.ga K "Reading")) "begun" = some none := He.noat_ok (T.fact (List.mem_of_getElem? (i := 190) (by kernel_rfl)))
theorem m_Reading_init : Meth K (He.ga K "Reading") "__init__" (He.ma K (He.ga K "Reading") "__init__") := He.meth_ok (T.fact (List.mem_of_getElem? (i := 191) (by kernel_rfl)))
theorem m_Reading_stop : Meth K (He.ga K "Reading") "stop" (He.ma K (He.ga K "Reading") "stop") := He.meth_ok (T.fact (List.mem_of_getElem? (i := 192) (by kernel_rfl)))
theorem m_Reading_begin : Meth K (He.ga K "Reading") "begin" (He.ma K (He.ga K "Reading") "begin") := He.meth_ok (T.fact (List.mem_of_getElem? (i := 193) (by kernel_rfl)))
theorem m_Reading_put : Meth K (He.ga K "Reading") "put" (He.ma K (He.ga K "Reading") "put") := He.meth_ok (T.fact (List.mem_of_getElem? (i := 194) (by kernel_rfl)))
theorem m_Reading_end : Meth K (He.ga K "Reading") "end" (He.ma K (He.ga K "Reading") "end") := He.meth_ok (T.fact (List.mem_of_getElem? (i := 195) (by kernel_rfl)))
theorem m_Reading_whole : Meth K (He.ga K "Reading") "whole" (He.ma K (He.ga K "Reading") "whole") := He.meth_ok (T.fact (List.mem_of_getElem? (i := 196) (by kernel_rfl)))
theorem na_BadValue_part : PySem.W.findIn K (.ref (He.ga K "BadValue")) "part" = some none := He.noat_ok (T.fact (List.mem_of_getElem? (i := 197) (by kernel_rfl)))
theorem na_BadText_line : PySem.W.findIn K (.ref (He.ga K "BadText")) "line" = some none := He.noat_ok (T.fact (List.mem_of_getElem? (i := 198) (by kernel_rfl)))
theorem na_BadText_word : PySem.W.findIn K (.ref (He.ga K "BadText")) "word" = some none := He.noat_ok (T.fact (List.mem_of_getElem? (i := 199) (by kernel_rfl)))
theorem opq : PySem.W.nsIn K cStatics "thirdparty.any" = some none := HeX.opq_ok (T.bact (List.mem_of_getElem? (i := 0) (by kernel_rfl)))
theorem cat_Paper : HeX.CatC K (He.ga K "Paper") := HeX.cat_ok (T.bact (List.mem_of_getElem? (i := 1) (by kernel_rfl)))
theorem nm_Paper : HeX.NmC K (He.ga K "Paper") "Paper" := HeX.nm_ok (T.bact (List.mem_of_getElem? (i := 2) (by kernel_rfl)))
theorem same_Paper_ne : PySem.W.findIn K (.ref (He.ga K "Paper")) "__ne__" = some (some (.builtin "object.__ne__")) := HeX.same_ok (T.bact (List.mem_of_getElem? (i := 3) (by kernel_rfl)))
theorem kit_Paper_Paper : PySem.W.kitOne K (.ref (He.ga K "Paper")) (.ref (He.ga K "Paper")) = some true := HeX.kit_ok (T.bact (List.mem_of_getElem? (i := 4) (by kernel_rfl)))
theorem kitR_Paper_int : PySem.W.kitOne K (.ref (He.ga K "Paper")) (.type "int") = some false := HeX.kitR_ok (T.bact (List.mem_of_getElem? (i := 5) (by kernel_rfl)))
theorem kitR_Paper_bool : PySem.W.kitOne K (.ref (He.ga K "Paper")) (.type "bool") = some false := HeX.kitR_ok (T.bact (List.mem_of_getElem? (i := 6) (by kernel_rfl)))
theorem kitR_Paper_str : PySem.W.kitOne K (.ref (He.ga K "Paper")) (.type "str") = some false := HeX.kitR_ok (T.bact (List.mem_of_getElem? (i := 7) (by kernel_rfl)))
theorem kitR_Paper_list : PySem.W.kitOne K (.ref (He.ga K "Paper")) (.type "list") = some false := HeX.kitR_ok (T.bact (List.mem_of_getElem? (i := 8) (by kernel_rfl)))
theorem kitR_Paper_tuple : PySem.W.kitOne K (.ref (He.ga K "Paper")) (.type "tuple") = some false := HeX.kitR_ok (T.bact (List.mem_of_getElem? (i := 9) (by kernel_rfl)))
theorem cat_Denial : HeX.CatC K (He.ga K "Denial") := HeX.cat_ok (T.bact (List.mem_of_getElem? (i := 10) (by kernel_rfl)))
theorem nm_Denial : HeX.NmC K (He.ga K "Denial") "Denial" := HeX.nm_ok (T.bact (List.mem_of_getElem? (i := 11) (by kernel_rfl)))
theorem eqm_Denial_init : He.ma K (He.ga K "Denial") "__init__" = He.ma K (He.ga K "Paper") "__init__" := HeX.eqm_ok (T.bact (List.mem_of_getElem? (i := 12) (by kernel_rfl)))
theorem eqm_Denial_eq : He.ma K (He.ga K "Denial") "__eq__" = He.ma K (He.ga K "Paper") "__eq__" := HeX.eqm_ok (T.bact (List.mem_of_getElem? (i := 13) (by kernel_rfl)))
theorem same_Denial_ne : PySem.W.findIn K (.ref (He.ga K "Denial")) "__ne__" = some (some (.builtin "object.__ne__")) := HeX.same_ok (T.bact (List.mem_of_getElem? (i := 14) (by kernel_rfl)))
theorem kit_Denial_Paper : PySem.W.kitOne K (.ref (He.ga K "Denial")) (.ref (He.ga K "Paper")) = some true := HeX.kit_ok (T.bact (List.mem_of_getElem? (i := 15) (by kernel_rfl)))
theorem kitR_Denial_int : PySem.W.kitOne K (.ref (He.ga K "Denial")) (.type "int") = some false := HeX.kitR_ok (T.bact (List.mem_of_getElem? (i := 16) (by kernel_rfl)))
theorem kitR_Denial_bool : PySem.W.kitOne K (.ref (He.ga K "Denial")) (.type "bool") = some false := HeX.kitR_ok (T.bact (List.mem_of_getElem? (i := 17) (by kernel_rfl)))
theorem kitR_Denial_str : PySem.W.kitOne K (.ref (He.ga K "Denial")) (.type "str") = some false := HeX.kitR_ok (T.bact (List.mem_of_getElem? (i := 18) (by kernel_rfl)))
theorem kitR_Denial_list : PySem.W.kitOne K (.ref (He.ga K "Denial")) (.type "list") = some false := HeX.kitR_ok (T.bact (List.mem_of_getElem? (i := 19) (by kernel_rfl)))
theorem kitR_Denial_tuple : PySem.W.kitOne K (.ref (He.ga K "Denial")) (.type "tuple") = some false := HeX.kitR_ok (T.bact (List.mem_of_getElem? (i := 20) (by kernel_rfl)))
theorem cat_Code : HeX.CatC K (He.ga K "Code") := HeX.cat_ok (T.bact (List.mem_of_getElem? (i := 21) (by kernel_rfl)))
theorem nm_Code : HeX.NmC K (He.ga K "Code") "Code" := HeX.nm_ok (T.bact (List.mem_of_getElem? (i := 22) (by kernel_rfl)))
theorem sub_Code_Code : PySem.W.mroIn K (He.ga K "Code") (.ref (He.ga K "Code")) = some true := HeX.sub_ok (T.bact (List.mem_of_getElem? (i := 23) (by kernel_rfl)))
theorem supM_Code : PySem.W.ks_superIn K (He.ga K "Code") (He.ga K "Code") "__init__" = some (some (.ref (He.ma K (He.ga K "Paper") "__init__"))) ∧ PySem.W.typeIn K (.ref (He.ma K (He.ga K "Paper") "__init__")) = some (.type "function") ∧ PySem.W.fnIn K (He.ma K (He.ga K "Paper") "__init__") = true := HeX.supM_ok (T.bact (List.mem_of_getElem? (i := 24) (by kernel_rfl)))
theorem eqm_Code_bool : He.ma K (He.ga K "Code") "__bool__" = He.ma K (He.ga K "Paper") "__bool__" := HeX.eqm_ok (T.bact (List.mem_of_getElem? (i := 25) (by kernel_rfl)))
theorem eqm_Code_eq : He.ma K (He.ga K "Code") "__eq__" = He.ma K (He.ga K "Paper") "__eq__" := HeX.eqm_ok (T.bact (List.mem_of_getElem? (i := 26) (by kernel_rfl)))
theorem same_Code_ne : PySem.W.findIn K (.ref (He.ga K "Code")) "__ne__" = some (some (.builtin "object.__ne__")) := HeX.same_ok (T.bact (List.mem_of_getElem? (i := 27) (by kernel_rfl)))
theorem kit_Code_Paper : PySem.W.kitOne K (.ref (He.ga K "Code")) (.ref (He.ga K "Paper")) = some true := HeX.kit_ok (T.bact (List.mem_of_getElem? (i := 28) (by kernel_rfl)))
theorem kitR_Code_int : PySem.W.kitOne K (.ref (He.ga K "Code")) (.type "int") = some false := HeX.kitR_ok (T.bact (List.mem_of_getElem? (i := 29) (by kernel_rfl)))
theorem kitR_Code_bool : PySem.W.kitOne K (.ref (He.ga K "Code")) (.type "bool") = some false := HeX.kitR_ok (T.bact (List.mem_of_getElem? (i := 30) (by kernel_rfl)))
theorem kitR_Code_str : PySem.W.kitOne K (.ref (He.ga K "Code")) (.type "str") = some false := HeX.kitR_ok (T.bact (List.mem_of_getElem? (i := 31) (by kernel_rfl)))
theorem kitR_Code_list : PySem.W.kitOne K (.ref (He.ga K "Code")) (.type "list") = some false := HeX.kitR_ok (T.bact (List.mem_of_getElem? (i := 32) (by kernel_rfl)))
theorem kitR_Code_tuple : PySem.W.kitOne K (.ref (He.ga K "Code")) (.type "tuple") = some false := HeX.kitR_ok (T.bact (List.mem_of_getElem? (i := 33) (by kernel_rfl)))
theorem cat_Family : HeX.CatC K (He.ga K "Family") := HeX.cat_ok (T.bact (List.mem_of_getElem? (i := 34) (by kernel_rfl)))
theorem nm_Family : HeX.NmC K (He.ga K "Family") "Family" := HeX.nm_ok (T.bact (List.mem_of_getElem? (i := 35) (by kernel_rfl)))
theorem sub_Family_Family : PySem.W.mroIn K (He.ga K "Family") (.ref (He.ga K "Family")) = some true := HeX.sub_ok (T.bact (List.mem_of_getElem? (i := 36) (by kernel_rfl)))
theorem supM_Family : PySem.W.ks_superIn K (He.ga K "Family") (He.ga K "Family") "__init__" = some (some (.ref (He.ma K (He.ga K "Paper") "__init__"))) ∧ PySem.W.typeIn K (.ref (He.ma K (He.ga K "Paper") "__init__")) = some (.type "function") ∧ PySem.W.fnIn K (He.ma K (He.ga K "Paper") "__init__") = true := HeX.supM_ok (T.bact (List.mem_of_getElem? (i := 37) (by kernel_rfl)))
theorem eqm_Family_bool : He.ma K (He.ga K "Family") "__bool__" = He.ma K (He.ga K "Paper") "__bool__" := HeX.eqm_ok (T.bact (List.mem_of_getElem? (i := 38) (by kernel_rfl)))
theorem eqm_Family_eq : He.ma K (He.ga K "Family") "__eq__" = He.ma K (He.ga K "Paper") "__eq__" := HeX.eqm_ok (T.bact (List.mem_of_getElem? (i := 39) (by kernel_rfl)))
theorem same_Family_ne : PySem.W.findIn K (.ref (He.ga K "Family")) "__ne__" = some (some (.builtin "object.__ne__")) := HeX.same_ok (T.bact (List.mem_of_getElem? (i := 40) (by kernel_rfl)))
theorem kit_Family_Paper : PySem.W.kitOne K (.ref (He.ga K "Family")) (.ref (He.ga K "Paper")) = some true := HeX.kit_ok (T.bact (List.mem_of_getElem? (i := 41) (by kernel_rfl)))
theorem kitR_Family_int : PySem.W.kitOne K (.ref (He.ga K "Family")) (.type "int") = some false := HeX.kitR_ok (T.bact (List.mem_of_getElem? (i := 42) (by kernel_rfl)))
theorem kitR_Family_bool : PySem.W.kitOne K (.ref (He.ga K "Family")) (.type "bool") = some false := HeX.kitR_ok (T.bact (List.mem_of_getElem? (i := 43) (by kernel_rfl)))
theorem kitR_Family_str : PySem.W.kitOne K (.ref (He.ga K "Family")) (.type "str") = some false := HeX.kitR_ok (T.bact (List.mem_of_getElem? (i := 44) (by kernel_rfl)))
theorem kitR_Family_list : PySem.W.kitOne K (.ref (He.ga K "Family")) (.type "list") = some false := HeX.kitR_ok (T.bact (List.mem_of_getElem? (i := 45) (by kernel_rfl)))
theorem kitR_Family_tuple : PySem.W.kitOne K (.ref (He.ga K "Family")) (.type "tuple") = some false := HeX.kitR_ok (T.bact (List.mem_of_getElem? (i := 46) (by kernel_rfl)))
theorem cat_Alike : HeX.CatC K (He.ga K "Alike") := HeX.cat_ok (T.bact (List.mem_of_getElem? (i := 47) (by kernel_rfl)))
theorem nm_Alike : HeX.NmC K (He.ga K "Alike") "Alike" := HeX.nm_ok (T.bact (List.mem_of_getElem? (i := 48) (by kernel_rfl)))
theorem sub_Alike_Alike : PySem.W.mroIn K (He.ga K "Alike") (.ref (He.ga K "Alike")) = some true := HeX.sub_ok (T.bact (List.mem_of_getElem? (i := 49) (by kernel_rfl)))
theorem supM_Alike : PySem.W.ks_superIn K (He.ga K "Alike") (He.ga K "Alike") "__init__" = some (some (.ref (He.ma K (He.ga K "Paper") "__init__"))) ∧ PySem.W.typeIn K (.ref (He.ma K (He.ga K "Paper") "__init__")) = some (.type "function") ∧ PySem.W.fnIn K (He.ma K (He.ga K "Paper") "__init__") = true := HeX.supM_ok (T.bact (List.mem_of_getElem? (i := 50) (by kernel_rfl)))
theorem eqm_Alike_bool : He.ma K (He.ga K "Alike") "__bool__" = He.ma K (He.ga K "Paper") "__bool__" := HeX.eqm_ok (T.bact (List.mem_of_getElem? (i := 51) (by kernel_rfl)))
theorem eqm_Alike_eq : He.ma K (He.ga K "Alike") "__eq__" = He.ma K (He.ga K "Paper") "__eq__" := HeX.eqm_ok (T.bact (List.mem_of_getElem? (i := 52) (by kernel_rfl)))
theorem same_Alike_ne : PySem.W.findIn K (.ref (He.ga K "Alike")) "__ne__" = some (some (.builtin "object.__ne__")) := HeX.same_ok (T.bact (List.mem_of_getElem? (i := 53) (by kernel_rfl)))
theorem kit_Alike_Paper : PySem.W.kitOne K (.ref (He.ga K "Alike")) (.ref (He.ga K "Paper")) = some true := HeX.kit_ok (T.bact (List.mem_of_getElem? (i := 54) (by kernel_rfl)))
theorem kitR_Alike_int : PySem.W.kitOne K (.ref (He.ga K "Alike")) (.type "int") = some false := HeX.kitR_ok (T.bact (List.mem_of_getElem? (i := 55) (by kernel_rfl)))
theorem kitR_Alike_bool : PySem.W.kitOne K (.ref (He.ga K "Alike")) (.type "bool") = some false := HeX.kitR_ok (T.bact (List.mem_of_getElem? (i := 56) (by kernel_rfl)))
theorem kitR_Alike_str : PySem.W.kitOne K (.ref (He.ga K "Alike")) (.type "str") = some false := HeX.kitR_ok (T.bact (List.mem_of_getElem? (i := 57) (by kernel_rfl)))
theorem kitR_Alike_list : PySem.W.kitOne K (.ref (He.ga K "Alike")) (.type "list") = some false := HeX.kitR_ok (T.bact (List.mem_of_getElem? (i := 58) (by kernel_rfl)))
theorem kitR_Alike_tuple : PySem.W.kitOne K (.ref (He.ga K "Alike")) (.type "tuple") = some false := HeX.kitR_ok (T.bact (List.mem_of_getElem? (i := 59) (by kernel_rfl)))
theorem cat_Unlike : HeX.CatC K (He.ga K "Unlike") := HeX.cat_ok (T.bact (List.mem_of_getElem? (i := 60) (by kernel_rfl)))
theorem nm_Unlike : HeX.NmC K (He.ga K "Unlike") "Unlike" := HeX.nm_ok (T.bact (List.mem_of_getElem? (i := 61) (by kernel_rfl)))
theorem sub_Unlike_Unlike : PySem.W.mroIn K (He.ga K "Unlike") (.ref (He.ga K "Unlike")) = some true := HeX.sub_ok (T.bact (List.mem_of_getElem? (i := 62) (by kernel_rfl)))
theorem supM_Unlike : PySem.W.ks_superIn K (He.ga K "Unlike") (He.ga K "Unlike") "__init__" = some (some (.ref (He.ma K (He.ga K "Paper") "__init__"))) ∧ PySem.W.typeIn K (.ref (He.ma K (He.ga K "Paper") "__init__")) = some (.type "function") ∧ PySem.W.fnIn K (He.ma K (He.ga K "Paper") "__init__") = true := HeX.supM_ok (T.bact (List.mem_of_getElem? (i := 63) (by kernel_rfl)))
theorem eqm_Unlike_bool : He.ma K (He.ga K "Unlike") "__bool__" = He.ma K (He.ga K "Denial") "__bool__" := HeX.eqm_ok (T.bact (List.mem_of_getElem? (i := 64) (by kernel_rfl)))
theorem eqm_Unlike_eq : He.ma K (He.ga K "Unlike") "__eq__" = He.ma K (He.ga K "Paper") "__eq__" := HeX.eqm_ok (T.bact (List.mem_of_getElem? (i := 65) (by kernel_rfl)))
theorem same_Unlike_ne : PySem.W.findIn K (.ref (He.ga K "Unlike")) "__ne__" = some (some (.builtin "object.__ne__")) := HeX.same_ok (T.bact (List.mem_of_getElem? (i := 66) (by kernel_rfl)))
theorem kit_Unlike_Paper : PySem.W.kitOne K (.ref (He.ga K "Unlike")) (.ref (He.ga K "Paper")) = some true := HeX.kit_ok (T.bact (List.mem_of_getElem? (i := 67) (by kernel_rfl)))
theorem kitR_Unlike_int : PySem.W.kitOne K (.ref (He.ga K "Unlike")) (.type "int") = some false := HeX.kitR_ok (T.bact (List.mem_of_getElem? (i := 68) (by kernel_rfl)))
theorem kitR_Unlike_bool : PySem.W.kitOne K (.ref (He.ga K "Unlike")) (.type "bool") = some false := HeX.kitR_ok (T.bact (List.mem_of_getElem? (i := 69) (by kernel_rfl)))
theorem kitR_Unlike_str : PySem.W.kitOne K (.ref (He.ga K "Unlike")) (.type "str") = some false := HeX.kitR_ok (T.bact (List.mem_of_getElem? (i := 70) (by kernel_rfl)))
theorem kitR_Unlike_list : PySem.W.kitOne K (.ref (He.ga K "Unlike")) (.type "list") = some false := HeX.kitR_ok (T.bact (List.mem_of_getElem? (i := 71) (by kernel_rfl)))
theorem kitR_Unlike_tuple : PySem.W.kitOne K (.ref (He.ga K "Unlike")) (.type "tuple") = some false := HeX.kitR_ok (T.bact (List.mem_of_getElem? (i := 72) (by kernel_rfl)))
theorem cat_Stays : HeX.CatC K (He.ga K "Stays") := HeX.cat_ok (T.bact (List.mem_of_getElem? (i := 73) (by kernel_rfl)))
theorem nm_Stays : HeX.NmC K (He.ga K "Stays") "Stays" := HeX.nm_ok (T.bact (List.mem_of_getElem? (i := 74) (by kernel_rfl)))
theorem sub_Stays_Stays : PySem.W.mroIn K (He.ga K "Stays") (.ref (He.ga K "Stays")) = some true := HeX.sub_ok (T.bact (List.mem_of_getElem? (i := 75) (by kernel_rfl)))
theorem supM_Stays : PySem.W.ks_superIn K (He.ga K "Stays") (He.ga K "Stays") "__init__" = some (some (.ref (He.ma K (He.ga K "Paper") "__init__"))) ∧ PySem.W.typeIn K (.ref (He.ma K (He.ga K "Paper") "__init__")) = some (.type "function") ∧ PySem.W.fnIn K (He.ma K (He.ga K "Paper") "__init__") = true := HeX.supM_ok (T.bact (List.mem_of_getElem? (i := 76) (by kernel_rfl)))
theorem eqm_Stays_bool : He.ma K (He.ga K "Stays") "__bool__" = He.ma K (He.ga K "Paper") "__bool__" := HeX.eqm_ok (T.bact (List.mem_of_getElem? (i := 77) (by kernel_rfl)))
theorem eqm_Stays_eq : He.ma K (He.ga K "Stays") "__eq__" = He.ma K (He.ga K "Paper") "__eq__" := HeX.eqm_ok (T.bact (List.mem_of_getElem? (i := 78) (by kernel_rfl)))
theorem same_Stays_ne : PySem.W.findIn K (.ref (He.ga K "Stays")) "__ne__" = some (some (.builtin "object.__ne__")) := HeX.same_ok (T.bact (List.mem_of_getElem? (i := 79) (by kernel_rfl)))
theorem kit_Stays_Paper : PySem.W.kitOne K (.ref (He.ga K "Stays")) (.ref (He.ga K "Paper")) = some true := HeX.kit_ok (T.bact (List.mem_of_getElem? (i := 80) (by kernel_rfl)))
theorem kitR_Stays_int : PySem.W.kitOne K (.ref (He.ga K "Stays")) (.type "int") = some false := HeX.kitR_ok (T.bact (List.mem_of_getElem? (i := 81) (by kernel_rfl)))
theorem kitR_Stays_bool : PySem.W.kitOne K (.ref (He.ga K "Stays")) (.type "bool") = some false := HeX.kitR_ok (T.bact (List.mem_of_getElem? (i := 82) (by kernel_rfl)))
theorem kitR_Stays_str : PySem.W.kitOne K (.ref (He.ga K "Stays")) (.type "str") = some false := HeX.kitR_ok (T.bact (List.mem_of_getElem? (i := 83) (by kernel_rfl)))
theorem kitR_Stays_list : PySem.W.kitOne K (.ref (He.ga K "Stays")) (.type "list") = some false := HeX.kitR_ok (T.bact (List.mem_of_getElem? (i := 84) (by kernel_rfl)))
theorem kitR_Stays_tuple : PySem.W.kitOne K (.ref (He.ga K "Stays")) (.type "tuple") = some false := HeX.kitR_ok (T.bact (List.mem_of_getElem? (i := 85) (by kernel_rfl)))
theorem cat_Spoilt : HeX.CatC K (He.ga K "Spoilt") := HeX.cat_ok (T.bact (List.mem_of_getElem? (i := 86) (by kernel_rfl)))
theorem nm_Spoilt : HeX.NmC K (He.ga K "Spoilt") "Spoilt" := HeX.nm_ok (T.bact (List.mem_of_getElem? (i := 87) (by kernel_rfl)))
theorem sub_Spoilt_Spoilt : PySem.W.mroIn K (He.ga K "Spoilt") (.ref (He.ga K "Spoilt")) = some true := HeX.sub_ok (T.bact (List.mem_of_getElem? (i := 88) (by kernel_rfl)))
theorem supM_Spoilt : PySem.W.ks_superIn K (He.ga K "Spoilt") (He.ga K "Spoilt") "__init__" = some (some (.ref (He.ma K (He.ga K "Paper") "__init__"))) ∧ PySem.W.typeIn K (.ref (He.ma K (He.ga K "Paper") "__init__")) = some (.type "function") ∧ PySem.W.fnIn K (He.ma K (He.ga K "Paper") "__init__") = true := HeX.supM_ok (T.bact (List.mem_of_getElem? (i := 89) (by kernel_rfl)))
theorem eqm_Spoilt_bool : He.ma K (He.ga K "Spoilt") "__bool__" = He.ma K (He.ga K "Denial") "__bool__" := HeX.eqm_ok (T.bact (List.mem_of_getElem? (i := 90) (by kernel_rfl)))
theorem eqm_Spoilt_eq : He.ma K (He.ga K "Spoilt") "__eq__" = He.ma K (He.ga K "Paper") "__eq__" := HeX.eqm_ok (T.bact (List.mem_of_getElem? (i := 91) (by kernel_rfl)))
theorem same_Spoilt_ne : PySem.W.findIn K (.ref (He.ga K "Spoilt")) "__ne__" = some (some (.builtin "object.__ne__")) := HeX.same_ok (T.bact (List.mem_of_getElem? (i := 92) (by kernel_rfl)))
theorem kit_Spoilt_Paper : PySem.W.kitOne K (.ref (He.ga K "Spoilt")) (.ref (He.ga K "Paper")) = some true := HeX.kit_ok (T.bact (List.mem_of_getElem? (i := 93) (by kernel_rfl)))
theorem kitR_Spoilt_int : PySem.W.kitOne K (.ref (He.ga K "Spoilt")) (.type "int") = some false := HeX.kitR_ok (T.bact (List.mem_of_getElem? (i := 94) (by kernel_rfl)))
theorem kitR_Spoilt_bool : PySem.W.kitOne K (.ref (He.ga K "Spoilt")) (.type "bool") = some false := HeX.kitR_ok (T.bact (List.mem_of_getElem? (i := 95) (by kernel_rfl)))
theorem kitR_Spoilt_str : PySem.W.kitOne K (.ref (He.ga K "Spoilt")) (.type "str") = some false := HeX.kitR_ok (T.bact (List.mem_of_getElem? (i := 96) (by kernel_rfl)))
theorem kitR_Spoilt_list : PySem.W.kitOne K (.ref (He.ga K "Spoilt")) (.type "list") = some false := HeX.kitR_ok (T.bact (List.mem_of_getElem? (i := 97) (by kernel_rfl)))
theorem kitR_Spoilt_tuple : PySem.W.kitOne K (.ref (He.ga K "Spoilt")) (.type "tuple") = some false := HeX.kitR_ok (T.bact (List.mem_of_getElem? (i := 98) (by kernel_rfl)))
theorem cat_Holds : HeX.CatC K (He.ga K "Holds") := HeX.cat_ok (T.bact (List.mem_of_getElem? (i := 99) (by kernel_rfl)))
theorem nm_Holds : HeX.NmC K (He.ga K "Holds") "Holds" := HeX.nm_ok (T.bact (List.mem_of_getElem? (i := 100) (by kernel_rfl)))
theorem sub_Holds_Holds : PySem.W.mroIn K (He.ga K "Holds") (.ref (He.ga K "Holds")) = some true := HeX.sub_ok (T.bact (List.mem_of_getElem? (i := 101) (by kernel_rfl)))
theorem supM_Holds : PySem.W.ks_superIn K (He.ga K "Holds") (He.ga K "Holds") "__init__" = some (some (.ref (He.ma K (He.ga K "Paper") "__init__"))) ∧ PySem.W.typeIn K (.ref (He.ma K (He.ga K "Paper") "__init__")) = some (.type "function") ∧ PySem.W.fnIn K (He.ma K (He.ga K "Paper") "__init__") = true := HeX.supM_ok (T.bact (List.mem_of_getElem? (i := 102) (by kernel_rfl)))
theorem eqm_Holds_bool : He.ma K (He.ga K "Holds") "__bool__" = He.ma K (He.ga K "Paper") "__bool__" := HeX.eqm_ok (T.bact (List.mem_of_getElem? (i := 103) (by kernel_rfl)))
theorem eqm_Holds_eq : He.ma K (He.ga K "Holds") "__eq__" = He.ma K (He.ga K "Paper") "__eq__" := HeX.eqm_ok (T.bact (List.mem_of_getElem? (i := 104) (by kernel_rfl)))
theorem same_Holds_ne : PySem.W.findIn K (.ref (He.ga K "Holds")) "__ne__" = some (some (.builtin "object.__ne__")) := HeX.same_ok (T.bact (List.mem_of_getElem? (i := 105) (by kernel_rfl)))
theorem kit_Holds_Paper : PySem.W.kitOne K (.ref (He.ga K "Holds")) (.ref (He.ga K "Paper")) = some true := HeX.kit_ok (T.bact (List.mem_of_getElem? (i := 106) (by kernel_rfl)))
theorem kitR_Holds_int : PySem.W.kitOne K (.ref (He.ga K "Holds")) (.type "int") = some false := HeX.kitR_ok (T.bact (List.mem_of_getElem? (i := 107) (by kernel_rfl)))
theorem kitR_Holds_bool : PySem.W.kitOne K (.ref (He.ga K "Holds")) (.type "bool") = some false := HeX.kitR_ok (T.bact (List.mem_of_getElem? (i := 108) (by kernel_rfl)))
theorem kitR_Holds_str : PySem.W.kitOne K (.ref (He.ga K "Holds")) (.type "str") = some false := HeX.kitR_ok (T.bact (List.mem_of_getElem? (i := 109) (by kernel_rfl)))
theorem kitR_Holds_list : PySem.W.kitOne K (.ref (He.ga K "Holds")) (.type "list") = some false := HeX.kitR_ok (T.bact (List.mem_of_getElem? (i := 110) (by kernel_rfl)))
theorem kitR_Holds_tuple : PySem.W.kitOne K (.ref (He.ga K "Holds")) (.type "tuple") = some false := HeX.kitR_ok (T.bact (List.mem_of_getElem? (i := 111) (by kernel_rfl)))
theorem cat_Breaks : HeX.CatC K (He.ga K "Breaks") := HeX.cat_ok (T.bact (List.mem_of_getElem? (i := 112) (by kernel_rfl)))
theorem nm_Breaks : HeX.NmC K (He.ga K "Breaks") "Breaks" := HeX.nm_ok (T.bact (List.mem_of_getElem? (i := 113) (by kernel_rfl)))
theorem sub_Breaks_Breaks : PySem.W.mroIn K (He.ga K "Breaks") (.ref (He.ga K "Breaks")) = some true := HeX.sub_ok (T.bact (List.mem_of_getElem? (i := 114) (by kernel_rfl)))
theorem supM_Breaks : PySem.W.ks_superIn K (He.ga K "Breaks") (He.ga K "Breaks") "__init__" = some (some (.ref (He.ma K (He.ga K "Paper") "__init__"))) ∧ PySem.W.typeIn K (.ref (He.ma K (He.ga K "Paper") "__init__")) = some (.type "function") ∧ PySem.W.fnIn K (He.ma K (He.ga K "Paper") "__init__") = true := HeX.supM_ok (T.bact (List.mem_of_getElem? (i := 115) (by kernel_rfl)))
theorem eqm_Breaks_bool : He.ma K (He.ga K "Breaks") "__bool__" = He.ma K (He.ga K "Denial") "__bool__" := HeX.eqm_ok (T.bact (List.mem_of_getElem? (i := 116) (by kernel_rfl)))
theorem eqm_Breaks_eq : He.ma K (He.ga K "Breaks") "__eq__" = He.ma K (He.ga K "Paper") "__eq__" := HeX.eqm_ok (T.bact (List.mem_of_getElem? (i := 117) (by kernel_rfl)))
theorem same_Breaks_ne : PySem.W.findIn K (.ref (He.ga K "Breaks")) "__ne__" = some (some (.builtin "object.__ne__")) := HeX.same_ok (T.bact (List.mem_of_getElem? (i := 118) (by kernel_rfl)))
theorem kit_Breaks_Paper : PySem.W.kitOne K (.ref (He.ga K "Breaks")) (.ref (He.ga K "Paper")) = some true := HeX.kit_ok (T.bact (List.mem_of_getElem? (i := 119) (by kernel_rfl)))
theorem kitR_Breaks_int : PySem.W.kitOne K (.ref (He.ga K "Breaks")) (.type "int") = some false := HeX.kitR_ok (T.bact (List.mem_of_getElem? (i := 120) (by kernel_rfl)))
theorem kitR_Breaks_bool : PySem.W.kitOne K (.ref (He.ga K "Breaks")) (.type "bool") = some false := HeX.kitR_ok (T.bact (List.mem_of_getElem? (i := 121) (by kernel_rfl)))
theorem kitR_Breaks_str : PySem.W.kitOne K (.ref (He.ga K "Breaks")) (.type "str") = some false := HeX.kitR_ok (T.bact (List.mem_of_getElem? (i := 122) (by kernel_rfl)))
theorem kitR_Breaks_list : PySem.W.kitOne K (.ref (He.ga K "Breaks")) (.type "list") = some false := HeX.kitR_ok (T.bact (List.mem_of_getElem? (i := 123) (by kernel_rfl)))
theorem kitR_Breaks_tuple : PySem.W.kitOne K (.ref (He.ga K "Breaks")) (.type "tuple") = some false := HeX.kitR_ok (T.bact (List.mem_of_getElem? (i := 124) (by kernel_rfl)))
theorem cat_Guards : HeX.CatC K (He.ga K "Guards") := HeX.cat_ok (T.bact (List.mem_of_getElem? (i := 125) (by kernel_rfl)))
theorem nm_Guards : HeX.NmC K (He.ga K "Guards") "Guards" := HeX.nm_ok (T.bact (List.mem_of_getElem? (i := 126) (by kernel_rfl)))
theorem sub_Guards_Guards : PySem.W.mroIn K (He.ga K "Guards") (.ref (He.ga K "Guards")) = some true := HeX.sub_ok (T.bact (List.mem_of_getElem? (i := 127) (by kernel_rfl)))
theorem supM_Guards : PySem.W.ks_superIn K (He.ga K "Guards") (He.ga K "Guards") "__init__" = some (some (.ref (He.ma K (He.ga K "Paper") "__init__"))) ∧ PySem.W.typeIn K (.ref (He.ma K (He.ga K "Paper") "__init__")) = some (.type "function") ∧ PySem.W.fnIn K (He.ma K (He.ga K "Paper") "__init__") = true := HeX.supM_ok (T.bact (List.mem_of_getElem? (i := 128) (by kernel_rfl)))
theorem eqm_Guards_bool : He.ma K (He.ga K "Guards") "__bool__" = He.ma K (He.ga K "Paper") "__bool__" := HeX.eqm_ok (T.bact (List.mem_of_getElem? (i := 129) (by kernel_rfl)))
theorem eqm_Guards_eq : He.ma K (He.ga K "Guards") "__eq__" = He.ma K (He.ga K "Paper") "__eq__" := HeX.eqm_ok (T.bact (List.mem_of_getElem? (i := 130) (by kernel_rfl)))
theorem same_Guards_ne : PySem.W.findIn K (.ref (He.ga K "Guards")) "__ne__" = some (some (.builtin "object.__ne__")) := HeX.same_ok (T.bact (List.mem_of_getElem? (i := 131) (by kernel_rfl)))
theorem kit_Guards_Paper : PySem.W.kitOne K (.ref (He.ga K "Guards")) (.ref (He.ga K "Paper")) = some true := HeX.kit_ok (T.bact (List.mem_of_getElem? (i := 132) (by kernel_rfl)))
theorem kitR_Guards_int : PySem.W.kitOne K (.ref (He.ga K "Guards")) (.type "int") = some false := HeX.kitR_ok (T.bact (List.mem_of_getElem? (i := 133) (by kernel_rfl)))
theorem kitR_Guards_bool : PySem.W.kitOne K (.ref (He.ga K "Guards")) (.type "bool") = some false := HeX.kitR_ok (T.bact (List.mem_of_getElem? (i := 134) (by kernel_rfl)))
theorem kitR_Guards_str : PySem.W.kitOne K (.ref (He.ga K "Guards")) (.type "str") = some false := HeX.kitR_ok (T.bact (List.mem_of_getElem? (i := 135) (by kernel_rfl)))
theorem kitR_Guards_list : PySem.W.kitOne K (.ref (He.ga K "Guards")) (.type "list") = some false := HeX.kitR_ok (T.bact (List.mem_of_getElem? (i := 136) (by kernel_rfl)))
theorem kitR_Guards_tuple : PySem.W.kitOne K (.ref (He.ga K "Guards")) (.type "tuple") = some false := HeX.kitR_ok (T.bact (List.mem_of_getElem? (i := 137) (by kernel_rfl)))
theorem cat_Checked : HeX.CatC K (He.ga K "Checked") := HeX.cat_ok (T.bact (List.mem_of_getElem? (i := 138) (by kernel_rfl)))
theorem nm_Checked : HeX.NmC K (He.ga K "Checked") "Checked" := HeX.nm_ok (T.bact (List.mem_of_getElem? (i := 139) (by kernel_rfl)))
theorem sub_Checked_Checked : PySem.W.mroIn K (He.ga K "Checked") (.ref (He.ga K "Checked")) = some true := HeX.sub_ok (T.bact (List.mem_of_getElem? (i := 140) (by kernel_rfl)))
theorem supM_Checked : PySem.W.ks_superIn K (He.ga K "Checked") (He.ga K "Checked") "__init__" = some (some (.ref (He.ma K (He.ga K "Paper") "__init__"))) ∧ PySem.W.typeIn K (.ref (He.ma K (He.ga K "Paper") "__init__")) = some (.type "function") ∧ PySem.W.fnIn K (He.ma K (He.ga K "Paper") "__init__") = true := HeX.supM_ok (T.bact (List.mem_of_getElem? (i := 141) (by kernel_rfl)))
theorem eqm_Checked_bool : He.ma K (He.ga K "Checked") "__bool__" = He.ma K (He.ga K "Paper") "__bool__" := HeX.eqm_ok (T.bact (List.mem_of_getElem? (i := 142) (by kernel_rfl)))
theorem eqm_Checked_eq : He.ma K (He.ga K "Checked") "__eq__" = He.ma K (He.ga K "Paper") "__eq__" := HeX.eqm_ok (T.bact (List.mem_of_getElem? (i := 143) (by kernel_rfl)))
theorem same_Checked_ne : PySem.W.findIn K (.ref (He.ga K "Checked")) "__ne__" = some (some (.builtin "object.__ne__")) := HeX.same_ok (T.bact (List.mem_of_getElem? (i := 144) (by kernel_rfl)))
theorem kit_Checked_Paper : PySem.W.kitOne K (.ref (He.ga K "Checked")) (.ref (He.ga K "Paper")) = some true := HeX.kit_ok (T.bact (List.mem_of_getElem? (i := 145) (by kernel_rfl)))
theorem kitR_Checked_int : PySem.W.kitOne K (.ref (He.ga K "Checked")) (.type "int") = some false := HeX.kitR_ok (T.bact (List.mem_of_getElem? (i := 146) (by kernel_rfl)))
theorem kitR_Checked_bool : PySem.W.kitOne K (.ref (He.ga K "Checked")) (.type "bool") = some false := HeX.kitR_ok (T.bact (List.mem_of_getElem? (i := 147) (by kernel_rfl)))
theorem kitR_Checked_str : PySem.W.kitOne K (.ref (He.ga K "Checked")) (.type "str") = some false := HeX.kitR_ok (T.bact (List.mem_of_getElem? (i := 148) (by kernel_rfl)))
theorem kitR_Checked_list : PySem.W.kitOne K (.ref (He.ga K "Checked")) (.type "list") = some false := HeX.kitR_ok (T.bact (List.mem_of_getElem? (i := 149) (by kernel_rfl)))
theorem kitR_Checked_tuple : PySem.W.kitOne K (.ref (He.ga K "Checked")) (.type "tuple") = some false := HeX.kitR_ok (T.bact (List.mem_of_getElem? (i := 150) (by kernel_rfl)))
theorem cat_Broken : HeX.CatC K (He.ga K "Broken") := HeX.cat_ok (T.bact (List.mem_of_getElem? (i := 151) (by kernel_rfl)))
theorem nm_Broken : HeX.NmC K (He.ga K "Broken") "Broken" := HeX.nm_ok (T.bact (List.mem_of_getElem? (i := 152) (by kernel_rfl)))
theorem sub_Broken_Broken : PySem.W.mroIn K (He.ga K "Broken") (.ref (He.ga K "Broken")) = some true := HeX.sub_ok (T.bact (List.mem_of_getElem? (i := 153) (by kernel_rfl)))
theorem supM_Broken : PySem.W.ks_superIn K (He.ga K "Broken") (He.ga K "Broken") "__init__" = some (some (.ref (He.ma K (He.ga K "Paper") "__init__"))) ∧ PySem.W.typeIn K (.ref (He.ma K (He.ga K "Paper") "__init__")) = some (.type "function") ∧ PySem.W.fnIn K (He.ma K (He.ga K "Paper") "__init__") = true := HeX.supM_ok (T.bact (List.mem_of_getElem? (i := 154) (by kernel_rfl)))
theorem eqm_Broken_bool : He.ma K (He.ga K "Broken") "__bool__" = He.ma K (He.ga K "Denial") "__bool__" := HeX.eqm_ok (T.bact (List.mem_of_getElem? (i := 155) (by kernel_rfl)))
theorem eqm_Broken_eq : He.ma K (He.ga K "Broken") "__eq__" = He.ma K (He.ga K "Paper") "__eq__" := HeX.eqm_ok (T.bact (List.mem_of_getElem? (i := 156) (by kernel_rfl)))
theorem same_Broken_ne : PySem.W.findIn K (.ref (He.ga K "Broken")) "__ne__" = some (some (.builtin "object.__ne__")) := HeX.same_ok (T.bact (List.mem_of_getElem? (i := 157) (by kernel_rfl)))
theorem kit_Broken_Paper : PySem.W.kitOne K (.ref (He.ga K "Broken")) (.ref (He.ga K "Paper")) = some true := HeX.kit_ok (T.bact (List.mem_of_getElem? (i := 158) (by kernel_rfl)))
theorem kitR_Broken_int : PySem.W.kitOne K (.ref (He.ga K "Broken")) (.type "int") = some false := HeX.kitR_ok (T.bact (List.mem_of_getElem? (i := 159) (by kernel_rfl)))
theorem kitR_Broken_bool : PySem.W.kitOne K (.ref (He.ga K "Broken")) (.type "bool") = some false := HeX.kitR_ok (T.bact (List.mem_of_getElem? (i := 160) (by kernel_rfl)))
theorem kitR_Broken_str : PySem.W.kitOne K (.ref (He.ga K "Broken")) (.type "str") = some false := HeX.kitR_ok (T.bact (List.mem_of_getElem? (i := 161) (by kernel_rfl)))
theorem kitR_Broken_list : PySem.W.kitOne K (.ref (He.ga K "Broken")) (.type "list") = some false := HeX.kitR_ok (T.bact (List.mem_of_getElem? (i := 162) (by kernel_rfl)))
theorem kitR_Broken_tuple : PySem.W.kitOne K (.ref (He.ga K "Broken")) (.type "tuple") = some false := HeX.kitR_ok (T.bact (List.mem_of_getElem? (i := 163) (by kernel_rfl)))
theorem cat_Opened : HeX.CatC K (He.ga K "Opened") := HeX.cat_ok (T.bact (List.mem_of_getElem? (i := 164) (by kernel_rfl)))
theorem nm_Opened : HeX.NmC K (He.ga K "Opened") "Opened" := HeX.nm_ok (T.bact (List.mem_of_getElem? (i := 165) (by kernel_rfl)))
theorem kit_Opened_Paper : PySem.W.kitOne K (.ref (He.ga K "Opened")) (.ref (He.ga K "Paper")) = some false := HeX.kit_ok (T.bact (List.mem_of_getElem? (i := 166) (by kernel_rfl)))
theorem kitR_Opened_int : PySem.W.kitOne K (.ref (He.ga K "Opened")) (.type "int") = some false := HeX.kitR_ok (T.bact (List.mem_of_getElem? (i := 167) (by kernel_rfl)))
theorem kitR_Opened_bool : PySem.W.kitOne K (.ref (He.ga K "Opened")) (.type "bool") = some false := HeX.kitR_ok (T.bact (List.mem_of_getElem? (i := 168) (by kernel_rfl)))
theorem kitR_Opened_str : PySem.W.kitOne K (.ref (He.ga K "Opened")) (.type "str") = some false := HeX.kitR_ok (T.bact (List.mem_of_getElem? (i := 169) (by kernel_rfl)))
theorem kitR_Opened_list : PySem.W.kitOne K (.ref (He.ga K "Opened")) (.type "list") = some false := HeX.kitR_ok (T.bact (List.mem_of_getElem? (i := 170) (by kernel_rfl)))
theorem kitR_Opened_tuple : PySem.W.kitOne K (.ref (He.ga K "Opened")) (.type "tuple") = some false := HeX.kitR_ok (T.bact (List.mem_of_getElem? (i := 171) (by kernel_rfl)))
theorem cat_Reading : HeX.CatC K (He.ga K "Reading") := HeX.cat_ok (T.bact (List.mem_of_getElem? (i := 172) (by kernel_rfl)))
theorem nm_Reading : HeX.NmC K (He.ga K "Reading") "Reading" := HeX.nm_ok (T.bact (List.mem_of_getElem? (i := 173) (by kernel_rfl)))
theorem kit_Reading_Paper : PySem.W.kitOne K (.ref (He.ga K "Reading")) (.ref (He.ga K "Paper")) = some false := HeX.kit_ok (T.bact (List.mem_of_getElem? (i := 174) (by kernel_rfl)))
theorem kitR_Reading_int : PySem.W.kitOne K (.ref (He.ga K "Reading")) (.type "int") = some false := HeX.kitR_ok (T.bact (List.mem_of_getElem? (i := 175) (by kernel_rfl)))
theorem kitR_Reading_bool : PySem.W.kitOne K (.ref (He.ga K "Reading")) (.type "bool") = some false := HeX.kitR_ok (T.bact (List.mem_of_getElem? (i := 176) (by kernel_rfl)))
theorem kitR_Reading_str : PySem.W.kitOne K (.ref (He.ga K "Reading")) (.type "str") = some false := HeX.kitR_ok (T.bact (List.mem_of_getElem? (i := 177) (by kernel_rfl)))
theorem kitR_Reading_list : PySem.W.kitOne K (.ref (He.ga K "Reading")) (.type "list") = some false := HeX.kitR_ok (T.bact (List.mem_of_getElem? (i := 178) (by kernel_rfl)))
theorem kitR_Reading_tuple : PySem.W.kitOne K (.ref (He.ga K "Reading")) (.type "tuple") = some false := HeX.kitR_ok (T.bact (List.mem_of_getElem? (i := 179) (by kernel_rfl)))
theorem kitT_NoneType_Paper : PySem.W.kitOne K (.type "NoneType") (.ref (He.ga K "Paper")) = some false := HeX.kitT_ok (T.bact (List.mem_of_getElem? (i := 180) (by kernel_rfl)))
theorem kitT_bool_Paper : PySem.W.kitOne K (.type "bool") (.ref (He.ga K "Paper")) = some false := HeX.kitT_ok (T.bact (List.mem_of_getElem? (i := 181) (by kernel_rfl)))
theorem kitT_int_Paper : PySem.W.kitOne K (.type "int") (.ref (He.ga K "Paper")) = some false := HeX.kitT_ok (T.bact (List.mem_of_getElem? (i := 182) (by kernel_rfl)))
theorem kitT_str_Paper : PySem.W.kitOne K (.type "str") (.ref (He.ga K "Paper")) = some false := HeX.kitT_ok (T.bact (List.mem_of_getElem? (i := 183) (by kernel_rfl)))
theorem kitT_list_Paper : PySem.W.kitOne K (.type "list") (.ref (He.ga K "Paper")) = some false := HeX.kitT_ok (T.bact (List.mem_of_getElem? (i := 184) (by kernel_rfl)))
theorem kitT_tuple_Paper : PySem.W.kitOne K (.type "tuple") (.ref (He.ga K "Paper")) = some false := HeX.kitT_ok (T.bact (List.mem_of_getElem? (i := 185) (by kernel_rfl)))
theorem kitT_dict_Paper : PySem.W.kitOne K (.type "dict") (.ref (He.ga K "Paper")) = some false := HeX.kitT_ok (T.bact (List.mem_of_getElem? (i := 186) (by kernel_rfl)))
theorem xc_BadValue : XfC K (He.ga K "BadValue") ∧ ExcC K (He.ga K "BadValue") := HeX.xc_ok (T.bact (List.mem_of_getElem? (i := 187) (by kernel_rfl)))
theorem oex_BadValue : OexC K (He.ga K "BadValue") ∧ PySem.W.findIn K (.ref (He.ga K "BadValue")) "__init__" = some (some (.ref (He.ma K (He.ga K "BadValue") "__init__"))) ∧ PySem.W.typeIn K (.ref (He.ma K (He.ga K "BadValue") "__init__")) = some (.type "function") ∧ PySem.W.subIn K (.ref (He.ga K "BadValue")) (.type "ValueError") = some true := HeX.oex_ok (T.bact (List.mem_of_getElem? (i := 188) (by kernel_rfl)))
theorem sub_BadValue_PartError : PySem.W.mroIn K (He.ga K "BadValue") (.ref (He.ga K "PartError")) = some true := HeX.sub_ok (T.bact (List.mem_of_getElem? (i := 189) (by kernel_rfl)))
theorem supB_BadValue : PySem.W.ks_superIn K (He.ga K "BadValue") (He.ga K "PartError") "__init__" = some (some (.builtin "ValueError.__init__")) := HeX.supB_ok (T.bact (List.mem_of_getElem? (i := 190) (by kernel_rfl)))
theorem eqm_BadValue_init : He.ma K (He.ga K "BadValue") "__init__" = He.ma K (He.ga K "PartError") "__init__" := HeX.eqm_ok (T.bact (List.mem_of_getElem? (i := 191) (by kernel_rfl)))
theorem exm_BadValue_SoError : PySem.W.exmOne K (.ref (He.ga K "BadValue")) (.ref (He.ga K "SoError")) = some true := HeX.exm_ok' (T.bact (List.mem_of_getElem? (i := 192) (by kernel_rfl)))
theorem kit_BadValue_BadProgram : PySem.W.kitOne K (.ref (He.ga K "BadValue")) (.ref (He.ga K "BadProgram")) = some false := HeX.kit_ok (T.bact (List.mem_of_getElem? (i := 193) (by kernel_rfl)))
theorem kit_BadValue_BadPlace : PySem.W.kitOne K (.ref (He.ga K "BadValue")) (.ref (He.ga K "BadPlace")) = some false := HeX.kit_ok (T.bact (List.mem_of_getElem? (i := 194) (by kernel_rfl)))
theorem kit_BadValue_BadNumber : PySem.W.kitOne K (.ref (He.ga K "BadValue")) (.ref (He.ga K "BadNumber")) = some false := HeX.kit_ok (T.bact (List.mem_of_getElem? (i := 195) (by kernel_rfl)))
theorem kit_BadValue_BadValue : PySem.W.kitOne K (.ref (He.ga K "BadValue")) (.ref (He.ga K "BadValue")) = some true := HeX.kit_ok (T.bact (List.mem_of_getElem? (i := 196) (by kernel_rfl)))
theorem kit_BadValue_BadText : PySem.W.kitOne K (.ref (He.ga K "BadValue")) (.ref (He.ga K "BadText")) = some false := HeX.kit_ok (T.bact (List.mem_of_getElem? (i := 197) (by kernel_rfl)))
theorem kit_BadValue_BadCommand : PySem.W.kitOne K (.ref (He.ga K "BadValue")) (.ref (He.ga K "BadCommand")) = some false := HeX.kit_ok (T.bact (List.mem_of_getElem? (i := 198) (by kernel_rfl)))
theorem kit_BadValue_Nothing : PySem.W.kitOne K (.ref (He.ga K "BadValue")) (.ref (He.ga K "Nothing")) = some false := HeX.kit_ok (T.bact (List.mem_of_getElem? (i := 199) (by kernel_rfl)))
theorem kit_BadValue_TooMany : PySem.W.kitOne K (.ref (He.ga K "BadValue")) (.ref (He.ga K "TooMany")) = some false := HeX.kit_ok (T.bact (List.mem_of_getElem? (i := 200) (by kernel_rfl)))
theorem xc_BadText : XfC K (He.ga K "BadText") ∧ ExcC K (He.ga K "BadText") := HeX.xc_ok (T.bact (List.mem_of_getElem? (i := 201) (by kernel_rfl)))
theorem oex_BadText : OexC K (He.ga K "BadText") ∧ PySem.W.findIn K (.ref (He.ga K "BadText")) "__init__" = some (some (.ref (He.ma K (He.ga K "BadText") "__init__"))) ∧ PySem.W.typeIn K (.ref (He.ma K (He.ga K "BadText") "__init__")) = some (.type "function") ∧ PySem.W.subIn K (.ref (He.ga K "BadText")) (.type "ValueError") = some true := HeX.oex_ok (T.bact (List.mem_of_getElem? (i := 202) (by kernel_rfl)))
theorem sub_BadText_BadText : PySem.W.mroIn K (He.ga K "BadText") (.ref (He.ga K "BadText")) = some true := HeX.sub_ok (T.bact (List.mem_of_getElem? (i := 203) (by kernel_rfl)))
theorem supB_BadText : PySem.W.ks_superIn K (He.ga K "BadText") (He.ga K "BadText") "__init__" = some (some (.builtin "ValueError.__init__")) := HeX.supB_ok (T.bact (List.mem_of_getElem? (i := 204) (by kernel_rfl)))
theorem exm_BadText_SoError : PySem.W.exmOne K (.ref (He.ga K "BadText")) (.ref (He.ga K "SoError")) = some true := HeX.exm_ok' (T.bact (List.mem_of_getElem? (i := 205) (by kernel_rfl)))
theorem kit_BadText_BadProgram : PySem.W.kitOne K (.ref (He.ga K "BadText")) (.ref (He.ga K "BadProgram")) = some false := HeX.kit_ok (T.bact (List.mem_of_getElem? (i := 206) (by kernel_rfl)))
theorem kit_BadText_BadPlace : PySem.W.kitOne K (.ref (He.ga K "BadText")) (.ref (He.ga K "BadPlace")) = some false := HeX.kit_ok (T.bact (List.mem_of_getElem? (i := 207) (by kernel_rfl)))
theorem kit_BadText_BadNumber : PySem.W.kitOne K (.ref (He.ga K "BadText")) (.ref (He.ga K "BadNumber")) = some false := HeX.kit_ok (T.bact (List.mem_of_getElem? (i := 208) (by kernel_rfl)))
theorem kit_BadText_BadValue : PySem.W.kitOne K (.ref (He.ga K "BadText")) (.ref (He.ga K "BadValue")) = some false := HeX.kit_ok (T.bact (List.mem_of_getElem? (i := 209) (by kernel_rfl)))
theorem kit_BadText_BadText : PySem.W.kitOne K (.ref (He.ga K "BadText")) (.ref (He.ga K "BadText")) = some true := HeX.kit_ok (T.bact (List.mem_of_getElem? (i := 210) (by kernel_rfl)))
theorem kit_BadText_BadCommand : PySem.W.kitOne K (.ref (He.ga K "BadText")) (.ref (He.ga K "BadCommand")) = some false := HeX.kit_ok (T.bact (List.mem_of_getElem? (i := 211) (by kernel_rfl)))
theorem kit_BadText_Nothing : PySem.W.kitOne K (.ref (He.ga K "BadText")) (.ref (He.ga K "Nothing")) = some false := HeX.kit_ok (T.bact (List.mem_of_getElem? (i := 212) (by kernel_rfl)))
theorem kit_BadText_TooMany : PySem.W.kitOne K (.ref (He.ga K "BadText")) (.ref (He.ga K "TooMany")) = some false := HeX.kit_ok (T.bact (List.mem_of_getElem? (i := 213) (by kernel_rfl)))
abbrev kv_SIZES : List (Str × Int) := [("family", 2), ("holds", 1), ("breaks", 1), ("guards", 2), ("checked", 1), ("broken", 2), ("alike", 1), ("unlike", 2), ("stays", 1), ("spoilt", 2), ("code", 2)]
theorem tb_SIZES : HeX.TabI K w (He.ga K "SIZES") kv_SIZES := by
  obtain ⟨_, _, _, s⟩ := T.ex
  exact HeX.tabI_of (HeX.tabAt s.t (i := 0) (t := (fun K => He.ga K "SIZES", kv_SIZES.map (·.1))) rfl) (T.bact (List.mem_of_getElem? (i := 214) (by kernel_rfl)))
theorem F_is_integer : ∃ fd, FunD K "is_integer" "is_integer" (defArgs s_is_integer) (defBody s_is_integer) (defScope s_is_integer) [] [] (He.ga K "is_integer") fd := T.def_ (d := d_is_integer) (List.mem_of_getElem? (i := 0) (by kernel_rfl))
theorem k_is_integer : PySem.W.keepIn K (.ref (He.ga K "is_integer")) = true := by
  obtain ⟨_, F⟩ := T.F_is_integer
  exact F.kp
theorem F_PartError_init : ∃ fd, HeS.FunS K "__init__" "PartError.__init__" (defArgs s_PartError_init) (defBody s_PartError_init) (defScope s_PartError_init) file (He.ga K "PartError") (He.ma K (He.ga K "PartError") "__init__") fd := T.sup_ (d := d_PartError_init) (List.mem_of_getElem? (i := 0) (by kernel_rfl))
theorem F_BadText_init : ∃ fd, HeS.FunS K "__init__" "BadText.__init__" (defArgs s_BadText_init) (defBody s_BadText_init) (defScope s_BadText_init) file (He.ga K "BadText") (He.ma K (He.ga K "BadText") "__init__") fd := T.sup_ (d := d_BadText_init) (List.mem_of_getElem? (i := 1) (by kernel_rfl))
theorem F_BadCommand_init : ∃ fd, HeS.FunS K "__init__" "BadCommand.__init__" (defArgs s_BadCommand_init) (defBody s_BadCommand_init) (defScope s_BadCommand_init) file (He.ga K "BadCommand") (He.ma K (He.ga K "BadCommand") "__init__") fd := T.sup_ (d := d_BadCommand_init) (List.mem_of_getElem? (i := 2) (by kernel_rfl))
theorem F_TooMany_init : ∃ fd, HeS.FunS K "__init__" "TooMany.__init__" (defArgs s_TooMany_init) (defBody s_TooMany_init) (defScope s_TooMany_init) file (He.ga K "TooMany") (He.ma K (He.ga K "TooMany") "__init__") fd := T.sup_ (d := d_TooMany_init) (List.mem_of_getElem? (i := 3) (by kernel_rfl))
theorem F_kept : ∃ fd, FunD K "kept" "kept" (defArgs s_kept) (defBody s_kept) (defScope s_kept) [] [] (He.ga K "kept") fd := T.def_ (d := d_kept) (List.mem_of_getElem? (i := 1) (by kernel_rfl))
theorem k_kept : PySem.W.keepIn K (.ref (He.ga K "kept")) = true := by
  obtain ⟨_, F⟩ := T.F_kept
  exact F.kp
theorem F_Paper_init : ∃ fd, FunD K "__init__" "Paper.__init__" (defArgs s_Paper_init) (defBody s_Paper_init) (defScope s_Paper_init) [] [] (He.ma K (He.ga K "Paper") "__init__") fd := T.def_ (d := d_Paper_init) (List.mem_of_getElem? (i := 2) (by kernel_rfl))
theorem F_Paper_bool : ∃ fd, FunD K "__bool__" "Paper.__bool__" (defArgs s_Paper_bool) (defBody s_Paper_bool) (defScope s_Paper_bool) [] [] (He.ma K (He.ga K "Paper") "__bool__") fd := T.def_ (d := d_Paper_bool) (List.mem_of_getElem? (i := 3) (by kernel_rfl))
theorem F_Paper_eq : ∃ fd, FunD K "__eq__" "Paper.__eq__" (defArgs s_Paper_eq) (defBody s_Paper_eq) (defScope s_Paper_eq) [] [] (He.ma K (He.ga K "Paper") "__eq__") fd := T.def_ (d := d_Paper_eq) (List.mem_of_getElem? (i := 4) (by kernel_rfl))
theorem F_Denial_bool : ∃ fd, FunD K "__bool__" "Denial.__bool__" (defArgs s_Denial_bool) (defBody s_Denial_bool) (defScope s_Denial_bool) [] [] (He.ma K (He.ga K "Denial") "__bool__") fd := T.def_ (d := d_Denial_bool) (List.mem_of_getElem? (i := 5) (by kernel_rfl))
theorem F_Code_init : ∃ fd, HeS.FunS K "__init__" "Code.__init__" (defArgs s_Code_init) (defBody s_Code_init) (defScope s_Code_init) file (He.ga K "Code") (He.ma K (He.ga K "Code") "__init__") fd := T.sup_ (d := d_Code_init) (List.mem_of_getElem? (i := 4) (by kernel_rfl))
theorem F_Family_init : ∃ fd, HeS.FunS K "__init__" "Family.__init__" (defArgs s_Family_init) (defBody s_Family_init) (defScope s_Family_init) file (He.ga K "Family") (He.ma K (He.ga K "Family") "__init__") fd := T.sup_ (d := d_Family_init) (List.mem_of_getElem? (i := 5) (by kernel_rfl))
theorem F_Alike_init : ∃ fd, HeS.FunS K "__init__" "Alike.__init__" (defArgs s_Alike_init) (defBody s_Alike_init) (defScope s_Alike_init) file (He.ga K "Alike") (He.ma K (He.ga K "Alike") "__init__") fd := T.sup_ (d := d_Alike_init) (List.mem_of_getElem? (i := 6) (by kernel_rfl))
theorem F_Unlike_init : ∃ fd, HeS.FunS K "__init__" "Unlike.__init__" (defArgs s_Unlike_init) (defBody s_Unlike_init) (defScope s_Unlike_init) file (He.ga K "Unlike") (He.ma K (He.ga K "Unlike") "__init__") fd := T.sup_ (d := d_Unlike_init) (List.mem_of_getElem? (i := 7) (by kernel_rfl))
theorem F_Stays_init : ∃ fd, HeS.FunS K "__init__" "Stays.__init__" (defArgs s_Stays_init) (defBody s_Stays_init) (defScope s_Stays_init) file (He.ga K "Stays") (He.ma K (He.ga K "Stays") "__init__") fd := T.sup_ (d := d_Stays_init) (List.mem_of_getElem? (i := 8) (by kernel_rfl))
theorem F_Spoilt_init : ∃ fd, HeS.FunS K "__init__" "Spoilt.__init__" (defArgs s_Spoilt_init) (defBody s_Spoilt_init) (defScope s_Spoilt_init) file (He.ga K "Spoilt") (He.ma K (He.ga K "Spoilt") "__init__") fd := T.sup_ (d := d_Spoilt_init) (List.mem_of_getElem? (i := 9) (by kernel_rfl))
theorem F_Holds_init : ∃ fd, HeS.FunS K "__init__" "Holds.__init__" (defArgs s_Holds_init) (defBody s_Holds_init) (defScope s_Holds_init) file (He.ga K "Holds") (He.ma K (He.ga K "Holds") "__init__") fd := T.sup_ (d := d_Holds_init) (List.mem_of_getElem? (i := 10) (by kernel_rfl))
theorem F_Breaks_init : ∃ fd, HeS.FunS K "__init__" "Breaks.__init__" (defArgs s_Breaks_init) (defBody s_Breaks_init) (defScope s_Breaks_init) file (He.ga K "Breaks") (He.ma K (He.ga K "Breaks") "__init__") fd := T.sup_ (d := d_Breaks_init) (List.mem_of_getElem? (i := 11) (by kernel_rfl))
theorem F_Guards_init : ∃ fd, HeS.FunS K "__init__" "Guards.__init__" (defArgs s_Guards_init) (defBody s_Guards_init) (defScope s_Guards_init) file (He.ga K "Guards") (He.ma K (He.ga K "Guards") "__init__") fd := T.sup_ (d := d_Guards_init) (List.mem_of_getElem? (i := 12) (by kernel_rfl))
theorem F_Checked_init : ∃ fd, HeS.FunS K "__init__" "Checked.__init__" (defArgs s_Checked_init) (defBody s_Checked_init) (defScope s_Checked_init) file (He.ga K "Checked") (He.ma K (He.ga K "Checked") "__init__") fd := T.sup_ (d := d_Checked_init) (List.mem_of_getElem? (i := 13) (by kernel_rfl))
theorem F_Broken_init : ∃ fd, HeS.FunS K "__init__" "Broken.__init__" (defArgs s_Broken_init) (defBody s_Broken_init) (defScope s_Broken_init) file (He.ga K "Broken") (He.ma K (He.ga K "Broken") "__init__") fd := T.sup_ (d := d_Broken_init) (List.mem_of_getElem? (i := 14) (by kernel_rfl))
theorem F_is_word : ∃ fd, FunD K "is_word" "is_word" (defArgs s_is_word) (defBody s_is_word) (defScope s_is_word) [] [] (He.ga K "is_word") fd := T.def_ (d := d_is_word) (List.mem_of_getElem? (i := 6) (by kernel_rfl))
theorem k_is_word : PySem.W.keepIn K (.ref (He.ga K "is_word")) = true := by
  obtain ⟨_, F⟩ := T.F_is_word
  exact F.kp
theorem F_is_kind : ∃ fd, FunD K "is_kind" "is_kind" (defArgs s_is_kind) (defBody s_is_kind) (defScope s_is_kind) [] [] (He.ga K "is_kind") fd := T.def_ (d := d_is_kind) (List.mem_of_getElem? (i := 7) (by kernel_rfl))
theorem k_is_kind : PySem.W.keepIn K (.ref (He.ga K "is_kind")) = true := by
  obtain ⟨_, F⟩ := T.F_is_kind
  exact F.kp
theorem F_words_of : ∃ fd, FunD K "words_of" "words_of" (defArgs s_words_of) (defBody s_words_of) (defScope s_words_of) [] [] (He.ga K "words_of") fd := T.def_ (d := d_words_of) (List.mem_of_getElem? (i := 8) (by kernel_rfl))
theorem k_words_of : PySem.W.keepIn K (.ref (He.ga K "words_of")) = true := by
  obtain ⟨_, F⟩ := T.F_words_of
  exact F.kp
theorem F_paper_text : ∃ fd, FunD K "paper_text" "paper_text" (defArgs s_paper_text) (defBody s_paper_text) (defScope s_paper_text) [] [] (He.ga K "paper_text") fd := T.def_ (d := d_paper_text) (List.mem_of_getElem? (i := 9) (by kernel_rfl))
theorem k_paper_text : PySem.W.keepIn K (.ref (He.ga K "paper_text")) = true := by
  obtain ⟨_, F⟩ := T.F_paper_text
  exact F.kp
theorem F_made_of : ∃ fd, FunD K "made_of" "made_of" (defArgs s_made_of) (defBody s_made_of) (defScope s_made_of) [] [] (He.ga K "made_of") fd := T.def_ (d := d_made_of) (List.mem_of_getElem? (i := 10) (by kernel_rfl))
theorem k_made_of : PySem.W.keepIn K (.ref (He.ga K "made_of")) = true := by
  obtain ⟨_, F⟩ := T.F_made_of
  exact F.kp
theorem F_Opened_init : ∃ fd, FunD K "__init__" "Opened.__init__" (defArgs s_Opened_init) (defBody s_Opened_init) (defScope s_Opened_init) [] [] (He.ma K (He.ga K "Opened") "__init__") fd := T.def_ (d := d_Opened_init) (List.mem_of_getElem? (i := 11) (by kernel_rfl))
theorem F_Opened_is_full : ∃ fd, FunD K "is_full" "Opened.is_full" (defArgs s_Opened_is_full) (defBody s_Opened_is_full) (defScope s_Opened_is_full) [] [] (He.ma K (He.ga K "Opened") "is_full") fd := T.def_ (d := d_Opened_is_full) (List.mem_of_getElem? (i := 12) (by kernel_rfl))
theorem F_Opened_made : ∃ fd, FunD K "made" "Opened.made" (defArgs s_Opened_made) (defBody s_Opened_made) (defScope s_Opened_made) [] [] (He.ma K (He.ga K "Opened") "made") fd := T.def_ (d := d_Opened_made) (List.mem_of_getElem? (i := 13) (by kernel_rfl))
theorem F_number_of : ∃ fd, FunD K "number_of" "number_of" (defArgs s_number_of) (defBody s_number_of) (defScope s_number_of) [] [] (He.ga K "number_of") fd := T.def_ (d := d_number_of) (List.mem_of_getElem? (i := 14) (by kernel_rfl))
theorem k_number_of : PySem.W.keepIn K (.ref (He.ga K "number_of")) = true := by
  obtain ⟨_, F⟩ := T.F_number_of
  exact F.kp
theorem F_plain_of : ∃ fd, FunD K "plain_of" "plain_of" (defArgs s_plain_of) (defBody s_plain_of) (defScope s_plain_of) [] [] (He.ga K "plain_of") fd := T.def_ (d := d_plain_of) (List.mem_of_getElem? (i := 15) (by kernel_rfl))
theorem k_plain_of : PySem.W.keepIn K (.ref (He.ga K "plain_of")) = true := by
  obtain ⟨_, F⟩ := T.F_plain_of
  exact F.kp
theorem F_Reading_init : ∃ fd, FunD K "__init__" "Reading.__init__" (defArgs s_Reading_init) (defBody s_Reading_init) (defScope s_Reading_init) [] [] (He.ma K (He.ga K "Reading") "__init__") fd := T.def_ (d := d_Reading_init) (List.mem_of_getElem? (i := 16) (by kernel_rfl))
theorem F_Reading_stop : ∃ fd, FunD K "stop" "Reading.stop" (defArgs s_Reading_stop) (defBody s_Reading_stop) (defScope s_Reading_stop) [] [] (He.ma K (He.ga K "Reading") "stop") fd := T.def_ (d := d_Reading_stop) (List.mem_of_getElem? (i := 17) (by kernel_rfl))
theorem F_Reading_begin : ∃ fd, FunD K "begin" "Reading.begin" (defArgs s_Reading_begin) (defBody s_Reading_begin) (defScope s_Reading_begin) [] [] (He.ma K (He.ga K "Reading") "begin") fd := T.def_ (d := d_Reading_begin) (List.mem_of_getElem? (i := 18) (by kernel_rfl))
theorem F_Reading_put : ∃ fd, FunD K "put" "Reading.put" (defArgs s_Reading_put) (defBody s_Reading_put) (defScope s_Reading_put) [] [] (He.ma K (He.ga K "Reading") "put") fd := T.def_ (d := d_Reading_put) (List.mem_of_getElem? (i := 19) (by kernel_rfl))
theorem F_Reading_end : ∃ fd, FunD K "end" "Reading.end" (defArgs s_Reading_end) (defBody s_Reading_end) (defScope s_Reading_end) [] [] (He.ma K (He.ga K "Reading") "end") fd := T.def_ (d := d_Reading_end) (List.mem_of_getElem? (i := 20) (by kernel_rfl))
theorem F_Reading_whole : ∃ fd, FunD K "whole" "Reading.whole" (defArgs s_Reading_whole) (defBody s_Reading_whole) (defScope s_Reading_whole) [] [] (He.ma K (He.ga K "Reading") "whole") fd := T.def_ (d := d_Reading_whole) (List.mem_of_getElem? (i := 21) (by kernel_rfl))
theorem F_read_paper : ∃ fd, FunD K "read_paper" "read_paper" (defArgs s_read_paper) (defBody s_read_paper) (defScope s_read_paper) [] [] (He.ga K "read_paper") fd := T.def_ (d := d_read_paper) (List.mem_of_getElem? (i := 22) (by kernel_rfl))
theorem k_read_paper : PySem.W.keepIn K (.ref (He.ga K "read_paper")) = true := by
  obtain ⟨_, F⟩ := T.F_read_paper
  exact F.kp
theorem F__law_well : ∃ fd, FunD K "_law_well" "_law_well" (defArgs s__law_well) (defBody s__law_well) (defScope s__law_well) [] [] (He.ga K "_law_well") fd := T.def_ (d := d__law_well) (List.mem_of_getElem? (i := 23) (by kernel_rfl))
theorem k__law_well : PySem.W.keepIn K (.ref (He.ga K "_law_well")) = true := by
  obtain ⟨_, F⟩ := T.F__law_well
  exact F.kp
theorem F__law_draw : ∃ fd, FunD K "_law_draw" "_law_draw" (defArgs s__law_draw) (defBody s__law_draw) (defScope s__law_draw) [] [] (He.ga K "_law_draw") fd := T.def_ (d := d__law_draw) (List.mem_of_getElem? (i := 24) (by kernel_rfl))
theorem k__law_draw : PySem.W.keepIn K (.ref (He.ga K "_law_draw")) = true := by
  obtain ⟨_, F⟩ := T.F__law_draw
  exact F.kp
theorem F__law_one : ∃ fd, FunD K "_law_one" "_law_one" (defArgs s__law_one) (defBody s__law_one) (defScope s__law_one) [] [] (He.ga K "_law_one") fd := T.def_ (d := d__law_one) (List.mem_of_getElem? (i := 25) (by kernel_rfl))
theorem k__law_one : PySem.W.keepIn K (.ref (He.ga K "_law_one")) = true := by
  obtain ⟨_, F⟩ := T.F__law_one
  exact F.kp
theorem F__law_said : ∃ fd, FunD K "_law_said" "_law_said" (defArgs s__law_said) (defBody s__law_said) (defScope s__law_said) [] [] (He.ga K "_law_said") fd := T.def_ (d := d__law_said) (List.mem_of_getElem? (i := 26) (by kernel_rfl))
theorem k__law_said : PySem.W.keepIn K (.ref (He.ga K "_law_said")) = true := by
  obtain ⟨_, F⟩ := T.F__law_said
  exact F.kp
theorem F__law_sizes : ∃ fd, FunD K "_law_sizes" "_law_sizes" (defArgs s__law_sizes) (defBody s__law_sizes) (defScope s__law_sizes) [] [] (He.ga K "_law_sizes") fd := T.def_ (d := d__law_sizes) (List.mem_of_getElem? (i := 27) (by kernel_rfl))
theorem k__law_sizes : PySem.W.keepIn K (.ref (He.ga K "_law_sizes")) = true := by
  obtain ⟨_, F⟩ := T.F__law_sizes
  exact F.kp
theorem F__law_is_plain : ∃ fd, FunD K "_law_is_plain" "_law_is_plain" (defArgs s__law_is_plain) (defBody s__law_is_plain) (defScope s__law_is_plain) [] [] (He.ga K "_law_is_plain") fd := T.def_ (d := d__law_is_plain) (List.mem_of_getElem? (i := 28) (by kernel_rfl))
theorem k__law_is_plain : PySem.W.keepIn K (.ref (He.ga K "_law_is_plain")) = true := by
  obtain ⟨_, F⟩ := T.F__law_is_plain
  exact F.kp
theorem F__law_fault : ∃ fd, FunD K "_law_fault" "_law_fault" (defArgs s__law_fault) (defBody s__law_fault) (defScope s__law_fault) [] [] (He.ga K "_law_fault") fd := T.def_ (d := d__law_fault) (List.mem_of_getElem? (i := 29) (by kernel_rfl))
theorem k__law_fault : PySem.W.keepIn K (.ref (He.ga K "_law_fault")) = true := by
  obtain ⟨_, F⟩ := T.F__law_fault
  exact F.kp
theorem F__law_words : ∃ fd, FunD K "_law_words" "_law_words" (defArgs s__law_words) (defBody s__law_words) (defScope s__law_words) [] [] (He.ga K "_law_words") fd := T.def_ (d := d__law_words) (List.mem_of_getElem? (i := 30) (by kernel_rfl))
theorem k__law_words : PySem.W.keepIn K (.ref (He.ga K "_law_words")) = true := by
  obtain ⟨_, F⟩ := T.F__law_words
  exact F.kp
theorem F__law_paper_words : ∃ fd, FunD K "_law_paper_words" "_law_paper_words" (defArgs s__law_paper_words) (defBody s__law_paper_words) (defScope s__law_paper_words) [] [] (He.ga K "_law_paper_words") fd := T.def_ (d := d__law_paper_words) (List.mem_of_getElem? (i := 31) (by kernel_rfl))
theorem k__law_paper_words : PySem.W.keepIn K (.ref (He.ga K "_law_paper_words")) = true := by
  obtain ⟨_, F⟩ := T.F__law_paper_words
  exact F.kp
theorem F__law_deep_right : ∃ fd, FunD K "_law_deep_right" "_law_deep_right" (defArgs s__law_deep_right) (defBody s__law_deep_right) (defScope s__law_deep_right) [] [] (He.ga K "_law_deep_right") fd := T.def_ (d := d__law_deep_right) (List.mem_of_getElem? (i := 32) (by kernel_rfl))
theorem k__law_deep_right : PySem.W.keepIn K (.ref (He.ga K "_law_deep_right")) = true := by
  obtain ⟨_, F⟩ := T.F__law_deep_right
  exact F.kp
theorem F_law : ∃ fd, FunD K "law" "law" (defArgs s_law) (defBody s_law) (defScope s_law) [] [] (He.ga K "law") fd := T.def_ (d := d_law) (List.mem_of_getElem? (i := 33) (by kernel_rfl))
theorem k_law : PySem.W.keepIn K (.ref (He.ga K "law")) = true := by
  obtain ⟨_, F⟩ := T.F_law
  exact F.kp
end
end Txt
end K94
set_option maxRecDepth 100000
set_option maxHeartbeats 4000000
/-! k94: the small defs, walked. -/
namespace K94
open PySem PySem.Spec PyProof.Rows L2 L2.Q Pp StX
theorem sc_is_integer : FnScope [("value" : Str)] [("value" : Str)] (defScope s_is_integer) := ⟨rfl, rfl, rfl, by decide +kernel, rfl, by decide +kernel, by decide +kernel⟩
theorem sc_is_word : FnScope [("value" : Str), ("sign" : Str)] [("value" : Str)] (defScope s_is_word) := ⟨rfl, rfl, rfl, by decide +kernel, rfl, by decide +kernel, by decide +kernel⟩
theorem sc_is_kind : FnScope [("value" : Str)] [("value" : Str)] (defScope s_is_kind) := ⟨rfl, rfl, rfl, by decide +kernel, rfl, by decide +kernel, by decide +kernel⟩
/-- isinstance of built-in types -/
def subB (a b : String) : Bool := a == b || (a == "bool" && b == "int")
def tyN : D → String
  | .int _ => "int"
  | .bl _ => "bool"
  | .str _ => "str"
  | .tup _ => "tuple"
  | .lst _ => "list"
  | .dct => "dict"
  | .non => "NoneType"
  | .pap _ _ => ""
def tyVal (K : PySem.W.Frag) : D → Value
  | .pap c _ => .ref (He.ga K c.name)
  | d => .type (tyN d)
def isOf (t : String) (d : D) : Bool := subB (tyN d) t
def ty5 : List String := ["int", "bool", "str", "tuple", "list"]
theorem kt {a b : String} (ha : a ∈ ["int", "bool", "str", "tuple", "list", "dict", "NoneType"]) (hb : b ∈ ty5) : kitB a b = some (subB a b) := by
  simp only [List.mem_cons, List.mem_nil_iff, or_false] at ha
  simp only [ty5, List.mem_cons, List.mem_nil_iff, or_false] at hb
  rcases ha with h | h | h | h | h | h | h <;> subst h <;> rcases hb with h | h | h | h | h <;> subst h <;> decide +kernel
theorem isOf_pap {t : String} (ht : t ∈ ty5) {c : PK} {xs : List D} : isOf t (.pap c xs) = false := by
  simp only [ty5, List.mem_cons, List.mem_nil_iff, or_false] at ht
  rcases ht with h | h | h | h | h <;> subst h <;> rfl
section
variable {w : World} {K : PySem.W.Frag} {mg : Str → Option Value} {base : Heap} (T : Txt w K mg)
include T
theorem p_cls (c : PK) : Cls K (He.ga K c.name) := by
  cases c
  · exact T.c_Paper
  · exact T.c_Denial
  · exact T.c_Code
  · exact T.c_Family
  · exact T.c_Alike
  · exact T.c_Unlike
  · exact T.c_Stays
  · exact T.c_Spoilt
  · exact T.c_Holds
  · exact T.c_Breaks
  · exact T.c_Guards
  · exact T.c_Checked
  · exact T.c_Broken
theorem p_cat (c : PK) : HeX.CatC K (He.ga K c.name) := by
  cases c
  · exact T.cat_Paper
  · exact T.cat_Denial
  · exact T.cat_Code
  · exact T.cat_Family
  · exact T.cat_Alike
  · exact T.cat_Unlike
  · exact T.cat_Stays
  · exact T.cat_Spoilt
  · exact T.cat_Holds
  · exact T.cat_Breaks
  · exact T.cat_Guards
  · exact T.cat_Checked
  · exact T.cat_Broken
theorem p_nm (c : PK) : HeX.NmC K (He.ga K c.name) c.name := by
  cases c
  · exact T.nm_Paper
  · exact T.nm_Denial
  · exact T.nm_Code
  · exact T.nm_Family
  · exact T.nm_Alike
  · exact T.nm_Unlike
  · exact T.nm_Stays
  · exact T.nm_Spoilt
  · exact T.nm_Holds
  · exact T.nm_Breaks
  · exact T.nm_Guards
  · exact T.nm_Checked
  · exact T.nm_Broken
theorem p_kit (c : PK) : PySem.W.kitOne K (.ref (He.ga K c.name)) (.ref (He.ga K "Paper")) = some true := by
  cases c
  · exact T.kit_Paper_Paper
  · exact T.kit_Denial_Paper
  · exact T.kit_Code_Paper
  · exact T.kit_Family_Paper
  · exact T.kit_Alike_Paper
  · exact T.kit_Unlike_Paper
  · exact T.kit_Stays_Paper
  · exact T.kit_Spoilt_Paper
  · exact T.kit_Holds_Paper
  · exact T.kit_Breaks_Paper
  · exact T.kit_Guards_Paper
  · exact T.kit_Checked_Paper
  · exact T.kit_Broken_Paper
theorem p_naw (c : PK) : NoAttr K (He.ga K c.name) "word" := by
  cases c
  · exact T.na_Paper_word
  · exact T.na_Denial_word
  · exact T.na_Code_word
  · exact T.na_Family_word
  · exact T.na_Alike_word
  · exact T.na_Unlike_word
  · exact T.na_Stays_word
  · exact T.na_Spoilt_word
  · exact T.na_Holds_word
  · exact T.na_Breaks_word
  · exact T.na_Guards_word
  · exact T.na_Checked_word
  · exact T.na_Broken_word
theorem p_nap (c : PK) : NoAttr K (He.ga K c.name) "parts" := by
  cases c
  · exact T.na_Paper_parts
  · exact T.na_Denial_parts
  · exact T.na_Code_parts
  · exact T.na_Family_parts
  · exact T.na_Alike_parts
  · exact T.na_Unlike_parts
  · exact T.na_Stays_parts
  · exact T.na_Spoilt_parts
  · exact T.na_Holds_parts
  · exact T.na_Breaks_parts
  · exact T.na_Guards_parts
  · exact T.na_Checked_parts
  · exact T.na_Broken_parts
theorem p_kitR_int (c : PK) : PySem.W.kitOne K (.ref (He.ga K c.name)) (.type "int") = some false := by
  cases c
  · exact T.kitR_Paper_int
  · exact T.kitR_Denial_int
  · exact T.kitR_Code_int
  · exact T.kitR_Family_int
  · exact T.kitR_Alike_int
  · exact T.kitR_Unlike_int
  · exact T.kitR_Stays_int
  · exact T.kitR_Spoilt_int
  · exact T.kitR_Holds_int
  · exact T.kitR_Breaks_int
  · exact T.kitR_Guards_int
  · exact T.kitR_Checked_int
  · exact T.kitR_Broken_int
theorem p_kitR_bool (c : PK) : PySem.W.kitOne K (.ref (He.ga K c.name)) (.type "bool") = some false := by
  cases c
  · exact T.kitR_Paper_bool
  · exact T.kitR_Denial_bool
  · exact T.kitR_Code_bool
  · exact T.kitR_Family_bool
  · exact T.kitR_Alike_bool
  · exact T.kitR_Unlike_bool
  · exact T.kitR_Stays_bool
  · exact T.kitR_Spoilt_bool
  · exact T.kitR_Holds_bool
  · exact T.kitR_Breaks_bool
  · exact T.kitR_Guards_bool
  · exact T.kitR_Checked_bool
  · exact T.kitR_Broken_bool
theorem p_kitR_str (c : PK) : PySem.W.kitOne K (.ref (He.ga K c.name)) (.type "str") = some false := by
  cases c
  · exact T.kitR_Paper_str
  · exact T.kitR_Denial_str
  · exact T.kitR_Code_str
  · exact T.kitR_Family_str
  · exact T.kitR_Alike_str
  · exact T.kitR_Unlike_str
  · exact T.kitR_Stays_str
  · exact T.kitR_Spoilt_str
  · exact T.kitR_Holds_str
  · exact T.kitR_Breaks_str
  · exact T.kitR_Guards_str
  · exact T.kitR_Checked_str
  · exact T.kitR_Broken_str
theorem p_kitR_tuple (c : PK) : PySem.W.kitOne K (.ref (He.ga K c.name)) (.type "tuple") = some false := by
  cases c
  · exact T.kitR_Paper_tuple
  · exact T.kitR_Denial_tuple
  · exact T.kitR_Code_tuple
  · exact T.kitR_Family_tuple
  · exact T.kitR_Alike_tuple
  · exact T.kitR_Unlike_tuple
  · exact T.kitR_Stays_tuple
  · exact T.kitR_Spoilt_tuple
  · exact T.kitR_Holds_tuple
  · exact T.kitR_Breaks_tuple
  · exact T.kitR_Guards_tuple
  · exact T.kitR_Checked_tuple
  · exact T.kitR_Broken_tuple
theorem p_kitR_list (c : PK) : PySem.W.kitOne K (.ref (He.ga K c.name)) (.type "list") = some false := by
  cases c
  · exact T.kitR_Paper_list
  · exact T.kitR_Denial_list
  · exact T.kitR_Code_list
  · exact T.kitR_Family_list
  · exact T.kitR_Alike_list
  · exact T.kitR_Unlike_list
  · exact T.kitR_Stays_list
  · exact T.kitR_Spoilt_list
  · exact T.kitR_Holds_list
  · exact T.kitR_Breaks_list
  · exact T.kitR_Guards_list
  · exact T.kitR_Checked_list
  · exact T.kitR_Broken_list
theorem p_kitR (c : PK) {t : String} (ht : t ∈ ty5) : PySem.W.kitOne K (.ref (He.ga K c.name)) (.type t) = some false := by
  simp only [ty5, List.mem_cons, List.mem_nil_iff, or_false] at ht
  rcases ht with h | h | h | h | h <;> subst h
  · exact p_kitR_int T c
  · exact p_kitR_bool T c
  · exact p_kitR_str T c
  · exact p_kitR_tuple T c
  · exact p_kitR_list T c
/-- a value's type -/
theorem ty_rep {L : Bool} {H : Hp} {v : V} {d : D} (r : Rep K L H v d) : TyX K H v (tyVal K d) := by
  cases r with
  | non => exact .base .non
  | bl => exact .base (.bl _)
  | int => exact .base (.int _)
  | str => exact .base (.str _)
  | tup e _ _ => exact .base (.tup e)
  | lst e _ _ => exact .base (.lst e)
  | dct e => exact .base (.dK e)
  | @pap _ _ a dx p c fs vs xs e w q m e2 l r =>
    have ct := p_cat T c
    exact .base (.ins e (p_cls T c) ct.ha ct.hn ct.ht ct.hm)
theorem ty_kit (d : D) {t : String} (ht : t ∈ ty5) : PySem.W.kitOne K (tyVal K d) (.type t) = some (isOf t d) := by
  cases d with
  | pap c xs => exact (p_kitR T c ht).trans (by rw [isOf_pap ht])
  | _ => exact kit_ty (kt (by simp [tyN]) ht)
theorem ty_pap (d : D) : PySem.W.kitOne K (tyVal K d) (.ref (He.ga K "Paper")) = some d.isPap := by
  cases d with
  | non => exact T.kitT_NoneType_Paper
  | bl => exact T.kitT_bool_Paper
  | int => exact T.kitT_int_Paper
  | str => exact T.kitT_str_Paper
  | tup _ => exact T.kitT_tuple_Paper
  | lst _ => exact T.kitT_list_Paper
  | dct => exact T.kitT_dict_Paper
  | pap c xs => exact p_kit T c
theorem isi_ty {L : Bool} {H : Hp} {v : V} {d : D} (r : Rep K L H v d) {t : String} (ht : t ∈ ty5) : ∃ u, TyX K H v u ∧ PySem.W.kitOne K u (.type t) = some (isOf t d) := ⟨_, ty_rep T r, ty_kit T d ht⟩
theorem isi_pap {L : Bool} {H : Hp} {v : V} {d : D} (r : Rep K L H v d) : ∃ u, TyX K H v u ∧ PySem.W.kitOne K u (.ref (He.ga K "Paper")) = some d.isPap := ⟨_, ty_rep T r, ty_pap T d⟩
/-- a test isinstance(x, t) -/
theorem rIsi_ty {L : Bool} {H : Hp} {v : V} {d : D} (r : Rep K L H v d) {t : String} (ht : t ∈ ty5) {Q : VK} (q : Q (.bl (isOf t d)) H) : rIsi K [v, .ty t] H Q := by
  obtain ⟨u, h1, h2⟩ := isi_ty T r ht
  exact ⟨v, .ty t, u, .type t, isOf t d, rfl, .ty t, h1, h2, q⟩
theorem rIsi_pap {L : Bool} {H : Hp} {v : V} {d : D} (r : Rep K L H v d) {Q : VK} (q : Q (.bl d.isPap) H) : rIsi K [v, .ref (He.ga K "Paper")] H Q := by
  obtain ⟨u, h1, h2⟩ := isi_pap T r
  exact ⟨v, _, u, _, d.isPap, rfl, .own _, h1, h2, q⟩
/-! ### is_integer -/
def spIsInt (K : PySem.W.Frag) : Sp := fun vs H Q _ => ∃ v L d, vs = [v] ∧ Rep K L H v d ∧ Q (.bl d.isInt) H
theorem F_is_integer : FnR PR w K mg base CX0 5 (He.ga K "is_integer") (spIsInt K) := by
  refine fnr (k := 4) T.F_is_integer sc_is_integer (fun vs H Q E h => ?_) (fun _ _ _ _ _ _ us hl => match us, hl with | [_], _ => rfl) (fun cdv A outer s H vs Q E hr h => ⟨_, (pss_one (ps_ret (pe_and (pe_callB call_isi (by rfl) T.n_isinstance (by decide +kernel) (pa_cons (pv 0) (pa_cons (pe_bt (n := "int") T.n_int (by decide +kernel) rfl) pa_nil))) (pe_one (pe_not (pe_callB call_isi (by rfl) T.n_isinstance (by decide +kernel) (pa_cons (pv 0) (pa_cons (pe_bt (n := "bool") T.n_bool (by decide +kernel) rfl) pa_nil)))))))), ?_⟩)
  · obtain ⟨v, L, d, rfl, _⟩ := h
    rfl
  · obtain ⟨v, L, d, rfl, r, q⟩ := h
    have e : d.isInt = (isOf "int" d && !isOf "bool" d) := by cases d <;> rfl
    rw [e] at q
    dsimp only [gCons, gName, gNil, gSub, gTup, gFld, iSeq, iList, iStr, iTup, iRng1, tAnd, tAndT, tAndV, tAsg, tAsg2, tAug, tB, tBM, tBM0, tBreak, tC, tCB, tCallR, tChain, tCons, tDrop, tFld, sFld, sFldAug, tFor_eq, tLc2_eq, tIf, tIfS, tIsN, tLc_eq, tLst, tM0, tM1, tMakeR, tMethR, tNever, tNm, tXk, tCallKw, tNext, tNil, tNoPart, tNot, tNotN, tNotT, tNotV, tOp, tOr, tOrT, tOrV, tOst, tPar, tPart, tRet, tRetN, tRg1, tSeq, tSl, tStar, tTest, tThen, tTup, tUn, C8.tCut, tVar]
    refine ⟨v, rfl, rIsi_ty T r (by decide) ⟨_, rfl, ?_⟩⟩
    cases h1 : isOf "int" d with
    | false =>
      rw [h1] at q
      exact q
    | true =>
      rw [h1] at q
      exact ⟨v, rfl, rIsi_ty T r (by decide) ⟨_, rfl, q⟩⟩
/-! ### is_kind -/
def spIsKind (K : PySem.W.Frag) : Sp := fun vs H Q _ => ∃ v L d, vs = [v] ∧ Rep K L H v d ∧ Q (.bl d.isKind) H
theorem F_is_kind : FnR PR w K mg base CX0 5 (He.ga K "is_kind") (spIsKind K) := by
  refine fnr (k := 4) T.F_is_kind sc_is_kind (fun vs H Q E h => ?_) (fun _ _ _ _ _ _ us hl => match us, hl with | [_], _ => rfl) (fun cdv A outer s H vs Q E hr h => ⟨_, (pss_one (ps_ret (pe_and (pe_callB call_isi (by rfl) T.n_isinstance (by decide +kernel) (pa_cons (pv 0) (pa_cons (pe_gr T.g_Paper rfl) pa_nil))) (pe_one (pe_cmpR (HeX.op_in_tab T.tb_SIZES) (pe_fld (pv 0) rfl) (pe_gr T.g_SIZES rfl) rfl))))), ?_⟩)
  · obtain ⟨v, L, d, rfl, _⟩ := h
    rfl
  · obtain ⟨v, L, d, rfl, r, q⟩ := h
    dsimp only [gCons, gName, gNil, gSub, gTup, gFld, iSeq, iList, iStr, iTup, iRng1, tAnd, tAndT, tAndV, tAsg, tAsg2, tAug, tB, tBM, tBM0, tBreak, tC, tCB, tCallR, tChain, tCons, tDrop, tFld, sFld, sFldAug, tFor_eq, tLc2_eq, tIf, tIfS, tIsN, tLc_eq, tLst, tM0, tM1, tMakeR, tMethR, tNever, tNm, tXk, tCallKw, tNext, tNil, tNoPart, tNot, tNotN, tNotT, tNotV, tOp, tOr, tOrT, tOrV, tOst, tPar, tPart, tRet, tRetN, tRg1, tSeq, tSl, tStar, tTest, tThen, tTup, tUn, C8.tCut, tVar]
    refine ⟨v, rfl, rIsi_pap T r ⟨_, rfl, ?_⟩⟩
    cases r with
    | @pap _ _ a dx p c fs vs xs e w q1 m e2 l r =>
      refine ⟨_, rfl, a, _, dx, fs, _, rfl, e, p_cls T c, p_naw T c, w, ?_⟩
      refine ⟨c.word, rfl, rfl, ?_⟩
      have e : (D.pap c xs).isKind = decide (c.word ∈ Txt.kv_SIZES.map (·.1)) := c.kind_word
      rw [← e]
      exact q
    | _ => exact q
/-! ### is_word -/
def spIsWord (K : PySem.W.Frag) : Sp := fun vs H Q _ => ∃ v L d, vs = [v] ∧ Rep K L H v d ∧ (∀ z, d = .str z → z.length ≤ sizeLine) ∧ ∀ H', Ext H H' → Q (.bl d.isWord) H'
theorem F_is_word : FnR PR w K mg base CX0 5 (He.ga K "is_word") (spIsWord K) := by
  refine fnr (k := 4) T.F_is_word sc_is_word (fun vs H Q E h => ?_) (fun _ _ _ _ _ _ us hl => match us, hl with | [_], _ => rfl) (fun cdv A outer s H vs Q E hr h => ⟨_, (pss_cons (ps_if (PW.pt (pw_or (pt_not (pt_val (pe_callB call_isi (by rfl) T.n_isinstance (by decide +kernel) (pa_cons (pv 0) (pa_cons (pe_bt (n := "str") T.n_str (by decide +kernel) rfl) pa_nil))))) (pw_or (pt_cmpR op_eq (pv 0) pe_str (nomark _)) (pw_or1 (pt_cmpR op_gt (pe_callB call_len (by rfl) T.n_len PySem.boot_len (pa_cons (pv 0) pa_nil)) (pe_gi T.g_MOST_SIGNS rfl) (nomark _)))))) (pss_one (ps_ret pe_bl)) pss_nil)
      (pss_one (ps_ret (pe_and (pe_cmpR op_in_sign (pe_ix ix_str (pv 0) pe_int (fun _ _ => rfl)) (pe_gs T.g_LETTERS rfl) rfl) (pe_one (pe_callB (cr_all rfl) (by rfl) T.n_all (by decide +kernel) (pa_cons (pe_lc (own := [(("sign" : Str), 1)]) rfl sc_is_word.nd (pi_str (pv 0)) (blkOk_by (own := [(("sign" : Str), 1)]) (N := [("value" : Str), ("sign" : Str)]) (sc := defScope s_is_word) (by decide +kernel)) (fun _ _ _ _ _ => (pg_name (i := 1) sc_is_word.nd rfl (Or.inl rfl))) (fun _ _ _ _ _ => pts_nil) (fun _ _ _ _ _ => (pe_cmpR op_in_sign (pv 1) (pe_gs T.g_SIGNS rfl) rfl))) pa_nil))))))), ?_⟩)
  · obtain ⟨v, L, d, rfl, _⟩ := h
    rfl
  · obtain ⟨v, L, d, rfl, r, hz, q⟩ := h
    dsimp only [gCons, gName, gNil, gSub, gTup, gFld, iSeq, iList, iStr, iTup, iRng1, tAnd, tAndT, tAndV, tAsg, tAsg2, tAug, tB, tBM, tBM0, tBreak, tC, tCB, tCallR, tChain, tCons, tDrop, tFld, sFld, sFldAug, tFor_eq, tLc2_eq, tIf, tIfS, tIsN, tLc_eq, tLst, tM0, tM1, tMakeR, tMethR, tNever, tNm, tXk, tCallKw, tNext, tNil, tNoPart, tNot, tNotN, tNotT, tNotV, tOp, tOr, tOrT, tOrV, tOst, tPar, tPart, tRet, tRetN, tRg1, tSeq, tSl, tStar, tTest, tThen, tTup, tUn, C8.tCut, tVar]
    refine ⟨v, rfl, rIsi_ty T r (by decide) ⟨_, rfl, ?_⟩⟩
    cases r with
    | @str _ _ z =>
      rw [show isOf "str" (D.str z) = true from rfl]
      simp only [Bool.not_true, Bool.false_eq_true, if_false]
      refine ⟨_, rfl, rfl, _, rfl, ?_⟩
      cases hc : z.cps.toList with
      | nil =>
        have e := str_nil hc
        subst e
        exact q H Ext.rfl'
      | cons c r =>
        have ne : decide (V.str z = V.str "") = false := decide_eq_false fun e => by
          injection e with e
          rw [str_empty e] at hc
          cases hc
        have hlen : (z.length : Nat) = (c :: r).length := by
          rw [← hc]
          exact (Array.length_toList).symm
        have e := isWordS_cons hc
        rw [ne, if_neg Bool.false_ne_true]
        refine ⟨_, rfl, _, z.length, rfl, ?_, _, _, rfl, rfl, _, rfl, ?_⟩
        · exact ⟨hz z rfl, rfl⟩
        · by_cases h1 : z.length ≤ 100
          · rw [show decide ((100 : Int) < (z.length : Nat)) = false from decide_eq_false (by omega), if_neg Bool.false_ne_true]
            refine ⟨_, rfl, z, 0, c, rfl, rfl, hz z rfl, by rw [hc]; exact atI_nat (j := 0) rfl, c, letters, rfl, rfl, _, rfl, ?_⟩
            cases h2 : decide (c ∈ letters.cps.toList) with
            | false =>
              have : (D.str z).isWord = false := by
                show isWordS z = false
                rw [e, h2, Bool.false_and, Bool.and_false]
              have q' := q H Ext.rfl'
              rw [this] at q'
              exact q'
            | true =>
              refine ⟨_, rfl, z, rfl, LC_ext (walk_str (z := z)) (by rw [← Array.length_toList, hc]; omega) (fun _ _ _ _ y => y.1) (fun i _ y => y = V.bl (decide ((z.cps.toList.getD i 0) ∈ signs.cps.toList))) (fun _ _ _ _ _ h => h) (fun _ _ => trivial) (fun i x H' hi e1 y Qc hq => ?_) fun D' H' acc hD e1 hacc hl hR => ?_⟩
              · obtain ⟨_, c', hc', rfl⟩ := y
                refine ⟨_, rfl, c', signs, rfl, rfl, hq _ _ Ext.rfl' ?_⟩
                have : z.cps.toList.getD i 0 = c' := by
                  rw [List.getD_eq_getElem?_getD, Array.getElem?_toList, hc']; rfl
                rw [this]
              · refine ⟨D', z.cps.toList.map fun c => decide (c ∈ signs.cps.toList), rfl, .of ?_, ?_⟩
                · rw [hacc]
                  congr 2
                  refine List.ext_getElem (by simp [hl]) fun i h1 h2 => ?_
                  have := hR i acc[i] (List.getElem?_eq_getElem h1)
                  rw [this]
                  have h3 : i < z.cps.toList.length := by simpa using h2
                  simp only [List.getElem_map, List.getD_eq_getElem?_getD, List.getElem?_eq_getElem h3, Option.getD_some]
                · have : (D.str z).isWord = (z.cps.toList.map fun c => decide (c ∈ signs.cps.toList)).all id := by
                    show isWordS z = _
                    rw [e, h2, decide_eq_true h1, Bool.true_and, Bool.true_and, List.all_map]
                    rfl
                  rw [← this]
                  exact q H' e1
          · rw [show decide ((100 : Int) < (z.length : Nat)) = true from decide_eq_true (by omega), if_pos rfl]
            have : (D.str z).isWord = false := by
              show isWordS z = false
              rw [e, decide_eq_false h1, Bool.false_and]
            have q' := q H Ext.rfl'
            rw [this] at q'
            exact q'
    | _ => exact q H Ext.rfl'
end
end K94
set_option maxRecDepth 100000
set_option maxHeartbeats 4000000
/-! k94: kept, the papers' makers. -/
namespace K94
open PySem PySem.Spec PyProof.Rows L2 L2.Q Pp StX
theorem sc_kept : FnScope [("value" : Str), ("one" : Str)] [("value" : Str)] (defScope s_kept) := ⟨rfl, rfl, rfl, by decide +kernel, rfl, by decide +kernel, by decide +kernel⟩
section
variable {w : World} {K : PySem.W.Frag} {mg : Str → Option Value} {base : Heap} (T : Txt w K mg)
include T
theorem rIsiT_seq {L : Bool} {H : Hp} {v : V} {d : D} (r : Rep K L H v d) {p : Addr} (hp : H p = some (.tup [.ty "list", .ty "tuple"])) {Q : VK} (q : Q (.bl (d.isLst || d.isTup)) H) : rIsiT K [v, .ref p] H Q := by
  refine ⟨v, p, _, _, [.type "list", .type "tuple"], d.isLst || d.isTup, rfl, hp, .cons (.ty _) (.cons (.ty _) .nil), ty_rep T r, kitAny_cons (ty_kit T d (t := "list") (by decide)) (fun h1 => kitAny_cons (ty_kit T d (t := "tuple") (by decide)) (fun h2 => ?_) fun h2 => ?_) fun h1 => ?_, q⟩
  · rw [show d.isLst = isOf "list" d by cases d <;> rfl, show d.isTup = isOf "tuple" d by cases d <;> rfl, h1, h2]
    rfl
  · rw [show d.isTup = isOf "tuple" d by cases d <;> rfl, h2, Bool.or_true]
  · rw [show d.isLst = isOf "list" d by cases d <;> rfl, h1, Bool.true_or]
/-! ### kept -/
def spKept (K : PySem.W.Frag) (n : Nat) : Sp := fun vs H Q _ => ∃ v L d, vs = [v] ∧ Rep K L H v d ∧ d.dep ≤ n ∧ ∀ v' H', Ext H H' → Rep K false H' v' (keptD d) → Q v' H'
theorem step_kept {k n : Nat} (F_kept : FnR PR w K mg base CX0 k (He.ga K "kept") (fun vs H Q E => ∃ m, m + 1 = n ∧ spKept K m vs H Q E)) : FnR PR w K mg base CX0 (k + 4) (He.ga K "kept") (spKept K n) := by
  refine fnr (k := k + 3) T.F_kept sc_kept (fun vs H Q E h => ?_) (fun _ _ _ _ _ _ us hl => match us, hl with | [_], _ => rfl) (fun cdv A outer s H vs Q E hr h => ⟨_, (pss_one (ps_ret (pe_ifExp (pt_val (pe_callB call_isiT (by rfl) T.n_isinstance (by decide +kernel) (pa_cons (pv 0) (pa_cons (pe_tup (pa_cons (pe_bt (n := "list") T.n_list (by decide +kernel) rfl) (pa_cons (pe_bt (n := "tuple") T.n_tuple (by decide +kernel) rfl) pa_nil))) pa_nil)))) (pe_tupleOf rfl T.n_tuple (pe_lc (own := [(("one" : Str), 1)]) rfl sc_kept.nd (pi_seq (pv 0)) (blkOk_by (own := [(("one" : Str), 1)]) (N := [("value" : Str), ("one" : Str)]) (sc := defScope s_kept) (by decide +kernel)) (fun _ _ _ _ _ => (pg_name (i := 1) sc_kept.nd rfl (Or.inl rfl))) (fun _ _ _ _ _ => pts_nil) (fun _ _ _ _ _ => (pe_callR F_kept (hr.mono (by omega)) T.k_kept T.g_kept rfl pass0 (pa_cons (pv 1) pa_nil))))) (pv 0)))), ?_⟩)
  · obtain ⟨v, L, d, rfl, _⟩ := h
    rfl
  · obtain ⟨v, L, d, rfl, r, hn, q⟩ := h
    dsimp only [gCons, gName, gNil, gSub, gTup, gFld, iSeq, iList, iStr, iTup, iRng1, tAnd, tAndT, tAndV, tAsg, tAsg2, tAug, tB, tBM, tBM0, tBreak, tC, tCB, tCallR, tChain, tCons, tDrop, tFld, sFld, sFldAug, tFor_eq, tLc2_eq, tIf, tIfS, tIsN, tLc_eq, tLst, tM0, tM1, tMakeR, tMethR, tNever, tNm, tXk, tCallKw, tNext, tNil, tNoPart, tNot, tNotN, tNotT, tNotV, tOp, tOr, tOrT, tOrV, tOst, tPar, tPart, tRet, tRetN, tRg1, tSeq, tSl, tStar, tTest, tThen, tTup, tUn, C8.tCut, tVar]
    refine ⟨v, rfl, by decide, fun p hp => rIsiT_seq T (r.ext (Ext.upd hp)) upd_same ⟨_, rfl, ?_⟩⟩
    have e1 : Ext H (upd H p (.tup [.ty "list", .ty "tuple"])) := Ext.upd hp
    generalize hH : upd H p (.tup [.ty "list", .ty "tuple"]) = H1 at e1
    have go : ∀ {vs : List V} {xs : List D} {J : It} {G : Hp → Prop} (hxs : depL xs + 1 ≤ n) (hl : vs.length ≤ 4000) (r1 : Reps K L H1 vs xs) (wk : Walk J vs.length G (YAt vs)) (hG : ∀ H2, Ext H1 H2 → G H2) (hq : ∀ v' H', Ext H H' → Rep K false H' v' (.tup (keptL xs)) → Q v' H'),
        LC J (gName 1) tYes (tCallR (fun vs H Q E => ∃ m, m + 1 = n ∧ spKept K m vs H Q E) E0 (tCons (tVar 1) tNil)) [1] (L2.start [("value" : Str), "one"] [v]) H1 fun x H1 => kTup K x H1 Q := fun {vs xs J G} hxs hl r1 wk hG hq => by
      refine LC_ext wk hl (fun _ _ _ _ y => y.1) (fun i H y => ∃ x, xs[i]? = some x ∧ Rep K false H y (keptD x)) (fun i H H' y g ⟨x, h1, h2⟩ => ⟨x, h1, h2.imm g⟩) hG (fun i x H2 hi e2 y Qc hq2 => ?_) fun D' H2 acc hD e2 hacc hlen hR => ?_
      · obtain ⟨_, hx⟩ := y
        obtain ⟨d', hd', rd⟩ := r1.get hx
        refine ⟨x, rfl, n - 1, by omega, x, L, d', rfl, rd.ext e2, ?_, fun v' H' e3 r3 => hq2 _ _ e3 ⟨d', hd', r3⟩⟩
        have := dep_mem (List.mem_of_getElem? hd')
        omega
      · refine .inl ⟨D', acc, rfl, .of hacc, fun q' hq' => hq _ _ ((e1.trans e2).upd' hq') (.tup upd_same (by omega) ((Reps.of ?_ fun i v d a b => ?_).ext (Ext.upd hq')))⟩
        · rw [hlen, keptL_map, List.length_map, r1.length]
        · obtain ⟨x, h1, h2⟩ := hR i v a
          rw [keptL_map, List.getElem?_map, h1] at b
          cases b
          exact h2
    cases r with
    | tup e l rr =>
      refine ⟨_, rfl, _, rfl, .inr ⟨⟨_, .of (e1 _ _ e)⟩, go hn l (rr.ext e1) walk_tup (fun H2 e2 => .of (e2 _ _ (e1 _ _ e))) q⟩⟩
    | lst e l rr =>
      refine ⟨_, rfl, _, rfl, .inl ⟨⟨_, .of (e1 _ _ e)⟩, go hn l (rr.ext e1) walk_list (fun H2 e2 => .of (e2 _ _ (e1 _ _ e))) q⟩⟩
    | non => exact ⟨_, rfl, q _ _ e1 .non⟩
    | bl => exact ⟨_, rfl, q _ _ e1 .bl⟩
    | int => exact ⟨_, rfl, q _ _ e1 .int⟩
    | str => exact ⟨_, rfl, q _ _ e1 .str⟩
    | dct e => exact ⟨_, rfl, q _ _ e1 (.dct (e1 _ _ e))⟩
    | pap e w' q' m e2 l rr => exact ⟨_, rfl, q _ _ e1 (.pap (e1 _ _ e) w' q' m (e1 _ _ e2) l (rr.ext e1))⟩
theorem F_kept : ∀ n, FnR PR w K mg base CX0 (4 * n + 4) (He.ga K "kept") (spKept K n)
  | 0 => step_kept T (k := 0) fun _ _ _ _ _ _ _ _ _ _ _ ⟨_, h, _⟩ => absurd h (by omega)
  | n + 1 => step_kept T (k := 4 * n + 4) ((F_kept n).imp fun vs H Q E ⟨m, h, p⟩ => by
    obtain rfl : m = n := by omega
    exact p)
end
end K94
set_option maxRecDepth 100000
set_option maxHeartbeats 4000000
/-! k94: the papers' makers. -/
namespace K94
open PySem PySem.Spec PyProof.Rows L2 L2.Q Pp StX
theorem sc_Paper___init__ : FnScope [("self" : Str), ("parts" : Str)] [("self" : Str), ("parts" : Str)] (defScope s_Paper_init) := ⟨rfl, rfl, rfl, by decide +kernel, rfl, by decide +kernel, by decide +kernel⟩
section
variable {w : World} {K : PySem.W.Frag} {mg : Str → Option Value} {base : Heap} (T : Txt w K mg)
include T
def spPaper (K : PySem.W.Frag) (n : Nat) : Sp := fun vs H Q _ => ∃ c a dx args ds L, vs = .ref a :: args ∧ H a = some (.ins (He.ga K (PK.name c)) dx []) ∧ Reps K L H args ds ∧ args.length ≤ 2 ∧ depL ds + 1 ≤ n ∧
  ∀ H' p vs', ExtB a H H' → H' a = some (.ins (He.ga K (PK.name c)) dx [("word", .str (PK.word c)), ("parts", .ref p)]) → H' p = some (.tup vs') → (∀ H2, ExtB a H' H2 → Reps K false H2 vs' (keptL ds)) → Q .non H'
theorem F_Paper_init (n : Nat) : FnR PR w K mg base CX0 (4 * n + 9) (He.ma K (He.ga K "Paper") "__init__") (spPaper K n) := by
  have F_kept := F_kept (base := base) T n
  refine (fnstar (P := PR) (w := w) (mg := mg) (base := base) (k := 4 * n + 8) (ps := [("self" : Str)]) (pv := "parts") (sp := fun vs H Q E => ∃ c a dx t args ds L, vs = [.ref a, .ref t] ∧ H a = some (.ins (He.ga K (PK.name c)) dx []) ∧ H t = some (.tup args) ∧ Reps K L H args ds ∧ args.length ≤ 2 ∧ depL ds + 1 ≤ n ∧
      ∀ H' p vs', ExtB a H H' → H' a = some (.ins (He.ga K (PK.name c)) dx [("word", .str (PK.word c)), ("parts", .ref p)]) → H' p = some (.tup vs') → (∀ H2, ExtB a H' H2 → Reps K false H2 vs' (keptL ds)) → Q .non H')
    T.F_Paper_init sc_Paper___init__ ?_ (fun cdv A outer s H vs Q E hr h => ⟨_, (pss_cons (ps_fld (pv 0) (pe_lower (pe_nm T.opq (pe_callTy NwS.call_typeC (by rfl) T.n_type (by decide +kernel) (pa_cons (pv 0) pa_nil)))) rfl)
      (pss_one (ps_fld (pv 0) (pe_callR F_kept (hr.mono (by omega)) T.k_kept T.g_kept rfl pass0 (pa_cons (pv 1) pa_nil)) rfl))), ?_⟩)).imp ?_
  · intro kV doc pm an cdv ct us rest hl
    match us, hl, rest with
    | [_], _, [] => rfl
    | [_], _, x :: r => rfl
  · obtain ⟨c, a, dx, t, args, ds, L, rfl, ha, ht, r, hl, hn, q⟩ := h
    dsimp only [gCons, gName, gNil, gSub, gTup, gFld, iSeq, iList, iStr, iTup, iRng1, tAnd, tAndT, tAndV, tAsg, tAsg2, tAug, tB, tBM, tBM0, tBreak, tC, tCB, tCallR, tChain, tCons, tDrop, tFld, sFld, sFldAug, tFor_eq, tLc2_eq, tIf, tIfS, tIsN, tLc_eq, tLst, tM0, tM1, tMakeR, tMethR, tNever, tNm, tXk, tCallKw, tNext, tNil, tNoPart, tNot, tNotN, tNotT, tNotV, tOp, tOr, tOrT, tOrV, tOst, tPar, tPart, tRet, tRetN, tRg1, tSeq, tSl, tStar, tTest, tThen, tTup, tUn, C8.tCut, tVar]
    refine ⟨.ref a, rfl, a, He.ga K c.name, rfl, NwS.OfCls.ins ha, _, c.name, rfl, p_nm T c, ⟨c.name, rfl⟩, c.name, rfl, rfl, by cases c <;> decide, _, rfl, a, _, dx, [], rfl, ha, p_cls T c, p_naw T c, by decide, ?_⟩
    rw [show Txt.lower c.name = c.word by cases c <;> decide +kernel]
    have i1 : ImmL H (upd H a (.ins (He.ga K c.name) dx (putF ("word" : Str) (.str c.word) []))) := immL_ins ha rfl
    refine ⟨.ref t, rfl, .ref t, L, .tup ds, rfl, Rep.immL i1 (.tup ht (by omega) r), hn, fun v' H' e2 r2 => ?_⟩
    have h2 : H' a = some (.ins (He.ga K c.name) dx [("word", .str c.word)]) := e2 _ _ upd_same
    cases r2 with
    | @tup _ _ p vs' _ e3 l3 r3 =>
    have pa : p ≠ a := fun z => by rw [z, h2] at e3; cases e3
    refine ⟨.ref a, rfl, a, _, dx, _, rfl, h2, p_cls T c, p_nap T c, by simp, q _ p vs' ?_ upd_same (by rw [upd_ne pa]; exact e3) fun H2 x2 => r3.imm fun b o i e => ?_⟩
    · exact (ExtB.upd.trans (.of e2)).trans .upd
    · have hb : b ≠ a := fun z => by
        rw [z, h2] at e
        cases e
        obtain ⟨v, i⟩ := i
        cases i
      exact x2 b o hb (by rw [upd_ne hb]; exact e)
  · rintro vs H Q E ⟨c, a, dx, args, ds, L, rfl, ha, r, hl, hn, q⟩
    refine ⟨[.ref a], args, rfl, rfl, by have : sizeLine = 16777216 := sizeLine_eq; omega, fun t ht => ⟨c, a, dx, t, args, ds, L, rfl, ?_, upd_same, r.ext (Ext.upd ht), hl, hn, fun H' p vs' e1 e2 e3 r3 => q H' p vs' ?_ e2 e3 r3⟩⟩
    · rw [upd_ne (ne_of_none ha ht)]
      exact ha
    · exact (ExtB.of (Ext.upd ht)).trans e1
end
end K94
set_option maxRecDepth 100000
set_option maxHeartbeats 4000000
/-! the papers' own makers. -/
namespace K94
open PySem PySem.Spec PyProof.Rows L2 L2.Q Pp StX L2.SupX
theorem sc_Alike___init__ : L2.SupX.SupScope [("self" : Str), ("family" : Str)] [("self" : Str), ("family" : Str)] (defScope s_Alike_init) := ⟨rfl, rfl, rfl, by decide +kernel, rfl, by decide +kernel, by decide +kernel, by decide +kernel, rfl, rfl⟩
theorem sc_Stays___init__ : L2.SupX.SupScope [("self" : Str), ("family" : Str)] [("self" : Str), ("family" : Str)] (defScope s_Stays_init) := ⟨rfl, rfl, rfl, by decide +kernel, rfl, by decide +kernel, by decide +kernel, by decide +kernel, rfl, rfl⟩
theorem sc_Holds___init__ : L2.SupX.SupScope [("self" : Str), ("family" : Str)] [("self" : Str), ("family" : Str)] (defScope s_Holds_init) := ⟨rfl, rfl, rfl, by decide +kernel, rfl, by decide +kernel, by decide +kernel, by decide +kernel, rfl, rfl⟩
theorem sc_Breaks___init__ : L2.SupX.SupScope [("self" : Str), ("pieces" : Str)] [("self" : Str), ("pieces" : Str)] (defScope s_Breaks_init) := ⟨rfl, rfl, rfl, by decide +kernel, rfl, by decide +kernel, by decide +kernel, by decide +kernel, rfl, rfl⟩
theorem sc_Checked___init__ : L2.SupX.SupScope [("self" : Str), ("family" : Str)] [("self" : Str), ("family" : Str)] (defScope s_Checked_init) := ⟨rfl, rfl, rfl, by decide +kernel, rfl, by decide +kernel, by decide +kernel, by decide +kernel, rfl, rfl⟩
theorem sc_Code___init__ : L2.SupX.SupScope [("self" : Str), ("addresses" : Str), ("instructions" : Str)] [("self" : Str), ("addresses" : Str), ("instructions" : Str)] (defScope s_Code_init) := ⟨rfl, rfl, rfl, by decide +kernel, rfl, by decide +kernel, by decide +kernel, by decide +kernel, rfl, rfl⟩
theorem sc_Family___init__ : L2.SupX.SupScope [("self" : Str), ("vectors" : Str), ("matrices" : Str)] [("self" : Str), ("vectors" : Str), ("matrices" : Str)] (defScope s_Family_init) := ⟨rfl, rfl, rfl, by decide +kernel, rfl, by decide +kernel, by decide +kernel, by decide +kernel, rfl, rfl⟩
theorem sc_Unlike___init__ : L2.SupX.SupScope [("self" : Str), ("at" : Str), ("way" : Str)] [("self" : Str), ("at" : Str), ("way" : Str)] (defScope s_Unlike_init) := ⟨rfl, rfl, rfl, by decide +kernel, rfl, by decide +kernel, by decide +kernel, by decide +kernel, rfl, rfl⟩
theorem sc_Spoilt___init__ : L2.SupX.SupScope [("self" : Str), ("point" : Str), ("way" : Str)] [("self" : Str), ("point" : Str), ("way" : Str)] (defScope s_Spoilt_init) := ⟨rfl, rfl, rfl, by decide +kernel, rfl, by decide +kernel, by decide +kernel, by decide +kernel, rfl, rfl⟩
theorem sc_Guards___init__ : L2.SupX.SupScope [("self" : Str), ("least" : Str), ("greatest" : Str)] [("self" : Str), ("least" : Str), ("greatest" : Str)] (defScope s_Guards_init) := ⟨rfl, rfl, rfl, by decide +kernel, rfl, by decide +kernel, by decide +kernel, by decide +kernel, rfl, rfl⟩
theorem sc_Broken___init__ : L2.SupX.SupScope [("self" : Str), ("family" : Str), ("rows" : Str)] [("self" : Str), ("family" : Str), ("rows" : Str)] (defScope s_Broken_init) := ⟨rfl, rfl, rfl, by decide +kernel, rfl, by decide +kernel, by decide +kernel, by decide +kernel, rfl, rfl⟩
section
variable {w : World} {K : PySem.W.Frag} {mg : Str → Option Value} {base : Heap} (T : Txt w K mg)
include T
def spSub (K : PySem.W.Frag) (c : PK) (m n : Nat) : Sp := fun vs H Q _ => ∃ a dx args ds L, vs = .ref a :: args ∧ H a = some (.ins (He.ga K c.name) dx []) ∧ Reps K L H args ds ∧ args.length = m ∧ depL ds + 1 ≤ n ∧
  ∀ H', ExtB a H H' → Rep K false H' (.ref a) (.pap c (keptL ds)) → Q .non H'
theorem supT_of {f cc cda D : Addr} {ar : Arg} {fd : FuncData} (h1 : ∃ (oc : Value) (od : Option Addr) (osl : Array (Option Value)), K.lookup f = some ⟨oc, od, .func fd, osl⟩) (h2 : (fd.params.posonlyargs ++ fd.params.args).head? = some ar) (h3 : ar.arg = "self")
    (hcc : ∃ c d s, K.lookup cc = some ⟨c, d, .cell (some (.ref D)), s⟩) (hfl : ∃ c d vs s tf, K.lookup cda = some ⟨c, d, .fields vs, s⟩ ∧ vs[2]? = some (.str file tf)) (hc : (PySem.W.clsIn K D).isSome = true) : SupT K mg PR f cc cda D file := by
  obtain ⟨oc, od, osl, lk⟩ := h1
  exact ⟨⟨oc, od, fd, osl, ar, lk, h2, h3⟩, hcc, hfl, hc, T.n_super, by decide +kernel, by decide +kernel, T.opq⟩

theorem F_Alike_init (n : Nat) : FnR PR w K mg base CX0 (4 * n + 10) (He.ma K (He.ga K "Alike") "__init__") (spSub K .alike 1 n) := by
  obtain ⟨fd, FS⟩ := T.F_Alike_init
  have F_Paper := F_Paper_init (base := base) T n
  refine fn_sup (k := 4 * n + 9) (st := (defBody s_Alike_init).head!) (rest := (defBody s_Alike_init).tail) FS sc_Alike___init__ (fun vs H Q E h => ?_) (fun cc kV doc pm an cda ct us hl => match us, hl with | [_, _], _ => rfl) ?_
  · obtain ⟨a, dx, args, ds, L, rfl, _, _, hl, _⟩ := h
    simp [hl]
  · intro cc cda A outer s H vs Q E lk hcc hfl hr h
    obtain ⟨a1, a2, a3, a4, a5, a6, a7, a8, e⟩ := lk
    have ST := supT_of T ⟨a1, a2, a8, e⟩ rfl rfl hcc hfl FS.cls
    refine ⟨_, _, pf_superM ST sc_Alike___init__ rfl rfl rfl T.supM_Alike.2.1 T.supM_Alike.2.2 F_Paper (hr.mono (by omega)) pass0 (pa_cons (pv 1) pa_nil), (pss_one (ps_fld (pv 0) (pe_ix ix_tup (pe_fld (pv 0) rfl) pe_int (fun _ _ => rfl)) rfl)), ?_⟩
    obtain ⟨a, dx, args, ds, L, rfl, ha, r, hl, hn, q⟩ := h
    obtain ⟨x0, rfl⟩ : ∃ x0, args = [x0] := by
      match args, hl with
      | [x0], _ => exact ⟨x0, rfl⟩
    show tSeq _ _ _ _ _
    unfold tSeq tSupM
    refine ⟨a, _, dx, [], rfl, ha, T.c_Alike, T.sub_Alike_Alike, T.supM_Alike.1, ?_⟩
    dsimp only [gCons, gName, gNil, gSub, gTup, gFld, iSeq, iList, iStr, iTup, iRng1, tAnd, tAndT, tAndV, tAsg, tAsg2, tAug, tB, tBM, tBM0, tBreak, tC, tCB, tCallR, tChain, tCons, tDrop, tFld, sFld, sFldAug, tFor_eq, tLc2_eq, tIf, tIfS, tIsN, tLc_eq, tLst, tM0, tM1, tMakeR, tMethR, tNever, tNm, tXk, tCallKw, tNext, tNil, tNoPart, tNot, tNotN, tNotT, tNotV, tOp, tOr, tOrT, tOrV, tOst, tPar, tPart, tRet, tRetN, tRg1, tSeq, tSl, tStar, tTest, tThen, tTup, tUn, C8.tCut, tVar]
    refine ⟨_, rfl, .alike, a, dx, _, ds, L, rfl, ha, r, by simp, hn, fun H' p vs' e1 e2 e3 r3 => ?_⟩
    have hl2 : vs'.length = 1 := by rw [(r3 H' fun _ _ _ z => z).length, keptL_map, List.length_map, ← r.length]; rfl
    obtain ⟨y0, rfl⟩ : ∃ y0, vs' = [y0] := by
      match vs', hl2 with
      | [y0], _ => exact ⟨y0, rfl⟩
    · --
      have na : NoAttr K (He.ga K "Alike") "parts" := T.na_Alike_parts
      have na1 : NoAttr K (He.ga K "Alike") "family" := T.na_Alike_family
      have pa : p ≠ a := fun z => by rw [z, e2] at e3; cases e3
      refine ⟨.ref a, rfl, a, _, dx, _, .ref p, rfl, e2, T.c_Alike, na, rfl, p, _, 0, y0, rfl, rfl, .of e3, atI_nat (j := 0) rfl, .ref a, rfl, a, _, dx, _, rfl, e2, T.c_Alike, na1, by simp, ?_⟩
      refine q _ (e1.trans .upd) (.pap (p := p) upd_same rfl rfl ⟨rfl, rfl⟩ (by rw [upd_ne pa]; exact e3) (by simp) (r3 _ .upd))
theorem F_Stays_init (n : Nat) : FnR PR w K mg base CX0 (4 * n + 10) (He.ma K (He.ga K "Stays") "__init__") (spSub K .stays 1 n) := by
  obtain ⟨fd, FS⟩ := T.F_Stays_init
  have F_Paper := F_Paper_init (base := base) T n
  refine fn_sup (k := 4 * n + 9) (st := (defBody s_Stays_init).head!) (rest := (defBody s_Stays_init).tail) FS sc_Stays___init__ (fun vs H Q E h => ?_) (fun cc kV doc pm an cda ct us hl => match us, hl with | [_, _], _ => rfl) ?_
  · obtain ⟨a, dx, args, ds, L, rfl, _, _, hl, _⟩ := h
    simp [hl]
  · intro cc cda A outer s H vs Q E lk hcc hfl hr h
    obtain ⟨a1, a2, a3, a4, a5, a6, a7, a8, e⟩ := lk
    have ST := supT_of T ⟨a1, a2, a8, e⟩ rfl rfl hcc hfl FS.cls
    refine ⟨_, _, pf_superM ST sc_Stays___init__ rfl rfl rfl T.supM_Stays.2.1 T.supM_Stays.2.2 F_Paper (hr.mono (by omega)) pass0 (pa_cons (pv 1) pa_nil), (pss_one (ps_fld (pv 0) (pe_ix ix_tup (pe_fld (pv 0) rfl) pe_int (fun _ _ => rfl)) rfl)), ?_⟩
    obtain ⟨a, dx, args, ds, L, rfl, ha, r, hl, hn, q⟩ := h
    obtain ⟨x0, rfl⟩ : ∃ x0, args = [x0] := by
      match args, hl with
      | [x0], _ => exact ⟨x0, rfl⟩
    show tSeq _ _ _ _ _
    unfold tSeq tSupM
    refine ⟨a, _, dx, [], rfl, ha, T.c_Stays, T.sub_Stays_Stays, T.supM_Stays.1, ?_⟩
    dsimp only [gCons, gName, gNil, gSub, gTup, gFld, iSeq, iList, iStr, iTup, iRng1, tAnd, tAndT, tAndV, tAsg, tAsg2, tAug, tB, tBM, tBM0, tBreak, tC, tCB, tCallR, tChain, tCons, tDrop, tFld, sFld, sFldAug, tFor_eq, tLc2_eq, tIf, tIfS, tIsN, tLc_eq, tLst, tM0, tM1, tMakeR, tMethR, tNever, tNm, tXk, tCallKw, tNext, tNil, tNoPart, tNot, tNotN, tNotT, tNotV, tOp, tOr, tOrT, tOrV, tOst, tPar, tPart, tRet, tRetN, tRg1, tSeq, tSl, tStar, tTest, tThen, tTup, tUn, C8.tCut, tVar]
    refine ⟨_, rfl, .stays, a, dx, _, ds, L, rfl, ha, r, by simp, hn, fun H' p vs' e1 e2 e3 r3 => ?_⟩
    have hl2 : vs'.length = 1 := by rw [(r3 H' fun _ _ _ z => z).length, keptL_map, List.length_map, ← r.length]; rfl
    obtain ⟨y0, rfl⟩ : ∃ y0, vs' = [y0] := by
      match vs', hl2 with
      | [y0], _ => exact ⟨y0, rfl⟩
    · --
      have na : NoAttr K (He.ga K "Stays") "parts" := T.na_Stays_parts
      have na1 : NoAttr K (He.ga K "Stays") "family" := T.na_Stays_family
      have pa : p ≠ a := fun z => by rw [z, e2] at e3; cases e3
      refine ⟨.ref a, rfl, a, _, dx, _, .ref p, rfl, e2, T.c_Stays, na, rfl, p, _, 0, y0, rfl, rfl, .of e3, atI_nat (j := 0) rfl, .ref a, rfl, a, _, dx, _, rfl, e2, T.c_Stays, na1, by simp, ?_⟩
      refine q _ (e1.trans .upd) (.pap (p := p) upd_same rfl rfl ⟨rfl, rfl⟩ (by rw [upd_ne pa]; exact e3) (by simp) (r3 _ .upd))
theorem F_Holds_init (n : Nat) : FnR PR w K mg base CX0 (4 * n + 10) (He.ma K (He.ga K "Holds") "__init__") (spSub K .holds 1 n) := by
  obtain ⟨fd, FS⟩ := T.F_Holds_init
  have F_Paper := F_Paper_init (base := base) T n
  refine fn_sup (k := 4 * n + 9) (st := (defBody s_Holds_init).head!) (rest := (defBody s_Holds_init).tail) FS sc_Holds___init__ (fun vs H Q E h => ?_) (fun cc kV doc pm an cda ct us hl => match us, hl with | [_, _], _ => rfl) ?_
  · obtain ⟨a, dx, args, ds, L, rfl, _, _, hl, _⟩ := h
    simp [hl]
  · intro cc cda A outer s H vs Q E lk hcc hfl hr h
    obtain ⟨a1, a2, a3, a4, a5, a6, a7, a8, e⟩ := lk
    have ST := supT_of T ⟨a1, a2, a8, e⟩ rfl rfl hcc hfl FS.cls
    refine ⟨_, _, pf_superM ST sc_Holds___init__ rfl rfl rfl T.supM_Holds.2.1 T.supM_Holds.2.2 F_Paper (hr.mono (by omega)) pass0 (pa_cons (pv 1) pa_nil), (pss_one (ps_fld (pv 0) (pe_ix ix_tup (pe_fld (pv 0) rfl) pe_int (fun _ _ => rfl)) rfl)), ?_⟩
    obtain ⟨a, dx, args, ds, L, rfl, ha, r, hl, hn, q⟩ := h
    obtain ⟨x0, rfl⟩ : ∃ x0, args = [x0] := by
      match args, hl with
      | [x0], _ => exact ⟨x0, rfl⟩
    show tSeq _ _ _ _ _
    unfold tSeq tSupM
    refine ⟨a, _, dx, [], rfl, ha, T.c_Holds, T.sub_Holds_Holds, T.supM_Holds.1, ?_⟩
    dsimp only [gCons, gName, gNil, gSub, gTup, gFld, iSeq, iList, iStr, iTup, iRng1, tAnd, tAndT, tAndV, tAsg, tAsg2, tAug, tB, tBM, tBM0, tBreak, tC, tCB, tCallR, tChain, tCons, tDrop, tFld, sFld, sFldAug, tFor_eq, tLc2_eq, tIf, tIfS, tIsN, tLc_eq, tLst, tM0, tM1, tMakeR, tMethR, tNever, tNm, tXk, tCallKw, tNext, tNil, tNoPart, tNot, tNotN, tNotT, tNotV, tOp, tOr, tOrT, tOrV, tOst, tPar, tPart, tRet, tRetN, tRg1, tSeq, tSl, tStar, tTest, tThen, tTup, tUn, C8.tCut, tVar]
    refine ⟨_, rfl, .holds, a, dx, _, ds, L, rfl, ha, r, by simp, hn, fun H' p vs' e1 e2 e3 r3 => ?_⟩
    have hl2 : vs'.length = 1 := by rw [(r3 H' fun _ _ _ z => z).length, keptL_map, List.length_map, ← r.length]; rfl
    obtain ⟨y0, rfl⟩ : ∃ y0, vs' = [y0] := by
      match vs', hl2 with
      | [y0], _ => exact ⟨y0, rfl⟩
    · --
      have na : NoAttr K (He.ga K "Holds") "parts" := T.na_Holds_parts
      have na1 : NoAttr K (He.ga K "Holds") "family" := T.na_Holds_family
      have pa : p ≠ a := fun z => by rw [z, e2] at e3; cases e3
      refine ⟨.ref a, rfl, a, _, dx, _, .ref p, rfl, e2, T.c_Holds, na, rfl, p, _, 0, y0, rfl, rfl, .of e3, atI_nat (j := 0) rfl, .ref a, rfl, a, _, dx, _, rfl, e2, T.c_Holds, na1, by simp, ?_⟩
      refine q _ (e1.trans .upd) (.pap (p := p) upd_same rfl rfl ⟨rfl, rfl⟩ (by rw [upd_ne pa]; exact e3) (by simp) (r3 _ .upd))
theorem F_Breaks_init (n : Nat) : FnR PR w K mg base CX0 (4 * n + 10) (He.ma K (He.ga K "Breaks") "__init__") (spSub K .breaks 1 n) := by
  obtain ⟨fd, FS⟩ := T.F_Breaks_init
  have F_Paper := F_Paper_init (base := base) T n
  refine fn_sup (k := 4 * n + 9) (st := (defBody s_Breaks_init).head!) (rest := (defBody s_Breaks_init).tail) FS sc_Breaks___init__ (fun vs H Q E h => ?_) (fun cc kV doc pm an cda ct us hl => match us, hl with | [_, _], _ => rfl) ?_
  · obtain ⟨a, dx, args, ds, L, rfl, _, _, hl, _⟩ := h
    simp [hl]
  · intro cc cda A outer s H vs Q E lk hcc hfl hr h
    obtain ⟨a1, a2, a3, a4, a5, a6, a7, a8, e⟩ := lk
    have ST := supT_of T ⟨a1, a2, a8, e⟩ rfl rfl hcc hfl FS.cls
    refine ⟨_, _, pf_superM ST sc_Breaks___init__ rfl rfl rfl T.supM_Breaks.2.1 T.supM_Breaks.2.2 F_Paper (hr.mono (by omega)) pass0 (pa_cons (pv 1) pa_nil), (pss_one (ps_fld (pv 0) (pe_ix ix_tup (pe_fld (pv 0) rfl) pe_int (fun _ _ => rfl)) rfl)), ?_⟩
    obtain ⟨a, dx, args, ds, L, rfl, ha, r, hl, hn, q⟩ := h
    obtain ⟨x0, rfl⟩ : ∃ x0, args = [x0] := by
      match args, hl with
      | [x0], _ => exact ⟨x0, rfl⟩
    show tSeq _ _ _ _ _
    unfold tSeq tSupM
    refine ⟨a, _, dx, [], rfl, ha, T.c_Breaks, T.sub_Breaks_Breaks, T.supM_Breaks.1, ?_⟩
    dsimp only [gCons, gName, gNil, gSub, gTup, gFld, iSeq, iList, iStr, iTup, iRng1, tAnd, tAndT, tAndV, tAsg, tAsg2, tAug, tB, tBM, tBM0, tBreak, tC, tCB, tCallR, tChain, tCons, tDrop, tFld, sFld, sFldAug, tFor_eq, tLc2_eq, tIf, tIfS, tIsN, tLc_eq, tLst, tM0, tM1, tMakeR, tMethR, tNever, tNm, tXk, tCallKw, tNext, tNil, tNoPart, tNot, tNotN, tNotT, tNotV, tOp, tOr, tOrT, tOrV, tOst, tPar, tPart, tRet, tRetN, tRg1, tSeq, tSl, tStar, tTest, tThen, tTup, tUn, C8.tCut, tVar]
    refine ⟨_, rfl, .breaks, a, dx, _, ds, L, rfl, ha, r, by simp, hn, fun H' p vs' e1 e2 e3 r3 => ?_⟩
    have hl2 : vs'.length = 1 := by rw [(r3 H' fun _ _ _ z => z).length, keptL_map, List.length_map, ← r.length]; rfl
    obtain ⟨y0, rfl⟩ : ∃ y0, vs' = [y0] := by
      match vs', hl2 with
      | [y0], _ => exact ⟨y0, rfl⟩
    · --
      have na : NoAttr K (He.ga K "Breaks") "parts" := T.na_Breaks_parts
      have na1 : NoAttr K (He.ga K "Breaks") "pieces" := T.na_Breaks_pieces
      have pa : p ≠ a := fun z => by rw [z, e2] at e3; cases e3
      refine ⟨.ref a, rfl, a, _, dx, _, .ref p, rfl, e2, T.c_Breaks, na, rfl, p, _, 0, y0, rfl, rfl, .of e3, atI_nat (j := 0) rfl, .ref a, rfl, a, _, dx, _, rfl, e2, T.c_Breaks, na1, by simp, ?_⟩
      refine q _ (e1.trans .upd) (.pap (p := p) upd_same rfl rfl ⟨rfl, rfl⟩ (by rw [upd_ne pa]; exact e3) (by simp) (r3 _ .upd))
theorem F_Checked_init (n : Nat) : FnR PR w K mg base CX0 (4 * n + 10) (He.ma K (He.ga K "Checked") "__init__") (spSub K .checked 1 n) := by
  obtain ⟨fd, FS⟩ := T.F_Checked_init
  have F_Paper := F_Paper_init (base := base) T n
  refine fn_sup (k := 4 * n + 9) (st := (defBody s_Checked_init).head!) (rest := (defBody s_Checked_init).tail) FS sc_Checked___init__ (fun vs H Q E h => ?_) (fun cc kV doc pm an cda ct us hl => match us, hl with | [_, _], _ => rfl) ?_
  · obtain ⟨a, dx, args, ds, L, rfl, _, _, hl, _⟩ := h
    simp [hl]
  · intro cc cda A outer s H vs Q E lk hcc hfl hr h
    obtain ⟨a1, a2, a3, a4, a5, a6, a7, a8, e⟩ := lk
    have ST := supT_of T ⟨a1, a2, a8, e⟩ rfl rfl hcc hfl FS.cls
    refine ⟨_, _, pf_superM ST sc_Checked___init__ rfl rfl rfl T.supM_Checked.2.1 T.supM_Checked.2.2 F_Paper (hr.mono (by omega)) pass0 (pa_cons (pv 1) pa_nil), (pss_one (ps_fld (pv 0) (pe_ix ix_tup (pe_fld (pv 0) rfl) pe_int (fun _ _ => rfl)) rfl)), ?_⟩
    obtain ⟨a, dx, args, ds, L, rfl, ha, r, hl, hn, q⟩ := h
    obtain ⟨x0, rfl⟩ : ∃ x0, args = [x0] := by
      match args, hl with
      | [x0], _ => exact ⟨x0, rfl⟩
    show tSeq _ _ _ _ _
    unfold tSeq tSupM
    refine ⟨a, _, dx, [], rfl, ha, T.c_Checked, T.sub_Checked_Checked, T.supM_Checked.1, ?_⟩
    dsimp only [gCons, gName, gNil, gSub, gTup, gFld, iSeq, iList, iStr, iTup, iRng1, tAnd, tAndT, tAndV, tAsg, tAsg2, tAug, tB, tBM, tBM0, tBreak, tC, tCB, tCallR, tChain, tCons, tDrop, tFld, sFld, sFldAug, tFor_eq, tLc2_eq, tIf, tIfS, tIsN, tLc_eq, tLst, tM0, tM1, tMakeR, tMethR, tNever, tNm, tXk, tCallKw, tNext, tNil, tNoPart, tNot, tNotN, tNotT, tNotV, tOp, tOr, tOrT, tOrV, tOst, tPar, tPart, tRet, tRetN, tRg1, tSeq, tSl, tStar, tTest, tThen, tTup, tUn, C8.tCut, tVar]
    refine ⟨_, rfl, .checked, a, dx, _, ds, L, rfl, ha, r, by simp, hn, fun H' p vs' e1 e2 e3 r3 => ?_⟩
    have hl2 : vs'.length = 1 := by rw [(r3 H' fun _ _ _ z => z).length, keptL_map, List.length_map, ← r.length]; rfl
    obtain ⟨y0, rfl⟩ : ∃ y0, vs' = [y0] := by
      match vs', hl2 with
      | [y0], _ => exact ⟨y0, rfl⟩
    · --
      have na : NoAttr K (He.ga K "Checked") "parts" := T.na_Checked_parts
      have na1 : NoAttr K (He.ga K "Checked") "family" := T.na_Checked_family
      have pa : p ≠ a := fun z => by rw [z, e2] at e3; cases e3
      refine ⟨.ref a, rfl, a, _, dx, _, .ref p, rfl, e2, T.c_Checked, na, rfl, p, _, 0, y0, rfl, rfl, .of e3, atI_nat (j := 0) rfl, .ref a, rfl, a, _, dx, _, rfl, e2, T.c_Checked, na1, by simp, ?_⟩
      refine q _ (e1.trans .upd) (.pap (p := p) upd_same rfl rfl ⟨rfl, rfl⟩ (by rw [upd_ne pa]; exact e3) (by simp) (r3 _ .upd))
theorem F_Code_init (n : Nat) : FnR PR w K mg base CX0 (4 * n + 10) (He.ma K (He.ga K "Code") "__init__") (spSub K .code 2 n) := by
  obtain ⟨fd, FS⟩ := T.F_Code_init
  have F_Paper := F_Paper_init (base := base) T n
  refine fn_sup (k := 4 * n + 9) (st := (defBody s_Code_init).head!) (rest := (defBody s_Code_init).tail) FS sc_Code___init__ (fun vs H Q E h => ?_) (fun cc kV doc pm an cda ct us hl => match us, hl with | [_, _, _], _ => rfl) ?_
  · obtain ⟨a, dx, args, ds, L, rfl, _, _, hl, _⟩ := h
    simp [hl]
  · intro cc cda A outer s H vs Q E lk hcc hfl hr h
    obtain ⟨a1, a2, a3, a4, a5, a6, a7, a8, e⟩ := lk
    have ST := supT_of T ⟨a1, a2, a8, e⟩ rfl rfl hcc hfl FS.cls
    refine ⟨_, _, pf_superM ST sc_Code___init__ rfl rfl rfl T.supM_Code.2.1 T.supM_Code.2.2 F_Paper (hr.mono (by omega)) pass0 (pa_cons (pv 1) (pa_cons (pv 2) pa_nil)), (pss_one (ps_asg (pe_fld (pv 0) rfl) (pg_tup rfl (pgs_cons (pg_fld (pv 0)) (pgs_cons (pg_fld (pv 0)) pgs_nil))))), ?_⟩
    obtain ⟨a, dx, args, ds, L, rfl, ha, r, hl, hn, q⟩ := h
    obtain ⟨x0, x1, rfl⟩ : ∃ x0 x1, args = [x0, x1] := by
      match args, hl with
      | [x0, x1], _ => exact ⟨x0, x1, rfl⟩
    show tSeq _ _ _ _ _
    unfold tSeq tSupM
    refine ⟨a, _, dx, [], rfl, ha, T.c_Code, T.sub_Code_Code, T.supM_Code.1, ?_⟩
    dsimp only [gCons, gName, gNil, gSub, gTup, gFld, iSeq, iList, iStr, iTup, iRng1, tAnd, tAndT, tAndV, tAsg, tAsg2, tAug, tB, tBM, tBM0, tBreak, tC, tCB, tCallR, tChain, tCons, tDrop, tFld, sFld, sFldAug, tFor_eq, tLc2_eq, tIf, tIfS, tIsN, tLc_eq, tLst, tM0, tM1, tMakeR, tMethR, tNever, tNm, tXk, tCallKw, tNext, tNil, tNoPart, tNot, tNotN, tNotT, tNotV, tOp, tOr, tOrT, tOrV, tOst, tPar, tPart, tRet, tRetN, tRg1, tSeq, tSl, tStar, tTest, tThen, tTup, tUn, C8.tCut, tVar]
    refine ⟨_, rfl, _, rfl, .code, a, dx, _, ds, L, rfl, ha, r, by simp, hn, fun H' p vs' e1 e2 e3 r3 => ?_⟩
    have hl2 : vs'.length = 2 := by rw [(r3 H' fun _ _ _ z => z).length, keptL_map, List.length_map, ← r.length]; rfl
    obtain ⟨y0, y1, rfl⟩ : ∃ y0 y1, vs' = [y0, y1] := by
      match vs', hl2 with
      | [y0, y1], _ => exact ⟨y0, y1, rfl⟩
    · --
      have na : NoAttr K (He.ga K "Code") "parts" := T.na_Code_parts
      have na1 : NoAttr K (He.ga K "Code") "addresses" := T.na_Code_addresses
      have na2 : NoAttr K (He.ga K "Code") "instructions" := T.na_Code_instructions
      have pa : p ≠ a := fun z => by rw [z, e2] at e3; cases e3
      refine ⟨.ref a, rfl, a, _, dx, _, .ref p, rfl, e2, T.c_Code, na, rfl, p, _, rfl, .of e3, rfl, y0, _, rfl, .ref a, rfl, a, _, dx, _, rfl, e2, T.c_Code, na1, by simp, y1, _, rfl, .ref a, rfl, a, _, dx, _, rfl, upd_same, T.c_Code, na2, putF_lt (by simp), rfl, ?_⟩
      exact q _ ((e1.trans .upd).trans .upd) (.pap (p := p) upd_same rfl rfl ⟨rfl, rfl⟩ (by rw [upd_ne pa, upd_ne pa]; exact e3) (by simp) (r3 _ (ExtB.trans .upd .upd)))
theorem F_Family_init (n : Nat) : FnR PR w K mg base CX0 (4 * n + 10) (He.ma K (He.ga K "Family") "__init__") (spSub K .family 2 n) := by
  obtain ⟨fd, FS⟩ := T.F_Family_init
  have F_Paper := F_Paper_init (base := base) T n
  refine fn_sup (k := 4 * n + 9) (st := (defBody s_Family_init).head!) (rest := (defBody s_Family_init).tail) FS sc_Family___init__ (fun vs H Q E h => ?_) (fun cc kV doc pm an cda ct us hl => match us, hl with | [_, _, _], _ => rfl) ?_
  · obtain ⟨a, dx, args, ds, L, rfl, _, _, hl, _⟩ := h
    simp [hl]
  · intro cc cda A outer s H vs Q E lk hcc hfl hr h
    obtain ⟨a1, a2, a3, a4, a5, a6, a7, a8, e⟩ := lk
    have ST := supT_of T ⟨a1, a2, a8, e⟩ rfl rfl hcc hfl FS.cls
    refine ⟨_, _, pf_superM ST sc_Family___init__ rfl rfl rfl T.supM_Family.2.1 T.supM_Family.2.2 F_Paper (hr.mono (by omega)) pass0 (pa_cons (pv 1) (pa_cons (pv 2) pa_nil)), (pss_one (ps_asg (pe_fld (pv 0) rfl) (pg_tup rfl (pgs_cons (pg_fld (pv 0)) (pgs_cons (pg_fld (pv 0)) pgs_nil))))), ?_⟩
    obtain ⟨a, dx, args, ds, L, rfl, ha, r, hl, hn, q⟩ := h
    obtain ⟨x0, x1, rfl⟩ : ∃ x0 x1, args = [x0, x1] := by
      match args, hl with
      | [x0, x1], _ => exact ⟨x0, x1, rfl⟩
    show tSeq _ _ _ _ _
    unfold tSeq tSupM
    refine ⟨a, _, dx, [], rfl, ha, T.c_Family, T.sub_Family_Family, T.supM_Family.1, ?_⟩
    dsimp only [gCons, gName, gNil, gSub, gTup, gFld, iSeq, iList, iStr, iTup, iRng1, tAnd, tAndT, tAndV, tAsg, tAsg2, tAug, tB, tBM, tBM0, tBreak, tC, tCB, tCallR, tChain, tCons, tDrop, tFld, sFld, sFldAug, tFor_eq, tLc2_eq, tIf, tIfS, tIsN, tLc_eq, tLst, tM0, tM1, tMakeR, tMethR, tNever, tNm, tXk, tCallKw, tNext, tNil, tNoPart, tNot, tNotN, tNotT, tNotV, tOp, tOr, tOrT, tOrV, tOst, tPar, tPart, tRet, tRetN, tRg1, tSeq, tSl, tStar, tTest, tThen, tTup, tUn, C8.tCut, tVar]
    refine ⟨_, rfl, _, rfl, .family, a, dx, _, ds, L, rfl, ha, r, by simp, hn, fun H' p vs' e1 e2 e3 r3 => ?_⟩
    have hl2 : vs'.length = 2 := by rw [(r3 H' fun _ _ _ z => z).length, keptL_map, List.length_map, ← r.length]; rfl
    obtain ⟨y0, y1, rfl⟩ : ∃ y0 y1, vs' = [y0, y1] := by
      match vs', hl2 with
      | [y0, y1], _ => exact ⟨y0, y1, rfl⟩
    · --
      have na : NoAttr K (He.ga K "Family") "parts" := T.na_Family_parts
      have na1 : NoAttr K (He.ga K "Family") "vectors" := T.na_Family_vectors
      have na2 : NoAttr K (He.ga K "Family") "matrices" := T.na_Family_matrices
      have pa : p ≠ a := fun z => by rw [z, e2] at e3; cases e3
      refine ⟨.ref a, rfl, a, _, dx, _, .ref p, rfl, e2, T.c_Family, na, rfl, p, _, rfl, .of e3, rfl, y0, _, rfl, .ref a, rfl, a, _, dx, _, rfl, e2, T.c_Family, na1, by simp, y1, _, rfl, .ref a, rfl, a, _, dx, _, rfl, upd_same, T.c_Family, na2, putF_lt (by simp), rfl, ?_⟩
      exact q _ ((e1.trans .upd).trans .upd) (.pap (p := p) upd_same rfl rfl ⟨rfl, rfl⟩ (by rw [upd_ne pa, upd_ne pa]; exact e3) (by simp) (r3 _ (ExtB.trans .upd .upd)))
theorem F_Unlike_init (n : Nat) : FnR PR w K mg base CX0 (4 * n + 10) (He.ma K (He.ga K "Unlike") "__init__") (spSub K .unlike 2 n) := by
  obtain ⟨fd, FS⟩ := T.F_Unlike_init
  have F_Paper := F_Paper_init (base := base) T n
  refine fn_sup (k := 4 * n + 9) (st := (defBody s_Unlike_init).head!) (rest := (defBody s_Unlike_init).tail) FS sc_Unlike___init__ (fun vs H Q E h => ?_) (fun cc kV doc pm an cda ct us hl => match us, hl with | [_, _, _], _ => rfl) ?_
  · obtain ⟨a, dx, args, ds, L, rfl, _, _, hl, _⟩ := h
    simp [hl]
  · intro cc cda A outer s H vs Q E lk hcc hfl hr h
    obtain ⟨a1, a2, a3, a4, a5, a6, a7, a8, e⟩ := lk
    have ST := supT_of T ⟨a1, a2, a8, e⟩ rfl rfl hcc hfl FS.cls
    refine ⟨_, _, pf_superM ST sc_Unlike___init__ rfl rfl rfl T.supM_Unlike.2.1 T.supM_Unlike.2.2 F_Paper (hr.mono (by omega)) pass0 (pa_cons (pv 1) (pa_cons (pv 2) pa_nil)), (pss_one (ps_asg (pe_fld (pv 0) rfl) (pg_tup rfl (pgs_cons (pg_fld (pv 0)) (pgs_cons (pg_fld (pv 0)) pgs_nil))))), ?_⟩
    obtain ⟨a, dx, args, ds, L, rfl, ha, r, hl, hn, q⟩ := h
    obtain ⟨x0, x1, rfl⟩ : ∃ x0 x1, args = [x0, x1] := by
      match args, hl with
      | [x0, x1], _ => exact ⟨x0, x1, rfl⟩
    show tSeq _ _ _ _ _
    unfold tSeq tSupM
    refine ⟨a, _, dx, [], rfl, ha, T.c_Unlike, T.sub_Unlike_Unlike, T.supM_Unlike.1, ?_⟩
    dsimp only [gCons, gName, gNil, gSub, gTup, gFld, iSeq, iList, iStr, iTup, iRng1, tAnd, tAndT, tAndV, tAsg, tAsg2, tAug, tB, tBM, tBM0, tBreak, tC, tCB, tCallR, tChain, tCons, tDrop, tFld, sFld, sFldAug, tFor_eq, tLc2_eq, tIf, tIfS, tIsN, tLc_eq, tLst, tM0, tM1, tMakeR, tMethR, tNever, tNm, tXk, tCallKw, tNext, tNil, tNoPart, tNot, tNotN, tNotT, tNotV, tOp, tOr, tOrT, tOrV, tOst, tPar, tPart, tRet, tRetN, tRg1, tSeq, tSl, tStar, tTest, tThen, tTup, tUn, C8.tCut, tVar]
    refine ⟨_, rfl, _, rfl, .unlike, a, dx, _, ds, L, rfl, ha, r, by simp, hn, fun H' p vs' e1 e2 e3 r3 => ?_⟩
    have hl2 : vs'.length = 2 := by rw [(r3 H' fun _ _ _ z => z).length, keptL_map, List.length_map, ← r.length]; rfl
    obtain ⟨y0, y1, rfl⟩ : ∃ y0 y1, vs' = [y0, y1] := by
      match vs', hl2 with
      | [y0, y1], _ => exact ⟨y0, y1, rfl⟩
    · --
      have na : NoAttr K (He.ga K "Unlike") "parts" := T.na_Unlike_parts
      have na1 : NoAttr K (He.ga K "Unlike") "at" := T.na_Unlike_at
      have na2 : NoAttr K (He.ga K "Unlike") "way" := T.na_Unlike_way
      have pa : p ≠ a := fun z => by rw [z, e2] at e3; cases e3
      refine ⟨.ref a, rfl, a, _, dx, _, .ref p, rfl, e2, T.c_Unlike, na, rfl, p, _, rfl, .of e3, rfl, y0, _, rfl, .ref a, rfl, a, _, dx, _, rfl, e2, T.c_Unlike, na1, by simp, y1, _, rfl, .ref a, rfl, a, _, dx, _, rfl, upd_same, T.c_Unlike, na2, putF_lt (by simp), rfl, ?_⟩
      exact q _ ((e1.trans .upd).trans .upd) (.pap (p := p) upd_same rfl rfl ⟨rfl, rfl⟩ (by rw [upd_ne pa, upd_ne pa]; exact e3) (by simp) (r3 _ (ExtB.trans .upd .upd)))
theorem F_Spoilt_init (n : Nat) : FnR PR w K mg base CX0 (4 * n + 10) (He.ma K (He.ga K "Spoilt") "__init__") (spSub K .spoilt 2 n) := by
  obtain ⟨fd, FS⟩ := T.F_Spoilt_init
  have F_Paper := F_Paper_init (base := base) T n
  refine fn_sup (k := 4 * n + 9) (st := (defBody s_Spoilt_init).head!) (rest := (defBody s_Spoilt_init).tail) FS sc_Spoilt___init__ (fun vs H Q E h => ?_) (fun cc kV doc pm an cda ct us hl => match us, hl with | [_, _, _], _ => rfl) ?_
  · obtain ⟨a, dx, args, ds, L, rfl, _, _, hl, _⟩ := h
    simp [hl]
  · intro cc cda A outer s H vs Q E lk hcc hfl hr h
    obtain ⟨a1, a2, a3, a4, a5, a6, a7, a8, e⟩ := lk
    have ST := supT_of T ⟨a1, a2, a8, e⟩ rfl rfl hcc hfl FS.cls
    refine ⟨_, _, pf_superM ST sc_Spoilt___init__ rfl rfl rfl T.supM_Spoilt.2.1 T.supM_Spoilt.2.2 F_Paper (hr.mono (by omega)) pass0 (pa_cons (pv 1) (pa_cons (pv 2) pa_nil)), (pss_one (ps_asg (pe_fld (pv 0) rfl) (pg_tup rfl (pgs_cons (pg_fld (pv 0)) (pgs_cons (pg_fld (pv 0)) pgs_nil))))), ?_⟩
    obtain ⟨a, dx, args, ds, L, rfl, ha, r, hl, hn, q⟩ := h
    obtain ⟨x0, x1, rfl⟩ : ∃ x0 x1, args = [x0, x1] := by
      match args, hl with
      | [x0, x1], _ => exact ⟨x0, x1, rfl⟩
    show tSeq _ _ _ _ _
    unfold tSeq tSupM
    refine ⟨a, _, dx, [], rfl, ha, T.c_Spoilt, T.sub_Spoilt_Spoilt, T.supM_Spoilt.1, ?_⟩
    dsimp only [gCons, gName, gNil, gSub, gTup, gFld, iSeq, iList, iStr, iTup, iRng1, tAnd, tAndT, tAndV, tAsg, tAsg2, tAug, tB, tBM, tBM0, tBreak, tC, tCB, tCallR, tChain, tCons, tDrop, tFld, sFld, sFldAug, tFor_eq, tLc2_eq, tIf, tIfS, tIsN, tLc_eq, tLst, tM0, tM1, tMakeR, tMethR, tNever, tNm, tXk, tCallKw, tNext, tNil, tNoPart, tNot, tNotN, tNotT, tNotV, tOp, tOr, tOrT, tOrV, tOst, tPar, tPart, tRet, tRetN, tRg1, tSeq, tSl, tStar, tTest, tThen, tTup, tUn, C8.tCut, tVar]
    refine ⟨_, rfl, _, rfl, .spoilt, a, dx, _, ds, L, rfl, ha, r, by simp, hn, fun H' p vs' e1 e2 e3 r3 => ?_⟩
    have hl2 : vs'.length = 2 := by rw [(r3 H' fun _ _ _ z => z).length, keptL_map, List.length_map, ← r.length]; rfl
    obtain ⟨y0, y1, rfl⟩ : ∃ y0 y1, vs' = [y0, y1] := by
      match vs', hl2 with
      | [y0, y1], _ => exact ⟨y0, y1, rfl⟩
    · --
      have na : NoAttr K (He.ga K "Spoilt") "parts" := T.na_Spoilt_parts
      have na1 : NoAttr K (He.ga K "Spoilt") "point" := T.na_Spoilt_point
      have na2 : NoAttr K (He.ga K "Spoilt") "way" := T.na_Spoilt_way
      have pa : p ≠ a := fun z => by rw [z, e2] at e3; cases e3
      refine ⟨.ref a, rfl, a, _, dx, _, .ref p, rfl, e2, T.c_Spoilt, na, rfl, p, _, rfl, .of e3, rfl, y0, _, rfl, .ref a, rfl, a, _, dx, _, rfl, e2, T.c_Spoilt, na1, by simp, y1, _, rfl, .ref a, rfl, a, _, dx, _, rfl, upd_same, T.c_Spoilt, na2, putF_lt (by simp), rfl, ?_⟩
      exact q _ ((e1.trans .upd).trans .upd) (.pap (p := p) upd_same rfl rfl ⟨rfl, rfl⟩ (by rw [upd_ne pa, upd_ne pa]; exact e3) (by simp) (r3 _ (ExtB.trans .upd .upd)))
theorem F_Guards_init (n : Nat) : FnR PR w K mg base CX0 (4 * n + 10) (He.ma K (He.ga K "Guards") "__init__") (spSub K .guards 2 n) := by
  obtain ⟨fd, FS⟩ := T.F_Guards_init
  have F_Paper := F_Paper_init (base := base) T n
  refine fn_sup (k := 4 * n + 9) (st := (defBody s_Guards_init).head!) (rest := (defBody s_Guards_init).tail) FS sc_Guards___init__ (fun vs H Q E h => ?_) (fun cc kV doc pm an cda ct us hl => match us, hl with | [_, _, _], _ => rfl) ?_
  · obtain ⟨a, dx, args, ds, L, rfl, _, _, hl, _⟩ := h
    simp [hl]
  · intro cc cda A outer s H vs Q E lk hcc hfl hr h
    obtain ⟨a1, a2, a3, a4, a5, a6, a7, a8, e⟩ := lk
    have ST := supT_of T ⟨a1, a2, a8, e⟩ rfl rfl hcc hfl FS.cls
    refine ⟨_, _, pf_superM ST sc_Guards___init__ rfl rfl rfl T.supM_Guards.2.1 T.supM_Guards.2.2 F_Paper (hr.mono (by omega)) pass0 (pa_cons (pv 1) (pa_cons (pv 2) pa_nil)), (pss_one (ps_asg (pe_fld (pv 0) rfl) (pg_tup rfl (pgs_cons (pg_fld (pv 0)) (pgs_cons (pg_fld (pv 0)) pgs_nil))))), ?_⟩
    obtain ⟨a, dx, args, ds, L, rfl, ha, r, hl, hn, q⟩ := h
    obtain ⟨x0, x1, rfl⟩ : ∃ x0 x1, args = [x0, x1] := by
      match args, hl with
      | [x0, x1], _ => exact ⟨x0, x1, rfl⟩
    show tSeq _ _ _ _ _
    unfold tSeq tSupM
    refine ⟨a, _, dx, [], rfl, ha, T.c_Guards, T.sub_Guards_Guards, T.supM_Guards.1, ?_⟩
    dsimp only [gCons, gName, gNil, gSub, gTup, gFld, iSeq, iList, iStr, iTup, iRng1, tAnd, tAndT, tAndV, tAsg, tAsg2, tAug, tB, tBM, tBM0, tBreak, tC, tCB, tCallR, tChain, tCons, tDrop, tFld, sFld, sFldAug, tFor_eq, tLc2_eq, tIf, tIfS, tIsN, tLc_eq, tLst, tM0, tM1, tMakeR, tMethR, tNever, tNm, tXk, tCallKw, tNext, tNil, tNoPart, tNot, tNotN, tNotT, tNotV, tOp, tOr, tOrT, tOrV, tOst, tPar, tPart, tRet, tRetN, tRg1, tSeq, tSl, tStar, tTest, tThen, tTup, tUn, C8.tCut, tVar]
    refine ⟨_, rfl, _, rfl, .guards, a, dx, _, ds, L, rfl, ha, r, by simp, hn, fun H' p vs' e1 e2 e3 r3 => ?_⟩
    have hl2 : vs'.length = 2 := by rw [(r3 H' fun _ _ _ z => z).length, keptL_map, List.length_map, ← r.length]; rfl
    obtain ⟨y0, y1, rfl⟩ : ∃ y0 y1, vs' = [y0, y1] := by
      match vs', hl2 with
      | [y0, y1], _ => exact ⟨y0, y1, rfl⟩
    · --
      have na : NoAttr K (He.ga K "Guards") "parts" := T.na_Guards_parts
      have na1 : NoAttr K (He.ga K "Guards") "least" := T.na_Guards_least
      have na2 : NoAttr K (He.ga K "Guards") "greatest" := T.na_Guards_greatest
      have pa : p ≠ a := fun z => by rw [z, e2] at e3; cases e3
      refine ⟨.ref a, rfl, a, _, dx, _, .ref p, rfl, e2, T.c_Guards, na, rfl, p, _, rfl, .of e3, rfl, y0, _, rfl, .ref a, rfl, a, _, dx, _, rfl, e2, T.c_Guards, na1, by simp, y1, _, rfl, .ref a, rfl, a, _, dx, _, rfl, upd_same, T.c_Guards, na2, putF_lt (by simp), rfl, ?_⟩
      exact q _ ((e1.trans .upd).trans .upd) (.pap (p := p) upd_same rfl rfl ⟨rfl, rfl⟩ (by rw [upd_ne pa, upd_ne pa]; exact e3) (by simp) (r3 _ (ExtB.trans .upd .upd)))
theorem F_Broken_init (n : Nat) : FnR PR w K mg base CX0 (4 * n + 10) (He.ma K (He.ga K "Broken") "__init__") (spSub K .broken 2 n) := by
  obtain ⟨fd, FS⟩ := T.F_Broken_init
  have F_Paper := F_Paper_init (base := base) T n
  refine fn_sup (k := 4 * n + 9) (st := (defBody s_Broken_init).head!) (rest := (defBody s_Broken_init).tail) FS sc_Broken___init__ (fun vs H Q E h => ?_) (fun cc kV doc pm an cda ct us hl => match us, hl with | [_, _, _], _ => rfl) ?_
  · obtain ⟨a, dx, args, ds, L, rfl, _, _, hl, _⟩ := h
    simp [hl]
  · intro cc cda A outer s H vs Q E lk hcc hfl hr h
    obtain ⟨a1, a2, a3, a4, a5, a6, a7, a8, e⟩ := lk
    have ST := supT_of T ⟨a1, a2, a8, e⟩ rfl rfl hcc hfl FS.cls
    refine ⟨_, _, pf_superM ST sc_Broken___init__ rfl rfl rfl T.supM_Broken.2.1 T.supM_Broken.2.2 F_Paper (hr.mono (by omega)) pass0 (pa_cons (pv 1) (pa_cons (pv 2) pa_nil)), (pss_one (ps_asg (pe_fld (pv 0) rfl) (pg_tup rfl (pgs_cons (pg_fld (pv 0)) (pgs_cons (pg_fld (pv 0)) pgs_nil))))), ?_⟩
    obtain ⟨a, dx, args, ds, L, rfl, ha, r, hl, hn, q⟩ := h
    obtain ⟨x0, x1, rfl⟩ : ∃ x0 x1, args = [x0, x1] := by
      match args, hl with
      | [x0, x1], _ => exact ⟨x0, x1, rfl⟩
    show tSeq _ _ _ _ _
    unfold tSeq tSupM
    refine ⟨a, _, dx, [], rfl, ha, T.c_Broken, T.sub_Broken_Broken, T.supM_Broken.1, ?_⟩
    dsimp only [gCons, gName, gNil, gSub, gTup, gFld, iSeq, iList, iStr, iTup, iRng1, tAnd, tAndT, tAndV, tAsg, tAsg2, tAug, tB, tBM, tBM0, tBreak, tC, tCB, tCallR, tChain, tCons, tDrop, tFld, sFld, sFldAug, tFor_eq, tLc2_eq, tIf, tIfS, tIsN, tLc_eq, tLst, tM0, tM1, tMakeR, tMethR, tNever, tNm, tXk, tCallKw, tNext, tNil, tNoPart, tNot, tNotN, tNotT, tNotV, tOp, tOr, tOrT, tOrV, tOst, tPar, tPart, tRet, tRetN, tRg1, tSeq, tSl, tStar, tTest, tThen, tTup, tUn, C8.tCut, tVar]
    refine ⟨_, rfl, _, rfl, .broken, a, dx, _, ds, L, rfl, ha, r, by simp, hn, fun H' p vs' e1 e2 e3 r3 => ?_⟩
    have hl2 : vs'.length = 2 := by rw [(r3 H' fun _ _ _ z => z).length, keptL_map, List.length_map, ← r.length]; rfl
    obtain ⟨y0, y1, rfl⟩ : ∃ y0 y1, vs' = [y0, y1] := by
      match vs', hl2 with
      | [y0, y1], _ => exact ⟨y0, y1, rfl⟩
    · --
      have na : NoAttr K (He.ga K "Broken") "parts" := T.na_Broken_parts
      have na1 : NoAttr K (He.ga K "Broken") "family" := T.na_Broken_family
      have na2 : NoAttr K (He.ga K "Broken") "rows" := T.na_Broken_rows
      have pa : p ≠ a := fun z => by rw [z, e2] at e3; cases e3
      refine ⟨.ref a, rfl, a, _, dx, _, .ref p, rfl, e2, T.c_Broken, na, rfl, p, _, rfl, .of e3, rfl, y0, _, rfl, .ref a, rfl, a, _, dx, _, rfl, e2, T.c_Broken, na1, by simp, y1, _, rfl, .ref a, rfl, a, _, dx, _, rfl, upd_same, T.c_Broken, na2, putF_lt (by simp), rfl, ?_⟩
      exact q _ ((e1.trans .upd).trans .upd) (.pap (p := p) upd_same rfl rfl ⟨rfl, rfl⟩ (by rw [upd_ne pa, upd_ne pa]; exact e3) (by simp) (r3 _ (ExtB.trans .upd .upd)))
end
end K94
set_option maxRecDepth 100000
set_option maxHeartbeats 4000000
/-! == and truth of papers. -/
namespace K94
open PySem PySem.Spec PyProof.Rows L2 L2.Q Pp StX
theorem sc_Paper___bool__ : FnScope [("self" : Str)] [("self" : Str)] (defScope s_Paper_bool) := ⟨rfl, rfl, rfl, by decide +kernel, rfl, by decide +kernel, by decide +kernel⟩
theorem sc_Denial___bool__ : FnScope [("self" : Str)] [("self" : Str)] (defScope s_Denial_bool) := ⟨rfl, rfl, rfl, by decide +kernel, rfl, by decide +kernel, by decide +kernel⟩
theorem sc_Paper___eq__ : FnScope [("self" : Str), ("other" : Str)] [("self" : Str), ("other" : Str)] (defScope s_Paper_eq) := ⟨rfl, rfl, rfl, by decide +kernel, rfl, by decide +kernel, by decide +kernel⟩
section
variable {w : World} {K : PySem.W.Frag} {mg : Str → Option Value} {base : Heap} (T : Txt w K mg)
include T
theorem p_eqa (c : PK) : He.ma K (He.ga K c.name) "__eq__" = He.ma K (He.ga K "Paper") "__eq__" := by
  cases c
  · exact rfl
  · exact T.eqm_Denial_eq
  · exact T.eqm_Code_eq
  · exact T.eqm_Family_eq
  · exact T.eqm_Alike_eq
  · exact T.eqm_Unlike_eq
  · exact T.eqm_Stays_eq
  · exact T.eqm_Spoilt_eq
  · exact T.eqm_Holds_eq
  · exact T.eqm_Breaks_eq
  · exact T.eqm_Guards_eq
  · exact T.eqm_Checked_eq
  · exact T.eqm_Broken_eq
theorem p_eq (c : PK) : Meth K (He.ga K c.name) "__eq__" (He.ma K (He.ga K c.name) "__eq__") := by
  cases c
  · exact T.m_Paper_eq
  · exact T.m_Denial_eq
  · exact T.m_Code_eq
  · exact T.m_Family_eq
  · exact T.m_Alike_eq
  · exact T.m_Unlike_eq
  · exact T.m_Stays_eq
  · exact T.m_Spoilt_eq
  · exact T.m_Holds_eq
  · exact T.m_Breaks_eq
  · exact T.m_Guards_eq
  · exact T.m_Checked_eq
  · exact T.m_Broken_eq
theorem p_boola (c : PK) : He.ma K (He.ga K c.name) "__bool__" = He.ma K (He.ga K (if c.tru then ("Paper" : Str) else "Denial")) "__bool__" := by
  cases c
  · exact rfl
  · exact rfl
  · exact T.eqm_Code_bool
  · exact T.eqm_Family_bool
  · exact T.eqm_Alike_bool
  · exact T.eqm_Unlike_bool
  · exact T.eqm_Stays_bool
  · exact T.eqm_Spoilt_bool
  · exact T.eqm_Holds_bool
  · exact T.eqm_Breaks_bool
  · exact T.eqm_Guards_bool
  · exact T.eqm_Checked_bool
  · exact T.eqm_Broken_bool
theorem p_bool (c : PK) : Meth K (He.ga K c.name) "__bool__" (He.ma K (He.ga K c.name) "__bool__") := by
  cases c
  · exact T.m_Paper_bool
  · exact T.m_Denial_bool
  · exact T.m_Code_bool
  · exact T.m_Family_bool
  · exact T.m_Alike_bool
  · exact T.m_Unlike_bool
  · exact T.m_Stays_bool
  · exact T.m_Spoilt_bool
  · exact T.m_Holds_bool
  · exact T.m_Breaks_bool
  · exact T.m_Guards_bool
  · exact T.m_Checked_bool
  · exact T.m_Broken_bool
theorem p_ne (c : PK) : PySem.W.findIn K (.ref (He.ga K c.name)) "__ne__" = some (some (.builtin "object.__ne__")) := by
  cases c
  · exact T.same_Paper_ne
  · exact T.same_Denial_ne
  · exact T.same_Code_ne
  · exact T.same_Family_ne
  · exact T.same_Alike_ne
  · exact T.same_Unlike_ne
  · exact T.same_Stays_ne
  · exact T.same_Spoilt_ne
  · exact T.same_Holds_ne
  · exact T.same_Breaks_ne
  · exact T.same_Guards_ne
  · exact T.same_Checked_ne
  · exact T.same_Broken_ne
/-! ### truth -/
def spBool (b : Bool) : Sp := fun vs H Q _ => ∃ v, vs = [v] ∧ Q (.bl b) H
theorem F_Paper_bool : FnR PR w K mg base CX0 5 (He.ma K (He.ga K "Paper") "__bool__") (spBool true) := by
  refine fnr (k := 4) T.F_Paper_bool sc_Paper___bool__ (fun vs H Q E h => ?_) (fun _ _ _ _ _ _ us hl => match us, hl with | [_], _ => rfl) (fun cdv A outer s H vs Q E hr h => ⟨_, (pss_one (ps_ret pe_bl)), ?_⟩)
  · obtain ⟨v, rfl, _⟩ := h
    rfl
  · obtain ⟨v, rfl, q⟩ := h
    exact q
theorem F_Denial_bool : FnR PR w K mg base CX0 5 (He.ma K (He.ga K "Denial") "__bool__") (spBool false) := by
  refine fnr (k := 4) T.F_Denial_bool sc_Denial___bool__ (fun vs H Q E h => ?_) (fun _ _ _ _ _ _ us hl => match us, hl with | [_], _ => rfl) (fun cdv A outer s H vs Q E hr h => ⟨_, (pss_one (ps_ret pe_bl)), ?_⟩)
  · obtain ⟨v, rfl, _⟩ := h
    rfl
  · obtain ⟨v, rfl, q⟩ := h
    exact q
theorem F_bool (c : PK) : FnR PR w K mg base CX0 5 (He.ma K (He.ga K c.name) "__bool__") (spBool c.tru) := by
  rw [p_boola T c]
  cases h : c.tru with
  | true => exact F_Paper_bool T
  | false => exact F_Denial_bool T
/-- bool(a paper) -/
theorem call_boolPap {X : Cx} (hp : X.prog = PR) (hw : X.w = w) (hK : X.K = K) (hm : X.mg = mg) (hr : Room 7 X.A) (hx : Passes CX0 X E0) : CallR X (.type "bool") (fun xs H Q => ∃ v L c ds, xs = [v] ∧ Rep K L H v (.pap c ds) ∧ Q (.bl c.tru) H) := by
  intro pins s σ H xs us Q I r ⟨v, L, c, ds, e, rp, q⟩
  subst e
  cases rp with
  | @pap _ _ a dx p _ fs vs _ e w' q' m e2 l rr =>
  subst hw hK hm
  have F := F_bool (base := X.base) T c
  rw [← hp] at F
  have M := p_bool T c
  exact call_boolI F M.at_ M.fn hx hr pins s σ H _ us Q I r ⟨a, dx, fs, rfl, e, ⟨_, rfl, _, rfl, q⟩⟩
/-! ### == -/
mutual
/-- what == compares -/
def okEq : D → Bool
  | .dct => false
  | .lst _ => false
  | .tup xs => okEqL xs
  | .pap _ xs => okEqL xs
  | _ => true
def okEqL : List D → Bool
  | [] => true
  | x :: r => okEq x && okEqL r
end
omit T in
theorem okEq_mem : ∀ {xs : List D} {x : D}, okEqL xs = true → x ∈ xs → okEq x = true
  | y :: r, x, h, hm => by
    unfold okEqL at h
    obtain ⟨h1, h2⟩ := Bool.and_eq_true_iff.mp h
    rcases List.mem_cons.mp hm with e | hm
    · subst e; exact h1
    · exact okEq_mem h2 hm
def EqD (K : PySem.W.Frag) (n : Nat) : Eqv := fun x y H => ∃ d, Rep K false H x d ∧ Rep K false H y d ∧ d.dep ≤ n ∧ okEq d = true
def REq (K : PySem.W.Frag) (n : Nat) : Addr → Addr → Hp → Prop := fun a b H => ∃ c xs, Rep K false H (.ref a) (.pap c xs) ∧ Rep K false H (.ref b) (.pap c xs) ∧ depL xs + 1 ≤ n ∧ okEqL xs = true
omit T in
theorem mon_eqD {n : Nat} : Mon (EqD K n) := fun x y H H' e ⟨d, h1, h2, h3, h4⟩ => ⟨d, h1.ext e, h2.ext e, h3, h4⟩
omit T in
theorem prs_of {H : Hp} {n : Nat} {vs ws : List V} {xs : List D} (r : Reps K false H vs xs) (r2 : Reps K false H ws xs) (hd : depL xs ≤ n) (ho : okEqL xs = true) : Prs (EqD K n) vs ws H := by
  refine ⟨by rw [r.length, r2.length], fun i x y h1 h2 => ?_⟩
  obtain ⟨d, e1, a⟩ := r.get h1
  obtain ⟨d', e2, b⟩ := r2.get h2
  rw [e1] at e2
  cases e2
  have hm := List.mem_of_getElem? e1
  exact ⟨d, a, b, Nat.le_trans (dep_mem hm) hd, okEq_mem ho hm⟩
theorem step_eq {n : Nat} (hE : ∀ X : Cx, X.prog = PR → X.w = w → X.K = K → X.mg = mg → X.base = base → Passes CX0 X E0 → EqG X (4 * n) (EqD K n)) : FnR PR w K mg base CX0 (4 * n + 4) (He.ma K (He.ga K "Paper") "__eq__") (spEq (REq K (n + 1))) := by
  refine fnr (k := 4 * n + 3) T.F_Paper_eq sc_Paper___eq__ (fun vs H Q E h => ?_) (fun _ _ _ _ _ _ us hl => match us, hl with | [_, _], _ => rfl) (fun cdv A outer s H vs Q E hr h => ?_)
  · obtain ⟨a, b, rfl, _⟩ := h
    rfl
  · have hEq : RcG (cxOf CX0 PR w K mg base [("self" : Str), ("other" : Str)] "Paper.__eq__" (defScope s_Paper_eq) (He.ma K (He.ga K "Paper") "__eq__") cdv A outer s H E).nox (4 * n + 1) (DTup K (EqD K n)) := rcG_tup mon_eqD (hE _ rfl rfl rfl rfl rfl pass0)
    refine ⟨_, (pss_one (ps_ret (pe_and (pe_callB call_isi (by rfl) T.n_isinstance (by decide +kernel) (pa_cons (pv 1) (pa_cons (pe_gr T.g_Paper rfl) pa_nil))) (pe_and (pe_cmpR op_eq (pe_fld (pv 0) rfl) (pe_fld (pv 1) rfl) (nomark _)) (pe_one (pe_cmpR (op_eqG hEq (hr.mono (by omega))) (pe_fld (pv 0) rfl) (pe_fld (pv 1) rfl) rfl)))))), ?_⟩
    obtain ⟨a, b, rfl, ⟨c, xs, r1, r2, hd, ho⟩, q⟩ := h
    dsimp only [gCons, gName, gNil, gSub, gTup, gFld, iSeq, iList, iStr, iTup, iRng1, tAnd, tAndT, tAndV, tAsg, tAsg2, tAug, tB, tBM, tBM0, tBreak, tC, tCB, tCallR, tChain, tCons, tDrop, tFld, sFld, sFldAug, tFor_eq, tLc2_eq, tIf, tIfS, tIsN, tLc_eq, tLst, tM0, tM1, tMakeR, tMethR, tNever, tNm, tXk, tCallKw, tNext, tNil, tNoPart, tNot, tNotN, tNotT, tNotV, tOp, tOr, tOrT, tOrV, tOst, tPar, tPart, tRet, tRetN, tRg1, tSeq, tSl, tStar, tTest, tThen, tTup, tUn, C8.tCut, tVar]
    have r2' := r2
    cases r1 with
    | @pap _ _ _ dx p _ fs vs _ e w1 q1 m1 e2 l1 rr =>
    cases r2 with
    | @pap _ _ _ dx' p' _ fs' vs' _ e' w1' q1' m1' e2' l1' rr' =>
    refine ⟨.ref b, rfl, rIsi_pap T r2' ⟨true, rfl, ?_⟩⟩
    refine ⟨_, rfl, a, _, dx, fs, _, rfl, e, p_cls T c, p_naw T c, w1, _, rfl, b, _, dx', fs', _, rfl, e', p_cls T c, p_naw T c, w1', rfl, true, congrArg V.bl (decide_eq_true rfl), ?_⟩
    exact ⟨_, rfl, a, _, dx, fs, _, rfl, e, p_cls T c, p_nap T c, q1, _, rfl, b, _, dx', fs', _, rfl, e', p_cls T c, p_nap T c, q1', ⟨p, p', vs, vs', rfl, rfl, .of e2, .of e2', prs_of rr rr' (by omega) ho⟩, q⟩
omit T in
theorem eq_flat {x y : V} {H : Hp} (h : EqD K 0 x y H) : DFlat x y H := by
  obtain ⟨d, h1, h2, h3, h4⟩ := h
  cases d with
  | non => cases h1; cases h2; exact ⟨rfl, rfl, rfl⟩
  | bl b => cases h1; cases h2; exact ⟨rfl, rfl, by simp [eqV]⟩
  | int z => cases h1; cases h2; exact ⟨rfl, rfl, by simp [eqV]⟩
  | str z => cases h1; cases h2; exact ⟨rfl, rfl, by simp [eqV]⟩
  | dct => cases h4
  | tup xs => exact absurd h3 (by simp [D.dep])
  | lst xs => cases h4
  | pap c xs => exact absurd h3 (by simp [D.dep])
theorem step_eqG {n : Nat} (X : Cx) (hp : X.prog = PR) (hw : X.w = w) (hK : X.K = K) (hm : X.mg = mg) (hb : X.base = base) (hx : Passes CX0 X E0) (hE : EqG X (4 * n) (EqD K n)) (F : FnR PR w K mg base CX0 (4 * n + 4) (He.ma K (He.ga K "Paper") "__eq__") (spEq (REq K (n + 1)))) : EqG X (4 * (n + 1)) (EqD K (n + 1)) := by
  subst hw hK hm hb
  rw [← hp] at F
  have hF : EqG X (4 * (n + 1)) DFlat := eqG_flat.mono (Nat.zero_le _)
  have hT : EqG X (4 * (n + 1)) (DTup X.K (EqD X.K n)) := (eqG_tup mon_eqD hE).mono (by omega)
  intro A pins s σ H x y u v sb I rx ry ⟨d, h1, h2, h3, h4⟩
  have flat : (∃ d, Rep X.K false H x d ∧ Rep X.K false H y d ∧ d.dep ≤ 0 ∧ okEq d = true) → wpAny (model X.prog X.w) A (eqBool u v) (fun r s' => r = true ∧ ∃ H', Inv X pins σ H' s' ∧ Ext H H') X.xe s := fun h => hF A pins s σ H x y u v sb I rx ry (eq_flat h)
  cases d with
  | tup xs =>
    cases h1 with
    | @tup _ _ a vs _ e l r =>
    cases h2 with
    | @tup _ _ b ws _ e' l' r' =>
    exact hT A pins s σ H _ _ u v sb I rx ry ⟨a, b, vs, ws, rfl, rfl, .of e, .of e', prs_of r r' (by simp [D.dep] at h3; omega) h4⟩
  | pap c xs =>
    have M := p_eq T c
    have h1' := h1
    have h2' := h2
    cases h1 with
    | @pap _ _ a dx p _ fs vs _ e w1 q1 m1 e2 l1 rr =>
    cases h2 with
    | @pap _ _ b dx' p' _ fs' vs' _ e' w1' q1' m1' e2' l1' rr' =>
    have at_ := M.at_
    have fn := M.fn
    rw [p_eqa T c] at at_ fn
    exact (eqG_insR F at_ fn hx) A pins s σ H _ _ u v (sb.mono (by omega)) I rx ry ⟨a, b, dx, dx', fs, fs', rfl, rfl, e, e', c, xs, h1', h2', by simp [D.dep] at h3; omega, h4⟩
  | lst xs => cases h4
  | non => exact flat ⟨_, h1, h2, Nat.le_refl _, h4⟩
  | bl b => exact flat ⟨_, h1, h2, Nat.le_refl _, h4⟩
  | int z => exact flat ⟨_, h1, h2, Nat.le_refl _, h4⟩
  | str z => exact flat ⟨_, h1, h2, Nat.le_refl _, h4⟩
  | dct => cases h4
theorem eq_all : ∀ n, (∀ X : Cx, X.prog = PR → X.w = w → X.K = K → X.mg = mg → X.base = base → Passes CX0 X E0 → EqG X (4 * n) (EqD K n)) ∧ FnR PR w K mg base CX0 (4 * n + 4) (He.ma K (He.ga K "Paper") "__eq__") (spEq (REq K (n + 1)))
  | 0 => by
    have h : ∀ X : Cx, X.prog = PR → X.w = w → X.K = K → X.mg = mg → X.base = base → Passes CX0 X E0 → EqG X (4 * 0) (EqD K 0) := fun X _ _ hK _ _ _ => eqG_flat.imp fun x y H q => eq_flat q
    exact ⟨h, step_eq T h⟩
  | n + 1 => by
    obtain ⟨h, F⟩ := eq_all n
    have h' : ∀ X : Cx, X.prog = PR → X.w = w → X.K = K → X.mg = mg → X.base = base → Passes CX0 X E0 → EqG X (4 * (n + 1)) (EqD K (n + 1)) := fun X hp hw hK hm hb hx => step_eqG T X hp hw hK hm hb hx (h X hp hw hK hm hb hx) F
    exact ⟨h', step_eq T h'⟩
/-- a paper != its equal -/
theorem op_nePap {X : Cx} (n : Nat) (hp : X.prog = PR) (hw : X.w = w) (hK : X.K = K) (hm : X.mg = mg) (hr : Room (4 * n + 5) X.A) (hx : Passes CX0 X E0) :
    OpR X (compareOp .NotEq) (fun x y H Q => ∃ c xs, Rep K false H x (.pap c xs) ∧ Rep K false H y (.pap c xs) ∧ depL xs ≤ n ∧ okEqL xs = true ∧ ∀ H', Ext H H' → Q (.bl false) H') := by
  intro pins s σ H x y v u Q I rx ry ⟨c, xs, h1, h2, h3, h4, q⟩
  subst hw hK hm
  have F := (eq_all (base := X.base) T n).2
  rw [← hp] at F
  have M := p_eq T c
  have at_ := M.at_
  have fn := M.fn
  rw [p_eqa T c] at at_ fn
  have h1' := h1
  have h2' := h2
  cases h1 with
  | @pap _ _ a dx p _ fs vs _ e w1 q1 m1 e2 l1 rr =>
  cases h2 with
  | @pap _ _ b dx' p' _ fs' vs' _ e' w1' q1' m1' e2' l1' rr' =>
  exact op_neG F (p_ne T c) (p_cat T c).hm at_ fn hx hr pins s σ H _ _ v u Q I rx ry ⟨⟨a, b, dx, dx', fs, fs', rfl, rfl, e, e', c, xs, h1', h2', by omega, h4⟩, q⟩
end
end K94
set_option maxRecDepth 100000
set_option maxHeartbeats 4000000
/-! the errors' makers, the words of a paper. -/
namespace K94
open PySem PySem.Spec PyProof.Rows L2 L2.Q Pp StX L2.SupX
theorem sc_PartError___init__ : L2.SupX.SupScope [("self" : Str), ("part" : Str)] [("self" : Str), ("part" : Str)] (defScope s_PartError_init) := ⟨rfl, rfl, rfl, by decide +kernel, rfl, by decide +kernel, by decide +kernel, by decide +kernel, rfl, rfl⟩
theorem sc_BadText___init__ : L2.SupX.SupScope [("self" : Str), ("line" : Str), ("word" : Str)] [("self" : Str), ("line" : Str), ("word" : Str)] (defScope s_BadText_init) := ⟨rfl, rfl, rfl, by decide +kernel, rfl, by decide +kernel, by decide +kernel, by decide +kernel, rfl, rfl⟩
theorem sc_words_of : FnScope [("value" : Str), ("deep" : Str), ("one" : Str), ("word" : Str)] [("value" : Str), ("deep" : Str)] (defScope s_words_of) := ⟨rfl, rfl, rfl, by decide +kernel, rfl, by decide +kernel, by decide +kernel⟩
theorem sc_paper_text : FnScope [("paper" : Str), ("words" : Str)] [("paper" : Str)] (defScope s_paper_text) := ⟨rfl, rfl, rfl, by decide +kernel, rfl, by decide +kernel, by decide +kernel⟩
section
variable {w : World} {K : PySem.W.Frag} {mg : Str → Option Value} {base : Heap} (T : Txt w K mg)
include T
def spBadValue (K : PySem.W.Frag) : Sp := fun vs H Q _ => ∃ a x, vs = [.ref a, x] ∧ H a = some (exo a (He.ga K "BadValue") none) ∧ ∀ d, H d = none → d ≠ a → Q .non (upd (upd H d (exd d [("part", x)])) a (exo a (He.ga K "BadValue") (some d)))
theorem F_BadValue : FnR PR w K mg base CX0 5 (He.ma K (He.ga K "BadValue") "__init__") (spBadValue K) := by
  rw [T.eqm_BadValue_init]
  obtain ⟨fd, FS⟩ := T.F_PartError_init
  refine fn_sup (k := 4) (st := (defBody s_PartError_init).head!) (rest := (defBody s_PartError_init).tail) FS sc_PartError___init__ (fun vs H Q E h => ?_) (fun cc kV doc pm an cda ct us hl => match us, hl with | [_, _], _ => rfl) ?_
  · obtain ⟨a, x, rfl, _⟩ := h
    rfl
  · intro cc cda A outer s H vs Q E lk hcc hfl hr h
    obtain ⟨a1, a2, a3, a4, a5, a6, a7, a8, e⟩ := lk
    have ST := supT_of T ⟨a1, a2, a8, e⟩ rfl rfl hcc hfl FS.cls
    refine ⟨_, _, pf_superB ST sc_PartError___init__ rfl rfl rfl (pa_cons (pv 1) pa_nil), pss_one (ps_ost (pv 0) (pv 1)), ?_⟩
    obtain ⟨a, x, rfl, ha, q⟩ := h
    unfold tSeq tSupB
    refine ⟨a, _, rfl, ha, T.oex_BadValue.1, T.sub_BadValue_PartError, T.supB_BadValue, T.oex_BadValue.2.2.2, ?_⟩
    dsimp only [gCons, gName, gNil, gSub, gTup, gFld, iSeq, iList, iStr, iTup, iRng1, tAnd, tAndT, tAndV, tAsg, tAsg2, tAug, tB, tBM, tBM0, tBreak, tC, tCB, tCallR, tChain, tCons, tDrop, tFld, sFld, sFldAug, tFor_eq, tLc2_eq, tIf, tIfS, tIsN, tLc_eq, tLst, tM0, tM1, tMakeR, tMethR, tNever, tNm, tXk, tCallKw, tNext, tNil, tNoPart, tNot, tNotN, tNotT, tNotV, tOp, tOr, tOrT, tOrV, tOst, tPar, tPart, tRet, tRetN, tRg1, tSeq, tSl, tStar, tTest, tThen, tTup, tUn, C8.tCut, tVar]
    exact ⟨_, rfl, by simp, ha, _, rfl, _, rfl, a, _, rfl, T.oex_BadValue.1, T.na_BadValue_part, .inl ⟨ha, fun dx h1 h2 => q dx h1 h2⟩⟩
def spBadText (K : PySem.W.Frag) : Sp := fun vs H Q _ => ∃ a x y, vs = [.ref a, x, y] ∧ H a = some (exo a (He.ga K "BadText") none) ∧ ∀ d, H d = none → d ≠ a → Q .non (upd (upd (upd H d (exd d [("line", x)])) a (exo a (He.ga K "BadText") (some d))) d (exd d [("word", y), ("line", x)]))
theorem F_BadText : FnR PR w K mg base CX0 5 (He.ma K (He.ga K "BadText") "__init__") (spBadText K) := by
  obtain ⟨fd, FS⟩ := T.F_BadText_init
  refine fn_sup (k := 4) (st := (defBody s_BadText_init).head!) (rest := (defBody s_BadText_init).tail) FS sc_BadText___init__ (fun vs H Q E h => ?_) (fun cc kV doc pm an cda ct us hl => match us, hl with | [_, _, _], _ => rfl) ?_
  · obtain ⟨a, x, y, rfl, _⟩ := h
    rfl
  · intro cc cda A outer s H vs Q E lk hcc hfl hr h
    obtain ⟨a1, a2, a3, a4, a5, a6, a7, a8, e⟩ := lk
    have ST := supT_of T ⟨a1, a2, a8, e⟩ rfl rfl hcc hfl FS.cls
    refine ⟨_, _, pf_superB ST sc_BadText___init__ rfl rfl rfl (pa_cons (pv 1) (pa_cons (pv 2) pa_nil)), pss_cons (ps_ost (pv 0) (pv 1)) (pss_one (ps_ost (pv 0) (pv 2))), ?_⟩
    obtain ⟨a, x, y, rfl, ha, q⟩ := h
    unfold tSeq tSupB
    refine ⟨a, _, rfl, ha, T.oex_BadText.1, T.sub_BadText_BadText, T.supB_BadText, T.oex_BadText.2.2.2, ?_⟩
    dsimp only [gCons, gName, gNil, gSub, gTup, gFld, iSeq, iList, iStr, iTup, iRng1, tAnd, tAndT, tAndV, tAsg, tAsg2, tAug, tB, tBM, tBM0, tBreak, tC, tCB, tCallR, tChain, tCons, tDrop, tFld, sFld, sFldAug, tFor_eq, tLc2_eq, tIf, tIfS, tIsN, tLc_eq, tLst, tM0, tM1, tMakeR, tMethR, tNever, tNm, tXk, tCallKw, tNext, tNil, tNoPart, tNot, tNotN, tNotT, tNotV, tOp, tOr, tOrT, tOrV, tOst, tPar, tPart, tRet, tRetN, tRg1, tSeq, tSl, tStar, tTest, tThen, tTup, tUn, C8.tCut, tVar]
    refine ⟨_, rfl, _, rfl, by simp, ha, _, rfl, _, rfl, a, _, rfl, T.oex_BadText.1, T.na_BadText_line, .inl ⟨ha, fun dx h1 h2 => ⟨_, rfl, _, rfl, a, _, rfl, T.oex_BadText.1, T.na_BadText_word, .inr ⟨dx, _, upd_same, ?_, by simp, q dx h1 h2⟩⟩⟩⟩
    rw [upd_ne h2, upd_same]
/-! ### words_of -/
def spWords (K : PySem.W.Frag) (n : Nat) : Sp := fun vs H Q _ => ∃ v d, vs = [v, .int (n : Int)] ∧ Rep K false H v d ∧ okW d = true ∧ (wordsD n d).length ≤ 100000 ∧ ∀ l H', H l = none → Ext H H' → H' l = some (.lst ((wordsD n d).map wV)) → Q (.ref l) H'
theorem step_words {k n : Nat} (F_words_of : FnR PR w K mg base CX0 k (He.ga K "words_of") (fun vs H Q E => ∃ m, m + 1 = n ∧ spWords K m vs H Q E)) : FnR PR w K mg base CX0 (k + 7) (He.ga K "words_of") (spWords K n) := by
  have F_is_integer := F_is_integer (base := base) T
  have F_is_word := F_is_word (base := base) T
  have F_is_kind := F_is_kind (base := base) T
  refine fnr (k := k + 6) T.F_words_of sc_words_of (fun vs H Q E h => ?_) (fun _ _ _ _ _ _ us hl => match us, hl with | [_, _], _ => rfl) (fun cdv A outer s H vs Q E hr h => ⟨_, (pss_cons (ps_if (pt_cmpR op_isN (pv 0) pe_non (nomark _)) (pss_one (ps_ret (pe_lst (pa_cons (pe_gs T.g_NOTHING rfl) pa_nil)))) pss_nil)
      (pss_cons (ps_if (pt_val (pe_callR F_is_integer (hr.mono (by omega)) T.k_is_integer T.g_is_integer rfl pass0 (pa_cons (pv 0) pa_nil))) (pss_one (ps_ret (pe_ifExp (pt_cmpR op_le (pe_callB call_len (by rfl) T.n_len PySem.boot_len (pa_cons (pe_callTy call_str_int (by rfl) T.n_str (by decide +kernel) (pa_cons (pe_callB call_abs (by rfl) T.n_abs (by decide +kernel) (pa_cons (pv 0) pa_nil)) pa_nil)) pa_nil)) (pe_gi T.g_MOST_DIGITS rfl) (nomark _)) (pe_lst (pa_cons (pe_callTy call_str_int (by rfl) T.n_str (by decide +kernel) (pa_cons (pv 0) pa_nil)) pa_nil)) (pe_lst (pa_cons pe_non pa_nil))))) pss_nil)
      (pss_cons (ps_if (pt_val (pe_callB call_isi (by rfl) T.n_isinstance (by decide +kernel) (pa_cons (pv 0) (pa_cons (pe_bt (n := "str") T.n_str (by decide +kernel) rfl) pa_nil)))) (pss_one (ps_ret (pe_lst (pa_cons (pe_ifExp (pt_val (pe_callR F_is_word (hr.mono (by omega)) T.k_is_word T.g_is_word rfl pass0 (pa_cons (pv 0) pa_nil))) (pv 0) pe_non) pa_nil)))) pss_nil)
      (pss_cons (ps_if (pt_cmpR op_eq (pv 1) pe_int (nomark _)) (pss_one (ps_ret (pe_lst (pa_cons pe_non pa_nil)))) pss_nil)
      (pss_cons (ps_if (pt_val (pe_callB call_isi (by rfl) T.n_isinstance (by decide +kernel) (pa_cons (pv 0) (pa_cons (pe_bt (n := "tuple") T.n_tuple (by decide +kernel) rfl) pa_nil)))) (pss_one (ps_ret (pe_lst (pa_cons pe_str (pa_star (pe_lc2 (wi1 := iList K _) (own := [(("one" : Str), 2), (("word" : Str), 3)]) rfl sc_words_of.nd (pi_tup (pv 0)) (blkOk_by (own := [(("one" : Str), 2), (("word" : Str), 3)]) (N := [("value" : Str), ("deep" : Str), ("one" : Str), ("word" : Str)]) (sc := defScope s_words_of) (by decide +kernel)) (vs1 := [3]) (by decide) (fun _ _ _ _ _ => (pg_name (i := 2) sc_words_of.nd rfl (Or.inl rfl))) (fun _ _ _ _ _ => pts_nil) (fun _ _ _ _ _ => (pi_list (pe_callR F_words_of (hr.mono (by omega)) T.k_words_of T.g_words_of rfl pass0 (pa_cons (pv 2) (pa_cons (pe_op op_sub (pv 1) pe_int) pa_nil))))) (fun _ _ _ _ _ => (pg_name (i := 3) sc_words_of.nd rfl (Or.inl rfl))) (fun _ _ _ _ _ => pts_nil) (fun _ _ _ _ _ => (pv 3))) (pa_cons pe_str pa_nil)))))) pss_nil)
      (pss_cons (ps_if (pt_val (pe_callR F_is_kind (hr.mono (by omega)) T.k_is_kind T.g_is_kind rfl pass0 (pa_cons (pv 0) pa_nil))) (pss_one (ps_ret (pe_lst (pa_cons pe_str (pa_cons (pe_fld (pv 0) rfl) (pa_star (pe_lc2 (wi1 := iList K _) (own := [(("one" : Str), 2), (("word" : Str), 3)]) rfl sc_words_of.nd (pi_tup (pe_fld (pv 0) rfl)) (blkOk_by (own := [(("one" : Str), 2), (("word" : Str), 3)]) (N := [("value" : Str), ("deep" : Str), ("one" : Str), ("word" : Str)]) (sc := defScope s_words_of) (by decide +kernel)) (vs1 := [3]) (by decide) (fun _ _ _ _ _ => (pg_name (i := 2) sc_words_of.nd rfl (Or.inl rfl))) (fun _ _ _ _ _ => pts_nil) (fun _ _ _ _ _ => (pi_list (pe_callR F_words_of (hr.mono (by omega)) T.k_words_of T.g_words_of rfl pass0 (pa_cons (pv 2) (pa_cons (pe_op op_sub (pv 1) pe_int) pa_nil))))) (fun _ _ _ _ _ => (pg_name (i := 3) sc_words_of.nd rfl (Or.inl rfl))) (fun _ _ _ _ _ => pts_nil) (fun _ _ _ _ _ => (pv 3))) (pa_cons pe_str pa_nil))))))) pss_nil)
      (pss_one (ps_ret (pe_lst (pa_cons pe_non pa_nil)))))))))), ?_⟩)
  · obtain ⟨v, d, rfl, _⟩ := h
    rfl
  · obtain ⟨v, d, rfl, r, hok, hlen, q⟩ := h
    dsimp only [gCons, gName, gNil, gSub, gTup, gFld, iSeq, iList, iStr, iTup, iRng1, tAnd, tAndT, tAndV, tAsg, tAsg2, tAug, tB, tBM, tBM0, tBreak, tC, tCB, tCallR, tChain, tCons, tDrop, tFld, sFld, sFldAug, tFor_eq, tLc2_eq, tIf, tIfS, tIsN, tLc_eq, tLst, tM0, tM1, tMakeR, tMethR, tNever, tNm, tXk, tCallKw, tNext, tNil, tNoPart, tNot, tNotN, tNotT, tNotV, tOp, tOr, tOrT, tOrV, tOst, tPar, tPart, tRet, tRetN, tRg1, tSeq, tSl, tStar, tTest, tThen, tTup, tUn, C8.tCut, tVar]
    have one : ∀ {H1 : Hp} {x : V}, Ext H H1 → (wordsD n d).map wV = [x] → [x].length ≤ sizeLine ∧ ∀ p, H1 p = none → Q (.ref p) (upd H1 p (.lst [x])) := fun {H1 x} e hx => ⟨by have : sizeLine = 16777216 := sizeLine_eq; simp; omega, fun p hp => q p _ (ext_none e hp) (e.upd' hp) (by rw [upd_same, hx])⟩
    have go : ∀ {m : Nat} {a : Addr} {vs : List V} {xs : List D} {H1 : Hp} {v1 : V} {Q' : VK} (hm : m + 1 = n) (hz : (wordsL m xs).length < sizeLine) (rr : Reps K false H1 vs xs) (e : SqT K H1 a vs) (hw : ∀ x ∈ xs, okW x = true) (hl : ∀ x ∈ xs, (wordsD m x).length ≤ 100000)
        (hq : ∀ D' H2, H1 D' = none → Ext H1 H2 → H2 D' = some (.lst ((wordsL m xs).map wV)) → Q' (.ref D') H2),
        LC2 (Itt K a) (gName 2) tYes (iList K (tCallR (fun vs H Q E => ∃ m, m + 1 = n ∧ spWords K m vs H Q E) E0 (tCons (tVar 2) (tCons (tOp (rI0 fun i j => V.int (i - j)) (tVar 1) (tC (V.int 1))) tNil)))) (gName 3) tYes (tVar 3) [2, 3] [3] (L2.start [("value" : Str), "deep", "one", "word"] [v1, V.int (n : Int)]) H1 Q' :=
      fun {m a vs xs H1 v1 Q'} hm hz rr e hw hl hq => by
      have ex : (List.range vs.length).flatMap (fun i => ((xs[i]?).elim [] (wordsD m)).map wV) = (wordsL m xs).map wV := by
        rw [rr.length, wordsL_flat, ← flat_range (wordsD m) xs, List.map_flatMap]
      refine LC2_ext (K := K) walk_tup (by decide) (by simp [L2.start]) (fun i => ((xs[i]?).elim [] (wordsD m)).map wV) (fun _ _ _ _ y => y.1) (fun H2 e2 => e.ext e2) ?_ (fun i x H2 hi e2 y Qc hq2 => ?_) fun D' H2 hD e1 h2 => hq D' H2 hD e1 (by rw [← ex]; exact h2)
      · rw [ex, List.length_map]
        exact hz
      · obtain ⟨_, hx⟩ := y
        obtain ⟨d', hd', rd⟩ := rr.get hx
        have hm' := List.mem_of_getElem? hd'
        refine ⟨x, rfl, _, rfl, (n : Int), 1, rfl, rfl, m, hm, x, d', congrArg (fun t => [x, V.int t]) (show ((n : Int) - 1) = (m : Int) by omega), rd.ext e2, hw d' hm', hl d' hm', fun l H' h1 e3 h4 => hq2 l H' h1 e3 (by rw [hd']; exact h4)⟩
    have sl : (100000 : Nat) < sizeLine := by rw [sizeLine_eq]; omega
    cases r with
    | non => exact ⟨_, rfl, rfl, true, congrArg V.bl (decide_eq_true rfl), one Ext.rfl' (by rw [wordsD_non]; rfl)⟩
    | bl =>
      refine ⟨_, rfl, rfl, false, congrArg V.bl (decide_eq_false (fun z => by cases z)), _, rfl, _, false, _, rfl, .bl, false, rfl, _, rfl, rIsi_ty T (L := false) .bl (by decide) ⟨false, rfl, _, rfl, rfl, _, rfl, ?_⟩⟩
      split
      · exact one Ext.rfl' (by rw [wordsD_bl]; rfl)
      · exact ⟨_, rfl, rIsi_ty T (L := false) .bl (by decide) ⟨false, rfl, _, rfl, _, false, _, rfl, .bl, false, rfl, one Ext.rfl' (by rw [wordsD_bl]; rfl)⟩⟩
    | dct e =>
      refine ⟨_, rfl, rfl, false, congrArg V.bl (decide_eq_false (fun z => by cases z)), _, rfl, _, false, _, rfl, .dct e, false, rfl, _, rfl, rIsi_ty T (L := false) (.dct e) (by decide) ⟨false, rfl, _, rfl, rfl, _, rfl, ?_⟩⟩
      split
      · exact one Ext.rfl' (by rw [wordsD_dct]; rfl)
      · exact ⟨_, rfl, rIsi_ty T (L := false) (.dct e) (by decide) ⟨false, rfl, _, rfl, _, false, _, rfl, .dct e, false, rfl, one Ext.rfl' (by rw [wordsD_dct]; rfl)⟩⟩
    | @int _ _ z =>
      have hl : z.natAbs.log2 < 1920 := of_decide_eq_true hok
      have hl2 : (if z < 0 then -z else z).natAbs.log2 < 1920 := by rw [abs_nat]; exact hl
      have wi := wordsD_int n z
      refine ⟨_, rfl, rfl, false, congrArg V.bl (decide_eq_false (fun z => by cases z)), _, rfl, _, false, _, rfl, .int, true, rfl, _, rfl, z, rfl, ?_⟩
      generalize (if z < 0 then -z else z) = y at hl2 wi ⊢
      refine ⟨_, rfl, hl2, _, _, rfl, ⟨int_text_fits hl2, rfl⟩, _, _, rfl, rfl, _, rfl, ?_⟩
      split
      · rename_i h
        exact ⟨_, rfl, z, rfl, hl, one Ext.rfl' (by rw [wi, if_pos (by have := of_decide_eq_true h; omega)]; rfl)⟩
      · rename_i h
        exact one Ext.rfl' (by rw [wi, if_neg (fun w => h (decide_eq_true (by omega)))]; rfl)
    | @str _ _ z =>
      have hz : z.length ≤ 1000000 := of_decide_eq_true hok
      refine ⟨_, rfl, rfl, false, congrArg V.bl (decide_eq_false (fun z => by cases z)), _, rfl, _, false, _, rfl, .str, false, rfl, _, rfl, rIsi_ty T (L := false) .str (by decide) ⟨true, rfl, _, rfl, _, false, _, rfl, .str, fun z' e => ?_, fun H' e => ⟨_, rfl, ?_⟩⟩⟩
      · cases e
        rw [sizeLine_eq]
        omega
      · split
        · rename_i h
          exact ⟨_, rfl, one e (by rw [wordsD_str, if_pos (show isWordS z = true from h)]; rfl)⟩
        · rename_i h
          exact one e (by rw [wordsD_str, if_neg (show ¬ isWordS z = true from h)]; rfl)
    | @tup _ _ a vs xs e l rr =>
      refine ⟨_, rfl, rfl, false, congrArg V.bl (decide_eq_false (fun z => by cases z)), _, rfl, _, false, _, rfl, .tup e l rr, false, rfl, _, rfl, rIsi_ty T (L := false) (.tup e l rr) (by decide) ⟨false, rfl, _, rfl, rfl, _, rfl, ?_⟩⟩
      split
      · rename_i h
        obtain rfl : n = 0 := by
          have := of_decide_eq_true h
          injection this with this
          omega
        exact one Ext.rfl' rfl
      · rename_i h
        obtain ⟨m, rfl⟩ : ∃ m, n = m + 1 := by
          cases n with
          | zero => exact absurd (decide_eq_true rfl) h
          | succ m => exact ⟨m, rfl⟩
        refine ⟨_, rfl, rIsi_ty T (L := false) (.tup e l rr) (by decide) ⟨true, rfl, _, rfl, a, rfl, ⟨_, .of e⟩, ?_⟩⟩
        refine go rfl (by rw [wordsD_tup] at hlen; simp at hlen; omega) rr (.of e) (fun x hx => okW_mem hok hx) (fun x hx => ?_) (fun D' H2 hD e1 h2 => ⟨D', _, rfl, .inr (.of h2), ?_, fun p hp => q p _ (ext_none e1 hp) (e1.upd' hp) ?_⟩)
        · rw [wordsD_tup] at hlen
          have := words_le (n := m) hx
          simp at hlen
          omega
        · rw [wordsD_tup] at hlen
          simp at hlen ⊢
          omega
        · rw [upd_same, wordsD_tup]
          simp [wV]
    | @pap _ _ a dx p c fs vs xs e w' q' m' e2 l rr =>
      have r' : Rep K false H (.ref a) (.pap c xs) := .pap e w' q' m' e2 l rr
      refine ⟨_, rfl, rfl, false, congrArg V.bl (decide_eq_false (fun z => by cases z)), _, rfl, _, false, _, rfl, r', false, rfl, _, rfl, rIsi_ty T r' (by decide) ⟨false, rfl, _, rfl, rfl, _, rfl, ?_⟩⟩
      split
      · rename_i h
        obtain rfl : n = 0 := by
          have := of_decide_eq_true h
          injection this with this
          omega
        exact one Ext.rfl' rfl
      · rename_i h
        obtain ⟨m, rfl⟩ : ∃ m, n = m + 1 := by
          cases n with
          | zero => exact absurd (decide_eq_true rfl) h
          | succ m => exact ⟨m, rfl⟩
        refine ⟨_, rfl, rIsi_ty T r' (by decide) ⟨false, rfl, _, rfl, _, false, _, rfl, r', c.size.isSome, rfl, ?_⟩⟩
        split
        · rename_i hk
          rw [wordsD_pap, if_pos hk] at hlen
          refine ⟨_, rfl, a, _, dx, fs, _, rfl, e, p_cls T c, p_naw T c, w', _, rfl, a, _, dx, fs, _, rfl, e, p_cls T c, p_nap T c, q', p, rfl, ⟨_, .of e2⟩, ?_⟩
          refine go rfl (by simp at hlen; omega) rr (.of e2) (fun x hx => okW_mem hok hx) (fun x hx => ?_) (fun D' H2 hD e1 h2 => ⟨D', _, rfl, .inr (.of h2), ?_, fun p hp => q p _ (ext_none e1 hp) (e1.upd' hp) ?_⟩)
          · have := words_le (n := m) hx
            simp at hlen
            omega
          · simp at hlen ⊢
            omega
          · rw [upd_same, wordsD_pap, if_pos hk]
            simp [wV]
        · rename_i hk
          exact one Ext.rfl' (by rw [wordsD_pap, if_neg hk]; rfl)
theorem F_words : ∀ n, FnR PR w K mg base CX0 (7 * n + 7) (He.ga K "words_of") (spWords K n)
  | 0 => step_words T (k := 0) fun _ _ _ _ _ _ _ _ _ _ _ ⟨_, h, _⟩ => absurd h (by omega)
  | n + 1 => step_words T (k := 7 * n + 7) ((F_words n).imp fun vs H Q E ⟨m, h, p⟩ => by
    obtain rfl : m = n := by omega
    exact p)
end
end K94
set_option maxRecDepth 100000
set_option maxHeartbeats 4000000
/-! paper_text, made_of. -/
namespace K94
open PySem PySem.Spec PyProof.Rows L2 L2.Q Pp StX L2.SupX
theorem sc_made_of : FnScope [("word" : Str), ("one" : Str), ("other" : Str)] [("word" : Str), ("one" : Str), ("other" : Str)] (defScope s_made_of) := ⟨rfl, rfl, rfl, by decide +kernel, rfl, by decide +kernel, by decide +kernel⟩
section
variable {w : World} {K : PySem.W.Frag} {mg : Str → Option Value} {base : Heap} (T : Txt w K mg)
include T
/-- the words that paper_text looks at -/
def textW (d : D) : List (Option Str) := if d.isKind then wordsD 20 d else [none]
def spText (K : PySem.W.Frag) : Sp := fun vs H Q E => ∃ v d, vs = [v] ∧ Rep K false H v d ∧ okW d = true ∧ (wordsD 20 d).length ≤ 100000 ∧ (∀ ws : List Str, textW d = ws.map some → (ws.map (·.length)).sum + ws.length ≤ 16777216) ∧
  (∀ (ws : List Str) H', textW d = ws.map some → Ext H H' → Q (.str (Txt.join " " ws)) H') ∧
  (none ∈ textW d → ∀ dd H', H dd = none → Ext H H' → H' dd = some (.xd [("part", .str "paper")]) → E (.ref (He.ga K "BadValue")) (some dd) H')
omit T in
theorem mkO_value {σ : L2.St} {H : Hp} {z : V} {E : XK} (h : ∀ dd H', H dd = none → Ext H H' → H' dd = some (.xd [("part", z)]) → E (Value.ref (He.ga K "BadValue")) (some dd) H') : tMkO (He.ga K "BadValue") (spBadValue K) [] (tCons (tC z) tNil) σ H E := by
  refine ⟨by simp, fun a ha => ⟨a, z, rfl, upd_same, fun d hd hda => ⟨rfl, d, _, upd_same, ?_, ?_, h d _ ?_ (fun b o e => ?_) upd_same⟩⟩⟩
  · rw [upd_ne hda, upd_same]
  · rw [upd_ne hda] at hd
    exact hd
  · rw [upd_ne hda] at hd
    exact hd
  · have h1 : b ≠ a := ne_of_none e ha
    rw [upd_ne hda] at hd
    have h2 : b ≠ d := ne_of_none e hd
    rw [upd_ne h2, del_ne h1, upd_ne h1, upd_ne h2, upd_ne h1]
    exact e
theorem both_paper_text : (∃ fd, FnOk PR w K mg base (L2.CX PR w) 160 (He.ga K "paper_text") fd [("paper" : Str)] (spText K) ∧ ∀ (s : Shared) (ws : List Value), K.In s.heap → ws.length = 1 → BindsTo s fd ⟨[], [("paper" : Str)].zip ws⟩ ([("paper" : Str)].zip ws)) ∧ FnR PR w K mg base (L2.CX PR w) 160 (He.ga K "paper_text") (spText K) := by
  have F_words_of := F_words (base := base) T 20
  have F_is_kind := F_is_kind (base := base) T
  have F_BadValue := F_BadValue (base := base) T
  refine fnokx (k := 159) T.F_paper_text sc_paper_text (fun vs H Q E h => ?_) [("paper" : Str)] (fun _ _ _ _ _ _ us hl => match us, hl with | [_], _ => rfl) (fun kV doc pm an cdv ct us hl => match us, hl with | [_], _ => rfl) (fun cdv A outer s H vs Q E hr h => ⟨_, (pss_cons (ps_set (i := 1) sc_paper_text.nd rfl (Or.inl rfl) (pe_ifExp (pt_val (pe_callR F_is_kind (hr.mono (by omega)) T.k_is_kind T.g_is_kind rfl pass0 (pa_cons (pv 0) pa_nil))) (pe_callR F_words_of (hr.mono (by omega)) T.k_words_of T.g_words_of rfl pass0 (pa_cons (pv 0) (pa_cons (pe_gi T.g_MOST_DEEP rfl) pa_nil))) (pe_lst (pa_cons pe_non pa_nil))))
      (pss_cons (ps_if (pt_cmpR op_in_seq pe_non (pv 1) rfl) (pss_one (ps_raise rfl (takes_of rfl rfl rfl rfl) (SupX.pmk_oexR T.oex_BadValue.1 T.oex_BadValue.2.1 T.oex_BadValue.2.2.1 F_BadValue (hr.mono (by omega)) pass0 rfl T.g_BadValue (pa_cons pe_str pa_nil)))) pss_nil)
      (pss_one (ps_ret (pe_join pe_str (pv 1)))))), ?_⟩)
  · obtain ⟨v, d, rfl, _⟩ := h
    rfl
  · obtain ⟨v, d, rfl, r, hok, hlen, hj, q, qE⟩ := h
    have mid : ∀ {l : Addr} {H1 : Hp}, Ext H H1 → H1 l = some (.lst ((textW d).map wV)) → rIn K false V.non (.ref l) H1 fun x_1 H' => ∃ k, x_1 = V.bl k ∧
        if k = true then tMkO (He.ga K "BadValue") (spBadValue K) [] (tCons (tC (V.str "paper")) tNil) (List.set (L2.start [("paper" : Str), "words"] [v]) 1 (some (V.ref l))) H' fun cls d H' => E cls d H'
        else (∃ a, V.str " " = V.str a) ∧ ∃ v_4, (List.set (L2.start [("paper" : Str), "words"] [v]) 1 (some (V.ref l)))[1]? = some (some v_4) ∧ ∃ a p, ∃ ys : List Str, V.str " " = V.str a ∧ [v_4] = [V.ref p] ∧ (SqL K H' p (List.map V.str ys) ∨ SqT K H' p (List.map V.str ys)) ∧
          (List.map (fun x => x.length) ys).sum + ys.length * a.length ≤ 16777216 ∧ Q (V.str (Txt.join a ys)) H' := fun {l H1} e1 h1 => by
      refine ⟨l, _, rfl, .inl (.of h1), rfl, flat_wV _, _, rfl, ?_⟩
      rw [if_neg Bool.false_ne_true, inV_non]
      split
      · rename_i h
        exact mkO_value fun dd H' h2 e2 h3 => qE (of_decide_eq_true h) dd H' (ext_none e1 h2) (e1.trans e2) h3
      · rename_i h
        obtain ⟨zs, hz⟩ := all_some fun m => h (decide_eq_true m)
        refine ⟨⟨_, rfl⟩, _, rfl, _, l, zs, rfl, rfl, .inl (.of ?_), ?_, q zs H1 hz e1⟩
        · rw [h1, hz, List.map_map]
          rfl
        · have := hj zs hz
          rw [show (Str.ofString " ").length = 1 by decide +kernel, Nat.mul_one]
          exact this
    dsimp only [gCons, gName, gNil, gSub, gTup, gFld, iSeq, iList, iStr, iTup, iRng1, tAnd, tAndT, tAndV, tAsg, tAsg2, tAug, tB, tBM, tBM0, tBreak, tC, tCB, tCallR, tChain, tCons, tDrop, tFld, sFld, sFldAug, tFor_eq, tLc2_eq, tIf, tIfS, tIsN, tLc_eq, tLst, tM0, tM1, tMakeR, tMethR, tNever, tNm, tXk, tCallKw, tNext, tNil, tNoPart, tNot, tNotN, tNotT, tNotV, tOp, tOr, tOrT, tOrV, tOst, tPar, tPart, tRet, tRetN, tRg1, tSeq, tSl, tStar, tTest, tThen, tTup, tUn, C8.tCut, tVar]
    refine ⟨v, rfl, v, false, d, rfl, r, _, rfl, ?_⟩
    split
    · rename_i hk
      refine ⟨v, rfl, v, d, rfl, r, hok, hlen, fun l H' hl e1 h1 => ⟨_, rfl, mid e1 ?_⟩⟩
      rw [h1, textW, if_pos hk]
    · rename_i hk
      refine ⟨by have : sizeLine = 16777216 := sizeLine_eq; simp; omega, fun p hp => ⟨_, rfl, mid (Ext.upd hp) ?_⟩⟩
      rw [upd_same, textW, if_neg hk]
      rfl
/-! ### made_of -/
/-- the kinds by their words -/
def kindOf (z : Str) : Option PK := if z = "holds" then some .holds else if z = "breaks" then some .breaks else if z = "checked" then some .checked else if z = "alike" then some .alike else if z = "stays" then some .stays else if z = "unlike" then some .unlike else if z = "spoilt" then some .spoilt else if z = "family" then some .family else if z = "code" then some .code else if z = "guards" then some .guards else if z = "broken" then some .broken else none
def spMade (K : PySem.W.Frag) (n : Nat) : Sp := fun vs H Q _ => ∃ (c : PK) (x y : V) (d e : D) (m : Nat), vs = [.str c.word, x, y] ∧ Rep K false H x d ∧ Rep K false H y e ∧ c.size = some m ∧ d.dep + 1 ≤ n ∧ e.dep + 1 ≤ n ∧ ∀ v H', Ext H H' → Rep K false H' v (.pap c (keptL (if m = 1 then [d] else [d, e]))) → Q v H'
omit T in
theorem make_sub {c : PK} {m n : Nat} {H' : Hp} {args : List V} {ds : List D} {L : Bool} {Q : VK} (r : Reps K L H' args ds) (hl : args.length = m) (hd : depL ds + 1 ≤ n) (q : ∀ v H2, Ext H' H2 → Rep K false H2 v (.pap c (keptL ds)) → Q v H2) :
    ∀ x dx, H' x = none → H' dx = none → dx ≠ x → spSub K c m n (.ref x :: args) (upd (upd H' dx (.own x)) x (.ins (He.ga K c.name) dx [])) (fun v H2 => v = .non ∧ Q (.ref x) H2) E0 := by
  intro x dx hx hdx hne
  have e1 : Ext H' (upd (upd H' dx (.own x)) x (.ins (He.ga K c.name) dx [])) := Ext.upd' (Ext.upd hdx) (by rw [upd_ne (Ne.symm hne)]; exact hx)
  exact ⟨x, dx, args, ds, L, rfl, upd_same, r.ext e1, hl, hd, fun H2 b r2 => ⟨rfl, q _ _ (fun b' o e => b b' o (ne_of_none e hx) (e1 _ _ e)) r2⟩⟩
theorem F_made_of (n : Nat) : FnR PR w K mg base CX0 (4 * n + 13) (He.ga K "made_of") (spMade K n) := by
  have F_Holds := F_Holds_init (base := base) T n
  have F_Breaks := F_Breaks_init (base := base) T n
  have F_Checked := F_Checked_init (base := base) T n
  have F_Alike := F_Alike_init (base := base) T n
  have F_Stays := F_Stays_init (base := base) T n
  have F_Unlike := F_Unlike_init (base := base) T n
  have F_Spoilt := F_Spoilt_init (base := base) T n
  have F_Family := F_Family_init (base := base) T n
  have F_Code := F_Code_init (base := base) T n
  have F_Guards := F_Guards_init (base := base) T n
  have F_Broken := F_Broken_init (base := base) T n
  refine fnr (k := 4 * n + 12) T.F_made_of sc_made_of (fun vs H Q E h => ?_) (fun _ _ _ _ _ _ us hl => match us, hl with | [_, _, _], _ => rfl) (fun cdv A outer s H vs Q E hr h => ⟨_, (pss_cons (ps_if (pt_cmpR op_in_seq (pv 0) (pe_tup (pa_cons pe_str (pa_cons pe_str (pa_cons pe_str pa_nil)))) rfl) (pss_one (ps_ret (pe_ifExp (pt_cmpR op_eq (pv 0) pe_str (nomark _)) (pe_makeR T.mk_Holds F_Holds (hr.mono (by omega)) rfl T.g_Holds pass0 (pa_cons (pv 1) pa_nil)) (pe_ifExp (pt_cmpR op_eq (pv 0) pe_str (nomark _)) (pe_makeR T.mk_Breaks F_Breaks (hr.mono (by omega)) rfl T.g_Breaks pass0 (pa_cons (pv 1) pa_nil)) (pe_makeR T.mk_Checked F_Checked (hr.mono (by omega)) rfl T.g_Checked pass0 (pa_cons (pv 1) pa_nil)))))) pss_nil)
      (pss_cons (ps_if (pt_cmpR op_in_seq (pv 0) (pe_tup (pa_cons pe_str (pa_cons pe_str pa_nil))) rfl) (pss_one (ps_ret (pe_ifExp (pt_cmpR op_eq (pv 0) pe_str (nomark _)) (pe_makeR T.mk_Alike F_Alike (hr.mono (by omega)) rfl T.g_Alike pass0 (pa_cons (pv 1) pa_nil)) (pe_makeR T.mk_Stays F_Stays (hr.mono (by omega)) rfl T.g_Stays pass0 (pa_cons (pv 1) pa_nil))))) pss_nil)
      (pss_cons (ps_if (pt_cmpR op_in_seq (pv 0) (pe_tup (pa_cons pe_str (pa_cons pe_str pa_nil))) rfl) (pss_one (ps_ret (pe_ifExp (pt_cmpR op_eq (pv 0) pe_str (nomark _)) (pe_makeR T.mk_Unlike F_Unlike (hr.mono (by omega)) rfl T.g_Unlike pass0 (pa_cons (pv 1) (pa_cons (pv 2) pa_nil))) (pe_makeR T.mk_Spoilt F_Spoilt (hr.mono (by omega)) rfl T.g_Spoilt pass0 (pa_cons (pv 1) (pa_cons (pv 2) pa_nil)))))) pss_nil)
      (pss_cons (ps_if (pt_cmpR op_in_seq (pv 0) (pe_tup (pa_cons pe_str (pa_cons pe_str pa_nil))) rfl) (pss_one (ps_ret (pe_ifExp (pt_cmpR op_eq (pv 0) pe_str (nomark _)) (pe_makeR T.mk_Family F_Family (hr.mono (by omega)) rfl T.g_Family pass0 (pa_cons (pv 1) (pa_cons (pv 2) pa_nil))) (pe_makeR T.mk_Code F_Code (hr.mono (by omega)) rfl T.g_Code pass0 (pa_cons (pv 1) (pa_cons (pv 2) pa_nil)))))) pss_nil)
      (pss_one (ps_ret (pe_ifExp (pt_cmpR op_eq (pv 0) pe_str (nomark _)) (pe_makeR T.mk_Guards F_Guards (hr.mono (by omega)) rfl T.g_Guards pass0 (pa_cons (pv 1) (pa_cons (pv 2) pa_nil))) (pe_makeR T.mk_Broken F_Broken (hr.mono (by omega)) rfl T.g_Broken pass0 (pa_cons (pv 1) (pa_cons (pv 2) pa_nil)))))))))), ?_⟩)
  · obtain ⟨c, x, y, d, e, m, rfl, _⟩ := h
    rfl
  · obtain ⟨c, x, y, d, e, m, rfl, rx, ry, hm, hd, he, q⟩ := h
    dsimp only [gCons, gName, gNil, gSub, gTup, gFld, iSeq, iList, iStr, iTup, iRng1, tAnd, tAndT, tAndV, tAsg, tAsg2, tAug, tB, tBM, tBM0, tBreak, tC, tCB, tCallR, tChain, tCons, tDrop, tFld, sFld, sFldAug, tFor_eq, tLc2_eq, tIf, tIfS, tIsN, tLc_eq, tLst, tM0, tM1, tMakeR, tMethR, tNever, tNm, tXk, tCallKw, tNext, tNil, tNoPart, tNot, tNotN, tNotT, tNotV, tOp, tOr, tOrT, tOrV, tOst, tPar, tPart, tRet, tRetN, tRg1, tSeq, tSl, tStar, tTest, tThen, tTup, tUn, C8.tCut, tVar]
    cases c with
    | paper => cases hm
    | denial => cases hm
    | code =>
      cases hm
      refine ⟨_, rfl, by rw [sizeLine_eq]; simp, fun p0 hp0 => ⟨p0, _, rfl, .inr (.of upd_same), rfl, rfl, false, congrArg V.bl (by decide +kernel), ?_⟩⟩
      refine ⟨_, rfl, by rw [sizeLine_eq]; simp, fun p1 hp1 => ⟨p1, _, rfl, .inr (.of upd_same), rfl, rfl, false, congrArg V.bl (by decide +kernel), ?_⟩⟩
      refine ⟨_, rfl, by rw [sizeLine_eq]; simp, fun p2 hp2 => ⟨p2, _, rfl, .inr (.of upd_same), rfl, rfl, false, congrArg V.bl (by decide +kernel), ?_⟩⟩
      refine ⟨_, rfl, by rw [sizeLine_eq]; simp, fun p3 hp3 => ⟨p3, _, rfl, .inr (.of upd_same), rfl, rfl, true, congrArg V.bl (by decide +kernel), ?_⟩⟩
      exact ⟨_, rfl, rfl, false, congrArg V.bl (by decide +kernel), _, rfl, _, rfl, make_sub (c := .code) (m := 2) (n := n) (L := false) (Reps.two (rx.ext (Ext.upd' (Ext.upd' (Ext.upd' (Ext.upd' Ext.rfl' hp0) hp1) hp2) hp3)) (ry.ext (Ext.upd' (Ext.upd' (Ext.upd' (Ext.upd' Ext.rfl' hp0) hp1) hp2) hp3))) rfl (by simp [depL]; omega) fun v H2 e2 r2 => q v H2 (Ext.trans (Ext.upd' (Ext.upd' (Ext.upd' (Ext.upd' Ext.rfl' hp0) hp1) hp2) hp3) e2) r2⟩
    | family =>
      cases hm
      refine ⟨_, rfl, by rw [sizeLine_eq]; simp, fun p0 hp0 => ⟨p0, _, rfl, .inr (.of upd_same), rfl, rfl, false, congrArg V.bl (by decide +kernel), ?_⟩⟩
      refine ⟨_, rfl, by rw [sizeLine_eq]; simp, fun p1 hp1 => ⟨p1, _, rfl, .inr (.of upd_same), rfl, rfl, false, congrArg V.bl (by decide +kernel), ?_⟩⟩
      refine ⟨_, rfl, by rw [sizeLine_eq]; simp, fun p2 hp2 => ⟨p2, _, rfl, .inr (.of upd_same), rfl, rfl, false, congrArg V.bl (by decide +kernel), ?_⟩⟩
      refine ⟨_, rfl, by rw [sizeLine_eq]; simp, fun p3 hp3 => ⟨p3, _, rfl, .inr (.of upd_same), rfl, rfl, true, congrArg V.bl (by decide +kernel), ?_⟩⟩
      exact ⟨_, rfl, rfl, true, congrArg V.bl (by decide +kernel), _, rfl, _, rfl, make_sub (c := .family) (m := 2) (n := n) (L := false) (Reps.two (rx.ext (Ext.upd' (Ext.upd' (Ext.upd' (Ext.upd' Ext.rfl' hp0) hp1) hp2) hp3)) (ry.ext (Ext.upd' (Ext.upd' (Ext.upd' (Ext.upd' Ext.rfl' hp0) hp1) hp2) hp3))) rfl (by simp [depL]; omega) fun v H2 e2 r2 => q v H2 (Ext.trans (Ext.upd' (Ext.upd' (Ext.upd' (Ext.upd' Ext.rfl' hp0) hp1) hp2) hp3) e2) r2⟩
    | alike =>
      cases hm
      refine ⟨_, rfl, by rw [sizeLine_eq]; simp, fun p0 hp0 => ⟨p0, _, rfl, .inr (.of upd_same), rfl, rfl, false, congrArg V.bl (by decide +kernel), ?_⟩⟩
      refine ⟨_, rfl, by rw [sizeLine_eq]; simp, fun p1 hp1 => ⟨p1, _, rfl, .inr (.of upd_same), rfl, rfl, true, congrArg V.bl (by decide +kernel), ?_⟩⟩
      exact ⟨_, rfl, rfl, true, congrArg V.bl (by decide +kernel), _, rfl, make_sub (c := .alike) (m := 1) (n := n) (L := false) (Reps.one (rx.ext (Ext.upd' (Ext.upd' Ext.rfl' hp0) hp1))) rfl (by simp [depL]; omega) fun v H2 e2 r2 => q v H2 (Ext.trans (Ext.upd' (Ext.upd' Ext.rfl' hp0) hp1) e2) r2⟩
    | unlike =>
      cases hm
      refine ⟨_, rfl, by rw [sizeLine_eq]; simp, fun p0 hp0 => ⟨p0, _, rfl, .inr (.of upd_same), rfl, rfl, false, congrArg V.bl (by decide +kernel), ?_⟩⟩
      refine ⟨_, rfl, by rw [sizeLine_eq]; simp, fun p1 hp1 => ⟨p1, _, rfl, .inr (.of upd_same), rfl, rfl, false, congrArg V.bl (by decide +kernel), ?_⟩⟩
      refine ⟨_, rfl, by rw [sizeLine_eq]; simp, fun p2 hp2 => ⟨p2, _, rfl, .inr (.of upd_same), rfl, rfl, true, congrArg V.bl (by decide +kernel), ?_⟩⟩
      exact ⟨_, rfl, rfl, true, congrArg V.bl (by decide +kernel), _, rfl, _, rfl, make_sub (c := .unlike) (m := 2) (n := n) (L := false) (Reps.two (rx.ext (Ext.upd' (Ext.upd' (Ext.upd' Ext.rfl' hp0) hp1) hp2)) (ry.ext (Ext.upd' (Ext.upd' (Ext.upd' Ext.rfl' hp0) hp1) hp2))) rfl (by simp [depL]; omega) fun v H2 e2 r2 => q v H2 (Ext.trans (Ext.upd' (Ext.upd' (Ext.upd' Ext.rfl' hp0) hp1) hp2) e2) r2⟩
    | stays =>
      cases hm
      refine ⟨_, rfl, by rw [sizeLine_eq]; simp, fun p0 hp0 => ⟨p0, _, rfl, .inr (.of upd_same), rfl, rfl, false, congrArg V.bl (by decide +kernel), ?_⟩⟩
      refine ⟨_, rfl, by rw [sizeLine_eq]; simp, fun p1 hp1 => ⟨p1, _, rfl, .inr (.of upd_same), rfl, rfl, true, congrArg V.bl (by decide +kernel), ?_⟩⟩
      exact ⟨_, rfl, rfl, false, congrArg V.bl (by decide +kernel), _, rfl, make_sub (c := .stays) (m := 1) (n := n) (L := false) (Reps.one (rx.ext (Ext.upd' (Ext.upd' Ext.rfl' hp0) hp1))) rfl (by simp [depL]; omega) fun v H2 e2 r2 => q v H2 (Ext.trans (Ext.upd' (Ext.upd' Ext.rfl' hp0) hp1) e2) r2⟩
    | spoilt =>
      cases hm
      refine ⟨_, rfl, by rw [sizeLine_eq]; simp, fun p0 hp0 => ⟨p0, _, rfl, .inr (.of upd_same), rfl, rfl, false, congrArg V.bl (by decide +kernel), ?_⟩⟩
      refine ⟨_, rfl, by rw [sizeLine_eq]; simp, fun p1 hp1 => ⟨p1, _, rfl, .inr (.of upd_same), rfl, rfl, false, congrArg V.bl (by decide +kernel), ?_⟩⟩
      refine ⟨_, rfl, by rw [sizeLine_eq]; simp, fun p2 hp2 => ⟨p2, _, rfl, .inr (.of upd_same), rfl, rfl, true, congrArg V.bl (by decide +kernel), ?_⟩⟩
      exact ⟨_, rfl, rfl, false, congrArg V.bl (by decide +kernel), _, rfl, _, rfl, make_sub (c := .spoilt) (m := 2) (n := n) (L := false) (Reps.two (rx.ext (Ext.upd' (Ext.upd' (Ext.upd' Ext.rfl' hp0) hp1) hp2)) (ry.ext (Ext.upd' (Ext.upd' (Ext.upd' Ext.rfl' hp0) hp1) hp2))) rfl (by simp [depL]; omega) fun v H2 e2 r2 => q v H2 (Ext.trans (Ext.upd' (Ext.upd' (Ext.upd' Ext.rfl' hp0) hp1) hp2) e2) r2⟩
    | holds =>
      cases hm
      refine ⟨_, rfl, by rw [sizeLine_eq]; simp, fun p0 hp0 => ⟨p0, _, rfl, .inr (.of upd_same), rfl, rfl, true, congrArg V.bl (by decide +kernel), ?_⟩⟩
      exact ⟨_, rfl, rfl, true, congrArg V.bl (by decide +kernel), _, rfl, make_sub (c := .holds) (m := 1) (n := n) (L := false) (Reps.one (rx.ext (Ext.upd' Ext.rfl' hp0))) rfl (by simp [depL]; omega) fun v H2 e2 r2 => q v H2 (Ext.trans (Ext.upd' Ext.rfl' hp0) e2) r2⟩
    | breaks =>
      cases hm
      refine ⟨_, rfl, by rw [sizeLine_eq]; simp, fun p0 hp0 => ⟨p0, _, rfl, .inr (.of upd_same), rfl, rfl, true, congrArg V.bl (by decide +kernel), ?_⟩⟩
      exact ⟨_, rfl, rfl, false, congrArg V.bl (by decide +kernel), _, rfl, rfl, true, congrArg V.bl (by decide +kernel), _, rfl, make_sub (c := .breaks) (m := 1) (n := n) (L := false) (Reps.one (rx.ext (Ext.upd' Ext.rfl' hp0))) rfl (by simp [depL]; omega) fun v H2 e2 r2 => q v H2 (Ext.trans (Ext.upd' Ext.rfl' hp0) e2) r2⟩
    | guards =>
      cases hm
      refine ⟨_, rfl, by rw [sizeLine_eq]; simp, fun p0 hp0 => ⟨p0, _, rfl, .inr (.of upd_same), rfl, rfl, false, congrArg V.bl (by decide +kernel), ?_⟩⟩
      refine ⟨_, rfl, by rw [sizeLine_eq]; simp, fun p1 hp1 => ⟨p1, _, rfl, .inr (.of upd_same), rfl, rfl, false, congrArg V.bl (by decide +kernel), ?_⟩⟩
      refine ⟨_, rfl, by rw [sizeLine_eq]; simp, fun p2 hp2 => ⟨p2, _, rfl, .inr (.of upd_same), rfl, rfl, false, congrArg V.bl (by decide +kernel), ?_⟩⟩
      refine ⟨_, rfl, by rw [sizeLine_eq]; simp, fun p3 hp3 => ⟨p3, _, rfl, .inr (.of upd_same), rfl, rfl, false, congrArg V.bl (by decide +kernel), ?_⟩⟩
      exact ⟨_, rfl, rfl, true, congrArg V.bl (by decide +kernel), _, rfl, _, rfl, make_sub (c := .guards) (m := 2) (n := n) (L := false) (Reps.two (rx.ext (Ext.upd' (Ext.upd' (Ext.upd' (Ext.upd' Ext.rfl' hp0) hp1) hp2) hp3)) (ry.ext (Ext.upd' (Ext.upd' (Ext.upd' (Ext.upd' Ext.rfl' hp0) hp1) hp2) hp3))) rfl (by simp [depL]; omega) fun v H2 e2 r2 => q v H2 (Ext.trans (Ext.upd' (Ext.upd' (Ext.upd' (Ext.upd' Ext.rfl' hp0) hp1) hp2) hp3) e2) r2⟩
    | checked =>
      cases hm
      refine ⟨_, rfl, by rw [sizeLine_eq]; simp, fun p0 hp0 => ⟨p0, _, rfl, .inr (.of upd_same), rfl, rfl, true, congrArg V.bl (by decide +kernel), ?_⟩⟩
      exact ⟨_, rfl, rfl, false, congrArg V.bl (by decide +kernel), _, rfl, rfl, false, congrArg V.bl (by decide +kernel), _, rfl, make_sub (c := .checked) (m := 1) (n := n) (L := false) (Reps.one (rx.ext (Ext.upd' Ext.rfl' hp0))) rfl (by simp [depL]; omega) fun v H2 e2 r2 => q v H2 (Ext.trans (Ext.upd' Ext.rfl' hp0) e2) r2⟩
    | broken =>
      cases hm
      refine ⟨_, rfl, by rw [sizeLine_eq]; simp, fun p0 hp0 => ⟨p0, _, rfl, .inr (.of upd_same), rfl, rfl, false, congrArg V.bl (by decide +kernel), ?_⟩⟩
      refine ⟨_, rfl, by rw [sizeLine_eq]; simp, fun p1 hp1 => ⟨p1, _, rfl, .inr (.of upd_same), rfl, rfl, false, congrArg V.bl (by decide +kernel), ?_⟩⟩
      refine ⟨_, rfl, by rw [sizeLine_eq]; simp, fun p2 hp2 => ⟨p2, _, rfl, .inr (.of upd_same), rfl, rfl, false, congrArg V.bl (by decide +kernel), ?_⟩⟩
      refine ⟨_, rfl, by rw [sizeLine_eq]; simp, fun p3 hp3 => ⟨p3, _, rfl, .inr (.of upd_same), rfl, rfl, false, congrArg V.bl (by decide +kernel), ?_⟩⟩
      exact ⟨_, rfl, rfl, false, congrArg V.bl (by decide +kernel), _, rfl, _, rfl, make_sub (c := .broken) (m := 2) (n := n) (L := false) (Reps.two (rx.ext (Ext.upd' (Ext.upd' (Ext.upd' (Ext.upd' Ext.rfl' hp0) hp1) hp2) hp3)) (ry.ext (Ext.upd' (Ext.upd' (Ext.upd' (Ext.upd' Ext.rfl' hp0) hp1) hp2) hp3))) rfl (by simp [depL]; omega) fun v H2 e2 r2 => q v H2 (Ext.trans (Ext.upd' (Ext.upd' (Ext.upd' (Ext.upd' Ext.rfl' hp0) hp1) hp2) hp3) e2) r2⟩
end
end K94
set_option maxRecDepth 100000
set_option maxHeartbeats 4000000
/-! Opened, number_of, plain_of. -/
namespace K94
open PySem PySem.Spec PyProof.Rows L2 L2.Q Pp StX L2.SupX
theorem sc_Opened___init__ : FnScope [("self" : Str), ("word" : Str)] [("self" : Str), ("word" : Str)] (defScope s_Opened_init) := ⟨rfl, rfl, rfl, by decide +kernel, rfl, by decide +kernel, by decide +kernel⟩
theorem sc_Opened_is_full : FnScope [("self" : Str)] [("self" : Str)] (defScope s_Opened_is_full) := ⟨rfl, rfl, rfl, by decide +kernel, rfl, by decide +kernel, by decide +kernel⟩
theorem sc_Opened_made : FnScope [("self" : Str)] [("self" : Str)] (defScope s_Opened_made) := ⟨rfl, rfl, rfl, by decide +kernel, rfl, by decide +kernel, by decide +kernel⟩
theorem sc_number_of : FnScope [("word" : Str), ("body" : Str), ("sign" : Str)] [("word" : Str)] (defScope s_number_of) := ⟨rfl, rfl, rfl, by decide +kernel, rfl, by decide +kernel, by decide +kernel⟩
theorem sc_plain_of : FnScope [("word" : Str), ("number" : Str)] [("word" : Str)] (defScope s_plain_of) := ⟨rfl, rfl, rfl, by decide +kernel, rfl, by decide +kernel, by decide +kernel⟩
section
variable {w : World} {K : PySem.W.Frag} {mg : Str → Option Value} {base : Heap} (T : Txt w K mg)
include T
theorem p_size {k : PK} {m : Nat} (h : k.size = some m) : KDct K w (He.ga K "SIZES") k.word (.int (m : Int)) := by
  cases k
  · cases h
  · cases h
  · cases h; exact T.tb_SIZES.get ("code", 2) (List.mem_of_getElem? (i := 10) rfl)
  · cases h; exact T.tb_SIZES.get ("family", 2) (List.mem_of_getElem? (i := 0) rfl)
  · cases h; exact T.tb_SIZES.get ("alike", 1) (List.mem_of_getElem? (i := 6) rfl)
  · cases h; exact T.tb_SIZES.get ("unlike", 2) (List.mem_of_getElem? (i := 7) rfl)
  · cases h; exact T.tb_SIZES.get ("stays", 1) (List.mem_of_getElem? (i := 8) rfl)
  · cases h; exact T.tb_SIZES.get ("spoilt", 2) (List.mem_of_getElem? (i := 9) rfl)
  · cases h; exact T.tb_SIZES.get ("holds", 1) (List.mem_of_getElem? (i := 1) rfl)
  · cases h; exact T.tb_SIZES.get ("breaks", 1) (List.mem_of_getElem? (i := 2) rfl)
  · cases h; exact T.tb_SIZES.get ("guards", 2) (List.mem_of_getElem? (i := 3) rfl)
  · cases h; exact T.tb_SIZES.get ("checked", 1) (List.mem_of_getElem? (i := 4) rfl)
  · cases h; exact T.tb_SIZES.get ("broken", 2) (List.mem_of_getElem? (i := 5) rfl)
abbrev opF (wv : V) (t : Addr) : List (Str × V) := [("word", wv), ("told", .ref t)]
def spOpInit (K : PySem.W.Frag) : Sp := fun vs H Q _ => ∃ a dx wv, vs = [.ref a, wv] ∧ H a = some (.ins (He.ga K "Opened") dx []) ∧ ∀ t H', ExtB a H H' → H t = none → t ≠ a → H' a = some (.ins (He.ga K "Opened") dx (opF wv t)) → H' t = some (.lst []) → Q .non H'
theorem F_Opened_init : FnR PR w K mg base CX0 5 (He.ma K (He.ga K "Opened") "__init__") (spOpInit K) := by
  refine fnr (k := 4) T.F_Opened_init sc_Opened___init__ (fun vs H Q E h => ?_) (fun _ _ _ _ _ _ us hl => match us, hl with | [_, _], _ => rfl) (fun cdv A outer s H vs Q E hr h => ⟨_, (pss_cons (ps_fld (pv 0) (pv 1) rfl)
      (pss_one (ps_fld (pv 0) (pe_lst pa_nil) rfl))), ?_⟩)
  · obtain ⟨a, dx, wv, rfl, _⟩ := h
    rfl
  · obtain ⟨a, dx, wv, rfl, ha, q⟩ := h
    dsimp only [gCons, gName, gNil, gSub, gTup, gFld, iSeq, iList, iStr, iTup, iRng1, tAnd, tAndT, tAndV, tAsg, tAsg2, tAug, tB, tBM, tBM0, tBreak, tC, tCB, tCallR, tChain, tCons, tDrop, tFld, sFld, sFldAug, tFor_eq, tLc2_eq, tIf, tIfS, tIsN, tLc_eq, tLst, tM0, tM1, tMakeR, tMethR, tNever, tNm, tXk, tCallKw, tNext, tNil, tNoPart, tNot, tNotN, tNotT, tNotV, tOp, tOr, tOrT, tOrV, tOst, tPar, tPart, tRet, tRetN, tRg1, tSeq, tSl, tStar, tTest, tThen, tTup, tUn, C8.tCut, tVar]
    refine ⟨wv, rfl, .ref a, rfl, a, _, dx, [], rfl, ha, T.c_Opened, T.na_Opened_word, by simp, by simp, fun p hp => ?_⟩
    have pa : p ≠ a := fun z => by rw [z, upd_same] at hp; cases hp
    refine ⟨_, rfl, a, _, dx, _, rfl, by rw [upd_ne (Ne.symm pa), upd_same], T.c_Opened, T.na_Opened_told, by simp [putF], q p _ (fun b o n e => ?_) ?_ pa upd_same ?_⟩
    · rw [upd_ne n, upd_ne, upd_ne n]
      · exact e
      · intro z
        rw [z] at e
        rw [upd_ne pa, e] at hp
        cases hp
    · rw [upd_ne pa] at hp
      exact hp
    · rw [upd_ne pa, upd_same]
/-- an open paper or tuple: c its kind (none: a tuple), vs what is told -/
def wOp (c : Option PK) : V := match c with
  | some c => .str c.word
  | none => .non
def full (c : Option PK) (n : Nat) : Bool := match c with
  | some c => decide (some n = c.size)
  | none => false
def spFull (K : PySem.W.Frag) : Sp := fun vs H Q _ => ∃ a dx t c xs, vs = [.ref a] ∧ H a = some (.ins (He.ga K "Opened") dx (opF (wOp c) t)) ∧ H t = some (.lst xs) ∧ (∀ k, c = some k → k.size.isSome = true) ∧ Q (.bl (full c xs.length)) H
theorem F_Opened_is_full : FnR PR w K mg base CX0 5 (He.ma K (He.ga K "Opened") "is_full") (spFull K) := by
  refine fnr (k := 4) T.F_Opened_is_full sc_Opened_is_full (fun vs H Q E h => ?_) (fun _ _ _ _ _ _ us hl => match us, hl with | [_], _ => rfl) (fun cdv A outer s H vs Q E hr h => ⟨_, (pss_one (ps_ret (pe_and (pe_cmpR op_notN (pe_fld (pv 0) rfl) pe_non (nomark _)) (pe_one (pe_cmpR op_eq (pe_callB call_len (by rfl) T.n_len PySem.boot_len (pa_cons (pe_fld (pv 0) rfl) pa_nil)) (pe_ix ix_kdict (pe_gr T.g_SIZES rfl) (pe_fld (pv 0) rfl) (fun _ _ => rfl)) (nomark _)))))), ?_⟩)
  · obtain ⟨a, dx, t, c, xs, rfl, _⟩ := h
    rfl
  · obtain ⟨a, dx, t, c, xs, rfl, ha, ht, hk, q⟩ := h
    dsimp only [gCons, gName, gNil, gSub, gTup, gFld, iSeq, iList, iStr, iTup, iRng1, tAnd, tAndT, tAndV, tAsg, tAsg2, tAug, tB, tBM, tBM0, tBreak, tC, tCB, tCallR, tChain, tCons, tDrop, tFld, sFld, sFldAug, tFor_eq, tLc2_eq, tIf, tIfS, tIsN, tLc_eq, tLst, tM0, tM1, tMakeR, tMethR, tNever, tNm, tXk, tCallKw, tNext, tNil, tNoPart, tNot, tNotN, tNotT, tNotV, tOp, tOr, tOrT, tOrV, tOst, tPar, tPart, tRet, tRetN, tRg1, tSeq, tSl, tStar, tTest, tThen, tTup, tUn, C8.tCut, tVar]
    cases c with
    | none => exact ⟨_, rfl, a, _, dx, _, _, rfl, ha, T.c_Opened, T.na_Opened_word, rfl, rfl, false, congrArg V.bl (by simp [wOp]), q⟩
    | some k =>
      obtain ⟨m, hm⟩ := Option.isSome_iff_exists.mp (hk k rfl)
      refine ⟨_, rfl, a, _, dx, _, _, rfl, ha, T.c_Opened, T.na_Opened_word, rfl, rfl, true, congrArg V.bl (by simp [wOp]), _, rfl, a, _, dx, _, _, rfl, ha, T.c_Opened, T.na_Opened_told, rfl, _, xs.length, rfl, .inl ⟨xs, .of ht, rfl⟩, _, rfl, a, _, dx, _, _, rfl, ha, T.c_Opened, T.na_Opened_word, rfl, _, k.word, _, rfl, rfl, p_size T hm, rfl, ?_⟩
      have e : full (some k) xs.length = decide (V.int (xs.length : Int) = V.int (m : Int)) := by
        show decide (some xs.length = k.size) = _
        rw [hm]
        by_cases h : xs.length = m
        · rw [h]; simp
        · rw [decide_eq_false (by simpa using h), decide_eq_false fun z => h (by injection z with z; omega)]
      rw [← e]
      exact q
/-- what is made of it -/
def madeD (c : Option PK) (xs : List D) : D := match c with
  | some c => .pap c (keptL xs)
  | none => .tup xs
def spOpMade (K : PySem.W.Frag) (n : Nat) : Sp := fun vs H Q _ => ∃ a dx t c xs ds, vs = [.ref a] ∧ H a = some (.ins (He.ga K "Opened") dx (opF (wOp c) t)) ∧ H t = some (.lst xs) ∧ Reps K false H xs ds ∧ xs.length ≤ 4000 ∧ (∀ k, c = some k → full c xs.length = true) ∧ depL ds + 1 ≤ n ∧
  ∀ v H', Ext H H' → Rep K false H' v (madeD c ds) → Q v H'
theorem F_Opened_made (n : Nat) : FnR PR w K mg base CX0 (4 * n + 20) (He.ma K (He.ga K "Opened") "made") (spOpMade K n) := by
  have F_made_of := F_made_of (base := base) T n
  refine fnr (k := 4 * n + 19) T.F_Opened_made sc_Opened_made (fun vs H Q E h => ?_) (fun _ _ _ _ _ _ us hl => match us, hl with | [_], _ => rfl) (fun cdv A outer s H vs Q E hr h => ⟨_, (pss_one (ps_ret (pe_ifExp (pt_cmpR op_isN (pe_fld (pv 0) rfl) pe_non (nomark _)) (pe_tupleOf rfl T.n_tuple (pe_fld (pv 0) rfl)) (pe_callR F_made_of (hr.mono (by omega)) T.k_made_of T.g_made_of rfl pass0 (pa_cons (pe_fld (pv 0) rfl) (pa_cons (pe_ix ix_list (pe_fld (pv 0) rfl) pe_int (fun _ _ => rfl)) (pa_cons (pe_ix ix_list (pe_fld (pv 0) rfl) (pe_un un_neg pe_int) (fun _ _ => rfl)) pa_nil))))))), ?_⟩)
  · obtain ⟨a, dx, t, c, xs, ds, rfl, _⟩ := h
    rfl
  · obtain ⟨a, dx, t, c, xs, ds, rfl, ha, ht, r, hl, hf, hd, q⟩ := h
    dsimp only [gCons, gName, gNil, gSub, gTup, gFld, iSeq, iList, iStr, iTup, iRng1, tAnd, tAndT, tAndV, tAsg, tAsg2, tAug, tB, tBM, tBM0, tBreak, tC, tCB, tCallR, tChain, tCons, tDrop, tFld, sFld, sFldAug, tFor_eq, tLc2_eq, tIf, tIfS, tIsN, tLc_eq, tLst, tM0, tM1, tMakeR, tMethR, tNever, tNm, tXk, tCallKw, tNext, tNil, tNoPart, tNot, tNotN, tNotT, tNotV, tOp, tOr, tOrT, tOrV, tOst, tPar, tPart, tRet, tRetN, tRg1, tSeq, tSl, tStar, tTest, tThen, tTup, tUn, C8.tCut, tVar]
    cases c with
    | none => exact ⟨_, rfl, a, _, dx, _, _, rfl, ha, T.c_Opened, T.na_Opened_word, rfl, rfl, true, congrArg V.bl (decide_eq_true rfl), _, rfl, a, _, dx, _, _, rfl, ha, T.c_Opened, T.na_Opened_told, rfl, .inl ⟨t, xs, rfl, .of ht, fun q' hq' => q _ _ (Ext.upd hq') (.tup upd_same hl (r.ext (Ext.upd hq')))⟩⟩
    | some k =>
      have hf' : decide (some xs.length = k.size) = true := hf k rfl
      have hm := (of_decide_eq_true hf').symm
      have nn : decide (wOp (some k) = V.non) = false := decide_eq_false fun z => by cases z
      have h12 : xs.length = 1 ∨ xs.length = 2 := by
        cases k <;> first | (cases hm; done) | (left; exact (Option.some.inj hm).symm) | (right; exact (Option.some.inj hm).symm)
      rcases h12 with h1 | h2
      · obtain ⟨x, rfl⟩ : ∃ x, xs = [x] := by
          match xs, h1 with
          | [x], _ => exact ⟨x, rfl⟩
        cases r with
        | cons rx rn =>
        cases rn
        rename_i d
        refine ⟨_, rfl, a, _, dx, _, _, rfl, ha, T.c_Opened, T.na_Opened_word, rfl, rfl, false, congrArg V.bl nn, _, rfl, a, _, dx, _, _, rfl, ha, T.c_Opened, T.na_Opened_word, rfl, _, rfl, a, _, dx, _, _, rfl, ha, T.c_Opened, T.na_Opened_told, rfl, t, _, 0, x, rfl, rfl, .of ht, atI_nat (j := 0) rfl, _, rfl, a, _, dx, _, _, rfl, ha, T.c_Opened, T.na_Opened_told, rfl, ?_⟩
        simp only [depL] at hd
        exact ⟨_, rfl, t, _, -1, x, rfl, rfl, .of ht, atI_last [] x, k, x, x, d, d, 1, rfl, rx, rx, hm, by omega, by omega, q⟩
      · obtain ⟨x, y, rfl⟩ : ∃ x y, xs = [x, y] := by
          match xs, h2 with
          | [x, y], _ => exact ⟨x, y, rfl⟩
        cases r with
        | cons rx rn =>
        cases rn with
        | cons ry rn =>
        cases rn
        rename_i d e
        refine ⟨_, rfl, a, _, dx, _, _, rfl, ha, T.c_Opened, T.na_Opened_word, rfl, rfl, false, congrArg V.bl nn, _, rfl, a, _, dx, _, _, rfl, ha, T.c_Opened, T.na_Opened_word, rfl, _, rfl, a, _, dx, _, _, rfl, ha, T.c_Opened, T.na_Opened_told, rfl, t, _, 0, x, rfl, rfl, .of ht, atI_nat (j := 0) rfl, _, rfl, a, _, dx, _, _, rfl, ha, T.c_Opened, T.na_Opened_told, rfl, ?_⟩
        simp only [depL] at hd
        exact ⟨_, rfl, t, _, -1, y, rfl, rfl, .of ht, atI_last [x] y, k, x, y, d, e, 2, rfl, rx, ry, hm, by omega, by omega, q⟩
/-! ### number_of, plain_of -/
omit T in
theorem nb {x : Bool} (h : (!x) = true) : x = false := by cases x <;> simp_all
omit T in
theorem nb' {x : Bool} (h : ¬ (!x) = true) : x = true := by cases x <;> simp_all
/-- what number_of looks at -/
def bodyS (z : Str) : Str := if cutS z none (some 1) = "-" then cutS z (some 1) none else z
def okNum (z : Str) : Bool := match (bodyS z).cps.toList with
  | [] => false
  | c :: r => decide ((bodyS z).length ≤ 400) && ((c :: r).all (fun c => decide (c ∈ digits.cps.toList)) && (decide (c ≠ 48) || decide (z = "0")))
def numS (z : Str) : Option Int := if okNum z then intText? z else none
def spNumber : Sp := fun vs H Q _ => ∃ z, vs = [.str z] ∧ z.length ≤ sizeLine ∧ (okNum z = true → z.length ≤ 640 ∧ ∃ n, intText? z = some n) ∧ ∀ H', Ext H H' → Q (match numS z with | some n => .int n | none => .non) H'
theorem F_number_of : FnR PR w K mg base CX0 5 (He.ga K "number_of") spNumber := by
  refine fnr (k := 4) T.F_number_of sc_number_of (fun vs H Q E h => ?_) (fun _ _ _ _ _ _ us hl => match us, hl with | [_], _ => rfl) (fun cdv A outer s H vs Q E hr h => ⟨_, (C8.pss_cut (ps_set (i := 1) sc_number_of.nd rfl (Or.inl rfl) (pe_ifExp (pt_cmpR op_eq (pe_slice sl_str (pv 0) po_none (po_some pe_int)) pe_str (nomark _)) (pe_slice sl_str (pv 0) (po_some pe_int) po_none) (pv 0)))
      (pss_cons (ps_if (PW.pt (pw_or (pt_cmpR op_eq (pv 1) pe_str (nomark _)) (pw_or (pt_cmpR op_gt (pe_callB call_len (by rfl) T.n_len PySem.boot_len (pa_cons (pv 1) pa_nil)) (pe_gi T.g_MOST_DIGITS rfl) (nomark _)) (pw_or1 (pt_not (pt_val (pe_callB (cr_all rfl) (by rfl) T.n_all (by decide +kernel) (pa_cons (pe_lc (own := [(("sign" : Str), 2)]) rfl sc_number_of.nd (pi_str (pv 1)) (blkOk_by (own := [(("sign" : Str), 2)]) (N := [("word" : Str), ("body" : Str), ("sign" : Str)]) (sc := defScope s_number_of) (by decide +kernel)) (fun _ _ _ _ _ => (pg_name (i := 2) sc_number_of.nd rfl (Or.inl rfl))) (fun _ _ _ _ _ => pts_nil) (fun _ _ _ _ _ => (pe_cmpR op_in_sign (pv 2) (pe_gs T.g_DIGITS rfl) rfl))) pa_nil)))))))) (pss_one (ps_ret pe_non)) pss_nil)
      (pss_cons (ps_if (PW.pt (pw_and (pt_cmpR op_eq (pe_ix ix_str (pv 1) pe_int (fun _ _ => rfl)) pe_str (nomark _)) (pw_and1 (pt_cmpR op_ne (pv 0) pe_str (nomark _))))) (pss_one (ps_ret pe_non)) pss_nil)
      (pss_one (ps_ret (pe_callTy call_int_str (by rfl) T.n_int (by decide +kernel) (pa_cons (pv 0) pa_nil))))))), ?_⟩)
  · obtain ⟨z, rfl, _⟩ := h
    rfl
  · obtain ⟨z, rfl, hz, hn, q⟩ := h
    dsimp only [gCons, gName, gNil, gSub, gTup, gFld, iSeq, iList, iStr, iTup, iRng1, tAnd, tAndT, tAndV, tAsg, tAsg2, tAug, tB, tBM, tBM0, tBreak, tC, tCB, tCallR, tChain, tCons, tDrop, tFld, sFld, sFldAug, tFor_eq, tLc2_eq, tIf, tIfS, tIsN, tLc_eq, tLst, tM0, tM1, tMakeR, tMethR, tNever, tNm, tXk, tCallKw, tNext, tNil, tNoPart, tNot, tNotN, tNotT, tNotV, tOp, tOr, tOrT, tOrV, tOst, tPar, tPart, tRet, tRetN, tRg1, tSeq, tSl, tStar, tTest, tThen, tTup, tUn, C8.tCut, tVar]
    refine ⟨fun σ' H' => H' = H ∧ σ' = [some (.str z), some (.str (bodyS z)), none], ?_, ?_⟩
    · refine ⟨_, rfl, _, rfl, ⟨z, rfl, hz, rfl, _, rfl, ?_⟩⟩
      split
      · rename_i h
        have hb : bodyS z = cutS z (some 1) none := if_pos (by have := of_decide_eq_true h; injection this)
        rw [hb]
        exact ⟨_, rfl, _, rfl, z, rfl, hz, rfl, rfl⟩
      · rename_i h
        have hb : bodyS z = z := if_neg (fun w => h (decide_eq_true (by rw [w])))
        rw [hb]
        exact ⟨_, rfl, rfl, rfl⟩
    · rintro _ _ ⟨rfl, rfl⟩
      rename_i H
      have hbl : (bodyS z).length ≤ sizeLine := by
        unfold bodyS
        split
        · exact Nat.le_trans (cutS_le ..) hz
        · exact hz
      have q' := q
      generalize hb : bodyS z = b at hbl ⊢
      have no : okNum z = false → ∀ H', Ext H H' → Q .non H' := fun h H' e => by
        have := q H' e
        unfold numS at this
        rw [h] at this
        exact this
      cases hc : b.cps.toList with
      | nil =>
        have e := str_nil hc
        subst e
        refine ⟨_, rfl, rfl, true, congrArg V.bl (decide_eq_true rfl), no ?_ _ Ext.rfl'⟩
        unfold okNum
        rw [hb]
        rfl
      | cons c r =>
        have ok : okNum z = (decide (b.length ≤ 400) && (b.cps.toList.all (fun c => decide (c ∈ digits.cps.toList)) && (decide (c ≠ 48) || decide (z = "0")))) := by
          unfold okNum
          rw [hb, hc]
        have yes : okNum z = true → ∀ H', Ext H H' → ∃ n, intText? z = some n ∧ z.length ≤ 640 ∧ Q (.int n) H' := fun h H' e => by
          obtain ⟨hl, n, h1⟩ := hn h
          have := q H' e
          unfold numS at this
          rw [h, if_pos rfl, h1] at this
          exact ⟨n, h1, hl, this⟩
        have ne : decide (V.str b = V.str "") = false := decide_eq_false fun e => by
          injection e with e
          rw [str_empty e] at hc
          cases hc
        refine ⟨_, rfl, rfl, false, congrArg V.bl ne, _, rfl, _, b.length, rfl, ⟨hbl, rfl⟩, _, _, rfl, rfl, _, rfl, ?_⟩
        by_cases h1 : b.length ≤ 400
        · rw [show decide ((400 : Int) < (b.length : Nat)) = false from decide_eq_false (by omega), if_neg Bool.false_ne_true]
          refine ⟨_, rfl, b, rfl, LC_signs (by omega) (by simp) fun D' H' e1 h2 => ⟨D', _, rfl, .of h2, _, rfl, ?_⟩⟩
          have ea : ((b.cps.toList.map fun c => decide (c ∈ digits.cps.toList)).all id) = b.cps.toList.all (fun c => decide (c ∈ digits.cps.toList)) := by
            rw [List.all_map]; rfl
          split
          · rename_i h3
            refine no ?_ _ e1
            have h3' : ((b.cps.toList.map fun c => decide (c ∈ digits.cps.toList)).all id) = false := nb h3
            rw [ok, ← ea, h3', Bool.false_and, Bool.and_false]
          · rename_i h3
            have h3' : ((b.cps.toList.map fun c => decide (c ∈ digits.cps.toList)).all id) = true := nb' h3
            have ok' : okNum z = (decide (c ≠ 48) || decide (z = "0")) := by
              rw [ok, ← ea, h3', decide_eq_true h1, Bool.true_and, Bool.true_and]
            refine ⟨_, rfl, b, 0, c, rfl, rfl, hbl, by rw [hc]; exact atI_nat (j := 0) rfl, rfl, _, rfl, ?_⟩
            split
            · rename_i h4
              have h4' : c = 48 := by
                have := of_decide_eq_true h4
                injection this with this
                injection this with this
                injection this with this
                injection this
              refine ⟨_, rfl, rfl, _, rfl, ?_⟩
              split
              · rename_i h5
                refine no ?_ _ e1
                have : ¬ z = "0" := fun e => by rw [e] at h5; simp at h5
                rw [ok', decide_eq_false this, decide_eq_false (fun h => h h4')]
                rfl
              · rename_i h5
                have : z = "0" := by
                  have h6 : decide (V.str z = V.str "0") = true := by simpa using h5
                  have := of_decide_eq_true h6
                  injection this
                obtain ⟨n, h7, h8, h9⟩ := yes (by rw [ok', decide_eq_true this, Bool.or_true]) _ e1
                exact ⟨_, rfl, z, n, rfl, h7, h8, h9⟩
            · rename_i h4
              have h4' : c ≠ 48 := fun e => h4 (by rw [e]; exact decide_eq_true rfl)
              obtain ⟨n, h7, h8, h9⟩ := yes (by rw [ok', decide_eq_true h4', Bool.true_or]) _ e1
              exact ⟨_, rfl, z, n, rfl, h7, h8, h9⟩
        · rw [show decide ((400 : Int) < (b.length : Nat)) = true from decide_eq_true (by omega), if_pos rfl]
          refine no ?_ _ Ext.rfl'
          rw [ok, decide_eq_false h1, Bool.false_and]
def plainS (z : Str) : Option D := if z = "-" then some .non else if isWordS z then some (.str z) else (numS z).map .int
def spPlain (K : PySem.W.Frag) : Sp := fun vs H Q _ => ∃ z, vs = [.str z] ∧ z.length ≤ sizeLine ∧ (okNum z = true → z.length ≤ 640 ∧ ∃ n, intText? z = some n) ∧
  ∀ p H' xs ds, H p = none → Ext H H' → H' p = some (.tup xs) → Reps K false H' xs ds → ds = (match plainS z with | some d => [d] | none => []) → Q (.ref p) H'
theorem F_plain_of : FnR PR w K mg base CX0 10 (He.ga K "plain_of") (spPlain K) := by
  have F_is_word := F_is_word (base := base) T
  have F_number_of := F_number_of (base := base) T
  refine fnr (k := 9) T.F_plain_of sc_plain_of (fun vs H Q E h => ?_) (fun _ _ _ _ _ _ us hl => match us, hl with | [_], _ => rfl) (fun cdv A outer s H vs Q E hr h => ⟨_, (pss_cons (ps_if (pt_cmpR op_eq (pv 0) (pe_gs T.g_NOTHING rfl) (nomark _)) (pss_one (ps_ret (pe_tup (pa_cons pe_non pa_nil)))) pss_nil)
      (pss_cons (ps_if (pt_val (pe_callR F_is_word (hr.mono (by omega)) T.k_is_word T.g_is_word rfl pass0 (pa_cons (pv 0) pa_nil))) (pss_one (ps_ret (pe_tup (pa_cons (pv 0) pa_nil)))) pss_nil)
      (pss_cons (ps_set (i := 1) sc_plain_of.nd rfl (Or.inl rfl) (pe_callR F_number_of (hr.mono (by omega)) T.k_number_of T.g_number_of rfl pass0 (pa_cons (pv 0) pa_nil)))
      (pss_one (ps_ret (pe_ifExp (pt_cmpR op_isN (pv 1) pe_non (nomark _)) (pe_tup pa_nil) (pe_tup (pa_cons (pv 1) pa_nil)))))))), ?_⟩)
  · obtain ⟨z, rfl, _⟩ := h
    rfl
  · obtain ⟨z, rfl, hz, hn, q⟩ := h
    have fin : ∀ {H1 : Hp} {xs : List V} {ds : List D}, xs.length ≤ 1 → Ext H H1 → (∀ H2, Reps K false H2 xs ds) → ds = (match plainS z with | some d => [d] | none => []) → xs.length ≤ sizeLine ∧ ∀ p, H1 p = none → Q (.ref p) (upd H1 p (.tup xs)) := fun {H1 xs ds} hl e hr hd =>
      ⟨by have : sizeLine = 16777216 := sizeLine_eq; omega, fun p hp => q p _ xs ds (ext_none e hp) (e.upd' hp) upd_same (hr _) hd⟩
    dsimp only [gCons, gName, gNil, gSub, gTup, gFld, iSeq, iList, iStr, iTup, iRng1, tAnd, tAndT, tAndV, tAsg, tAsg2, tAug, tB, tBM, tBM0, tBreak, tC, tCB, tCallR, tChain, tCons, tDrop, tFld, sFld, sFldAug, tFor_eq, tLc2_eq, tIf, tIfS, tIsN, tLc_eq, tLst, tM0, tM1, tMakeR, tMethR, tNever, tNm, tXk, tCallKw, tNext, tNil, tNoPart, tNot, tNotN, tNotT, tNotV, tOp, tOr, tOrT, tOrV, tOst, tPar, tPart, tRet, tRetN, tRg1, tSeq, tSl, tStar, tTest, tThen, tTup, tUn, C8.tCut, tVar]
    refine ⟨_, rfl, rfl, _, rfl, ?_⟩
    split
    · rename_i h
      have hz' : z = "-" := by have := of_decide_eq_true h; injection this
      exact fin (ds := [.non]) (by simp) Ext.rfl' (fun _ => .one .non) (by rw [plainS, if_pos hz'])
    · rename_i h
      have hz' : ¬ z = "-" := fun e => h (decide_eq_true (by rw [e]))
      refine ⟨_, rfl, _, false, _, rfl, .str, fun z' e => by cases e; exact hz, fun H' e1 => ⟨_, rfl, ?_⟩⟩
      split
      · rename_i hw
        exact ⟨_, rfl, fin (ds := [.str z]) (by simp) e1 (fun _ => .one .str) (by rw [plainS, if_neg hz', if_pos (show isWordS z = true from hw)])⟩
      · rename_i hw
        have hw' : ¬ isWordS z = true := hw
        refine ⟨_, rfl, z, rfl, hz, hn, fun H2 e2 => ⟨_, rfl, rfl, ?_⟩⟩
        cases hk : numS z with
        | none => exact ⟨true, congrArg V.bl (decide_eq_true rfl), fin (ds := []) (by simp) (e1.trans e2) (fun _ => .nil) (by rw [plainS, if_neg hz', if_neg hw', hk]; rfl)⟩
        | some n => exact ⟨false, congrArg V.bl (decide_eq_false fun z => by cases z), _, rfl, fin (ds := [.int n]) (by simp) (e1.trans e2) (fun _ => .one .int) (by rw [plainS, if_neg hz', if_neg hw', hk]; rfl)⟩
end
end K94
set_option maxRecDepth 100000
set_option maxHeartbeats 4000000
/-! Reading: stop, begin, put, end. -/
namespace K94
open PySem PySem.Spec PyProof.Rows L2 L2.Q Pp StX L2.SupX
theorem sc_Reading___init__ : FnScope [("self" : Str), ("words" : Str), ("line" : Str), ("first" : Str)] [("self" : Str), ("words" : Str), ("line" : Str), ("first" : Str)] (defScope s_Reading_init) := ⟨rfl, rfl, rfl, by decide +kernel, rfl, by decide +kernel, by decide +kernel⟩
theorem sc_Reading_stop : FnScope [("self" : Str)] [("self" : Str)] (defScope s_Reading_stop) := ⟨rfl, rfl, rfl, by decide +kernel, rfl, by decide +kernel, by decide +kernel⟩
theorem sc_Reading_begin : FnScope [("self" : Str)] [("self" : Str)] (defScope s_Reading_begin) := ⟨rfl, rfl, rfl, by decide +kernel, rfl, by decide +kernel, by decide +kernel⟩
theorem sc_Reading_put : FnScope [("self" : Str), ("value" : Str)] [("self" : Str), ("value" : Str)] (defScope s_Reading_put) := ⟨rfl, rfl, rfl, by decide +kernel, rfl, by decide +kernel, by decide +kernel⟩
theorem sc_Reading_end : FnScope [("self" : Str), ("last" : Str)] [("self" : Str)] (defScope s_Reading_end) := ⟨rfl, rfl, rfl, by decide +kernel, rfl, by decide +kernel, by decide +kernel⟩
/-- a frame: its kind, what it was told -/
abbrev Frame := Option PK × List D
abbrev rdF (wl : Addr) (line : Int) (pt : Nat) (ba : Addr) : List (Str × V) := [("words", .ref wl), ("line", .int line), ("at", .int (pt : Int)), ("begun", .ref ba)]
/-- the open objects, the top first -/
inductive Frs (K : PySem.W.Frag) (H : Hp) : List V → List Frame → List Addr → Prop where
  | nil : Frs K H [] [] []
  | cons {o dx t : Addr} {c : Option PK} {vs : List V} {ds : List D} {os : List V} {fr : List Frame} {ts : List Addr} (e : H o = some (.ins (He.ga K "Opened") dx (opF (wOp c) t))) (e2 : H t = some (.lst vs)) (r : Reps K false H vs ds) (k : ∀ k, c = some k → k.size.isSome = true)
      (dp : depL ds + (fr.length + 1) ≤ 20) (tl : Frs K H os fr ts) : Frs K H (.ref o :: os) ((c, ds) :: fr) (t :: ts)
theorem Frs.keep {K : PySem.W.Frag} {H H' : Hp} (h1 : ImmGr H H') (h2 : ∀ b dx c t, H b = some (.ins (He.ga K "Opened") dx (opF (wOp c) t)) → H' b = some (.ins (He.ga K "Opened") dx (opF (wOp c) t))) : ∀ {os : List V} {fr : List Frame} {ts : List Addr}, Frs K H os fr ts → (∀ t ∈ ts, ∀ xs, H t = some (.lst xs) → H' t = some (.lst xs)) → Frs K H' os fr ts
  | _, _, _, .nil, _ => .nil
  | _, _, _, .cons e e2 r k dp tl, h3 => .cons (h2 _ _ _ _ e) (h3 _ List.mem_cons_self _ e2) (r.imm h1) k dp (tl.keep h1 h2 fun t ht => h3 t (List.mem_cons_of_mem _ ht))
theorem Frs.ext {K : PySem.W.Frag} {H H' : Hp} {os : List V} {fr : List Frame} {ts : List Addr} (f : Frs K H os fr ts) (e : Ext H H') : Frs K H' os fr ts := f.keep (.of e) (fun _ _ _ _ h => e _ _ h) fun _ _ _ h => e _ _ h
theorem Frs.len {K : PySem.W.Frag} {H : Hp} : ∀ {os : List V} {fr : List Frame} {ts : List Addr}, Frs K H os fr ts → os.length = fr.length
  | _, _, _, .nil => rfl
  | _, _, _, .cons _ _ _ _ _ tl => by simp [tl.len]
/-- the reader's state; F: what nobody writes -/
structure Rd (K : PySem.W.Frag) (F : Addr → HO → Prop) (words : List Str) (line : Int) (H : Hp) (ra : Addr) (pt : Nat) (fr : List Frame) : Prop where
  ex : ∃ dx wl ba os ts, H ra = some (.ins (He.ga K "Reading") dx (rdF wl line pt ba)) ∧ F wl (.lst (words.map V.str)) ∧ H ba = some (.lst os.reverse) ∧ Frs K H os fr ts ∧ ts.Nodup ∧ ba ∉ ts ∧ ∀ b o, F b o → b ≠ ra ∧ b ≠ ba ∧ b ∉ ts
  fz : ∀ b o, F b o → H b = some o
  tol : ∀ f ∈ fr, f.2.length ≤ pt
  wn : words.length ≤ 4000
theorem Rd.ext {K : PySem.W.Frag} {F : Addr → HO → Prop} {words : List Str} {line : Int} {H H' : Hp} {ra : Addr} {pt : Nat} {fr : List Frame} (R : Rd K F words line H ra pt fr) (e : Ext H H') : Rd K F words line H' ra pt fr := by
  obtain ⟨dx, wl, ba, os, ts, h1, h2, h3, h4, h5, h6, h7⟩ := R.ex
  exact ⟨⟨dx, wl, ba, os, ts, e _ _ h1, h2, e _ _ h3, h4.ext e, h5, h6, h7⟩, fun b o h => e _ _ (R.fz b o h), R.tol, R.wn⟩
section
variable {w : World} {K : PySem.W.Frag} {mg : Str → Option Value} {base : Heap} (T : Txt w K mg)
include T
/-- BadText at p is taken -/
def ErrT (K : PySem.W.Frag) (F : Addr → HO → Prop) (line : Int) (p : Nat) (E : XK) : Prop := ∀ dd H', (∀ b o, F b o → H' b = some o) → (∀ o, ¬ F dd o) → H' dd = some (.xd [("word", .int (p : Int)), ("line", .int line)]) → E (Value.ref (He.ga K "BadText")) (some dd) H'
def spStop (K : PySem.W.Frag) : Sp := fun vs H Q E => ∃ ra F words line pt fr, vs = [.ref ra] ∧ Rd K F words line H ra pt fr ∧ ErrT K F line pt E
theorem F_Reading_stop : FnR PR w K mg base (L2.CX PR w) 10 (He.ma K (He.ga K "Reading") "stop") (spStop K) := by
  have F_BadText := F_BadText (base := base) T
  refine fnrx (k := 9) T.F_Reading_stop sc_Reading_stop (fun vs H Q E h => ?_) (fun _ _ _ _ _ _ us hl => match us, hl with | [_], _ => rfl) (fun cdv A outer s H vs Q E hr h => ⟨_, (pss_one (ps_raise rfl (takes_of rfl rfl rfl rfl) (SupX.pmk_oexR T.oex_BadText.1 T.oex_BadText.2.1 T.oex_BadText.2.2.1 F_BadText (hr.mono (by omega)) pass0 rfl T.g_BadText (pa_cons (pe_fld (pv 0) rfl) (pa_cons (pe_fld (pv 0) rfl) pa_nil))))), ?_⟩)
  · obtain ⟨ra, F, words, line, pt, fr, rfl, _⟩ := h
    rfl
  · obtain ⟨ra, F, words, line, pt, fr, rfl, R, qE⟩ := h
    obtain ⟨dx, wl, ba, os, ts, h1, h2, h3, h4, h5, h6, h7⟩ := R.ex
    refine ⟨.ref ra, rfl, ra, _, dx, _, _, rfl, h1, T.c_Reading, T.na_Reading_line, rfl, .ref ra, rfl, ra, _, dx, _, _, rfl, h1, T.c_Reading, T.na_Reading_at, rfl, by simp, fun a ha => ⟨a, _, _, rfl, upd_same, fun d hd hda => ?_⟩⟩
    rw [upd_ne hda] at hd
    refine ⟨rfl, d, _, by rw [upd_ne (Ne.symm hda), upd_same], upd_same, hd, qE d _ (fun b o hF => ?_) (fun o hF => ?_) upd_same⟩
    · have e := R.fz b o hF
      have n1 : b ≠ a := ne_of_none e ha
      have n2 : b ≠ d := ne_of_none e hd
      rw [upd_ne n2, del_ne n1, upd_ne n2, upd_ne n1, upd_ne n2, upd_ne n1]
      exact e
    · have e := R.fz d o hF
      rw [hd] at e
      cases e
/-! ### writes -/
omit T in
theorem immGr_ra {H : Hp} {ra dx : Addr} {fs : List (Str × V)} {o : HO} (h : H ra = some (.ins (He.ga K "Reading") dx fs)) (n : fs.lookup ("parts" : Str) = none) : ImmGr H (upd H ra o) := (immL_ins h n).imm
omit T in
/-- a field of the reader is written -/
theorem Rd.at {F : Addr → HO → Prop} {words : List Str} {line : Int} {H : Hp} {ra : Addr} {pt pt' : Nat} {fr : List Frame} {dx wl ba : Addr} {os : List V} {ts : List Addr} (fz : ∀ b o, F b o → H b = some o) (h1 : H ra = some (.ins (He.ga K "Reading") dx (rdF wl line pt ba))) (h2 : F wl (.lst (words.map V.str))) (h3 : H ba = some (.lst os.reverse)) (h4 : Frs K H os fr ts) (h5 : ts.Nodup) (h6 : ba ∉ ts) (h7 : ∀ b o, F b o → b ≠ ra ∧ b ≠ ba ∧ b ∉ ts) (tol : ∀ f ∈ fr, f.2.length ≤ pt') (wn : words.length ≤ 4000) :
    Rd K F words line (upd H ra (.ins (He.ga K "Reading") dx (rdF wl line pt' ba))) ra pt' fr := by
  have nb : ba ≠ ra := fun z => by rw [z, h1] at h3; cases h3
  refine ⟨⟨dx, wl, ba, os, ts, upd_same, h2, by rw [upd_ne nb]; exact h3, h4.keep (immGr_ra h1 rfl) (fun b dx' c t e => ?_) (fun t ht xs e => ?_), h5, h6, h7⟩, fun b o hF => by rw [upd_ne (h7 b o hF).1]; exact fz b o hF, tol, wn⟩
  · have : b ≠ ra := fun z => by
      rw [z, h1] at e
      injection e with e
      injection e with _ _ e3
      have := congrArg List.length e3
      simp at this
    rw [upd_ne this]
    exact e
  · have : t ≠ ra := fun z => by rw [z, h1] at e; cases e
    rw [upd_ne this]
    exact e
omit T in
/-- a list that no frame of those knows is written -/
theorem Frs.lst {H : Hp} {l : Addr} {xs ys : List V} {os : List V} {fr : List Frame} {ts : List Addr} (f : Frs K H os fr ts) (h : H l = some (.lst xs)) (n : l ∉ ts) : Frs K (upd H l (.lst ys)) os fr ts :=
  f.keep (imm_lst h) (fun b dx c t e => by rw [upd_ne (fun z => by rw [z, h] at e; cases e)]; exact e) fun t ht zs e => by rw [upd_ne (fun z => n (by rw [← z]; exact ht))]; exact e
/-! ### put -/
def spPut (K : PySem.W.Frag) : Sp := fun vs H Q E => ∃ ra F words line pt c ds fr v d, vs = [.ref ra, v] ∧ Rd K F words line H ra pt ((c, ds) :: fr) ∧ pt < words.length ∧ Rep K false H v d ∧ d.dep + (fr.length + 1) ≤ 20 ∧ (full c ds.length = true → ErrT K F line pt E) ∧
  (full c ds.length = false → ∀ H', Rd K F words line H' ra (pt + 1) ((c, ds ++ [d]) :: fr) → Q .non H')
theorem F_Reading_put : FnR PR w K mg base (L2.CX PR w) 15 (He.ma K (He.ga K "Reading") "put") (spPut K) := by
  have F_Reading_stop := F_Reading_stop (base := base) T
  have F_Opened_is_full := F_Opened_is_full (base := base) T
  refine fnrx (k := 14) T.F_Reading_put sc_Reading_put (fun vs H Q E h => ?_) (fun _ _ _ _ _ _ us hl => match us, hl with | [_, _], _ => rfl) (fun cdv A outer s H vs Q E hr h => ⟨_, (pss_cons (ps_if (pt_val (pe_methR0 (pe_ix ix_list (pe_fld (pv 0) rfl) (pe_un un_neg pe_int) (fun _ _ => rfl)) T.c_Opened T.m_Opened_is_full F_Opened_is_full (hr.mono (by omega)) pass0)) (pss_one (ps_expr (pe_methR0 (pv 0) T.c_Reading T.m_Reading_stop F_Reading_stop (hr.mono (by omega)) (passes_call (takes_of rfl rfl rfl rfl) (fun _ _ _ _ h => h))))) pss_nil)
      (pss_cons (ps_expr (pe_bm PySem.F.plainAttrs_list PySem.F.slot_list_append PySem.F.type_list_append mt_append (pe_fld (pe_ix ix_list (pe_fld (pv 0) rfl) (pe_un un_neg pe_int) (fun _ _ => rfl)) rfl) (pa_cons (pv 1) pa_nil)))
      (pss_one (ps_fldaug (pv 0) pe_int in_add)))), ?_⟩)
  · obtain ⟨ra, F, words, line, pt, c, ds, fr, v, d, rfl, _⟩ := h
    rfl
  · obtain ⟨ra, F, words, line, pt, c, ds, fr, v, d, rfl, R, hpt, rv, hd, qE, q⟩ := h
    have R0 := R
    obtain ⟨dx, wl, ba, os, ts, h1, h2, h3, h4, h5, h6, h7⟩ := R.ex
    cases h4 with
    | @cons o dxo t _ xs _ os _ ts e e2 r hk dp tl =>
    dsimp only [gCons, gName, gNil, gSub, gTup, gFld, iSeq, iList, iStr, iTup, iRng1, tAnd, tAndT, tAndV, tAsg, tAsg2, tAug, tB, tBM, tBM0, tBreak, tC, tCB, tCallR, tChain, tCons, tDrop, tFld, sFld, sFldAug, tFor_eq, tLc2_eq, tIf, tIfS, tIsN, tLc_eq, tLst, tM0, tM1, tMakeR, tMethR, tNever, tNm, tXk, tCallKw, tNext, tNil, tNoPart, tNot, tNotN, tNotT, tNotV, tOp, tOr, tOrT, tOrV, tOst, tPar, tPart, tRet, tRetN, tRg1, tSeq, tSl, tStar, tTest, tThen, tTup, tUn, C8.tCut, tVar]
    have hlen := r.length
    have hla : atI (V.ref o :: os).reverse (-1) = some (V.ref o) := by rw [List.reverse_cons]; exact atI_last _ _
    refine ⟨.ref ra, rfl, ra, _, dx, _, _, rfl, h1, T.c_Reading, T.na_Reading_begun, rfl, 1, rfl, ba, _, -1, .ref o, rfl, rfl, .of h3, hla, o, dxo, _, rfl, e, rfl, o, dxo, t, c, xs, rfl, e, e2, hk, _, rfl, ?_⟩
    rw [hlen]
    split
    · rename_i h
      exact ⟨.ref ra, rfl, ra, dx, _, rfl, h1, rfl, ra, F, words, line, pt, _, rfl, R0, qE h⟩
    · rename_i h
      have h' : full c ds.length = false := by simpa using h
      have ntr : t ≠ ra := fun z => by rw [z, h1] at e2; cases e2
      have nto : o ≠ t := fun z => by rw [z, e2] at e; cases e
      have ntb : t ≠ ba := fun z => h6 (by rw [z]; exact List.mem_cons_self)
      have hml := R.tol _ List.mem_cons_self
      refine ⟨.ref ra, rfl, ra, _, dx, _, _, rfl, h1, T.c_Reading, T.na_Reading_begun, rfl, 1, rfl, ba, _, -1, .ref o, rfl, rfl, .of h3, hla, o, _, dxo, _, _, rfl, e, T.c_Opened, T.na_Opened_told, rfl, ?_, v, rfl, t, xs, v, rfl, rfl, e2, ?_, .ref ra, rfl, ra, _, dx, _, _, rfl, by rw [upd_ne (Ne.symm ntr)]; exact h1, T.c_Reading, T.na_Reading_at, rfl, ?_⟩
      · exact .inl ⟨rfl, _, .of e2⟩
      · have : sizeLine = 16777216 := sizeLine_eq
        have := R.wn
        simp at hml
        omega
      · refine ⟨_, 1, rfl, rfl, dx, _, by rw [upd_ne (Ne.symm ntr)]; exact h1, by simp, ?_⟩
        have ep : putF ("at" : Str) (.int ((pt : Int) + 1)) (rdF wl line pt ba) = rdF wl line (pt + 1) ba := rfl
        rw [ep]
        have nts : t ∉ ts := (List.nodup_cons.mp h5).1
        refine q h' _ (Rd.at (os := .ref o :: os) (ts := t :: ts) (fun b o' hF => ?_) (by rw [upd_ne (Ne.symm ntr)]; exact h1) h2 (by rw [upd_ne (Ne.symm ntb)]; exact h3) (.cons (by rw [upd_ne nto]; exact e) upd_same ((r.append (.one rv)).imm (imm_lst e2)) hk ?_ (tl.lst e2 nts)) h5 h6 h7 (fun f hf => ?_) R.wn)
        · rw [upd_ne (fun z => (h7 b o' hF).2.2 (by rw [z]; exact List.mem_cons_self))]
          exact R.fz b o' hF
        · rw [depL_append]
          simp only [depL]
          omega
        · rcases List.mem_cons.mp hf with z | hf
          · subst z
            simp at hml ⊢
            exact hml
          · exact Nat.le_succ_of_le (R.tol f (List.mem_cons_of_mem _ hf))
/-! ### begin -/
omit T in
theorem Frs.le {H : Hp} {os : List V} {fr : List Frame} {ts : List Addr} (f : Frs K H os fr ts) : fr.length ≤ 20 := by
  cases f with
  | nil => simp
  | cons _ _ _ _ dp _ => simp; omega
omit T in
theorem Frs.alloc {H : Hp} : ∀ {os : List V} {fr : List Frame} {ts : List Addr}, Frs K H os fr ts → ∀ t ∈ ts, ∃ xs, H t = some (.lst xs)
  | _, _, _, .cons e e2 r k dp tl, t, ht => by
    rcases List.mem_cons.mp ht with z | ht
    · subst z; exact ⟨_, e2⟩
    · exact tl.alloc t ht
omit T in
theorem Rd.push {F : Addr → HO → Prop} {words : List Str} {line : Int} {H H' : Hp} {ra : Addr} {pt pt' : Nat} {fr : List Frame} {dx wl ba : Addr} {os : List V} {ts : List Addr} {x dxx t : Addr} {c : Option PK} (R : Rd K F words line H ra pt fr) (h1 : H ra = some (.ins (He.ga K "Reading") dx (rdF wl line pt ba))) (h2 : F wl (.lst (words.map V.str))) (h3 : H ba = some (.lst os.reverse)) (h4 : Frs K H os fr ts) (h5 : ts.Nodup) (h6 : ba ∉ ts) (h7 : ∀ b o, F b o → b ≠ ra ∧ b ≠ ba ∧ b ∉ ts)
    (e : Ext H H') (hx : H' x = some (.ins (He.ga K "Opened") dxx (opF (wOp c) t))) (ht : H' t = some (.lst [])) (hn : H t = none) (hk : ∀ k, c = some k → k.size.isSome = true) (hl : fr.length < 20) (hp : pt ≤ pt') :
    Rd K F words line (upd (upd H' ba (.lst (os.reverse ++ [.ref x]))) ra (.ins (He.ga K "Reading") dx (rdF wl line pt' ba))) ra pt' ((c, []) :: fr) := by
  have nb : ba ≠ ra := fun z => by rw [z, h1] at h3; cases h3
  have tb : t ≠ ba := fun z => by rw [z, h3] at hn; cases hn
  have xb : x ≠ ba := fun z => by rw [z, e _ _ h3] at hx; cases hx
  refine Rd.at (os := .ref x :: os) (ts := t :: ts) (pt := pt) (fun b o hF => ?_) (by rw [upd_ne (Ne.symm nb)]; exact e _ _ h1) h2 (by rw [upd_same, List.reverse_cons]) (.cons (by rw [upd_ne xb]; exact hx) (by rw [upd_ne tb]; exact ht) .nil hk (by simp [depL]; omega) ((h4.ext e).lst (e _ _ h3) h6)) (List.nodup_cons.mpr ⟨fun m => ?_, h5⟩) (fun m => ?_) (fun b o hF => ⟨(h7 b o hF).1, (h7 b o hF).2.1, fun m => ?_⟩) (fun f hf => ?_) R.wn
  · rw [upd_ne (h7 b o hF).2.1]
    exact e _ _ (R.fz b o hF)
  · obtain ⟨xs, z⟩ := h4.alloc t m
    rw [z] at hn; cases hn
  · rcases List.mem_cons.mp m with z | m
    · exact tb z.symm
    · exact h6 m
  · rcases List.mem_cons.mp m with z | m
    · have := R.fz b o hF
      rw [z, hn] at this
      cases this
    · exact (h7 b o hF).2.2 m
  · rcases List.mem_cons.mp hf with z | hf
    · subst z; simp
    · exact Nat.le_trans (R.tol f hf) hp
/-- what begin does -/
def kindW (z : Str) : Option PK := if z = "family" then some .family else if z = "holds" then some .holds else if z = "breaks" then some .breaks else if z = "guards" then some .guards else if z = "checked" then some .checked else if z = "broken" then some .broken else if z = "alike" then some .alike else if z = "unlike" then some .unlike else if z = "stays" then some .stays else if z = "spoilt" then some .spoilt else if z = "code" then some .code else none
omit T in
theorem kindW_word {z : Str} {c : PK} (h : kindW z = some c) : z = c.word ∧ c.size.isSome = true := by
  unfold kindW at h
  repeat' split at h
  all_goals first | (cases h; done) | (cases h; exact ⟨by assumption, rfl⟩)
omit T in
theorem kindW_key (z : Str) : decide (z ∈ Txt.kv_SIZES.map (·.1)) = (kindW z).isSome := by
  have h : z ∈ Txt.kv_SIZES.map (·.1) ↔ (kindW z).isSome = true := by
    constructor
    · intro h
      simp only [Txt.kv_SIZES, List.map_cons, List.map_nil, List.mem_cons, List.mem_nil_iff, or_false] at h
      rcases h with h | h | h | h | h | h | h | h | h | h | h <;> subst h <;> decide +kernel
    · intro h
      obtain ⟨c, hc⟩ := Option.isSome_iff_exists.mp h
      obtain ⟨e, hk⟩ := kindW_word hc
      subst e
      have := c.kind_word
      rw [hk] at this
      exact of_decide_eq_true this.symm
  cases hk : (kindW z).isSome with
  | true => exact decide_eq_true (h.mpr hk)
  | false => exact decide_eq_false fun m => by rw [h.mp m] at hk; cases hk
def beginM (words : List Str) (pt n : Nat) : Except Nat (Option PK × Nat) :=
  if n = 20 then .error pt else if words[pt]? = some ("(" : Str) then .ok (none, pt + 1) else match words[pt + 1]? with
    | none => .error (pt + 1)
    | some z => match kindW z with
      | none => .error (pt + 1)
      | some c => .ok (some c, pt + 2)
def spBegin (K : PySem.W.Frag) : Sp := fun vs H Q E => ∃ ra F words line pt fr, vs = [.ref ra] ∧ Rd K F words line H ra pt fr ∧ pt < words.length ∧ (∀ p, beginM words pt fr.length = .error p → ErrT K F line p E) ∧
  (∀ c p, beginM words pt fr.length = .ok (c, p) → ∀ H', Rd K F words line H' ra p ((c, []) :: fr) → Q .non H')
theorem F_Reading_begin : FnR PR w K mg base (L2.CX PR w) 15 (He.ma K (He.ga K "Reading") "begin") (spBegin K) := by
  have F_Reading_stop := F_Reading_stop (base := base) T
  have F_Opened := F_Opened_init (base := base) T
  refine fnrx (k := 14) T.F_Reading_begin sc_Reading_begin (fun vs H Q E h => ?_) (fun _ _ _ _ _ _ us hl => match us, hl with | [_], _ => rfl) (fun cdv A outer s H vs Q E hr h => ⟨_, (pss_cons (ps_if (pt_cmpR op_eq (pe_callB call_len (by rfl) T.n_len PySem.boot_len (pa_cons (pe_fld (pv 0) rfl) pa_nil)) (pe_gi T.g_MOST_DEEP rfl) (nomark _)) (pss_one (ps_expr (pe_methR0 (pv 0) T.c_Reading T.m_Reading_stop F_Reading_stop (hr.mono (by omega)) (passes_call (takes_of rfl rfl rfl rfl) (fun _ _ _ _ h => h))))) pss_nil)
      (pss_cons (ps_if (pt_cmpR op_eq (pe_ix ix_list (pe_fld (pv 0) rfl) (pe_fld (pv 0) rfl) (fun _ _ => rfl)) pe_str (nomark _)) (pss_one (ps_expr (pe_bm PySem.F.plainAttrs_list PySem.F.slot_list_append PySem.F.type_list_append mt_append (pe_fld (pv 0) rfl) (pa_cons (pe_makeR T.mk_Opened F_Opened (hr.mono (by omega)) rfl T.g_Opened pass0 (pa_cons pe_non pa_nil)) pa_nil)))) (pss_cons (ps_fldaug (pv 0) pe_int in_add)
      (pss_cons (ps_if (PW.pt (pw_or (pt_cmpR op_eq (pe_fld (pv 0) rfl) (pe_callB call_len (by rfl) T.n_len PySem.boot_len (pa_cons (pe_fld (pv 0) rfl) pa_nil)) (nomark _)) (pw_or1 (pt_cmpR (HeX.op_notIn_tab T.tb_SIZES) (pe_ix ix_list (pe_fld (pv 0) rfl) (pe_fld (pv 0) rfl) (fun _ _ => rfl)) (pe_gr T.g_SIZES rfl) rfl)))) (pss_one (ps_expr (pe_methR0 (pv 0) T.c_Reading T.m_Reading_stop F_Reading_stop (hr.mono (by omega)) (passes_call (takes_of rfl rfl rfl rfl) (fun _ _ _ _ h => h))))) pss_nil)
      (pss_one (ps_expr (pe_bm PySem.F.plainAttrs_list PySem.F.slot_list_append PySem.F.type_list_append mt_append (pe_fld (pv 0) rfl) (pa_cons (pe_makeR T.mk_Opened F_Opened (hr.mono (by omega)) rfl T.g_Opened pass0 (pa_cons (pe_ix ix_list (pe_fld (pv 0) rfl) (pe_fld (pv 0) rfl) (fun _ _ => rfl)) pa_nil)) pa_nil)))))))
      (pss_one (ps_fldaug (pv 0) pe_int in_add)))), ?_⟩)
  · obtain ⟨ra, F, words, line, pt, fr, rfl, _⟩ := h
    rfl
  · obtain ⟨ra, F, words, line, pt, fr, rfl, R, hpt, qE, q⟩ := h
    have R0 := R
    obtain ⟨dx, wl, ba, os, ts, h1, h2, h3, h4, h5, h6, h7⟩ := R.ex
    have hw : atI (words.map V.str) (pt : Int) = some (.str words[pt]) := atI_nat (by simp [hpt])
    have ho : os.reverse.length = fr.length := by rw [List.length_reverse, h4.len]
    have hwn := R.wn
    have nb : ba ≠ ra := fun z => by rw [z, h1] at h3; cases h3
    dsimp only [gCons, gName, gNil, gSub, gTup, gFld, iSeq, iList, iStr, iTup, iRng1, tAnd, tAndT, tAndV, tAsg, tAsg2, tAug, tB, tBM, tBM0, tBreak, tC, tCB, tCallR, tChain, tCons, tDrop, tFld, sFld, sFldAug, tFor_eq, tLc2_eq, tIf, tIfS, tIsN, tLc_eq, tLst, tM0, tM1, tMakeR, tMethR, tNever, tNm, tXk, tCallKw, tNext, tNil, tNoPart, tNot, tNotN, tNotT, tNotV, tOp, tOr, tOrT, tOrV, tOst, tPar, tPart, tRet, tRetN, tRg1, tSeq, tSl, tStar, tTest, tThen, tTup, tUn, C8.tCut, tVar]
    refine ⟨.ref ra, rfl, ra, _, dx, _, _, rfl, h1, T.c_Reading, T.na_Reading_begun, rfl, .ref ba, _, rfl, .inl ⟨os.reverse, .of h3, rfl⟩, rfl, _, rfl, ?_⟩
    rw [ho]
    split
    · rename_i h
      have h' : fr.length = 20 := by
        have := of_decide_eq_true h
        injection this with this
        omega
      exact ⟨.ref ra, rfl, ra, dx, _, rfl, h1, rfl, ra, F, words, line, pt, fr, rfl, R0, qE pt (by unfold beginM; rw [if_pos h'])⟩
    · rename_i h
      have h' : ¬ fr.length = 20 := fun e => h (decide_eq_true (by rw [e]; rfl))
      have hlt : fr.length < 20 := by have := h4.le; omega
      refine ⟨.ref ra, rfl, ra, _, dx, _, _, rfl, h1, T.c_Reading, T.na_Reading_words, rfl, .ref ra, rfl, ra, _, dx, _, _, rfl, h1, T.c_Reading, T.na_Reading_at, rfl, wl, _, pt, _, rfl, rfl, .of (R.fz _ _ h2), hw, rfl, _, rfl, ?_⟩
      split
      · rename_i h8
        have h9 : words[pt]? = some ("(" : Str) := by
          have := of_decide_eq_true h8
          injection this with this
          rw [List.getElem?_eq_getElem hpt, this]
        have bm : beginM words pt fr.length = .ok (none, pt + 1) := by unfold beginM; rw [if_neg h', if_pos h9]
        refine ⟨.ref ra, rfl, ra, _, dx, _, _, rfl, h1, T.c_Reading, T.na_Reading_begun, rfl, .inl ⟨rfl, _, .of h3⟩, ?_⟩
        intro x dxx hx hdx hne
        have eX : Ext H (upd (upd H dxx (.own x)) x (.ins (He.ga K "Opened") dxx [])) := Ext.upd' (Ext.upd hdx) (by rw [upd_ne (Ne.symm hne)]; exact hx)
        refine ⟨x, dxx, .non, rfl, upd_same, fun t H' b ht htx hx' ht' => ⟨rfl, ?_⟩⟩
        have e' : Ext H H' := fun b' o' z => b b' o' (ne_of_none z hx) (eX _ _ z)
        have hn : H t = none := ext_none eX ht
        refine ⟨ba, _, .ref x, rfl, rfl, e' _ _ h3, by rw [ho, sizeLine_eq]; omega, .ref ra, rfl, ra, _, dx, _, _, rfl, by rw [upd_ne (Ne.symm nb)]; exact e' _ _ h1, T.c_Reading, T.na_Reading_at, rfl, _, 1, rfl, rfl, dx, _, by rw [upd_ne (Ne.symm nb)]; exact e' _ _ h1, by simp, ?_⟩
        have ep : putF ("at" : Str) (.int ((pt : Int) + 1)) (rdF wl line pt ba) = rdF wl line (pt + 1) ba := rfl
        rw [ep]
        exact q none (pt + 1) bm _ (Rd.push (c := none) R h1 h2 h3 h4 h5 h6 h7 e' hx' ht' hn (fun k z => by cases z) hlt (Nat.le_succ _))
      · rename_i h8
        have h9 : ¬ words[pt]? = some ("(" : Str) := fun e => h8 (decide_eq_true (by
          rw [List.getElem?_eq_getElem hpt] at e
          rw [Option.some.inj e]))
        have ep : putF ("at" : Str) (.int ((pt : Int) + 1)) (rdF wl line pt ba) = rdF wl line (pt + 1) ba := rfl
        have R1 : Rd K F words line (upd H ra (.ins (He.ga K "Reading") dx (rdF wl line (pt + 1) ba))) ra (pt + 1) fr := Rd.at R.fz h1 h2 h3 h4 h5 h6 h7 (fun f hf => Nat.le_succ_of_le (R.tol f hf)) R.wn
        refine ⟨.ref ra, rfl, ra, _, dx, _, _, rfl, h1, T.c_Reading, T.na_Reading_at, rfl, _, 1, rfl, rfl, dx, _, h1, by simp, ?_⟩
        rw [ep]
        have i1 := immGr_ra (o := .ins (He.ga K "Reading") dx (rdF wl line (pt + 1) ba)) h1 rfl
        have hb1 : upd H ra (.ins (He.ga K "Reading") dx (rdF wl line (pt + 1) ba)) ba = some (.lst os.reverse) := by rw [upd_ne nb]; exact h3
        have h41 := h4.keep i1 (H' := upd H ra (.ins (He.ga K "Reading") dx (rdF wl line (pt + 1) ba))) (fun b dx' c t e => by
          have : b ≠ ra := fun z => by
            rw [z, h1] at e
            injection e with e
            injection e with _ _ e3
            have := congrArg List.length e3
            simp at this
          rw [upd_ne this]; exact e) (fun t ht xs e => by rw [upd_ne (fun z => by rw [z, h1] at e; cases e)]; exact e)
        have h1' : upd H ra (.ins (He.ga K "Reading") dx (rdF wl line (pt + 1) ba)) ra = some (.ins (He.ga K "Reading") dx (rdF wl line (pt + 1) ba)) := upd_same
        generalize upd H ra (.ins (He.ga K "Reading") dx (rdF wl line (pt + 1) ba)) = H1 at R1 hb1 h41 h1' ⊢
        have hW := R1.fz _ _ h2
        refine ⟨.ref ra, rfl, ra, _, dx, _, _, rfl, h1', T.c_Reading, T.na_Reading_at, rfl, .ref ra, rfl, ra, _, dx, _, _, rfl, h1', T.c_Reading, T.na_Reading_words, rfl, .ref wl, _, rfl, .inl ⟨_, .of hW, rfl⟩, rfl, _, rfl, ?_⟩
        rw [List.length_map]
        split
        · rename_i h10
          have h11 : words[pt + 1]? = none := by
            have := of_decide_eq_true h10
            injection this with this
            exact List.getElem?_eq_none (by omega)
          exact ⟨.ref ra, rfl, ra, dx, _, rfl, h1', rfl, ra, F, words, line, pt + 1, fr, rfl, R1, qE _ (by unfold beginM; rw [if_neg h', if_neg h9, h11])⟩
        · rename_i h10
          have hp1 : pt + 1 < words.length := by
            have : ¬ (pt + 1) = words.length := fun e => h10 (decide_eq_true (by rw [e]))
            omega
          have hw1 : atI (words.map V.str) ((pt + 1 : Nat) : Int) = some (.str words[pt + 1]) := atI_nat (by simp [hp1])
          have hwe := List.getElem?_eq_getElem hp1
          refine ⟨.ref ra, rfl, ra, _, dx, _, _, rfl, h1', T.c_Reading, T.na_Reading_words, rfl, .ref ra, rfl, ra, _, dx, _, _, rfl, h1', T.c_Reading, T.na_Reading_at, rfl, wl, _, ((pt + 1 : Nat) : Int), _, rfl, rfl, .of hW, hw1, words[pt + 1], rfl, rfl, _, rfl, ?_⟩
          rw [kindW_key]
          cases hkw : kindW words[pt + 1] with
          | none => exact ⟨.ref ra, rfl, ra, dx, _, rfl, h1', rfl, ra, F, words, line, pt + 1, fr, rfl, R1, qE _ (by unfold beginM; rw [if_neg h', if_neg h9, hwe]; simp only [hkw])⟩
          | some c =>
            obtain ⟨hcw, hcs⟩ := kindW_word hkw
            have bm : beginM words pt fr.length = .ok (some c, pt + 2) := by unfold beginM; rw [if_neg h', if_neg h9, hwe]; simp only [hkw]
            refine ⟨.ref ra, rfl, ra, _, dx, _, _, rfl, h1', T.c_Reading, T.na_Reading_begun, rfl, .inl ⟨rfl, _, .of hb1⟩, .ref ra, rfl, ra, _, dx, _, _, rfl, h1', T.c_Reading, T.na_Reading_words, rfl, .ref ra, rfl, ra, _, dx, _, _, rfl, h1', T.c_Reading, T.na_Reading_at, rfl, wl, _, ((pt + 1 : Nat) : Int), _, rfl, rfl, .of hW, hw1, ?_⟩
            intro x dxx hx hdx hne
            have eX : Ext H1 (upd (upd H1 dxx (.own x)) x (.ins (He.ga K "Opened") dxx [])) := Ext.upd' (Ext.upd hdx) (by rw [upd_ne (Ne.symm hne)]; exact hx)
            refine ⟨x, dxx, _, rfl, upd_same, fun t H' b ht htx hx' ht' => ⟨rfl, ?_⟩⟩
            have e' : Ext H1 H' := fun b' o' z => b b' o' (ne_of_none z hx) (eX _ _ z)
            have hn : H1 t = none := ext_none eX ht
            rw [hcw] at hx'
            refine ⟨ba, _, .ref x, rfl, rfl, e' _ _ hb1, by rw [ho, sizeLine_eq]; omega, .ref ra, rfl, ra, _, dx, _, _, rfl, by rw [upd_ne (Ne.symm nb)]; exact e' _ _ h1', T.c_Reading, T.na_Reading_at, rfl, _, 1, rfl, rfl, dx, _, by rw [upd_ne (Ne.symm nb)]; exact e' _ _ h1', by simp, ?_⟩
            have ep : putF ("at" : Str) (.int (((pt + 1 : Nat) : Int) + 1)) (rdF wl line (pt + 1) ba) = rdF wl line (pt + 2) ba := rfl
            rw [ep]
            exact q (some c) (pt + 2) bm _ (Rd.push (c := some c) R1 h1' h2 hb1 h41 h5 h6 h7 e' hx' ht' hn (fun k z => by cases z; exact hcs) hlt (Nat.le_succ _))
/-! ### end -/
def closing (c : Option PK) : Str := match c with
  | none => ")"
  | some _ => "]"
def badEnd (words : List Str) (pt : Nat) (c : Option PK) (n : Nat) : Bool := !decide (words[pt]? = some (closing c)) || (c.isSome && !full c n)
omit T in
theorem dep_made (c : Option PK) (ds : List D) : (madeD c ds).dep = depL ds + 1 := by
  cases c with
  | none => rfl
  | some c => show depL (keptL ds) + 1 = _; rw [depL_kept]
def spEnd (K : PySem.W.Frag) : Sp := fun vs H Q E => ∃ ra F words line pt c ds fr, vs = [.ref ra] ∧ Rd K F words line H ra pt ((c, ds) :: fr) ∧ pt < words.length ∧ (badEnd words pt c ds.length = true → ErrT K F line pt E) ∧
  (badEnd words pt c ds.length = false → (fr = [] → ∀ v H', Rd K F words line H' ra (pt + 1) [] → Rep K false H' v (madeD c ds) → Q v H') ∧
    ∀ c' ds' fr', fr = (c', ds') :: fr' → (full c' ds'.length = true → ErrT K F line pt E) ∧ (full c' ds'.length = false → ∀ H', Rd K F words line H' ra (pt + 1) ((c', ds' ++ [madeD c ds]) :: fr') → Q .non H'))
theorem F_Reading_end : FnR PR w K mg base (L2.CX PR w) 120 (He.ma K (He.ga K "Reading") "end") (spEnd K) := by
  have F_Reading_stop := F_Reading_stop (base := base) T
  have F_Reading_put := F_Reading_put (base := base) T
  have F_Opened_is_full := F_Opened_is_full (base := base) T
  have F_Opened_made := F_Opened_made (base := base) T 20
  refine fnrx (k := 119) T.F_Reading_end sc_Reading_end (fun vs H Q E h => ?_) (fun _ _ _ _ _ _ us hl => match us, hl with | [_], _ => rfl) (fun cdv A outer s H vs Q E hr h => ⟨_, (pss_cons (ps_set (i := 1) sc_Reading_end.nd rfl (Or.inl rfl) (pe_ix ix_list (pe_fld (pv 0) rfl) (pe_un un_neg pe_int) (fun _ _ => rfl)))
      (C8.pss_cut (ps_if (PW.pt (pw_or (pt_cmpR op_ne (pe_ix ix_list (pe_fld (pv 0) rfl) (pe_fld (pv 0) rfl) (fun _ _ => rfl)) (pe_ifExp (pt_cmpR op_isN (pe_fld (pv 1) rfl) pe_non (nomark _)) pe_str pe_str) (nomark _)) (pw_or1 (PW.pt (pw_and (pt_cmpR op_notN (pe_fld (pv 1) rfl) pe_non (nomark _)) (pw_and1 (pt_not (pt_val (pe_methR0 (pv 1) T.c_Opened T.m_Opened_is_full F_Opened_is_full (hr.mono (by omega)) pass0))))))))) (pss_one (ps_expr (pe_methR0 (pv 0) T.c_Reading T.m_Reading_stop F_Reading_stop (hr.mono (by omega)) (passes_call (takes_of rfl rfl rfl rfl) (fun _ _ _ _ h => h))))) pss_nil)
      (pss_cons (ps_expr (pe_bm0 PySem.F.plainAttrs_list PySem.F.slot_list_pop PySem.F.type_list_pop mt_pop (pe_fld (pv 0) rfl)))
      (pss_cons (ps_if (pt_cmpR (op_eqNil hr.units0) (pe_fld (pv 0) rfl) (pe_lst pa_nil) (nomark _)) (pss_cons (ps_fldaug (pv 0) pe_int in_add)
      (pss_one (ps_ret (pe_methR0 (pv 1) T.c_Opened T.m_Opened_made F_Opened_made (hr.mono (by omega)) pass0)))) pss_nil)
      (pss_cons (ps_expr (pe_methR (pv 0) T.c_Reading T.m_Reading_put F_Reading_put (hr.mono (by omega)) (passes_call (takes_of rfl rfl rfl rfl) (fun _ _ _ _ h => h)) (pa_cons (pe_methR0 (pv 1) T.c_Opened T.m_Opened_made F_Opened_made (hr.mono (by omega)) pass0) pa_nil)))
      (pss_one (ps_ret pe_non))))))), ?_⟩)
  · obtain ⟨ra, F, words, line, pt, c, ds, fr, rfl, _⟩ := h
    rfl
  · obtain ⟨ra, F, words, line, pt, c, ds, fr, rfl, R, hpt, qE, q⟩ := h
    have R0 := R
    obtain ⟨dx, wl, ba, os, ts, h1, h2, h3, h4, h5, h6, h7⟩ := R.ex
    cases h4 with
    | @cons o dxo t _ xs _ os _ ts e e2 r hk dp tl =>
    have hlen := r.length
    have hla : atI (V.ref o :: os).reverse (-1) = some (V.ref o) := by rw [List.reverse_cons]; exact atI_last _ _
    have hw : atI (words.map V.str) (pt : Int) = some (.str words[pt]) := atI_nat (by simp [hpt])
    have hwe := List.getElem?_eq_getElem hpt
    have hwn := R.wn
    have nbr : ba ≠ ra := fun z => by rw [z, h1] at h3; cases h3
    dsimp only [gCons, gName, gNil, gSub, gTup, gFld, iSeq, iList, iStr, iTup, iRng1, tAnd, tAndT, tAndV, tAsg, tAsg2, tAug, tB, tBM, tBM0, tBreak, tC, tCB, tCallR, tChain, tCons, tDrop, tFld, sFld, sFldAug, tFor_eq, tLc2_eq, tIf, tIfS, tIsN, tLc_eq, tLst, tM0, tM1, tMakeR, tMethR, tNever, tNm, tXk, tCallKw, tNext, tNil, tNoPart, tNot, tNotN, tNotT, tNotV, tOp, tOr, tOrT, tOrV, tOst, tPar, tPart, tRet, tRetN, tRg1, tSeq, tSl, tStar, tTest, tThen, tTup, tUn, C8.tCut, tVar]
    refine ⟨.ref ra, rfl, ra, _, dx, _, _, rfl, h1, T.c_Reading, T.na_Reading_begun, rfl, 1, rfl, ba, _, -1, .ref o, rfl, rfl, .of h3, hla, ?_⟩
    refine ⟨fun σ' H' => H' = H ∧ σ' = [some (.ref ra), some (.ref o)] ∧ badEnd words pt c ds.length = false, ?_, ?_⟩
    · have hW := R.fz _ _ h2
      have ebad : words[pt] = closing c → badEnd words pt c ds.length = (c.isSome && !full c ds.length) := fun h => by
        unfold badEnd
        rw [hwe, h, decide_eq_true rfl]
        rfl
      have ebad2 : words[pt] ≠ closing c → badEnd words pt c ds.length = true := fun h => by
        unfold badEnd
        rw [hwe, decide_eq_false (fun z => h (Option.some.inj z))]
        rfl
      cases c with
      | none =>
        refine ⟨.ref ra, rfl, ra, _, dx, _, _, rfl, h1, T.c_Reading, T.na_Reading_words, rfl, .ref ra, rfl, ra, _, dx, _, _, rfl, h1, T.c_Reading, T.na_Reading_at, rfl, wl, _, (pt : Int), _, rfl, rfl, .of hW, hw, .ref o, rfl, o, _, dxo, _, _, rfl, e, T.c_Opened, T.na_Opened_word, rfl, rfl, true, congrArg V.bl (decide_eq_true rfl), rfl, _, rfl, ?_⟩
        split
        · rename_i h
          exact ⟨.ref ra, rfl, ra, dx, _, rfl, h1, rfl, ra, F, words, line, pt, _, rfl, R0, qE (ebad2 fun z => by rw [z] at h; simp [closing] at h)⟩
        · rename_i h
          have hz : words[pt] = closing none := by
            have := of_decide_eq_true (nb' h)
            injection this
          exact ⟨.ref o, rfl, o, _, dxo, _, _, rfl, e, T.c_Opened, T.na_Opened_word, rfl, rfl, false, congrArg V.bl (by simp [wOp]), rfl, rfl, by rw [ebad hz]; rfl⟩
      | some k =>
        refine ⟨.ref ra, rfl, ra, _, dx, _, _, rfl, h1, T.c_Reading, T.na_Reading_words, rfl, .ref ra, rfl, ra, _, dx, _, _, rfl, h1, T.c_Reading, T.na_Reading_at, rfl, wl, _, (pt : Int), _, rfl, rfl, .of hW, hw, .ref o, rfl, o, _, dxo, _, _, rfl, e, T.c_Opened, T.na_Opened_word, rfl, rfl, false, congrArg V.bl (decide_eq_false fun z => by cases z), rfl, _, rfl, ?_⟩
        split
        · rename_i h
          exact ⟨.ref ra, rfl, ra, dx, _, rfl, h1, rfl, ra, F, words, line, pt, _, rfl, R0, qE (ebad2 fun z => by rw [z] at h; simp [closing] at h)⟩
        · rename_i h
          have hz : words[pt] = closing (some k) := by
            have := of_decide_eq_true (nb' h)
            injection this
          refine ⟨.ref o, rfl, o, _, dxo, _, _, rfl, e, T.c_Opened, T.na_Opened_word, rfl, rfl, true, congrArg V.bl (by simp [wOp]), .ref o, rfl, o, dxo, _, rfl, e, rfl, o, dxo, t, some k, xs, rfl, e, e2, hk, _, rfl, ?_⟩
          rw [hlen]
          split
          · rename_i h
            exact ⟨.ref ra, rfl, ra, dx, _, rfl, h1, rfl, ra, F, words, line, pt, _, rfl, R0, qE (by rw [ebad hz, nb h]; rfl)⟩
          · rename_i h
            exact ⟨rfl, rfl, by rw [ebad hz, nb' h]; rfl⟩
    · rintro σ' H' ⟨eH, rfl, hbad⟩
      rw [eH]
      obtain ⟨q1, q2⟩ := q hbad
      have hpop : (V.ref o :: os).reverse.dropLast = os.reverse := by rw [List.reverse_cons]; simp
      have hlast : (V.ref o :: os).reverse[(V.ref o :: os).reverse.length - 1]? = some (.ref o) := by rw [List.reverse_cons]; simp
      refine ⟨.ref ra, rfl, ra, _, dx, _, _, rfl, h1, T.c_Reading, T.na_Reading_begun, rfl, .inl ⟨rfl, _, .of h3⟩, ba, _, .ref o, rfl, rfl, h3, hlast, ?_⟩
      rw [hpop]
      refine ⟨.ref ra, rfl, ra, _, dx, _, _, rfl, by rw [upd_ne (Ne.symm nbr)]; exact h1, T.c_Reading, T.na_Reading_begun, rfl, by simp, fun p hp => ?_⟩
      have hfull : ∀ k, c = some k → full c xs.length = true := fun k hc => by
        subst hc
        unfold badEnd at hbad
        rw [hlen]
        cases hf : full (some k) ds.length with
        | true => rfl
        | false => rw [hf] at hbad; simp at hbad
      have tb : t ≠ ba := fun z => h6 (by rw [z]; exact List.mem_cons_self)
      have ob : o ≠ ba := fun z => by rw [z, h3] at e; cases e
      have tra : t ≠ ra := fun z => by rw [z, h1] at e2; cases e2
      have ora : o ≠ ra := fun z => by
        rw [z, h1] at e
        injection e with e
        injection e with _ _ e3
        have := congrArg List.length e3
        simp at this
      have hp' : upd H ba (.lst os.reverse) p = none := hp
      have g0 : ImmGr H (upd H ba (.lst os.reverse)) := imm_lst h3
      have hb6 : ba ∉ ts := fun m => h6 (List.mem_cons_of_mem _ m)
      have Rp : Rd K F words line (upd H ba (.lst os.reverse)) ra pt fr := by
        refine ⟨⟨dx, wl, ba, os, ts, by rw [upd_ne (Ne.symm nbr)]; exact h1, h2, upd_same, tl.lst h3 hb6, (List.nodup_cons.mp h5).2, hb6, fun b o' hF => ⟨(h7 b o' hF).1, (h7 b o' hF).2.1, fun m => (h7 b o' hF).2.2 (List.mem_cons_of_mem _ m)⟩⟩, fun b o' hF => by rw [upd_ne (h7 b o' hF).2.1]; exact R.fz b o' hF, fun f hf => R.tol f (List.mem_cons_of_mem _ hf), hwn⟩
      have eP : Ext (upd H ba (.lst os.reverse)) (upd (upd H ba (.lst os.reverse)) p (.lst [])) := Ext.upd hp
      have R2 := Rp.ext eP
      have k1 := eP ra _ (by rw [upd_ne (Ne.symm nbr)]; exact h1)
      have k2 := eP ba _ upd_same
      have k3 := eP o _ (by rw [upd_ne ob]; exact e)
      have k4 := eP t _ (by rw [upd_ne tb]; exact e2)
      have k5 : Reps K false (upd (upd H ba (.lst os.reverse)) p (.lst [])) xs ds := (r.imm g0).ext eP
      have k6 := (tl.lst (ys := os.reverse) h3 hb6).ext eP
      have k7 : ∀ b o', F b o' → upd (upd H ba (.lst os.reverse)) p (.lst []) b = some o' := R2.fz
      have k8 : upd (upd H ba (.lst os.reverse)) p (.lst []) p = some (.lst []) := upd_same
      generalize upd (upd H ba (.lst os.reverse)) p (.lst []) = H2 at eP R2 k1 k2 k3 k4 k5 k6 k7 k8 ⊢
      have hxl : xs.length ≤ 4000 := by
        have := R.tol _ List.mem_cons_self
        simp at this
        omega
      refine ⟨ba, p, os.reverse, rfl, rfl, .of k2, k8, _, rfl, ?_⟩
      split
      · rename_i h
        have ho : os = [] := by
          cases os with
          | nil => rfl
          | cons a b => simp at h
        have hfr : fr = [] := by
          have := tl.len
          rw [ho] at this
          exact List.length_eq_zero_iff.mp this.symm
        have i1 := immGr_ra (o := .ins (He.ga K "Reading") dx (rdF wl line (pt + 1) ba)) k1 rfl
        refine ⟨.ref ra, rfl, ra, _, dx, _, _, rfl, k1, T.c_Reading, T.na_Reading_at, rfl, _, 1, rfl, rfl, dx, _, k1, by simp, ?_⟩
        have ep : putF ("at" : Str) (.int ((pt : Int) + 1)) (rdF wl line pt ba) = rdF wl line (pt + 1) ba := rfl
        rw [ep]
        have R3 : Rd K F words line (upd H2 ra (.ins (He.ga K "Reading") dx (rdF wl line (pt + 1) ba))) ra (pt + 1) fr := Rd.at k7 k1 h2 k2 k6 (List.nodup_cons.mp h5).2 hb6 (fun b o' hF => ⟨(h7 b o' hF).1, (h7 b o' hF).2.1, fun m => (h7 b o' hF).2.2 (List.mem_cons_of_mem _ m)⟩) (fun f hf => Nat.le_succ_of_le (R.tol f (List.mem_cons_of_mem _ hf))) hwn
        exact ⟨.ref o, rfl, o, dxo, _, rfl, by rw [upd_ne ora]; exact k3, rfl, o, dxo, t, c, xs, ds, rfl, by rw [upd_ne ora]; exact k3, by rw [upd_ne tra]; exact k4, k5.imm i1, hxl, hfull, by omega, fun v H' e' rv => q1 hfr v H' (by rw [← hfr]; exact R3.ext e') rv⟩
      · rename_i h
        cases fr with
        | nil =>
          cases tl
          exact absurd rfl h
        | cons f fr' =>
        obtain ⟨c', ds'⟩ := f
        obtain ⟨qa, qb⟩ := q2 c' ds' fr' rfl
        refine ⟨.ref ra, rfl, ra, dx, _, rfl, k1, rfl, .ref o, rfl, o, dxo, _, rfl, k3, rfl, o, dxo, t, c, xs, ds, rfl, k3, k4, k5, hxl, hfull, by simp at dp; omega, fun v H' e' rv => ⟨ra, F, words, line, pt, c', ds', fr', v, madeD c ds, rfl, R2.ext e', hpt, rv, ?_, qa, qb⟩⟩
        rw [dep_made]
        simp at dp
        omega
end
end K94
set_option maxRecDepth 100000
set_option maxHeartbeats 4000000
/-! Reading.whole, read_paper. -/
namespace K94
open PySem PySem.Spec PyProof.Rows L2 L2.Q Pp StX L2.SupX
theorem sc_Reading_whole : FnScope [("self" : Str), ("word" : Str), ("found" : Str), ("told" : Str)] [("self" : Str)] (defScope s_Reading_whole) := ⟨rfl, rfl, rfl, by decide +kernel, rfl, by decide +kernel, by decide +kernel⟩
theorem sc_read_paper : FnScope [("text" : Str)] [("text" : Str)] (defScope s_read_paper) := ⟨rfl, rfl, rfl, by decide +kernel, rfl, by decide +kernel, by decide +kernel⟩
/-- an answer: refused at a place, or a paper -/
inductive Out where
  | err (p : Nat)
  | ok (d : D)
def loopM (words : List Str) : Nat → Nat → List Frame → Out
  | 0, pt, _ => .err pt
  | n + 1, pt, fr => match words[pt]? with
    | none => .err pt
    | some w => if w = "(" ∨ w = "[" then (match fr with
        | [] => .err 0
        | (c, ds) :: _ => if full c ds.length then .err pt else match beginM words pt fr.length with
          | .error p => .err p
          | .ok (c', p) => loopM words n p ((c', []) :: fr))
      else if w = ")" ∨ w = "]" then (match fr with
        | [] => .err 0
        | (c, ds) :: fr' => if badEnd words pt c ds.length then .err pt else match fr' with
          | [] => if pt + 1 < words.length then .err (pt + 1) else .ok (madeD c ds)
          | (c', ds') :: fr'' => if full c' ds'.length then .err pt else loopM words n (pt + 1) ((c', ds' ++ [madeD c ds]) :: fr''))
      else match plainS w with
        | none => .err pt
        | some d => (match fr with
          | [] => .err 0
          | (c, ds) :: fr' => if full c ds.length then .err pt else loopM words n (pt + 1) ((c, ds ++ [d]) :: fr'))
def wholeM (words : List Str) (pt : Nat) : Out := if words[pt]? = some ("[" : Str) then (match beginM words pt 0 with
    | .error p => .err p
    | .ok (c, p) => loopM words words.length p [(c, [])]) else .err pt
theorem beginM_lt {words : List Str} {pt n : Nat} {c : Option PK} {p : Nat} (h : beginM words pt n = .ok (c, p)) : pt < p := by
  unfold beginM at h
  split at h
  · cases h
  · split at h
    · cases h; omega
    · split at h
      · cases h
      · split at h
        · cases h
        · cases h; omega
theorem in2 {z a b : Str} : inV (.str z) [.str a, .str b] = true ↔ z = a ∨ z = b := by
  simp [inV, eqV]
  constructor <;> rintro (h | h) <;> simp [h]
theorem rep_ne_non {K : PySem.W.Frag} {H : Hp} {v : V} {c : Option PK} {ds : List D} (r : Rep K false H v (madeD c ds)) : v ≠ .non := by
  cases c <;> (intro e; subst e; cases r)
section
variable {w : World} {K : PySem.W.Frag} {mg : Str → Option Value} {base : Heap} (T : Txt w K mg)
include T
def Res (K : PySem.W.Frag) (F : Addr → HO → Prop) (line : Int) (o : Out) (Q : VK) (E : XK) : Prop := match o with
  | .err p => ErrT K F line p E
  | .ok d => ∀ v H', (∀ b o, F b o → H' b = some o) → Rep K false H' v d → Q v H'
def okWords (words : List Str) : Prop := ∀ z ∈ words, z.length ≤ sizeLine ∧ (okNum z = true → z.length ≤ 640 ∧ ∃ n, intText? z = some n)
def spWhole (K : PySem.W.Frag) : Sp := fun vs H Q E => ∃ ra F words line pt, vs = [.ref ra] ∧ Rd K F words line H ra pt [] ∧ pt ≤ words.length ∧ okWords words ∧ Res K F line (wholeM words pt) Q E
theorem F_Reading_whole : FnR PR w K mg base (L2.CX PR w) 130 (He.ma K (He.ga K "Reading") "whole") (spWhole K) := by
  have F_Reading_stop := F_Reading_stop (base := base) T
  have F_Reading_begin := F_Reading_begin (base := base) T
  have F_Reading_put := F_Reading_put (base := base) T
  have F_Reading_end := F_Reading_end (base := base) T
  have F_Opened_is_full := F_Opened_is_full (base := base) T
  have F_plain_of := F_plain_of (base := base) T
  refine fnrx (k := 129) T.F_Reading_whole sc_Reading_whole (fun vs H Q E h => ?_) (fun _ _ _ _ _ _ us hl => match us, hl with | [_], _ => rfl) (fun cdv A outer s H vs Q E hr h => ⟨_, (C8.pss_cut (ps_if (PW.pt (pw_or (pt_cmpR op_eq (pe_fld (pv 0) rfl) (pe_callB call_len (by rfl) T.n_len PySem.boot_len (pa_cons (pe_fld (pv 0) rfl) pa_nil)) (nomark _)) (pw_or1 (pt_cmpR op_ne (pe_ix ix_list (pe_fld (pv 0) rfl) (pe_fld (pv 0) rfl) (fun _ _ => rfl)) pe_str (nomark _))))) (pss_one (ps_expr (pe_methR0 (pv 0) T.c_Reading T.m_Reading_stop F_Reading_stop (hr.mono (by omega)) (passes_call (takes_of rfl rfl rfl rfl) (fun _ _ _ _ h => h))))) pss_nil)
      (pss_cons (ps_expr (pe_methR0 (pv 0) T.c_Reading T.m_Reading_begin F_Reading_begin (hr.mono (by omega)) (passes_call (takes_of rfl rfl rfl rfl) (fun _ _ _ _ h => h))))
      (pss_cons (ps_while (passes_of rfl) (pt_cmpR op_lt (pe_fld (pv 0) rfl) (pe_callB call_len (by rfl) T.n_len PySem.boot_len (pa_cons (pe_fld (pv 0) rfl) pa_nil)) (nomark _)) (pss_cons (ps_par (i := 1) (j := 2) rfl sc_Reading_whole.nd rfl rfl (by decide) rfl rfl (pa_cons (pe_ix ix_list (pe_fld (pv 0) rfl) (pe_fld (pv 0) rfl) (fun _ _ => rfl)) (pa_cons pe_non pa_nil)) (by rfl))
      (C8.pss_cut (ps_if (pt_cmpR op_in_seq (pv 1) (pe_tup (pa_cons pe_str (pa_cons pe_str pa_nil))) rfl) (pss_cons (ps_if (pt_val (pe_methR0 (pe_ix ix_list (pe_fld (pv 0) rfl) (pe_un un_neg pe_int) (fun _ _ => rfl)) T.c_Opened T.m_Opened_is_full F_Opened_is_full (hr.mono (by omega)) pass0)) (pss_one (ps_expr (pe_methR0 (pv 0) T.c_Reading T.m_Reading_stop F_Reading_stop (hr.mono (by omega)) (passes_call (takes_of rfl rfl rfl rfl) (fun _ _ _ _ h => h))))) pss_nil)
      (pss_one (ps_expr (pe_methR0 (pv 0) T.c_Reading T.m_Reading_begin F_Reading_begin (hr.mono (by omega)) (passes_call (takes_of rfl rfl rfl rfl) (fun _ _ _ _ h => h)))))) (pss_one (ps_if (pt_cmpR op_in_seq (pv 1) (pe_tup (pa_cons pe_str (pa_cons pe_str pa_nil))) rfl) (pss_one (ps_set (i := 2) sc_Reading_whole.nd rfl (Or.inl rfl) (pe_methR0 (pv 0) T.c_Reading T.m_Reading_end F_Reading_end (hr.mono (by omega)) (passes_call (takes_of rfl rfl rfl rfl) (fun _ _ _ _ h => h))))) (pss_cons (ps_set (i := 3) sc_Reading_whole.nd rfl (Or.inl rfl) (pe_callR F_plain_of (hr.mono (by omega)) T.k_plain_of T.g_plain_of rfl pass0 (pa_cons (pv 1) pa_nil)))
      (pss_cons (ps_if (pt_cmpR (op_eqNilT hr.units0) (pv 3) (pe_tup pa_nil) (nomark _)) (pss_one (ps_expr (pe_methR0 (pv 0) T.c_Reading T.m_Reading_stop F_Reading_stop (hr.mono (by omega)) (passes_call (takes_of rfl rfl rfl rfl) (fun _ _ _ _ h => h))))) pss_nil)
      (pss_one (ps_expr (pe_methR (pv 0) T.c_Reading T.m_Reading_put F_Reading_put (hr.mono (by omega)) (passes_call (takes_of rfl rfl rfl rfl) (fun _ _ _ _ h => h)) (pa_cons (pe_ix ix_tup (pv 3) pe_int (fun _ _ => rfl)) pa_nil)))))))))
      (pss_one (ps_if (pt_cmpR op_notN (pv 2) pe_non (nomark _)) (pss_cons (ps_if (pt_cmpR op_lt (pe_fld (pv 0) rfl) (pe_callB call_len (by rfl) T.n_len PySem.boot_len (pa_cons (pe_fld (pv 0) rfl) pa_nil)) (nomark _)) (pss_one (ps_expr (pe_methR0 (pv 0) T.c_Reading T.m_Reading_stop F_Reading_stop (hr.mono (by omega)) (passes_call (takes_of rfl rfl rfl rfl) (fun _ _ _ _ h => h))))) pss_nil)
      (pss_one (ps_ret (pv 2)))) pss_nil)))))
      (pss_one (ps_ret (pe_methR0 (pv 0) T.c_Reading T.m_Reading_stop F_Reading_stop (hr.mono (by omega)) (passes_call (takes_of rfl rfl rfl rfl) (fun _ _ _ _ h => h)))))))), ?_⟩)
  · obtain ⟨ra, F, words, line, pt, rfl, _⟩ := h
    rfl
  · obtain ⟨ra, F, words, line, pt, rfl, R, hpt, hok, q⟩ := h
    have R0 := R
    obtain ⟨dx, wl, ba, os, ts, h1, h2, h3, h4, h5, h6, h7⟩ := R.ex
    have hW := R.fz _ _ h2
    dsimp only [gCons, gName, gNil, gSub, gTup, gFld, iSeq, iList, iStr, iTup, iRng1, tAnd, tAndT, tAndV, tAsg, tAsg2, tAug, tB, tBM, tBM0, tBreak, tC, tCB, tCallR, tChain, tCons, tDrop, tFld, sFld, sFldAug, tFor_eq, tLc2_eq, tIf, tIfS, tIsN, tLc_eq, tLst, tM0, tM1, tMakeR, tMethR, tNever, tNm, tXk, tCallKw, tNext, tNil, tNoPart, tNot, tNotN, tNotT, tNotV, tOp, tOr, tOrT, tOrV, tOst, tPar, tPart, tRet, tRetN, tRg1, tSeq, tSl, tStar, tTest, tThen, tTup, tUn, C8.tCut, tVar]
    refine ⟨fun σ' H' => H' = H ∧ σ' = [some (.ref ra), none, none, none] ∧ words[pt]? = some ("[" : Str), ?_, ?_⟩
    · refine ⟨.ref ra, rfl, ra, _, dx, _, _, rfl, h1, T.c_Reading, T.na_Reading_at, rfl, .ref ra, rfl, ra, _, dx, _, _, rfl, h1, T.c_Reading, T.na_Reading_words, rfl, .ref wl, _, rfl, .inl ⟨_, .of hW, rfl⟩, rfl, _, rfl, ?_⟩
      rw [List.length_map]
      split
      · rename_i h
        have h8 : pt = words.length := by
          have := of_decide_eq_true h
          injection this with this
          omega
        have hno : words[pt]? = none := List.getElem?_eq_none (by omega)
        rw [wholeM, if_neg (by rw [hno]; simp)] at q
        exact ⟨.ref ra, rfl, ra, dx, _, rfl, h1, rfl, ra, F, words, line, pt, [], rfl, R0, q⟩
      · rename_i h
        have hpt' : pt < words.length := by
          have : ¬ pt = words.length := fun e => h (decide_eq_true (by rw [e]))
          omega
        have hw : atI (words.map V.str) (pt : Int) = some (.str words[pt]) := atI_nat (by simp [hpt'])
        have hwe := List.getElem?_eq_getElem hpt'
        refine ⟨.ref ra, rfl, ra, _, dx, _, _, rfl, h1, T.c_Reading, T.na_Reading_words, rfl, .ref ra, rfl, ra, _, dx, _, _, rfl, h1, T.c_Reading, T.na_Reading_at, rfl, wl, _, (pt : Int), _, rfl, rfl, .of hW, hw, rfl, _, rfl, ?_⟩
        split
        · rename_i h
          have hne : ¬ words[pt]? = some ("[" : Str) := fun e => by
            rw [hwe] at e
            rw [Option.some.inj e] at h
            simp at h
          rw [wholeM, if_neg hne] at q
          exact ⟨.ref ra, rfl, ra, dx, _, rfl, h1, rfl, ra, F, words, line, pt, [], rfl, R0, q⟩
        · rename_i h
          refine ⟨rfl, rfl, ?_⟩
          have := of_decide_eq_true (nb' h)
          injection this with this
          rw [hwe, this]
    · rintro σ' H' ⟨eH, rfl, hw0⟩
      rw [eH]
      have hpt' : pt < words.length := by
        rcases Nat.lt_or_ge pt words.length with z | z
        · exact z
        · rw [List.getElem?_eq_none z] at hw0; cases hw0
      have eW : wholeM words pt = _ := if_pos hw0
      refine ⟨.ref ra, rfl, ra, dx, _, rfl, h1, rfl, ra, F, words, line, pt, [], rfl, R0, hpt', fun p hp => ?_, fun c p hp H1 R1 => ?_⟩
      · rw [eW] at q
        simp only [List.length_nil] at hp
        rw [hp] at q
        exact q
      · rw [eW] at q
        simp only [List.length_nil] at hp
        rw [hp] at q
        have hpp : pt < p := beginM_lt hp
        dsimp only at q
        refine ⟨fun m σ H => ∃ pt fr n x1 x2 x3, m = words.length - pt ∧ σ = [some (.ref ra), x1, x2, x3] ∧ Rd K F words line H ra pt fr ∧ fr ≠ [] ∧ words.length ≤ n + pt ∧ Res K F line (loopM words n pt fr) Q E, ⟨_, p, _, words.length, _, _, _, rfl, rfl, R1, by simp, by omega, q⟩, ?_⟩
        clear R R0 R1 h1 h3 h4 h5 h6 hpp hp hpt hpt' eW hw0 q h7
        rintro m σ H ⟨pt, fr, n, x1, x2, x3, rfl, rfl, R, hfr, hn, q⟩
        have R0 := R
        obtain ⟨dx, wl, ba, os, ts, h1, h2, h3, h4, h5, h6, h7⟩ := R.ex
        have hW := R.fz _ _ h2
        dsimp only [gCons, gName, gNil, gSub, gTup, gFld, iSeq, iList, iStr, iTup, iRng1, tAnd, tAndT, tAndV, tAsg, tAsg2, tAug, tB, tBM, tBM0, tBreak, tC, tCB, tCallR, tChain, tCons, tDrop, tFld, sFld, sFldAug, tFor_eq, tLc2_eq, tIf, tIfS, tIsN, tLc_eq, tLst, tM0, tM1, tMakeR, tMethR, tNever, tNm, tXk, tCallKw, tNext, tNil, tNoPart, tNot, tNotN, tNotT, tNotV, tOp, tOr, tOrT, tOrV, tOst, tPar, tPart, tRet, tRetN, tRg1, tSeq, tSl, tStar, tTest, tThen, tTup, tUn, C8.tCut, tVar]
        refine ⟨.ref ra, rfl, ra, _, dx, _, _, rfl, h1, T.c_Reading, T.na_Reading_at, rfl, .ref ra, rfl, ra, _, dx, _, _, rfl, h1, T.c_Reading, T.na_Reading_words, rfl, .ref wl, _, rfl, .inl ⟨_, .of hW, rfl⟩, _, _, rfl, rfl, _, rfl, ?_⟩
        rw [List.length_map]
        split
        · rename_i h
          have hpt : pt < words.length := by
            have := of_decide_eq_true h
            omega
          have hw : atI (words.map V.str) (pt : Int) = some (.str words[pt]) := atI_nat (by simp [hpt])
          have hwe := List.getElem?_eq_getElem hpt
          obtain ⟨n, rfl⟩ : ∃ k, n = k + 1 := ⟨n - 1, by omega⟩
          refine ⟨fun σ' H' => ∃ m', m' < words.length - pt ∧ ∃ pt fr n x1 x2 x3, m' = words.length - pt ∧ σ' = [some (.ref ra), x1, x2, x3] ∧ Rd K F words line H' ra pt fr ∧ fr ≠ [] ∧ words.length ≤ n + pt ∧ Res K F line (loopM words n pt fr) Q E, fun _ _ z => z, ?_⟩
          refine ⟨.ref ra, rfl, ra, _, dx, _, _, rfl, h1, T.c_Reading, T.na_Reading_words, rfl, .ref ra, rfl, ra, _, dx, _, _, rfl, h1, T.c_Reading, T.na_Reading_at, rfl, wl, _, (pt : Int), _, rfl, rfl, .of hW, hw, ?_⟩
          refine ⟨_, _, rfl, fun σ' H' => (∃ x3 pt' fr', σ' = [some (.ref ra), some (.str words[pt]), some .non, x3] ∧ Rd K F words line H' ra pt' fr' ∧ fr' ≠ [] ∧ pt < pt' ∧ Res K F line (loopM words n pt' fr') Q E) ∨ (∃ x3 v d, σ' = [some (.ref ra), some (.str words[pt]), some v, x3] ∧ v ≠ .non ∧ Rd K F words line H' ra (pt + 1) [] ∧ Rep K false H' v d ∧ Res K F line (if pt + 1 < words.length then .err (pt + 1) else .ok d) Q E), ?_, ?_⟩
          · refine ⟨.str words[pt], rfl, by rw [sizeLine_eq]; decide, fun p hp => ⟨p, _, rfl, .inr (.of upd_same), rfl, rfl, inV (.str words[pt]) [.str "(", .str "["], rfl, ?_⟩⟩
            have R := R.ext (Ext.upd (o := .tup [V.str "(", V.str "["]) hp)
            clear R0 h1 h2 h3 h4 h5 h6 h7 hW
            generalize upd H p (.tup [V.str "(", V.str "["]) = H at R ⊢
            clear os ts ba dx wl
            have R0 := R
            obtain ⟨dx, wl, ba, os, ts, h1, h2, h3, h4, h5, h6, h7⟩ := R.ex
            have hW := R.fz _ _ h2
            obtain ⟨⟨c, ds⟩, fr, rfl⟩ : ∃ f fr', fr = f :: fr' := by
              cases fr with
              | nil => exact absurd rfl hfr
              | cons a b => exact ⟨a, b, rfl⟩
            rw [loopM.eq_def] at q
            dsimp only at q
            rw [hwe] at q
            dsimp only at q
            split
            · rename_i hb
              rw [if_pos (in2.mp hb)] at q
              cases h4 with
              | @cons o dxo t _ xs _ os _ ts e e2 r hk dp tl =>
              have hla : atI (V.ref o :: os).reverse (-1) = some (V.ref o) := by rw [List.reverse_cons]; exact atI_last _ _
              have hlen := r.length
              refine ⟨.ref ra, rfl, ra, _, dx, _, _, rfl, h1, T.c_Reading, T.na_Reading_begun, rfl, 1, rfl, ba, _, -1, .ref o, rfl, rfl, .of h3, hla, o, dxo, _, rfl, e, rfl, o, dxo, t, c, xs, rfl, e, e2, hk, _, rfl, ?_⟩
              rw [hlen]
              split
              · rename_i h
                rw [if_pos h] at q
                exact ⟨.ref ra, rfl, ra, dx, _, rfl, h1, rfl, ra, F, words, line, pt, _, rfl, R0, q⟩
              · rename_i h
                rw [if_neg h] at q
                refine ⟨.ref ra, rfl, ra, dx, _, rfl, h1, rfl, ra, F, words, line, pt, (c, ds) :: fr, rfl, R0, hpt, fun p hp => ?_, fun c' p hp H1 R1 => .inl ⟨_, p, _, rfl, R1, by simp, beginM_lt hp, ?_⟩⟩
                · simp only [List.length_cons] at hp q
                  rw [hp] at q
                  exact q
                · simp only [List.length_cons] at hp q
                  rw [hp] at q
                  exact q
            · rename_i hb
              rw [if_neg (fun z => hb (in2.mpr z))] at q
              refine ⟨.str words[pt], rfl, by rw [sizeLine_eq]; decide, fun p hp => ⟨p, _, rfl, .inr (.of upd_same), rfl, rfl, inV (.str words[pt]) [.str ")", .str "]"], rfl, ?_⟩⟩
              clear R0 h1 h2 h3 h4 h5 h6 h7 hW
              have R := R.ext (Ext.upd (o := .tup [V.str ")", V.str "]"]) hp)
              generalize upd H p (.tup [V.str ")", V.str "]"]) = H at R ⊢
              clear os ts ba dx wl
              obtain ⟨dx, wl, ba, os, ts, h1, h2, h3, h4, h5, h6, h7⟩ := R.ex
              split
              · rename_i hb
                rw [if_pos (in2.mp hb)] at q
                refine ⟨.ref ra, rfl, ra, dx, _, rfl, h1, rfl, ra, F, words, line, pt, c, ds, fr, rfl, R, hpt, fun hbad => ?_, fun hbad => ⟨fun hf v H' R' rv => .inr ⟨_, v, _, rfl, rep_ne_non rv, R', rv, ?_⟩, fun c' ds' fr' hf => ?_⟩⟩
                · rw [if_pos hbad] at q
                  exact q
                · rw [if_neg (by rw [hbad]; simp), hf] at q
                  exact q
                · rw [if_neg (by rw [hbad]; simp), hf] at q
                  dsimp only at q
                  refine ⟨fun hfu => ?_, fun hfu H' R' => .inl ⟨_, pt + 1, _, rfl, R', by simp, Nat.lt_succ_self _, ?_⟩⟩
                  · rw [if_pos hfu] at q
                    exact q
                  · rw [if_neg (by rw [hfu]; simp)] at q
                    exact q
              · rename_i hb
                rw [if_neg (fun z => hb (in2.mpr z))] at q
                obtain ⟨hz1, hz2⟩ := hok words[pt] (List.getElem_mem hpt)
                refine ⟨.str words[pt], rfl, words[pt], rfl, hz1, hz2, fun p H' xs' ds' hp e ht rr hds => ⟨_, rfl, by rw [sizeLine_eq]; decide, fun p2 hp2 => ⟨p, p2, xs', rfl, rfl, .of ?_, .of upd_same, _, rfl, ?_⟩⟩⟩
                · rw [upd_ne (ne_of_none ht hp2)]
                  exact ht
                have e2 := e.trans (Ext.upd (o := .tup []) hp2)
                have ht2 := Ext.upd (o := .tup []) hp2 _ _ ht
                have rr2 := rr.ext (Ext.upd (o := .tup []) hp2)
                generalize upd H' p2 (.tup []) = H2 at e2 ht2 rr2 ⊢
                have R2 := R.ext e2
                have h12 := e2 _ _ h1
                cases hps : plainS words[pt] with
                | none =>
                  rw [hps] at q hds
                  cases hds
                  cases rr2
                  exact ⟨.ref ra, rfl, ra, dx, _, rfl, h12, rfl, ra, F, words, line, pt, _, rfl, R2, q⟩
                | some d =>
                  rw [hps] at q hds
                  cases hds
                  cases rr2 with
                  | cons rv rn =>
                  cases rn
                  dsimp only at q
                  cases h4 with
                  | @cons o dxo t _ xs _ os _ ts e e2 r hk dp tl =>
                  refine ⟨.ref ra, rfl, ra, dx, _, rfl, h12, rfl, _, rfl, p, _, 0, _, rfl, rfl, .of ht2, rfl, ra, F, words, line, pt, c, ds, fr, _, d, rfl, R2, hpt, rv, ?_, fun hfu => ?_, fun hfu H' R' => .inl ⟨_, pt + 1, _, rfl, R', by simp, Nat.lt_succ_self _, ?_⟩⟩
                  · have : d.dep = 0 := by
                      unfold plainS at hps
                      split at hps
                      · cases hps; rfl
                      · split at hps
                        · cases hps; rfl
                        · cases hn : numS words[pt] with
                          | none => rw [hn] at hps; cases hps
                          | some i => rw [hn] at hps; cases hps; rfl
                    omega
                  · rw [if_pos hfu] at q
                    exact q
                  · rw [if_neg (by rw [hfu]; simp)] at q
                    exact q
          · rintro σ' H' (⟨x3, pt', fr', rfl, R', hfr', hlt, q'⟩ | ⟨x3, v, d, rfl, hv, R', rv, q'⟩)
            · refine ⟨_, rfl, rfl, false, congrArg V.bl (by simp), _, ?_, pt', fr', n, _, _, _, rfl, rfl, R', hfr', ?_, q'⟩
              · omega
              · omega
            · obtain ⟨dx, wl, ba, os, ts, h1, h2, h3, h4, h5, h6, h7⟩ := R'.ex
              have hW := R'.fz _ _ h2
              refine ⟨_, rfl, rfl, true, congrArg V.bl (by simp [hv]), ?_⟩
              refine ⟨.ref ra, rfl, ra, _, dx, _, _, rfl, h1, T.c_Reading, T.na_Reading_at, rfl, .ref ra, rfl, ra, _, dx, _, _, rfl, h1, T.c_Reading, T.na_Reading_words, rfl, .ref wl, _, rfl, .inl ⟨_, .of hW, rfl⟩, _, _, rfl, rfl, _, rfl, ?_⟩
              rw [List.length_map]
              split
              · rename_i h
                have : pt + 1 < words.length := by
                  have := of_decide_eq_true h
                  omega
                rw [if_pos this] at q'
                exact ⟨.ref ra, rfl, ra, dx, _, rfl, h1, rfl, ra, F, words, line, _, _, rfl, R', q'⟩
              · rename_i h
                have : ¬ pt + 1 < words.length := fun z => h (decide_eq_true (by omega))
                rw [if_neg this] at q'
                exact ⟨_, rfl, q' _ _ R'.fz rv⟩
        · rename_i h
          have : ¬ pt < words.length := fun z => h (decide_eq_true (by omega))
          refine ⟨.ref ra, rfl, ra, dx, _, rfl, h1, rfl, ra, F, words, line, pt, fr, rfl, R0, ?_⟩
          have hno : words[pt]? = none := List.getElem?_eq_none (by omega)
          cases n with
          | zero => exact q
          | succ n =>
            rw [loopM.eq_def] at q
            dsimp only at q
            rw [hno] at q
            exact q
end
end K94
set_option maxRecDepth 100000
set_option maxHeartbeats 4000000
/-! Reading.__init__, read_paper. -/
namespace K94
open PySem PySem.Spec PyProof.Rows L2 L2.Q Pp StX L2.SupX
section
variable {w : World} {K : PySem.W.Frag} {mg : Str → Option Value} {base : Heap} (T : Txt w K mg)
include T
def spRdInit (K : PySem.W.Frag) : Sp := fun vs H Q _ => ∃ a dx wl line pt, vs = [.ref a, .ref wl, .int line, .int ((pt : Nat) : Int)] ∧ H a = some (.ins (He.ga K "Reading") dx []) ∧ ∀ ba H', ExtB a H H' → H ba = none → ba ≠ a → H' a = some (.ins (He.ga K "Reading") dx (rdF wl line pt ba)) → H' ba = some (.lst []) → Q .non H'
theorem F_Reading : FnR PR w K mg base CX0 5 (He.ma K (He.ga K "Reading") "__init__") (spRdInit K) := by
  refine fnr (k := 4) T.F_Reading_init sc_Reading___init__ (fun vs H Q E h => ?_) (fun _ _ _ _ _ _ us hl => match us, hl with | [_, _, _, _], _ => rfl) (fun cdv A outer s H vs Q E hr h => ⟨_, (pss_cons (ps_fld (pv 0) (pv 1) rfl)
      (pss_cons (ps_fld (pv 0) (pv 2) rfl)
      (pss_cons (ps_fld (pv 0) (pv 3) rfl)
      (pss_one (ps_fld (pv 0) (pe_lst pa_nil) rfl))))), ?_⟩)
  · obtain ⟨a, dx, wl, line, pt, rfl, _⟩ := h
    rfl
  · obtain ⟨a, dx, wl, line, pt, rfl, ha, q⟩ := h
    dsimp only [gCons, gName, gNil, gSub, gTup, gFld, iSeq, iList, iStr, iTup, iRng1, tAnd, tAndT, tAndV, tAsg, tAsg2, tAug, tB, tBM, tBM0, tBreak, tC, tCB, tCallR, tChain, tCons, tDrop, tFld, sFld, sFldAug, tFor_eq, tLc2_eq, tIf, tIfS, tIsN, tLc_eq, tLst, tM0, tM1, tMakeR, tMethR, tNever, tNm, tXk, tCallKw, tNext, tNil, tNoPart, tNot, tNotN, tNotT, tNotV, tOp, tOr, tOrT, tOrV, tOst, tPar, tPart, tRet, tRetN, tRg1, tSeq, tSl, tStar, tTest, tThen, tTup, tUn, C8.tCut, tVar]
    refine ⟨_, rfl, .ref a, rfl, a, _, dx, [], rfl, ha, T.c_Reading, T.na_Reading_words, by simp, _, rfl, .ref a, rfl, a, _, dx, _, rfl, upd_same, T.c_Reading, T.na_Reading_line, by simp [putF], _, rfl, .ref a, rfl, a, _, dx, _, rfl, upd_same, T.c_Reading, T.na_Reading_at, by show 2 < 1000; omega, by simp, fun p hp => ?_⟩
    have pa : p ≠ a := fun z => by rw [z, upd_same] at hp; cases hp
    refine ⟨_, rfl, a, _, dx, _, rfl, by rw [upd_ne (Ne.symm pa), upd_same], T.c_Reading, T.na_Reading_begun, by show 3 < 1000; omega, q p _ (fun b o n e => ?_) ?_ pa upd_same ?_⟩
    · rw [upd_ne n, upd_ne, upd_ne n, upd_ne n, upd_ne n]
      · exact e
      · intro z
        rw [z] at e
        rw [upd_ne pa, upd_ne pa, upd_ne pa, e] at hp
        cases hp
    · rw [upd_ne pa, upd_ne pa, upd_ne pa] at hp
      exact hp
    · rw [upd_ne pa, upd_same]
def spRead (K : PySem.W.Frag) : Sp := fun vs H Q E => ∃ v L d, vs = [v] ∧ Rep K L H v d ∧ match d with
  | .str z => z.length + 2 ≤ sizeLine ∧ (Txt.split z " ").length ≤ 4000 ∧ okWords (Txt.split z " ") ∧ (match wholeM (Txt.split z " ") 0 with
    | .ok d => ∀ v H', Ext H H' → Rep K false H' v d → Q v H'
    | .err p => ∀ dd H', H dd = none → Ext H H' → H' dd = some (.xd [("word", .int (p : Int)), ("line", .int 0)]) → E (.ref (He.ga K "BadText")) (some dd) H')
  | _ => ∀ dd H', H dd = none → Ext H H' → H' dd = some (.xd [("part", .str "text")]) → E (.ref (He.ga K "BadValue")) (some dd) H'
theorem both_read_paper : (∃ fd, FnOk PR w K mg base (L2.CX PR w) 140 (He.ga K "read_paper") fd [("text" : Str)] (spRead K) ∧ ∀ (s : Shared) (ws : List Value), K.In s.heap → ws.length = 1 → BindsTo s fd ⟨[], [("text" : Str)].zip ws⟩ ([("text" : Str)].zip ws)) ∧ FnR PR w K mg base (L2.CX PR w) 140 (He.ga K "read_paper") (spRead K) := by
  have F_Reading := F_Reading (base := base) T
  have F_Reading_whole := F_Reading_whole (base := base) T
  have F_BadValue := F_BadValue (base := base) T
  refine fnokx (k := 139) T.F_read_paper sc_read_paper (fun vs H Q E h => ?_) [("text" : Str)] (fun _ _ _ _ _ _ us hl => match us, hl with | [_], _ => rfl) (fun kV doc pm an cdv ct us hl => match us, hl with | [_], _ => rfl) (fun cdv A outer s H vs Q E hr h => ⟨_, (pss_cons (ps_if (pt_not (pt_val (pe_callB call_isi (by rfl) T.n_isinstance (by decide +kernel) (pa_cons (pv 0) (pa_cons (pe_bt (n := "str") T.n_str (by decide +kernel) rfl) pa_nil))))) (pss_one (ps_raise rfl (takes_of rfl rfl rfl rfl) (SupX.pmk_oexR T.oex_BadValue.1 T.oex_BadValue.2.1 T.oex_BadValue.2.2.1 F_BadValue (hr.mono (by omega)) pass0 rfl T.g_BadValue (pa_cons pe_str pa_nil)))) pss_nil)
      (pss_one (ps_ret (pe_methR0 (pe_makeR T.mk_Reading F_Reading (hr.mono (by omega)) rfl T.g_Reading pass0 (pa_cons (pe_split (pv 0) pe_str) (pa_cons pe_int (pa_cons pe_int pa_nil)))) T.c_Reading T.m_Reading_whole F_Reading_whole (hr.mono (by omega)) (passes_call (takes_of rfl rfl rfl rfl) (fun _ _ _ _ h => h)))))), ?_⟩)
  · obtain ⟨v, L, d, rfl, _⟩ := h
    rfl
  · obtain ⟨v, L, d, rfl, r, h⟩ := h
    dsimp only [gCons, gName, gNil, gSub, gTup, gFld, iSeq, iList, iStr, iTup, iRng1, tAnd, tAndT, tAndV, tAsg, tAsg2, tAug, tB, tBM, tBM0, tBreak, tC, tCB, tCallR, tChain, tCons, tDrop, tFld, sFld, sFldAug, tFor_eq, tLc2_eq, tIf, tIfS, tIsN, tLc_eq, tLst, tM0, tM1, tMakeR, tMethR, tNever, tNm, tXk, tCallKw, tNext, tNil, tNoPart, tNot, tNotN, tNotT, tNotV, tOp, tOr, tOrT, tOrV, tOst, tPar, tPart, tRet, tRetN, tRg1, tSeq, tSl, tStar, tTest, tThen, tTup, tUn, C8.tCut, tVar]
    refine ⟨v, rfl, rIsi_ty T r (by decide) ⟨_, rfl, ?_⟩⟩
    have notS : isOf "str" d = false → ∀ dd H', H dd = none → Ext H H' → H' dd = some (.xd [("part", .str "text")]) → E (.ref (He.ga K "BadValue")) (some dd) H' := fun e => by
      cases d with
      | str z =>
        rw [show isOf "str" (D.str z) = true from rfl] at e
        cases e
      | _ => exact h
    split
    · rename_i h1
      exact mkO_value (notS (by simpa using h1))
    · rename_i h1
      cases d with
      | str z =>
        cases r
        obtain ⟨hz, hl, hok, hq⟩ := h
        refine ⟨.str z, rfl, ⟨z, rfl⟩, z, _, rfl, rfl, by decide +kernel, hz, fun p hp x dx hx hdx hne => ?_⟩
        have e1 : Ext H (upd H p (.lst ((Txt.split z " ").map V.str))) := Ext.upd hp
        have hp1 : upd H p (.lst ((Txt.split z " ").map V.str)) p = _ := upd_same
        generalize upd H p (.lst ((Txt.split z " ").map V.str)) = H1 at e1 hp1 hx hdx ⊢
        have e2 : Ext H1 (upd (upd H1 dx (.own x)) x (.ins (He.ga K "Reading") dx [])) := Ext.upd' (Ext.upd hdx) (by rw [upd_ne (Ne.symm hne)]; exact hx)
        refine ⟨x, dx, p, 0, 0, rfl, upd_same, fun ba H2 b hba hbx hx2 hba2 => ⟨rfl, x, dx, _, rfl, hx2, rfl, x, fun b o => H1 b = some o, Txt.split z " ", 0, 0, rfl, ?_, Nat.zero_le _, hok, ?_⟩⟩
        · have e3 : Ext H1 H2 := fun b' o' z => b b' o' (ne_of_none z hx) (e2 _ _ z)
          exact ⟨⟨dx, p, ba, [], [], hx2, hp1, hba2, .nil, .nil, by simp, fun b o hb => ⟨ne_of_none hb hx, ne_of_none hb (ext_none e2 hba), by simp⟩⟩, fun b o hb => e3 _ _ hb, by simp, hl⟩
        · cases hw : wholeM (Txt.split z " ") 0 with
          | err p =>
            rw [hw] at hq
            exact fun dd H' hF hn hd => hq dd H' (ext_none e1 (by cases hh : H1 dd with | none => rfl | some o => exact absurd hh (hn o))) (e1.trans hF) hd
          | ok d =>
            rw [hw] at hq
            exact fun v H' hF rv => hq v H' (e1.trans hF) rv
      | _ => exact (h1 (by first | rfl | simp [isOf, tyN, subB])).elim
end
end K94
set_option maxRecDepth 100000
set_option maxHeartbeats 4000000
/-! the law's well. -/
namespace K94
open PySem PySem.Spec PyProof.Rows L2 L2.Q Pp StX L2.SupX
theorem call_intI {X : Cx} : CallR X (.type "int") (fun xs H Q => ∃ i, xs = [.int i] ∧ Q (.int i) H) := fun pins s σ H xs us Q I r h => call_int1 pins s σ H xs us Q I r (.inl h)
theorem call_intB {X : Cx} : CallR X (.type "int") (fun xs H Q => ∃ k, xs = [.bl k] ∧ Q (.int (if k then 1 else 0)) H) := fun pins s σ H xs us Q I r h => call_int1 pins s σ H xs us Q I r (.inr h)
theorem sc__law_well : FnScope [("script" : Str), ("cell" : Str)] [("script" : Str)] (defScope s__law_well) := ⟨rfl, rfl, rfl, by decide +kernel, rfl, by decide +kernel, by decide +kernel⟩
theorem sc__law_draw : FnScope [("well" : Str), ("many" : Str), ("rest" : Str), ("turn" : Str), ("cell" : Str), ("blend" : Str)] [("well" : Str), ("many" : Str)] (defScope s__law_draw) := ⟨rfl, rfl, rfl, by decide +kernel, rfl, by decide +kernel, by decide +kernel⟩
theorem sc__law_one : FnScope [("well" : Str), ("some" : Str)] [("well" : Str), ("some" : Str)] (defScope s__law_one) := ⟨rfl, rfl, rfl, by decide +kernel, rfl, by decide +kernel, by decide +kernel⟩
theorem blend_lt {b t : Int} (h1 : 0 ≤ b) (h2 : b < 2147483587) (h3 : 0 ≤ t) (h4 : t < 16384) : (b * (2 * t + 44287) + 156232 * t * t + 166707).natAbs < 2 ^ 64 := by
  have a1 : b * (2 * t + 44287) ≤ 2147483587 * 77055 := Int.mul_le_mul (by omega) (by omega) (by omega) (by omega)
  have a2 : 0 ≤ b * (2 * t + 44287) := Int.mul_nonneg h1 (by omega)
  have a3 : 156232 * t * t ≤ (156232 * 16384) * 16384 := Int.mul_le_mul (by omega) (by omega) (by omega) (by omega)
  have a4 : 0 ≤ 156232 * t * t := Int.mul_nonneg (by omega) h3
  omega
/-- the well -/
structure Well (H : Hp) (wa ca : Addr) (turn : Nat) : Prop where
  ex : ∃ (cells : List Int) (rest : Int), H wa = some (.lst [.ref ca, .int (turn : Int), .int rest]) ∧ H ca = some (.lst (cells.map V.int)) ∧ cells.length ≤ 1000 ∧ 0 ≤ rest ∧ ca ≠ wa
section
variable {w : World} {K : PySem.W.Frag} {mg : Str → Option Value} {base : Heap} (T : Txt w K mg)
include T
def spWell (K : PySem.W.Frag) : Sp := fun vs H Q _ => ∃ (a : Addr) (cells : List Int), vs = [.ref a] ∧ SqL K H a (cells.map V.int) ∧ cells.length ≤ 1000 ∧ ∀ wa ca H', Ext H H' → H wa = none → Well H' wa ca 0 → Q (.ref wa) H'
theorem F__law_well : FnR PR w K mg base CX0 5 (He.ga K "_law_well") (spWell K) := by
  refine fnr (k := 4) T.F__law_well sc__law_well (fun vs H Q E h => ?_) (fun _ _ _ _ _ _ us hl => match us, hl with | [_], _ => rfl) (fun cdv A outer s H vs Q E hr h => ⟨_, (pss_one (ps_ret (pe_lst (pa_cons (pe_lc (own := [(("cell" : Str), 1)]) rfl sc__law_well.nd (pi_list (pe_slice sl_list (pv 0) po_none (po_some pe_int))) (blkOk_by (own := [(("cell" : Str), 1)]) (N := [("script" : Str), ("cell" : Str)]) (sc := defScope s__law_well) (by decide +kernel)) (fun _ _ _ _ _ => (pg_name (i := 1) sc__law_well.nd rfl (Or.inl rfl))) (fun _ _ _ _ _ => pts_nil) (fun _ _ _ _ _ => (pe_callTy call_intI (by rfl) T.n_int (by decide +kernel) (pa_cons (pv 1) pa_nil)))) (pa_cons pe_int (pa_cons pe_int pa_nil)))))), ?_⟩)
  · obtain ⟨a, cells, rfl, _⟩ := h
    rfl
  · obtain ⟨a, cells, rfl, ha, hl, q⟩ := h
    dsimp only [gCons, gName, gNil, gSub, gTup, gFld, iSeq, iList, iStr, iTup, iRng1, tAnd, tAndT, tAndV, tAsg, tAsg2, tAug, tB, tBM, tBM0, tBreak, tC, tCB, tCallR, tChain, tCons, tDrop, tFld, sFld, sFldAug, tFor_eq, tLc2_eq, tIf, tIfS, tIsN, tLc_eq, tLst, tM0, tM1, tMakeR, tMethR, tNever, tNm, tXk, tCallKw, tNext, tNil, tNoPart, tNot, tNotN, tNotT, tNotV, tOp, tOr, tOrT, tOrV, tOst, tPar, tPart, tRet, tRetN, tRg1, tSeq, tSl, tStar, tTest, tThen, tTup, tUn, C8.tCut, tVar]
    obtain ⟨cs, hcs⟩ : ∃ cs : List Int, cutV (cells.map V.int) none (some 60) = cs.map V.int := ⟨(cells.drop _).take _, by unfold cutV; rw [← List.map_drop, ← List.map_take]⟩
    have hcl : cs.length ≤ 1000 := by
      have := cutV_length (cells.map V.int) none (some 60)
      rw [hcs] at this
      simp at this
      omega
    refine ⟨.ref a, rfl, 60, rfl, a, _, rfl, ha, fun p hp => ⟨p, rfl, ⟨_, .of upd_same⟩, ?_⟩⟩
    rw [hcs]
    have e1 : Ext H (upd H p (.lst (cs.map V.int))) := Ext.upd hp
    have hp1 : upd H p (.lst (cs.map V.int)) p = _ := upd_same
    generalize upd H p (.lst (cs.map V.int)) = H1 at e1 hp1 ⊢
    refine LC_ext (walk_list (xs := cs.map V.int)) (by simp; omega) (fun i H x H' y => y.1) (fun i H y => (cs.map V.int)[i]? = some y) (fun _ _ _ _ _ h => h) (fun H2 e2 => .of (e2 _ _ hp1)) (fun i x H2 hi e2 y Qc hQ => ?_) (fun D H2 acc hD e2 hacc hal hval => ?_)
    · obtain ⟨_, hx⟩ := y
      have hx' := hx
      rw [List.getElem?_map] at hx
      cases hc : cs[i]? with
      | none => rw [hc] at hx; cases hx
      | some z =>
        rw [hc] at hx
        cases hx
        exact ⟨_, rfl, z, rfl, hQ _ _ Ext.rfl' hx'⟩
    · have ea : acc = cs.map V.int := by
        apply List.ext_getElem?
        intro i
        cases hv : acc[i]? with
        | some y => exact (hval i y hv).symm
        | none =>
          have := List.getElem?_eq_none_iff.mp hv
          exact (List.getElem?_eq_none (by omega)).symm
      subst ea
      refine ⟨by have : sizeLine = 16777216 := sizeLine_eq; simp; omega, fun p2 hp2 => q p2 D _ ((e1.trans e2).upd' hp2) (ext_none (e1.trans e2) hp2) ⟨cs, 0, upd_same, ?_, hcl, Int.le_refl _, ?_⟩⟩
      · rw [upd_ne (ne_of_none hacc hp2)]
        exact hacc
      · exact ne_of_none hacc hp2
/-- a draw: anything below many -/
def spDraw (K : PySem.W.Frag) : Sp := fun vs H Q _ => ∃ wa ca many turn, vs = [.ref wa, .int ((many : Nat) : Int)] ∧ many < 1000 ∧ Well H wa ca turn ∧ turn < 16384 ∧ ∀ (r : Int) (turn' : Nat) H', 0 ≤ r → (r < many ∨ many = 0) → turn' ≤ turn + 1 → ExtB wa H H' → Well H' wa ca turn' → Q (.int r) H'
theorem F__law_draw : FnR PR w K mg base CX0 5 (He.ga K "_law_draw") (spDraw K) := by
  refine fnr (k := 4) T.F__law_draw sc__law_draw (fun vs H Q E h => ?_) (fun _ _ _ _ _ _ us hl => match us, hl with | [_, _], _ => rfl) (fun cdv A outer s H vs Q E hr h => ⟨_, (pss_cons (ps_if (pt_cmpR op_lt (pv 1) pe_int (nomark _)) (pss_one (ps_ret pe_int)) pss_nil)
      (pss_cons (ps_if (pt_cmpR op_gt (pe_ix ix_list (pv 0) pe_int (fun _ _ => rfl)) pe_int (nomark _)) (pss_cons (ps_set (i := 2) sc__law_draw.nd rfl (Or.inl rfl) (pe_callTy call_intI (by rfl) T.n_int (by decide +kernel) (pa_cons (pe_ix ix_list (pv 0) pe_int (fun _ _ => rfl)) pa_nil)))
      (pss_cons (ps_asg (pe_op op_fdiv (pv 2) (pv 1)) (pg_sub (pv 0) pe_int set_list))
      (pss_one (ps_ret (pe_op op_mod (pe_callTy call_intI (by rfl) T.n_int (by decide +kernel) (pa_cons (pv 2) pa_nil)) (pv 1)))))) pss_nil)
      (pss_cons (ps_set (i := 3) sc__law_draw.nd rfl (Or.inl rfl) (pe_ix ix_list (pv 0) pe_int (fun _ _ => rfl)))
      (pss_cons (ps_asg (pe_op op_add (pv 3) pe_int) (pg_sub (pv 0) pe_int set_list))
      (pss_cons (ps_set (i := 4) sc__law_draw.nd rfl (Or.inl rfl) (pe_op op_add (pe_op op_mul pe_int (pv 3)) pe_int))
      (C8.pss_cut (ps_if (pt_cmpR (op_neNil hr.units0) (pe_ix ix_list (pv 0) pe_int (fun _ _ => rfl)) (pe_lst pa_nil) (nomark _)) (pss_one (ps_set (i := 4) sc__law_draw.nd rfl (Or.inl rfl) (pe_ix ix_list (pe_ix ix_list (pv 0) pe_int (fun _ _ => rfl)) (pe_op op_mod (pe_callTy call_intI (by rfl) T.n_int (by decide +kernel) (pa_cons (pv 3) pa_nil)) (pe_callB call_len (by rfl) T.n_len PySem.boot_len (pa_cons (pe_ix ix_list (pv 0) pe_int (fun _ _ => rfl)) pa_nil))) (fun _ _ => rfl)))) pss_nil)
      (C8.pss_cut (ps_if (PW.pt (pw_and (pt_cmpR op_lt (pv 3) (pe_callB call_len (by rfl) T.n_len PySem.boot_len (pa_cons (pe_ix ix_list (pv 0) pe_int (fun _ _ => rfl)) pa_nil)) (nomark _)) (pw_and1 (pt_cmpR op_ge (pe_callB call_abs (by rfl) T.n_abs (by decide +kernel) (pa_cons (pv 4) pa_nil)) (pe_op op_pow pe_int pe_int) (nomark _))))) (pss_cons (ps_set (i := 2) sc__law_draw.nd rfl (Or.inl rfl) (pe_op op_add (pe_op op_mul pe_int (pe_op op_sub (pe_callB call_abs (by rfl) T.n_abs (by decide +kernel) (pa_cons (pv 4) pa_nil)) (pe_op op_pow pe_int pe_int))) (pe_callTy call_intB (by rfl) T.n_int (by decide +kernel) (pa_cons (pe_cmpR op_lt (pv 4) pe_int (nomark _)) pa_nil))))
      (pss_cons (ps_asg (pe_op op_fdiv (pv 2) (pv 1)) (pg_sub (pv 0) pe_int set_list))
      (pss_one (ps_ret (pe_op op_mod (pe_callTy call_intI (by rfl) T.n_int (by decide +kernel) (pa_cons (pv 2) pa_nil)) (pv 1)))))) pss_nil)
      (pss_cons (ps_set (i := 5) sc__law_draw.nd rfl (Or.inl rfl) (pe_op op_mod (pe_callTy call_intI (by rfl) T.n_int (by decide +kernel) (pa_cons (pe_op op_pow (pe_op op_add (pe_op op_add (pe_op op_mod (pe_callTy call_intI (by rfl) T.n_int (by decide +kernel) (pa_cons (pv 4) pa_nil)) pe_int) (pe_op op_mul pe_int (pv 3))) pe_int) pe_int) pa_nil)) pe_int))
      (pss_cons (ps_set (i := 5) sc__law_draw.nd rfl (Or.inl rfl) (pe_op op_mod (pe_callTy call_intI (by rfl) T.n_int (by decide +kernel) (pa_cons (pe_op op_pow (pe_op op_add (pe_op op_add (pe_op op_mul (pv 5) (pe_op op_add (pe_op op_mul pe_int (pv 3)) pe_int)) (pe_op op_mul (pe_op op_mul pe_int (pv 3)) (pv 3))) pe_int) pe_int) pa_nil)) pe_int))
      (pss_one (ps_ret (pe_op op_mod (pe_callTy call_intI (by rfl) T.n_int (by decide +kernel) (pa_cons (pe_op op_fdiv (pv 5) pe_int) pa_nil)) (pv 1))))))))))))), ?_⟩)
  · obtain ⟨wa, ca, many, turn, rfl, _⟩ := h
    rfl
  · obtain ⟨wa, ca, many, turn, rfl, hm, W, ht, q⟩ := h
    obtain ⟨cells, rest, h1, h2, hl, hrest, hne⟩ := W.ex
    dsimp only [gCons, gName, gNil, gSub, gTup, gFld, iSeq, iList, iStr, iTup, iRng1, tAnd, tAndT, tAndV, tAsg, tAsg2, tAug, tB, tBM, tBM0, tBreak, tC, tCB, tCallR, tChain, tCons, tDrop, tFld, sFld, sFldAug, tFor_eq, tLc2_eq, tIf, tIfS, tIsN, tLc_eq, tLst, tM0, tM1, tMakeR, tMethR, tNever, tNm, tXk, tCallKw, tNext, tNil, tNoPart, tNot, tNotN, tNotT, tNotV, tOp, tOr, tOrT, tOrV, tOst, tPar, tPart, tRet, tRetN, tRg1, tSeq, tSl, tStar, tTest, tThen, tTup, tUn, C8.tCut, tVar]
    have hmod : ∀ x : Int, 2 ≤ many → 0 ≤ x % (many : Int) ∧ (x % (many : Int) < many ∨ many = 0) := fun x h => ⟨Int.emod_nonneg _ (by omega), .inl (Int.emod_lt_of_pos _ (by omega))⟩
    refine ⟨_, rfl, _, 2, rfl, rfl, _, rfl, ?_⟩
    split
    · rename_i h
      have : many < 2 := by have := of_decide_eq_true h; omega
      exact q 0 turn H (Int.le_refl _) (by omega) (by omega) (fun b o _ e => e) W
    · rename_i h
      have h2m : 2 ≤ many := by
        rcases Nat.lt_or_ge many 2 with z | z
        · exact absurd (decide_eq_true (show (many : Int) < 2 by omega)) h
        · exact z
      refine ⟨.ref wa, rfl, wa, _, 2, .int rest, rfl, rfl, .of h1, rfl, _, 0, rfl, rfl, _, rfl, ?_⟩
      split
      · rename_i h
        refine ⟨.ref wa, rfl, wa, _, 2, .int rest, rfl, rfl, .of h1, rfl, rest, rfl, _, rfl, _, rfl, rest, many, rfl, rfl, ?_, .ref wa, rfl, wa, _, 2, 2, rfl, rfl, h1, rfl, _, rfl, rest, rfl, _, rfl, rest, many, rfl, rfl, ?_, ?_⟩
        · constructor <;> omega
        · show (0 : Int) < many
          omega
        · refine q _ turn _ (hmod rest h2m).1 (hmod rest h2m).2 (by omega) .upd ⟨cells, rest / many, upd_same, ?_, hl, Int.ediv_nonneg hrest (by omega), hne⟩
          rw [upd_ne hne]
          exact h2
      · rename_i h
        refine ⟨.ref wa, rfl, wa, _, 1, .int turn, rfl, rfl, .of h1, rfl, _, rfl, _, 1, rfl, rfl, .ref wa, rfl, wa, _, 1, 1, rfl, rfl, h1, rfl, _, rfl, _, _, rfl, rfl, ?_, _, _, rfl, rfl, ?_⟩
        · exact .inl (by omega)
        have h11 : upd H wa (.lst ([V.ref ca, .int (turn : Int), .int rest].set 1 (.int ((turn : Int) + 1)))) wa = some (.lst [V.ref ca, .int ((turn + 1 : Nat) : Int), .int rest]) := upd_same
        have h21 : upd H wa (.lst ([V.ref ca, .int (turn : Int), .int rest].set 1 (.int ((turn : Int) + 1)))) ca = some (.lst (cells.map V.int)) := by rw [upd_ne hne]; exact h2
        have eB : ExtB wa H (upd H wa (.lst ([V.ref ca, .int (turn : Int), .int rest].set 1 (.int ((turn : Int) + 1))))) := .upd
        generalize upd H wa (.lst ([V.ref ca, .int (turn : Int), .int rest].set 1 (.int ((turn : Int) + 1)))) = H1 at h11 h21 eB ⊢
        have l3 : ∀ {x y z : V}, ([x, y, z] : List V)[0]? = some x := fun {x y z} => rfl
        refine ⟨fun σ' H' => ∃ c : Int, σ' = [some (.ref wa), some (.int many), none, some (.int turn), some (.int c), none] ∧ ExtB wa H H' ∧ H' wa = some (.lst [V.ref ca, .int ((turn + 1 : Nat) : Int), .int rest]) ∧ H' ca = some (.lst (cells.map V.int)), ?_, ?_⟩
        · refine ⟨.ref wa, rfl, wa, _, 0, .ref ca, rfl, rfl, .of h11, rfl, by simp, fun p hp => ⟨ca, p, _, rfl, rfl, .of (by rw [upd_ne (ne_of_none h21 hp)]; exact h21), upd_same, _, rfl, ?_⟩⟩
          have eP : Ext H1 (upd H1 p (.lst [])) := Ext.upd hp
          have h12 := eP _ _ h11
          have h22 := eP _ _ h21
          have eB2 := eB.trans (.of eP)
          generalize upd H1 p (.lst []) = H2 at h12 h22 eB2 ⊢
          split
          · rename_i h
            have hpos : 0 < cells.length := by
              cases cells with
              | nil => simp at h
              | cons a b => simp
            have hi : ((turn : Int) % (cells.length : Int)) = ((turn % cells.length : Nat) : Int) := by omega
            obtain ⟨c, hc⟩ : ∃ c, cells[turn % cells.length]? = some c := ⟨_, List.getElem?_eq_getElem (Nat.mod_lt _ hpos)⟩
            refine ⟨.ref wa, rfl, wa, _, 0, .ref ca, rfl, rfl, .of h12, rfl, .int turn, rfl, turn, rfl, .ref wa, rfl, wa, _, 0, .ref ca, rfl, rfl, .of h12, rfl, .ref ca, cells.length, rfl, .inl ⟨_, .of h22, by simp⟩, _, _, rfl, rfl, ?_, ca, _, _, .int c, rfl, rfl, .of h22, ?_, c, rfl, eB2, h12, h22⟩
            · show (0 : Int) < cells.length
              omega
            · rw [hi]
              exact atI_nat (by rw [List.getElem?_map, hc]; rfl)
          · exact ⟨_, rfl, eB2, h12, h22⟩
        · rintro σ' H' ⟨c, rfl, eB2, h12, h22⟩
          have fin : ∀ x : Int, Q (.int (x % (many : Int))) H' := fun x => q _ (turn + 1) H' (hmod x h2m).1 (hmod x h2m).2 (Nat.le_refl _) eB2 ⟨cells, rest, h12, h22, hl, hrest, hne⟩
          refine ⟨fun σ' H'' => σ' = [some (.ref wa), some (.int many), none, some (.int turn), some (.int c), none] ∧ H'' = H', ?_, ?_⟩
          · refine ⟨.int turn, rfl, .ref wa, rfl, wa, _, 0, .ref ca, rfl, rfl, .of h12, rfl, .ref ca, cells.length, rfl, .inl ⟨_, .of h22, by simp⟩, _, _, rfl, rfl, _, rfl, ?_⟩
            split
            · refine ⟨.int c, rfl, c, rfl, 10, 18, rfl, rfl, ⟨by omega, by omega, by decide⟩, _, _, rfl, rfl, decide ((10 : Int) ^ ((18 : Int).toNat) ≤ if c < 0 then -c else c), rfl, ?_⟩
              generalize hk : decide ((10 : Int) ^ ((18 : Int).toNat) ≤ if c < 0 then -c else c) = kk
              cases kk with
              | false => exact ⟨rfl, rfl⟩
              | true =>
                have hc18 : (10 : Int) ^ ((18 : Int).toNat) ≤ if c < 0 then -c else c := of_decide_eq_true hk
                have hr0 : 0 ≤ 2 * ((if c < 0 then -c else c) - (10 : Int) ^ ((18 : Int).toNat)) + (if decide (c < 0) = true then 1 else 0) := by
                  have : 0 ≤ (if decide (c < 0) = true then (1 : Int) else 0) := by split <;> omega
                  omega
                rw [if_pos rfl]
                refine ⟨.int c, rfl, c, rfl, 10, 18, rfl, rfl, ⟨by omega, by omega, by decide⟩, _, _, rfl, rfl, 2, _, rfl, rfl, .inl (by omega), .int c, rfl, c, 0, rfl, rfl, _, rfl, _, _, rfl, rfl, _, rfl, _, rfl, _, (many : Int), rfl, rfl, ?_, .ref wa, rfl, wa, _, 2, 2, rfl, rfl, h12, rfl, _, rfl, _, rfl, _, rfl, _, (many : Int), rfl, rfl, ?_, ?_⟩
                · constructor <;> omega
                · show (0 : Int) < many
                  omega
                · refine q _ (turn + 1) _ (hmod _ h2m).1 (hmod _ h2m).2 (Nat.le_refl _) (eB2.trans .upd) ⟨cells, _, upd_same, ?_, hl, Int.ediv_nonneg hr0 (by omega), hne⟩
                  rw [upd_ne hne]
                  exact h22
            · exact ⟨rfl, rfl⟩
          · rintro σ' H'' ⟨rfl, e⟩
            rw [e]
            have b1 := Int.emod_nonneg c (show (2147483549 : Int) ≠ 0 by decide)
            have b2 := Int.emod_lt_of_pos c (show (0 : Int) < 2147483549 by decide)
            have b3 : ∀ x : Int, 0 ≤ x % 2147483587 ∧ x % 2147483587 < 2147483587 := fun x => ⟨Int.emod_nonneg _ (by decide), Int.emod_lt_of_pos _ (by decide)⟩
            refine ⟨.int c, rfl, c, rfl, c, 2147483549, rfl, rfl, (by decide : (0 : Int) < 2147483549), .int turn, rfl, 166707, (turn : Int), rfl, rfl, .inl (by omega), _, _, rfl, rfl, _, 27579, rfl, rfl, _, 5, rfl, rfl, ⟨by omega, by omega, ?_⟩, _, rfl, _, 2147483587, rfl, rfl, (by decide : (0 : Int) < 2147483587), ?_⟩
            · omega
            generalize (c % 2147483549 + 166707 * (turn : Int) + 27579) ^ (5 : Int).toNat = x5
            obtain ⟨b4, b5⟩ := b3 x5
            refine ⟨.int (x5 % 2147483587), rfl, .int turn, rfl, 2, (turn : Int), rfl, rfl, .inl (by omega), _, 44287, rfl, rfl, x5 % 2147483587, _, rfl, rfl, .inl (by omega), .int turn, rfl, 156232, (turn : Int), rfl, rfl, .inl (by omega), .int turn, rfl, _, (turn : Int), rfl, rfl, .inl (by omega), _, _, rfl, rfl, _, 166707, rfl, rfl, _, 3, rfl, rfl, ⟨by omega, by omega, blend_lt b4 b5 (by omega) (by omega)⟩, ?_⟩
            generalize (x5 % 2147483587 * (2 * (turn : Int) + 44287) + 156232 * (turn : Int) * (turn : Int) + 166707) ^ (3 : Int).toNat = x3
            refine ⟨_, rfl, _, 2147483629, rfl, rfl, (by decide : (0 : Int) < 2147483629), _, rfl, _, 64, rfl, rfl, ⟨by omega, by omega⟩, _, rfl, _, rfl, _, (many : Int), rfl, rfl, ?_, fin _⟩
            show (0 : Int) < many
            omega
/-- one of a list -/
def spOne (K : PySem.W.Frag) : Sp := fun vs H Q _ => ∃ wa ca l xs turn, vs = [.ref wa, .ref l] ∧ H l = some (.lst xs) ∧ l ≠ wa ∧ xs ≠ [] ∧ xs.length < 1000 ∧ Well H wa ca turn ∧ turn < 16384 ∧ ∀ x ∈ xs, ∀ (turn' : Nat) H', turn' ≤ turn + 1 → ExtB wa H H' → Well H' wa ca turn' → Q x H'
theorem F__law_one : FnR PR w K mg base CX0 10 (He.ga K "_law_one") (spOne K) := by
  have F__law_draw := F__law_draw (base := base) T
  refine fnr (k := 9) T.F__law_one sc__law_one (fun vs H Q E h => ?_) (fun _ _ _ _ _ _ us hl => match us, hl with | [_, _], _ => rfl) (fun cdv A outer s H vs Q E hr h => ⟨_, (pss_one (ps_ret (pe_ix ix_list (pv 1) (pe_callR F__law_draw (hr.mono (by omega)) T.k__law_draw T.g__law_draw rfl pass0 (pa_cons (pv 0) (pa_cons (pe_callB call_len (by rfl) T.n_len PySem.boot_len (pa_cons (pv 1) pa_nil)) pa_nil))) (fun _ _ => rfl)))), ?_⟩)
  · obtain ⟨wa, ca, l, xs, turn, rfl, _⟩ := h
    rfl
  · obtain ⟨wa, ca, l, xs, turn, rfl, hl, hne, hx, hxl, W, ht, q⟩ := h
    dsimp only [gCons, gName, gNil, gSub, gTup, gFld, iSeq, iList, iStr, iTup, iRng1, tAnd, tAndT, tAndV, tAsg, tAsg2, tAug, tB, tBM, tBM0, tBreak, tC, tCB, tCallR, tChain, tCons, tDrop, tFld, sFld, sFldAug, tFor_eq, tLc2_eq, tIf, tIfS, tIsN, tLc_eq, tLst, tM0, tM1, tMakeR, tMethR, tNever, tNm, tXk, tCallKw, tNext, tNil, tNoPart, tNot, tNotN, tNotT, tNotV, tOp, tOr, tOrT, tOrV, tOst, tPar, tPart, tRet, tRetN, tRg1, tSeq, tSl, tStar, tTest, tThen, tTup, tUn, C8.tCut, tVar]
    refine ⟨.ref l, rfl, .ref wa, rfl, .ref l, rfl, .ref l, xs.length, rfl, .inl ⟨_, .of hl, rfl⟩, wa, ca, xs.length, turn, rfl, hxl, W, ht, fun r turn' H' h0 h1 h2 eB W' => ?_⟩
    have hlen : 0 < xs.length := List.length_pos_iff.mpr hx
    obtain ⟨j, rfl⟩ : ∃ j : Nat, r = (j : Int) := ⟨r.toNat, by omega⟩
    have hj : j < xs.length := by omega
    exact ⟨l, xs, (j : Int), xs[j], rfl, rfl, .of (eB _ _ hne hl), atI_nat (List.getElem?_eq_getElem hj), q _ (List.getElem_mem hj) turn' H' h2 eB W'⟩
end
end K94
set_option maxRecDepth 100000
set_option maxHeartbeats 4000000
/-! The plain law: words written, words read. -/
namespace K94
open PySem PySem.Spec PyProof.Rows L2 L2.Q Pp StX L2.SupX
def okOne (z : Str) : Bool := decide (z.length ≤ 400) && ((!okNum z || (intText? z).isSome) && z.cps.toList.all fun c => decide (c ≠ 32) && decide (c < 128))
def okBr (z : Str) : Bool := decide (z ≠ "(") && (decide (z ≠ "[") && (decide (z ≠ ")") && decide (z ≠ "]")))
def okStr (z : Str) : Bool := isWordS z && (okOne z && (okBr z && decide (z ≠ "-")))
def okInt (i : Int) (z : Str) : Bool := decide (z = Str.ofString (toString i)) && (okOne z && (okBr z && (decide (z ≠ "-") && (!isWordS z && (decide (numS z = some i) && (decide ((Str.ofString (toString (if i < 0 then -i else i))).length ≤ 400) && decide (i.natAbs.log2 < 1920)))))))
mutual
/-- d is written as these words -/
inductive Wr : D → List Str → Prop where
  | non : Wr .non ["-"]
  | str {z : Str} (h : okStr z = true) : Wr (.str z) [z]
  | int {i : Int} {z : Str} (h : okInt i z = true) : Wr (.int i) [z]
  | tup {ds : List D} {ws : List Str} (h : Wrs ds ws) : Wr (.tup ds) (("(" : Str) :: (ws ++ [(")" : Str)]))
  | pap {c : PK} {ds : List D} {ws : List Str} (hc : c.size = some ds.length) (h : Wrs ds ws) : Wr (.pap c ds) (("[" : Str) :: c.word :: (ws ++ [("]" : Str)]))
inductive Wrs : List D → List Str → Prop where
  | nil : Wrs [] []
  | cons {d : D} {ds : List D} {ws vs : List Str} (h : Wr d ws) (t : Wrs ds vs) : Wrs (d :: ds) (ws ++ vs)
end
theorem okStr_parts {z : Str} (h : okStr z = true) : isWordS z = true ∧ okOne z = true ∧ okBr z = true ∧ z ≠ "-" := by
  simp only [okStr, Bool.and_eq_true, decide_eq_true_eq] at h
  exact h
theorem okInt_parts {i : Int} {z : Str} (h : okInt i z = true) : z = Str.ofString (toString i) ∧ okOne z = true ∧ okBr z = true ∧ z ≠ "-" ∧ isWordS z = false ∧ numS z = some i ∧ (Str.ofString (toString (if i < 0 then -i else i))).length ≤ 400 ∧ i.natAbs.log2 < 1920 := by
  simp only [okInt, Bool.and_eq_true, decide_eq_true_eq, Bool.not_eq_true'] at h
  exact h
theorem okOne_word (c : PK) : okOne c.word = true := by cases c <;> decide +kernel
mutual
theorem Wr.all : ∀ {d : D} {ws : List Str}, Wr d ws → ∀ z ∈ ws, okOne z = true
  | _, _, .non, z, h => by
    rcases List.mem_singleton.mp h with rfl
    decide +kernel
  | _, _, .str h', z, h => by
    rcases List.mem_singleton.mp h with rfl
    exact (okStr_parts h').2.1
  | _, _, .int h', z, h => by
    rcases List.mem_singleton.mp h with rfl
    exact (okInt_parts h').2.1
  | _, _, .tup h', z, h => by
    simp only [List.mem_cons, List.mem_append, List.mem_nil_iff, or_false] at h
    rcases h with rfl | h | rfl
    · decide +kernel
    · exact h'.all z h
    · decide +kernel
  | _, _, .pap hc h', z, h => by
    simp only [List.mem_cons, List.mem_append, List.mem_nil_iff, or_false] at h
    rcases h with rfl | rfl | h | rfl
    · decide +kernel
    · exact okOne_word _
    · exact h'.all z h
    · decide +kernel
theorem Wrs.all : ∀ {ds : List D} {ws : List Str}, Wrs ds ws → ∀ z ∈ ws, okOne z = true
  | _, _, .nil, z, h => by simp at h
  | _, _, .cons h1 h2, z, h => by
    rcases List.mem_append.mp h with h | h
    · exact h1.all z h
    · exact h2.all z h
end
mutual
theorem Wr.kept : ∀ {d : D} {ws : List Str}, Wr d ws → keptD d = d
  | _, _, .non => rfl
  | _, _, .str _ => rfl
  | _, _, .int _ => rfl
  | _, _, .tup h => congrArg D.tup h.kept
  | _, _, .pap _ _ => rfl
theorem Wrs.kept : ∀ {ds : List D} {ws : List Str}, Wrs ds ws → keptL ds = ds
  | _, _, .nil => rfl
  | _, _, .cons h1 h2 => by
    show keptD _ :: keptL _ = _
    rw [h1.kept, h2.kept]
end
mutual
theorem Wr.okW : ∀ {d : D} {ws : List Str}, Wr d ws → Pp.okW d = true
  | _, _, .non => rfl
  | _, _, .str h => by
    have h1 := (okStr_parts h).2.1
    unfold okOne at h1
    have h2 := of_decide_eq_true (Bool.and_eq_true_iff.mp h1).1
    show decide (_ ≤ 1000000) = true
    exact decide_eq_true (by omega)
  | _, _, .int h => decide_eq_true (okInt_parts h).2.2.2.2.2.2.2
  | _, _, .tup h => h.okW
  | _, _, .pap _ h => h.okW
theorem Wrs.okW : ∀ {ds : List D} {ws : List Str}, Wrs ds ws → okWL ds = true
  | _, _, .nil => rfl
  | _, _, .cons h1 h2 => by
    show (Pp.okW _ && okWL _) = true
    rw [h1.okW, h2.okW]
    rfl
end
mutual
theorem Wr.words : ∀ {d : D} {ws : List Str}, Wr d ws → ∀ n, d.dep ≤ n → wordsD n d = ws.map some
  | _, _, .non, n, _ => wordsD_non n
  | _, _, .str h, n, _ => by rw [wordsD_str, if_pos (okStr_parts h).1]; rfl
  | _, _, .int h, n, _ => by
    obtain ⟨e, _, _, _, _, _, l, _⟩ := okInt_parts h
    rw [wordsD_int, if_pos l, e]
    rfl
  | _, _, .tup (ds := ds) h, n, hn => by
    cases n with
    | zero => simp [D.dep] at hn
    | succ n =>
      rw [wordsD_tup, h.words n (by simp [D.dep] at hn; exact hn)]
      simp
  | _, _, .pap hc h, n, hn => by
    cases n with
    | zero => simp [D.dep] at hn
    | succ n =>
      rw [wordsD_pap, h.words n (by simp [D.dep] at hn; exact hn), hc]
      simp
theorem Wrs.words : ∀ {ds : List D} {ws : List Str}, Wrs ds ws → ∀ n, depL ds ≤ n → wordsL n ds = ws.map some
  | _, _, .nil, n, _ => rfl
  | _, _, .cons h1 h2, n, hn => by
    have hn' : max (D.dep _) (depL _) ≤ n := hn
    show wordsD n _ ++ wordsL n _ = _
    rw [h1.words n (by omega), h2.words n (by omega), List.map_append]
end
/-! ### reading -/
theorem drop_get {α : Type} {xs : List α} {p : Nat} {x : α} {r : List α} (h : xs.drop p = x :: r) : xs[p]? = some x ∧ xs.drop (p + 1) = r := by
  constructor
  · have := congrArg (·[0]?) h
    simpa using this
  · rw [← List.drop_drop, h]
    rfl
theorem drop_app {α : Type} {xs : List α} {p : Nat} {ws r : List α} (h : xs.drop p = ws ++ r) : xs.drop (p + ws.length) = r := by
  rw [← List.drop_drop, h, List.drop_left]
theorem loop_plain {words : List Str} {pt n : Nat} {c : Option PK} {ds : List D} {fr : List Frame} {z : Str} {d : D} (h : words[pt]? = some z) (hb : okBr z = true) (hp : plainS z = some d) (hf : full c ds.length = false) :
    loopM words (n + 1) pt ((c, ds) :: fr) = loopM words n (pt + 1) ((c, ds ++ [d]) :: fr) := by
  simp only [okBr, Bool.and_eq_true, decide_eq_true_eq] at hb
  obtain ⟨b1, b2, b3, b4⟩ := hb
  rw [loopM.eq_def]
  dsimp only
  rw [h]
  dsimp only
  rw [if_neg (fun z => z.elim b1 b2), if_neg (fun z => z.elim b3 b4), hp]
  dsimp only
  rw [if_neg (by rw [hf]; exact Bool.false_ne_true)]
theorem loop_open {words : List Str} {pt n p : Nat} {c c' : Option PK} {ds : List D} {fr : List Frame} {z : Str} (h : words[pt]? = some z) (hb : z = "(" ∨ z = "[") (hf : full c ds.length = false) (hbe : beginM words pt (fr.length + 1) = .ok (c', p)) :
    loopM words (n + 1) pt ((c, ds) :: fr) = loopM words n p ((c', []) :: (c, ds) :: fr) := by
  rw [loopM.eq_def]
  dsimp only
  rw [h]
  dsimp only
  rw [if_pos hb, if_neg (by rw [hf]; exact Bool.false_ne_true), List.length_cons, hbe]
theorem loop_close {words : List Str} {pt n : Nat} {c c' : Option PK} {es ds : List D} {fr : List Frame} (h : words[pt]? = some (closing c')) (hf' : ∀ k, c' = some k → full c' es.length = true) (hf : full c ds.length = false) :
    loopM words (n + 1) pt ((c', es) :: (c, ds) :: fr) = loopM words n (pt + 1) ((c, ds ++ [madeD c' es]) :: fr) := by
  have n1 : ¬ (closing c' = "(" ∨ closing c' = "[") := by
    cases c' with
    | none => show ¬ ((")" : Str) = "(" ∨ (")" : Str) = "["); decide +kernel
    | some k => show ¬ (("]" : Str) = "(" ∨ ("]" : Str) = "["); decide +kernel
  have n2 : closing c' = ")" ∨ closing c' = "]" := by
    cases c' with
    | none => exact .inl rfl
    | some k => exact .inr rfl
  have hb : badEnd words pt c' es.length = false := by
    unfold badEnd
    rw [h, decide_eq_true rfl]
    cases c' with
    | none => rfl
    | some k => rw [hf' k rfl]; rfl
  rw [loopM.eq_def]
  dsimp only
  rw [h]
  dsimp only
  rw [if_neg n1, if_pos n2, if_neg (by rw [hb]; exact Bool.false_ne_true), if_neg (by rw [hf]; exact Bool.false_ne_true)]
theorem kindW_ok {c : PK} {m : Nat} (h : c.size = some m) : kindW c.word = some c := by
  cases c <;> first | (cases h; done) | decide +kernel
theorem begin_tup {words : List Str} {pt n : Nat} (h : words[pt]? = some ("(" : Str)) (hn : n < 20) : beginM words pt n = .ok (none, pt + 1) := by
  unfold beginM
  rw [if_neg (by omega), if_pos h]
theorem begin_pap {words : List Str} {pt n m : Nat} {c : PK} (h : words[pt]? = some ("[" : Str)) (h2 : words[pt + 1]? = some c.word) (hc : c.size = some m) (hn : n < 20) : beginM words pt n = .ok (some c, pt + 2) := by
  unfold beginM
  rw [if_neg (by omega), if_neg (by rw [h]; intro e; exact absurd (Option.some.inj e) (by decide +kernel)), h2]
  dsimp only
  rw [kindW_ok hc]
mutual
theorem Wr.read : ∀ {d : D} {ws : List Str}, Wr d ws → ∀ {words post : List Str} {pt n : Nat} {c : Option PK} {ds : List D} {fr : List Frame}, words.drop pt = ws ++ post → full c ds.length = false → fr.length + 1 + d.dep ≤ 20 → ws.length ≤ n →
    ∃ n', n ≤ n' + ws.length ∧ loopM words n pt ((c, ds) :: fr) = loopM words n' (pt + ws.length) ((c, ds ++ [d]) :: fr)
  | _, _, .non, words, post, pt, n, c, ds, fr, hd, hf, hdp, hn => by
    obtain ⟨n, rfl⟩ : ∃ k, n = k + 1 := ⟨n - 1, by simp at hn; omega⟩
    exact ⟨n, by simp, loop_plain (drop_get hd).1 (by decide +kernel) (by unfold plainS; rw [if_pos rfl]) hf⟩
  | _, _, .str (z := z) h, words, post, pt, n, c, ds, fr, hd, hf, hdp, hn => by
    obtain ⟨n, rfl⟩ : ∃ k, n = k + 1 := ⟨n - 1, by simp at hn; omega⟩
    obtain ⟨a, _, b, e⟩ := okStr_parts h
    exact ⟨n, by simp, loop_plain (drop_get hd).1 b (by unfold plainS; rw [if_neg e, if_pos a]) hf⟩
  | _, _, .int (i := i) (z := z) h, words, post, pt, n, c, ds, fr, hd, hf, hdp, hn => by
    obtain ⟨n, rfl⟩ : ∃ k, n = k + 1 := ⟨n - 1, by simp at hn; omega⟩
    obtain ⟨_, _, b, e, a, g, _⟩ := okInt_parts h
    exact ⟨n, by simp, loop_plain (drop_get hd).1 b (by unfold plainS; rw [if_neg e, if_neg (by rw [a]; exact Bool.false_ne_true), g]; rfl) hf⟩
  | _, _, .tup (ds := es) (ws := vs) h, words, post, pt, n, c, ds, fr, hd, hf, hdp, hn => by
    obtain ⟨n, rfl⟩ : ∃ k, n = k + 1 := ⟨n - 1, by simp at hn; omega⟩
    simp [D.dep] at hdp hn
    rw [List.cons_append] at hd
    obtain ⟨g1, d1⟩ := drop_get hd
    rw [List.append_assoc] at d1
    obtain ⟨n1, hn1, e1⟩ := h.read (n := n) (c := none) (ds := []) (fr := (c, ds) :: fr) d1 (fun _ _ => rfl) (by simp; omega) (by omega)
    have d2 := drop_app d1
    obtain ⟨g2, _⟩ := drop_get d2
    obtain ⟨n1, rfl⟩ : ∃ k, n1 = k + 1 := ⟨n1 - 1, by omega⟩
    refine ⟨n1, by simp; omega, ?_⟩
    rw [loop_open g1 (.inl rfl) hf (begin_tup g1 (by omega)), e1, loop_close (c' := none) g2 (fun k z => by cases z) hf]
    simp [madeD, Nat.add_assoc, Nat.add_comm 1]
  | _, _, .pap (c := k) (ds := es) (ws := vs) hc h, words, post, pt, n, c, ds, fr, hd, hf, hdp, hn => by
    obtain ⟨n, rfl⟩ : ∃ k, n = k + 1 := ⟨n - 1, by simp at hn; omega⟩
    simp [D.dep] at hdp hn
    rw [List.cons_append] at hd
    obtain ⟨g1, d1⟩ := drop_get hd
    rw [List.cons_append] at d1
    obtain ⟨g1', d1⟩ := drop_get d1
    rw [List.append_assoc] at d1
    obtain ⟨n1, hn1, e1⟩ := h.read (n := n) (c := some k) (ds := []) (fr := (c, ds) :: fr) d1 (fun j hj => by simp [full, hc]; omega) (by simp; omega) (by omega)
    have d2 := drop_app d1
    obtain ⟨g2, _⟩ := drop_get d2
    obtain ⟨n1, rfl⟩ : ∃ k, n1 = k + 1 := ⟨n1 - 1, by omega⟩
    refine ⟨n1, by simp; omega, ?_⟩
    rw [loop_open g1 (.inr rfl) hf (begin_pap g1 g1' hc (by omega)), e1, loop_close (c' := some k) g2 (fun k' z => by cases z; simp [full, hc]) hf]
    simp [madeD, h.kept]
    congr 1
    omega
theorem Wrs.read : ∀ {es : List D} {ws : List Str}, Wrs es ws → ∀ {words post : List Str} {pt n : Nat} {c : Option PK} {ds : List D} {fr : List Frame}, words.drop pt = ws ++ post → (∀ j, j < es.length → full c (ds.length + j) = false) → fr.length + 1 + depL es ≤ 20 → ws.length ≤ n →
    ∃ n', n ≤ n' + ws.length ∧ loopM words n pt ((c, ds) :: fr) = loopM words n' (pt + ws.length) ((c, ds ++ es) :: fr)
  | _, _, .nil, words, post, pt, n, c, ds, fr, hd, hf, hdp, hn => ⟨n, by simp, by simp⟩
  | _, _, .cons (d := d) (ds := es) (ws := ws) (vs := vs) h1 h2, words, post, pt, n, c, ds, fr, hd, hf, hdp, hn => by
    have hdp' : fr.length + 1 + max d.dep (depL es) ≤ 20 := hdp
    simp at hn
    rw [List.append_assoc] at hd
    obtain ⟨n1, hn1, e1⟩ := h1.read (n := n) (c := c) (ds := ds) (fr := fr) hd (hf 0 (by simp)) (by omega) (by omega)
    obtain ⟨n2, hn2, e2⟩ := h2.read (n := n1) (c := c) (ds := ds ++ [d]) (fr := fr) (drop_app hd) (fun j hj => by
      have := hf (j + 1) (by simp; omega)
      rw [List.length_append, List.length_singleton, Nat.add_assoc, Nat.add_comm 1]
      exact this) (by omega) (by omega)
    refine ⟨n2, by simp; omega, ?_⟩
    rw [e1, e2]
    simp [Nat.add_assoc]
end
/-- a paper's words are read -/
theorem Wr.whole {c : PK} {ds : List D} {ws : List Str} (h : Wr (.pap c ds) ws) (hd : depL ds + 1 ≤ 20) : wholeM ws 0 = .ok (.pap c ds) := by
  cases h with
  | @pap _ _ vs hc h =>
  have g1 : (("[" : Str) :: c.word :: (vs ++ [("]" : Str)]) : List Str)[0]? = some ("[" : Str) := rfl
  have g2 : (("[" : Str) :: c.word :: (vs ++ [("]" : Str)]) : List Str)[0 + 1]? = some c.word := rfl
  rw [wholeM, if_pos g1, begin_pap g1 g2 hc (by omega)]
  dsimp only
  obtain ⟨n1, hn1, e1⟩ := h.read (words := ("[" : Str) :: c.word :: (vs ++ [("]" : Str)])) (post := [("]" : Str)]) (pt := 2) (n := (("[" : Str) :: c.word :: (vs ++ [("]" : Str)]) : List Str).length) (c := some c) (ds := []) (fr := []) rfl (fun j hj => by simp [full, hc]; omega) (by simp; omega) (by simp; omega)
  obtain ⟨n1, rfl⟩ : ∃ k, n1 = k + 1 := ⟨n1 - 1, by simp at hn1; omega⟩
  have g3 : (("[" : Str) :: c.word :: (vs ++ [("]" : Str)]) : List Str)[2 + vs.length]? = some ("]" : Str) := by
    rw [Nat.add_comm]
    simp
  show loopM _ _ 2 _ = _
  rw [e1, loopM.eq_def]
  dsimp only
  rw [g3]
  dsimp only
  have hb : badEnd (("[" : Str) :: c.word :: (vs ++ [("]" : Str)]) : List Str) (2 + vs.length) (some c) ([] ++ ds).length = false := by
    unfold badEnd
    rw [g3]
    simp [closing, full, hc]
  rw [if_neg (by decide +kernel), if_pos (.inr rfl), if_neg (by rw [hb]; exact Bool.false_ne_true)]
  rw [if_neg (by simp; omega)]
  simp [madeD, h.kept]
end K94
set_option maxRecDepth 100000
set_option maxHeartbeats 4000000
/-! _law_said. -/
namespace K94
open PySem PySem.Spec PyProof.Rows L2 L2.Q Pp StX L2.SupX
theorem sc__law_said : FnScope [("ask" : Str), ("caught" : Str), ("error" : Str), ("kinds" : Str)] [("ask" : Str)] (defScope s__law_said) := ⟨rfl, rfl, rfl, by decide +kernel, rfl, by decide +kernel, by decide +kernel⟩
theorem Takes.len {X : Cx} {W : WX} (t : Takes X W) : Takes X (fun c d σ H => σ.length = X.N.length → W c d σ H) := fun u s' ⟨a, B, sI, pins, σ, H, cls, d, e, I, nb, up, sky, na, os, ag, w⟩ =>
  t u s' ⟨a, B, sI, pins, σ, H, cls, d, e, I, nb, up, sky, na, os, ag, w I.len⟩
/-- what _law_said tells of an error -/
def Said (K : PySem.W.Frag) (Q : VK) : XK := fun cls d H => ∃ dd, d = some dd ∧ ((cls = .ref (He.ga K "BadValue") ∧ ∃ z, H dd = some (.xd [("part", z)]) ∧ ∀ p H', Ext H H' → H' p = some (.tup [.str "value", z]) → Q (.ref p) H') ∨
  (cls = .ref (He.ga K "BadText") ∧ ∃ z l, H dd = some (.xd [("word", z), ("line", l)]) ∧ ∀ p H', Ext H H' → H' p = some (.tup [.str "text", l, z]) → Q (.ref p) H'))
theorem said_gives {X : Cx} {g : Addr} {cdg : Value} {q : Str} (T : Txt X.w X.K X.mg) : LamX.GivesTo X [("ask" : Str), ("caught" : Str), ("error" : Str), ("kinds" : Str)] "_law_said" (defScope s__law_said) g cdg (defBody s__law_said) "ask" q (fun tl H Q => ∀ Q1 : VK, (∀ v H', Q .non H' → Q1 v H') → tl (Said X.K Q) H Q1) := by
  intro f c' s H Q tl act hc h
  have tr : ∀ {p1 p2 p3 p4 p5 p6 p7 p8 p9 : Pos}, PS (cxOf C8.CX0 X.prog X.w X.K X.mg X.base [("ask" : Str), ("caught" : Str), ("error" : Str), ("kinds" : Str)] "_law_said" (defScope s__law_said) g cdg X.A X.stack s H C8.E0).nox (.Try [.Expr (.Call (.Name "ask" p1) [] [] p2) p3] [.ExceptHandler (some (.Name "SoError" p4)) (some "error") [.Assign [.Name "caught" p5] (.Name "error" p6) p7] p8] [] [] p9) (fun D σ H => ∃ Ech : XK, (∀ cls d σ' H', Ech cls d H' → σ'.length = 4 → wKeep X.K (.ref (He.ga X.K "SoError")) 2 1 (fun _ _ _ _ => False) D cls d σ' H') ∧ σ[0]? = some (some (.ref f)) ∧ H c' = some (LamX.CodeO c' q) ∧ tl Ech H (fun _ H' => D.nx σ H')) := fun {p1 p2 p3 p4 p5 p6 p7 p8 p9} =>
    ps_try_keep (X := (cxOf C8.CX0 X.prog X.w X.K X.mg X.base [("ask" : Str), ("caught" : Str), ("error" : Str), ("kinds" : Str)] "_law_said" (defScope s__law_said) g cdg X.A X.stack s H C8.E0).nox) (x := "SoError") (n := "error") (m := "caught") (c := .ref (He.ga X.K "SoError")) (i := 2) (j := 1) (Wout := fun _ _ _ _ => False)
      (tb := fun W D σ H => ∃ Ech : XK, (∀ cls d σ' H', Ech cls d H' → σ'.length = 4 → W cls d σ' H') ∧ σ[0]? = some (some (.ref f)) ∧ H c' = some (LamX.CodeO c' q) ∧ tl Ech H (fun _ H' => D.nx σ H'))
      rfl rfl rfl sc__law_said.nd rfl rfl (by decide) rfl (.inl rfl) rfl ⟨rfl, by decide, .inl T.g_SoError⟩ LamX.takes0 (by rfl) (by decide) (by decide) (fun W pn xe tk _ => ⟨fun pins s' σ H' D I h' => by
        obtain ⟨Ech, hW, h1, h2, h3⟩ := h'
        have hp := act _ pn xe Ech p1 p2 (Takes.len tk) hW
        have hq := pss_one (ps_expr (pos := p3) hp)
        exact hq.run pins s' σ H' D I ⟨h1, h2, h3⟩⟩)
  refine ⟨_, (pss_cons (ps_set (i := 1) sc__law_said.nd rfl (Or.inl rfl) pe_non)
      (pss_cons tr
      (pss_cons (ps_if (pt_cmpR op_isN (pv 1) pe_non (nomark _)) (pss_one (ps_ret pe_non)) pss_nil)
      (pss_cons (ps_if (pt_val (pe_callB call_isK (by rfl) T.n_isinstance (by decide +kernel) (pa_cons (pv 1) (pa_cons (pe_gr T.g_TooMany rfl) pa_nil)))) (pss_one (ps_ret (pe_tup (pa_cons pe_str (pa_cons (pe_xk (pv 1)) (pa_cons (pe_xk (pv 1)) pa_nil)))))) pss_nil)
      (pss_cons (ps_if (pt_val (pe_callB call_isK (by rfl) T.n_isinstance (by decide +kernel) (pa_cons (pv 1) (pa_cons (pe_gr T.g_BadText rfl) pa_nil)))) (pss_one (ps_ret (pe_tup (pa_cons pe_str (pa_cons (pe_xk (pv 1)) (pa_cons (pe_xk (pv 1)) pa_nil)))))) pss_nil)
      (pss_cons (ps_if (pt_val (pe_callB call_isK (by rfl) T.n_isinstance (by decide +kernel) (pa_cons (pv 1) (pa_cons (pe_gr T.g_BadCommand rfl) pa_nil)))) (pss_one (ps_ret (pe_tup (pa_cons pe_str (pa_cons (pe_xk (pv 1)) pa_nil))))) pss_nil)
      (pss_cons (ps_if (pt_val (pe_callB call_isK (by rfl) T.n_isinstance (by decide +kernel) (pa_cons (pv 1) (pa_cons (pe_gr T.g_Nothing rfl) pa_nil)))) (pss_one (ps_ret pe_str)) pss_nil)
      (pss_cons (ps_set (i := 3) sc__law_said.nd rfl (Or.inl rfl) (pe_lst (pa_cons (pe_callB call_isK (by rfl) T.n_isinstance (by decide +kernel) (pa_cons (pv 1) (pa_cons (pe_gr T.g_BadProgram rfl) pa_nil))) (pa_cons (pe_callB call_isK (by rfl) T.n_isinstance (by decide +kernel) (pa_cons (pv 1) (pa_cons (pe_gr T.g_BadPlace rfl) pa_nil))) (pa_cons (pe_callB call_isK (by rfl) T.n_isinstance (by decide +kernel) (pa_cons (pv 1) (pa_cons (pe_gr T.g_BadNumber rfl) pa_nil))) (pa_cons (pe_callB call_isK (by rfl) T.n_isinstance (by decide +kernel) (pa_cons (pv 1) (pa_cons (pe_gr T.g_BadValue rfl) pa_nil))) pa_nil))))))
      (pss_one (ps_ret (pe_ifExp (pt_cmpR op_eq (pe_bm PySem.F.plainAttrs_list PySem.F.slot_list_count PySem.F.type_list_count mt_countB (pv 3) (pa_cons pe_bl pa_nil)) pe_int (nomark _)) (pe_tup (pa_cons (pe_ix ix_list (pe_lst (pa_cons pe_str (pa_cons pe_str (pa_cons pe_str (pa_cons pe_str pa_nil))))) (pe_bm PySem.F.plainAttrs_list PySem.F.slot_list_index PySem.F.type_list_index mt_index (pv 3) (pa_cons pe_bl pa_nil)) (fun _ _ => rfl)) (pa_cons (pe_xk (pv 1)) pa_nil))) pe_str))))))))))), ?_⟩
  dsimp only [gCons, gName, gNil, gSub, gTup, gFld, iSeq, iList, iStr, iTup, iRng1, tAnd, tAndT, tAndV, tAsg, tAsg2, tAug, tB, tBM, tBM0, tBreak, tC, tCB, tCallR, tChain, tCons, tDrop, tFld, sFld, sFldAug, tFor_eq, tLc2_eq, tIf, tIfS, tIsN, tLc_eq, tLst, tM0, tM1, tMakeR, tMethR, tNever, tNm, tXk, tCallKw, tNext, tNil, tNoPart, tNot, tNotN, tNotT, tNotV, tOp, tOr, tOrT, tOrV, tOst, tPar, tPart, tRet, tRetN, tRg1, tSeq, tSl, tStar, tTest, tThen, tTup, tUn, C8.tCut, tVar]
  refine ⟨Said X.K Q, fun cls d σ' H' hs hl => ?_, rfl, hc, ?_⟩
  · obtain ⟨s0, s1, s2, s3, rfl⟩ : ∃ s0 s1 s2 s3, σ' = [s0, s1, s2, s3] := by
      match σ', hl with
      | [a, b, c, d], _ => exact ⟨a, b, c, d, rfl⟩
    obtain ⟨dd, rfl, ⟨rfl, z, hd, hq⟩ | ⟨rfl, z, l, hd, hq⟩⟩ := hs
    · refine ⟨true, T.exm_BadValue_SoError, fun _ a ha => ?_, fun h => by cases h⟩
      have eA : Ext H' (upd H' a (exk a (.ref (He.ga X.K "BadValue")) (some dd))) := Ext.upd ha
      have hA : upd H' a (exk a (.ref (He.ga X.K "BadValue")) (some dd)) a = _ := upd_same
      have hd := eA _ _ hd
      generalize upd H' a (exk a (.ref (He.ga X.K "BadValue")) (some dd)) = H1 at eA hA hd ⊢
      have isK : ∀ {H2 : Hp} {c : Addr} {b : Bool} {Q : VK}, Ext H1 H2 → PySem.W.kitOne X.K (.ref (He.ga X.K "BadValue")) (.ref c) = some b → Q (.bl b) H2 → rIsK X.K [.ref a, .ref c] H2 Q := fun {H2 c b Q} e k q => ⟨a, _, some dd, .ref c, _, b, rfl, e _ _ hA, T.xc_BadValue.2, .own _, k, fun d h => by cases h; exact ⟨_, e _ _ hd⟩, q⟩
      dsimp only [gCons, gName, gNil, gSub, gTup, gFld, iSeq, iList, iStr, iTup, iRng1, tAnd, tAndT, tAndV, tAsg, tAsg2, tAug, tB, tBM, tBM0, tBreak, tC, tCB, tCallR, tChain, tCons, tDrop, tFld, sFld, sFldAug, tFor_eq, tLc2_eq, tIf, tIfS, tIsN, tLc_eq, tLst, tM0, tM1, tMakeR, tMethR, tNever, tNm, tXk, tCallKw, tNext, tNil, tNoPart, tNot, tNotN, tNotT, tNotV, tOp, tOr, tOrT, tOrV, tOst, tPar, tPart, tRet, tRetN, tRg1, tSeq, tSl, tStar, tTest, tThen, tTup, tUn, C8.tCut, tVar]
      refine ⟨.ref a, rfl, rfl, false, congrArg V.bl (decide_eq_false (fun z => by cases z)), ?_⟩
      refine ⟨.ref a, rfl, isK Ext.rfl' T.kit_BadValue_TooMany ⟨_, rfl, ?_⟩⟩
      refine ⟨.ref a, rfl, isK Ext.rfl' T.kit_BadValue_BadText ⟨_, rfl, ?_⟩⟩
      refine ⟨.ref a, rfl, isK Ext.rfl' T.kit_BadValue_BadCommand ⟨_, rfl, ?_⟩⟩
      refine ⟨.ref a, rfl, isK Ext.rfl' T.kit_BadValue_Nothing ⟨_, rfl, ?_⟩⟩
      refine ⟨.ref a, rfl, isK Ext.rfl' T.kit_BadValue_BadProgram ?_⟩
      refine ⟨.ref a, rfl, isK Ext.rfl' T.kit_BadValue_BadPlace ?_⟩
      refine ⟨.ref a, rfl, isK Ext.rfl' T.kit_BadValue_BadNumber ?_⟩
      refine ⟨.ref a, rfl, isK Ext.rfl' T.kit_BadValue_BadValue ?_⟩
      refine ⟨by rw [sizeLine_eq]; simp, fun p hp => ?_⟩
      have eP : Ext H1 (upd H1 p (.lst [.bl false, .bl false, .bl false, .bl true])) := Ext.upd hp
      have hP : upd H1 p (.lst [.bl false, .bl false, .bl false, .bl true]) p = _ := upd_same
      generalize upd H1 p (.lst [.bl false, .bl false, .bl false, .bl true]) = H2 at eP hP ⊢
      refine ⟨.ref p, rfl, .inl ⟨rfl, _, .of hP⟩, p, [false, false, false, true], rfl, rfl, .of hP, rfl, true, rfl, ?_⟩
      rw [if_pos rfl]
      refine ⟨by rw [sizeLine_eq]; simp, fun p1 hp1 => ?_⟩
      have eP1 : Ext H2 (upd H2 p1 (.lst [.str "program", .str "place", .str "number", .str "value"])) := Ext.upd hp1
      have hP1 : upd H2 p1 (.lst [.str "program", .str "place", .str "number", .str "value"]) p1 = _ := upd_same
      generalize upd H2 p1 (.lst [.str "program", .str "place", .str "number", .str "value"]) = H3 at eP1 hP1 ⊢
      refine ⟨.ref p, rfl, .inl ⟨rfl, _, .of (eP1 _ _ hP)⟩, ?_⟩
      refine ⟨p, _, .bl true, 3, .bl true, rfl, rfl, .of (eP1 _ _ hP), rfl, rfl, rfl, rfl, fun m z' hm hz => ?_, p1, _, ((3 : Nat) : Int), .str "value", rfl, rfl, .of hP1, atI_nat rfl, .ref a, rfl, a, _, dd, _, z, rfl, eP1 _ _ (eP _ _ hA), T.xc_BadValue.1, T.na_BadValue_part, eP1 _ _ (eP _ _ hd), rfl, by rw [sizeLine_eq]; simp, fun u hu => hq u _ (((eA.trans eP).trans eP1).trans (Ext.upd hu)) upd_same⟩
      match m, hm with
      | 0, _ => cases hz; rfl
      | 1, _ => cases hz; rfl
      | 2, _ => cases hz; rfl
    · refine ⟨true, T.exm_BadText_SoError, fun _ a ha => ?_, fun h => by cases h⟩
      have eA : Ext H' (upd H' a (exk a (.ref (He.ga X.K "BadText")) (some dd))) := Ext.upd ha
      have hA : upd H' a (exk a (.ref (He.ga X.K "BadText")) (some dd)) a = _ := upd_same
      have hd := eA _ _ hd
      generalize upd H' a (exk a (.ref (He.ga X.K "BadText")) (some dd)) = H1 at eA hA hd ⊢
      have isK : ∀ {H2 : Hp} {c : Addr} {b : Bool} {Q : VK}, Ext H1 H2 → PySem.W.kitOne X.K (.ref (He.ga X.K "BadText")) (.ref c) = some b → Q (.bl b) H2 → rIsK X.K [.ref a, .ref c] H2 Q := fun {H2 c b Q} e k q => ⟨a, _, some dd, .ref c, _, b, rfl, e _ _ hA, T.xc_BadText.2, .own _, k, fun d h => by cases h; exact ⟨_, e _ _ hd⟩, q⟩
      dsimp only [gCons, gName, gNil, gSub, gTup, gFld, iSeq, iList, iStr, iTup, iRng1, tAnd, tAndT, tAndV, tAsg, tAsg2, tAug, tB, tBM, tBM0, tBreak, tC, tCB, tCallR, tChain, tCons, tDrop, tFld, sFld, sFldAug, tFor_eq, tLc2_eq, tIf, tIfS, tIsN, tLc_eq, tLst, tM0, tM1, tMakeR, tMethR, tNever, tNm, tXk, tCallKw, tNext, tNil, tNoPart, tNot, tNotN, tNotT, tNotV, tOp, tOr, tOrT, tOrV, tOst, tPar, tPart, tRet, tRetN, tRg1, tSeq, tSl, tStar, tTest, tThen, tTup, tUn, C8.tCut, tVar]
      refine ⟨.ref a, rfl, rfl, false, congrArg V.bl (decide_eq_false (fun z => by cases z)), ?_⟩
      refine ⟨.ref a, rfl, isK Ext.rfl' T.kit_BadText_TooMany ⟨_, rfl, ?_⟩⟩
      refine ⟨.ref a, rfl, isK Ext.rfl' T.kit_BadText_BadText ⟨_, rfl, ?_⟩⟩
      exact ⟨.ref a, rfl, a, _, dd, _, l, rfl, hA, T.xc_BadText.1, T.na_BadText_line, hd, rfl, .ref a, rfl, a, _, dd, _, z, rfl, hA, T.xc_BadText.1, T.na_BadText_word, hd, rfl, by rw [sizeLine_eq]; simp, fun u hu => hq u _ (eA.trans (Ext.upd hu)) upd_same⟩
  · exact h _ fun v H' q => ⟨_, rfl, rfl, true, congrArg V.bl (decide_eq_true rfl), q⟩
end K94
set_option maxRecDepth 100000
set_option maxHeartbeats 4000000
/-! k95: rules that cut; a comprehension with a test over a text. -/
namespace L2.Q
open PySem PySem.Spec PyProof.Rows StX
section
variable {X : Cx}
def tCutE (te : TE) : TE := fun σ H Q => ∃ M : V → Hp → Prop, te σ H M ∧ ∀ v H', M v H' → Q v H'
def tCutT (tt : TT) : TT := fun σ H Q => ∃ M : Bool → Hp → Prop, tt σ H M ∧ ∀ b H', M b H' → Q b H'
theorem pe_cut {e : Expr} {te : TE} (h : PE X e te) : PE X e (tCutE te) := by
  refine ⟨fun pins s σ H Q I ⟨M, hm, hq⟩ => ?_⟩
  exact wpAny_mono (h.run pins s σ H M I hm) (fun v s' ⟨x, H', I', r, q⟩ => ⟨x, H', I', r, hq _ _ q⟩) fun _ _ z => z
theorem pt_cut {e : Expr} {tt : TT} (h : PT X e tt) : PT X e (tCutT tt) := by
  refine ⟨fun pins s σ H Q I ⟨M, hm, hq⟩ => ?_⟩
  exact wpAny_mono (h.run pins s σ H M I hm) (fun v s' ⟨H', I', q⟩ => ⟨H', I', hq _ _ q⟩) fun _ _ z => z
end
end L2.Q
namespace K94
open PySem PySem.Spec PyProof.Rows L2 L2.Q Pp StX L2.SupX
theorem units1 {k : Nat} {A : Around} (hr : Room k A) : A.units + 1 < cLine := by have := hr.un; omega
theorem units64 {k : Nat} {A : Around} (hr : Room k A) : A.units + 64 < cLine := by have := hr.un; omega
/-- the signs of a text that stand not among others -/
def notIn (S z : Str) : List Nat := z.cps.toList.filter fun c => !decide (c ∈ S.cps.toList)
/-- [sign for sign in z if sign not in S] -/
theorem LC_notIn {S z : Str} {j : Nat} {σ : L2.St} {H : Hp} {Q : VK} (hz : z.length ≤ 4000) (hj : j < σ.length) (hq : ∀ D' H', Ext H H' → H' D' = some (.lst ((notIn S z).map fun c => V.str ⟨#[c]⟩)) → Q (.ref D') H') :
    LC (Its z) (gName j) (tTest (tOp (fun x y H Q => ∃ (c : Nat) (z : Str), x = .str ⟨#[c]⟩ ∧ y = .str z ∧ Q (.bl (!decide (c ∈ z.cps.toList))) H) (tVar j) (tC (V.str S)))) (tVar j) [j] σ H Q := by
  intro D hD
  refine lc_it (walk_str (z := z)) (Pv := fun i H2 => Ext H H2 ∧ H2 D = some (.lst (((z.cps.toList.take i).filter fun c => !decide (c ∈ S.cps.toList)).map fun c => V.str ⟨#[c]⟩))) ⟨Ext.upd hD, by rw [upd_same]; simp⟩ (fun _ _ _ _ => trivial) (fun i x H2 H' hi P y => ?_) (fun H2 P => ?_)
  · obtain ⟨e1, h1⟩ := P
    obtain ⟨rfl, c, hc, rfl⟩ := y
    have hg : ((wipe σ [j]).set j (some (V.str ⟨#[c]⟩)))[j]? = some (some (V.str ⟨#[c]⟩)) := by
      have : j < (wipe σ [j]).length := by rw [wipe_length]; exact hj
      simp [List.getElem?_set, this]
    have hct : z.cps.toList[i]? = some c := by rw [Array.getElem?_toList]; exact hc
    refine ⟨wipe_one, .str ⟨#[c]⟩, hg, c, S, rfl, rfl, _, rfl, ?_⟩
    have hsp : z.cps.toList.take (i + 1) = z.cps.toList.take i ++ [c] := by
      rw [List.take_add_one, hct]; rfl
    cases hk : !decide (c ∈ S.cps.toList) with
    | true =>
      dsimp only
      rw [if_pos rfl]
      refine ⟨_, hg, _, h1, ?_, ext_ne hD e1, ?_⟩
      · have h2 := List.length_filter_le (fun c => !decide (c ∈ S.cps.toList)) (z.cps.toList.take i)
        have h3 : (z.cps.toList.take i).length ≤ z.length := by rw [List.length_take, Array.length_toList]; exact Nat.min_le_right _ _
        rw [List.length_map, sizeLine_eq]
        omega
      · rw [upd_same, hsp, List.filter_append, List.map_append]
        simp only [List.filter_cons, hk, if_pos, List.filter_nil, List.map_cons, List.map_nil]
    | false =>
      dsimp only
      rw [if_neg Bool.false_ne_true]
      refine ⟨e1, ?_⟩
      rw [h1, hsp, List.filter_append]
      simp only [List.filter_cons, hk, Bool.false_eq_true, if_false, List.filter_nil, List.append_nil]
  · obtain ⟨e1, h1⟩ := P
    refine hq _ _ e1 ?_
    rw [h1]
    have : z.cps.toList.take z.cps.size = z.cps.toList := List.take_of_length_le (by rw [Array.length_toList]; exact Nat.le_refl _)
    rw [this]
    rfl
theorem cr_calm {P : Program} {w : World} {outer : List Env} {s : Shared} {H : Hp} {Q : VK} {E : XK} {r : Result} {s' : Shared} (h : CR (L2.CX P w) outer P w H s Q E0 r s') : CR CX0 outer P w H s Q E r s' := by
  cases r with
  | ok f => cases f <;> exact h
  | error e =>
    obtain ⟨a, B, H', cls, d, _, _, _, _, _, _, _, z⟩ := h
    exact z.elim
theorem fnR_calm {P : Program} {w : World} {K : PySem.W.Frag} {mg : Str → Option Value} {base : Heap} {k : Nat} {f : Addr} {sp : Sp} (F : FnR P w K mg base (L2.CX P w) k f sp) : FnR P w K mg base CX0 k f (fun vs H Q _ => sp vs H Q E0) := fun A outer s H us vs Q E hr e0 r hs =>
  codeAny_mono (F A outer s H us vs Q E0 hr e0 r hs) fun _ _ h => cr_calm h
theorem code_ref {K : PySem.W.Frag} {cdv : Value} {q : Str} (h : PySem.W.codeIn K cdv q = true) : ∃ c, cdv = .ref c := by
  cases cdv with
  | ref c => exact ⟨c, rfl⟩
  | _ => cases h
/-- a def by its body, its code object known -/
theorem fnrc {P : Program} {w : World} {K : PySem.W.Frag} {mg : Str → Option Value} {base : Heap} {N ps : List Str} {k : Nat} {sp : Sp} {x qual : Str} {st : Stmt} {p : Str × Option Str} (F : ∃ fd, FunD K x qual (defArgs st) (defBody st) (defScope st) [] [] (He.fAd K p) fd) (S : FnScope N ps (defScope st)) (len : ∀ vs H Q E, sp vs H Q E → vs.length = ps.length)
    (hb : ∀ (kV doc pm : Value) (an : Option Addr) (cdv ct : Value) (us : List Value), us.length = ps.length → bindArgs (PySem.W.fnOf x qual (defArgs st) (defBody st) (defScope st) .none kV doc pm an cdv ct) ⟨us, []⟩ = pure (ps.zip us))
    (hbody : ∀ (A : Around) (outer : List Env) (s : Shared) (H : Hp) (vs : List V) (Q : VK) (E : XK), Room k (A.deeper (envOfC qual (defScope st) s.heap.objs.size (He.fAd K p) (.ref (He.codeOf K p)))) → sp vs H Q E →
      ∃ t, PSs (cxOf CX0 P w K mg base N qual (defScope st) (He.fAd K p) (.ref (He.codeOf K p)) A outer s H E).nox (defBody st) t ∧ t { nx := fun _ H' => Q .non H', rt := Q } (start N vs) H) : FnR P w K mg base CX0 (k + 1) (He.fAd K p) sp := by
  obtain ⟨fd, F⟩ := F
  have B := F.bindsN hb
  obtain ⟨oc, od, dV, kV, doc, pm, an, cdv, ct, osl, rfl, lk, hcd, _, _⟩ := F.ex
  obtain ⟨c, rfl⟩ := code_ref hcd
  have ec : He.codeOf K p = c := He.codeOf_eq lk rfl
  rw [ec] at hbody
  have G : FnOk P w K mg base CX0 (k + 1) (He.fAd K p) _ ps sp := fn_of lk hcd S len fun A outer s H vs Q E hr h => by
    obtain ⟨t, h1, h2⟩ := hbody A outer s H vs Q E hr h
    exact ⟨t, h1.nox, h2⟩
  have R := G.raw B .nil
  exact R.imp fun vs H Q E h => by rw [List.append_nil]; exact h
end K94
set_option maxRecDepth 100000
set_option maxHeartbeats 4000000
/-! k95: the law's sizes, what is plain. -/
namespace K94
open PySem PySem.Spec PyProof.Rows L2 L2.Q Pp StX L2.SupX
theorem sc__law_sizes : FnScope [] [] (defScope s__law_sizes) := ⟨rfl, rfl, rfl, by decide +kernel, rfl, by decide +kernel, by decide +kernel⟩
theorem sc__law_is_plain : FnScope [("word" : Str), ("sign" : Str), ("body" : Str)] [("word" : Str)] (defScope s__law_is_plain) := ⟨rfl, rfl, rfl, by decide +kernel, rfl, by decide +kernel, by decide +kernel⟩
def sizesK : List (Str × Nat) := [("holds", 1), ("breaks", 1), ("checked", 1), ("alike", 1), ("stays", 1), ("family", 2), ("guards", 2), ("broken", 2), ("unlike", 2), ("spoilt", 2), ("code", 2)]
def sizesL : List (Key × V) := sizesK.map fun p => (.inr p.1, .int (p.2 : Int))
def sizeN (z : Str) : Option Nat := (sizesK.find? fun p => decide (p.1 = z)).map (·.2)
theorem sizes_val (z : Str) : valV sizesL (.inr z) = (sizeN z).map fun (n : Nat) => V.int (n : Int) := by
  unfold sizeN valV sizesL
  rw [List.find?_map]
  have e : ((fun kv : Key × V => decide (kv.1 = .inr z)) ∘ fun p : Str × Nat => ((.inr p.1 : Key), V.int (p.2 : Int))) = fun p => decide (p.1 = z) := by
    funext p
    simp
  rw [e]
  cases sizesK.find? fun p => decide (p.1 = z) <;> rfl
theorem cut1 {z : Str} {c : Nat} {r : List Nat} (h : z.cps.toList = c :: r) : cutS z none (some 1) = ⟨#[c]⟩ := by
  unfold cutS
  have hl : z.length = r.length + 1 := by
    show z.cps.size = _
    rw [← Array.length_toList, h]
    rfl
  have e : HT.sIx z.length z.length (some 1) = 1 := by
    show (if (1 : Int) < 0 then ((1 : Int) + (z.length : Int)).toNat else min (1 : Int).toNat z.length) = 1
    rw [if_neg (by decide), hl]
    show min 1 (r.length + 1) = 1
    omega
  rw [e, h]
  rfl
theorem one_ne {c : Nat} : (⟨#[c]⟩ : Str) ≠ "" := fun e => by
  have := congrArg (fun z : Str => z.cps.size) e
  simp at this
  cases this
theorem v_str {a b : Str} (h : a ≠ b) : decide (V.str a = V.str b) = false := decide_eq_false fun e => h (by injection e)
theorem v_str_t {a b : Str} (h : a = b) : decide (V.str a = V.str b) = true := decide_eq_true (congrArg V.str h)
def signs2 : Str := "abcdefghijklmnopqrstuvwxyz0123456789.-"
def plainA (z : Str) : Bool := decide (z = "-") || (decide (cutS z none (some 1) ≠ "") && (decide (z.cps.toList.headD 0 ∈ letters.cps.toList) && decide (z.length ≤ 100)))
def plainB (z : Str) : Bool := (notIn signs2 z).isEmpty && (decide (z = "-") || !decide (45 ∈ z.cps.toList))
def plainC (z : Str) : Bool := decide (bodyS z = "") || (decide (400 < (bodyS z).length) || !(notIn digits (bodyS z)).isEmpty)
def plainD (z : Str) : Bool := decide (z = "0") || decide ((bodyS z).cps.toList.headD 0 ≠ 48)
/-- _law_is_plain of a text -/
def plainL (z : Str) : Bool := if plainA z = true then plainB z else if plainC z = true then false else plainD z
section
variable {w : World} {K : PySem.W.Frag} {mg : Str → Option Value} {base : Heap} (T : Txt w K mg)
include T
def spSizes : Sp := fun vs H Q _ => vs = [] ∧ ∀ p H', H p = none → Ext H H' → H' p = some (.dK sizesL) → Q (.ref p) H'
theorem F__law_sizes : FnR PR w K mg base CX0 5 (He.ga K "_law_sizes") spSizes := by
  refine fnr (k := 4) T.F__law_sizes sc__law_sizes (fun vs H Q E h => ?_) (fun _ _ _ _ _ _ us hl => match us, hl with | [], _ => rfl) (fun cdv A outer s H vs Q E hr h => ⟨_, (pss_one (ps_ret (pe_disp (pps_cons pe_str pe_int (pps_cons pe_str pe_int (pps_cons pe_str pe_int (pps_cons pe_str pe_int (pps_cons pe_str pe_int (pps_cons pe_str pe_int (pps_cons pe_str pe_int (pps_cons pe_str pe_int (pps_cons pe_str pe_int (pps_cons pe_str pe_int (pps_cons pe_str pe_int pps_nil))))))))))) (by rfl) (by rfl) (fun z => by cases z) (by decide)))), ?_⟩)
  · obtain ⟨rfl, _⟩ := h
    rfl
  · obtain ⟨rfl, q⟩ := h
    dsimp only [gCons, gName, gNil, gSub, gTup, gFld, iSeq, iList, iStr, iTup, iRng1, tAnd, tAndT, tAndV, tAsg, tAsg2, tAug, tB, tBM, tBM0, tBreak, tC, tCB, tCallR, tChain, tCons, tDrop, tFld, sFld, sFldAug, tFor_eq, tLc2_eq, tIf, tIfS, tIsN, tLc_eq, tLst, tM0, tM1, tMakeR, tMethR, tNever, tNm, tXk, tCallKw, tNext, tNil, tNoPart, tNot, tNotN, tNotT, tNotV, tOp, tOr, tOrT, tOrV, tOst, tPar, tPart, tRet, tRetN, tRg1, tSeq, tSl, tStar, tTest, tThen, tTup, tUn, C8.tCut, tVar]
    intro p hp
    refine ⟨upd_same, sizesL, rfl, by decide, q p _ hp (fun b o e => ?_) ?_⟩
    · have hb := ne_of_none e hp
      rw [upd_ne hb, upd_ne hb]
      exact e
    · rw [upd_same]
      rfl
def spPlainL : Sp := fun vs H Q _ => ∃ z, vs = [.str z] ∧ z.length ≤ 700 ∧ ∀ H', Ext H H' → Q (.bl (plainL z)) H'
theorem F__law_is_plain : FnR PR w K mg base CX0 5 (He.ga K "_law_is_plain") spPlainL := by
  refine fnr (k := 4) T.F__law_is_plain sc__law_is_plain (fun vs H Q E h => ?_) (fun _ _ _ _ _ _ us hl => match us, hl with | [_], _ => rfl) (fun cdv A outer s H vs Q E hr h => ⟨_, (pss_cons (ps_if (pt_cut (PW.pt (pw_or (pt_cmpR op_eq (pv 0) pe_str (nomark _)) (pw_or1 (PW.pt (pw_and (pt_cmpR op_ne (pe_slice sl_str (pv 0) po_none (po_some pe_int)) pe_str (nomark _)) (pw_and (pt_cmpR op_in_sign (pe_ix ix_str (pv 0) pe_int (fun _ _ => rfl)) pe_str rfl) (pw_and1 (pt_cmpR op_le (pe_callB call_len (by rfl) T.n_len PySem.boot_len (pa_cons (pv 0) pa_nil)) pe_int (nomark _)))))))))) (pss_one (ps_ret (pe_and (pe_cmpR (op_eqNil hr.units0) (pe_lc (own := [(("sign" : Str), 1)]) rfl sc__law_is_plain.nd (pi_str (pv 0)) (blkOk_by (own := [(("sign" : Str), 1)]) (N := [("word" : Str), ("sign" : Str), ("body" : Str)]) (sc := defScope s__law_is_plain) (by decide +kernel)) (fun _ _ _ _ _ => (pg_name (i := 1) sc__law_is_plain.nd rfl (Or.inl rfl))) (fun _ _ _ _ _ => (pts_one (pt_cmpR op_notIn_sign (pv 1) pe_str rfl))) (fun _ _ _ _ _ => (pv 1))) (pe_lst pa_nil) (nomark _)) (pe_one (pe_or (pe_cmpR op_eq (pv 0) pe_str (nomark _)) (pe_one (pe_cmpR op_notIn_sign pe_str (pv 0) rfl))))))) pss_nil)
      (pss_cons (ps_set (i := 2) sc__law_is_plain.nd rfl (Or.inl rfl) (pe_cut (pe_ifExp (pt_cmpR op_eq (pe_slice sl_str (pv 0) po_none (po_some pe_int)) pe_str (nomark _)) (pe_slice sl_str (pv 0) (po_some pe_int) po_none) (pv 0))))
      (pss_cons (ps_if (pt_cut (PW.pt (pw_or (pt_cmpR op_eq (pv 2) pe_str (nomark _)) (pw_or (pt_cmpR op_gt (pe_callB call_len (by rfl) T.n_len PySem.boot_len (pa_cons (pv 2) pa_nil)) pe_int (nomark _)) (pw_or1 (pt_cmpR (op_neNil hr.units0) (pe_lc (own := [(("sign" : Str), 1)]) rfl sc__law_is_plain.nd (pi_str (pv 2)) (blkOk_by (own := [(("sign" : Str), 1)]) (N := [("word" : Str), ("sign" : Str), ("body" : Str)]) (sc := defScope s__law_is_plain) (by decide +kernel)) (fun _ _ _ _ _ => (pg_name (i := 1) sc__law_is_plain.nd rfl (Or.inl rfl))) (fun _ _ _ _ _ => (pts_one (pt_cmpR op_notIn_sign (pv 1) pe_str rfl))) (fun _ _ _ _ _ => (pv 1))) (pe_lst pa_nil) (nomark _))))))) (pss_one (ps_ret pe_bl)) pss_nil)
      (pss_one (ps_ret (pe_or (pe_cmpR op_eq (pv 0) pe_str (nomark _)) (pe_one (pe_cmpR op_ne (pe_ix ix_str (pv 2) pe_int (fun _ _ => rfl)) pe_str (nomark _))))))))), ?_⟩)
  · obtain ⟨z, rfl, _⟩ := h
    rfl
  · obtain ⟨z, rfl, hz, q⟩ := h
    dsimp only [gCons, gName, gNil, gSub, gTup, gFld, iSeq, iList, iStr, iTup, iRng1, tAnd, tAndT, tAndV, tAsg, tAsg2, tAug, tB, tBM, tBM0, tBreak, tC, tCB, tCallR, tChain, tCons, tDrop, tFld, sFld, sFldAug, tFor_eq, tLc2_eq, tIf, tIfS, tIsN, tLc_eq, tLst, tM0, tM1, tMakeR, tMethR, tNever, tNm, tXk, tCallKw, tNext, tNil, tNoPart, tNot, tNotN, tNotT, tNotV, tOp, tOr, tOrT, tOrV, tOst, tPar, tPart, tRet, tRetN, tRg1, tSeq, tSl, tStar, tTest, tThen, tTup, tUn, C8.tCut, tVar]
    refine ⟨fun b H' => b = plainA z ∧ H' = H, ?_, ?_⟩
    · dsimp only [gCons, gName, gNil, gSub, gTup, gFld, iSeq, iList, iStr, iTup, iRng1, tAnd, tAndT, tAndV, tAsg, tAsg2, tAug, tB, tBM, tBM0, tBreak, tC, tCB, tCallR, tChain, tCons, tDrop, tFld, sFld, sFldAug, tFor_eq, tLc2_eq, tIf, tIfS, tIsN, tLc_eq, tLst, tM0, tM1, tMakeR, tMethR, tNever, tNm, tXk, tCallKw, tNext, tNil, tNoPart, tNot, tNotN, tNotT, tNotV, tOp, tOr, tOrT, tOrV, tOst, tPar, tPart, tRet, tRetN, tRg1, tSeq, tSl, tStar, tTest, tThen, tTup, tUn, C8.tCut, tVar]
      by_cases hz0 : z = "-"
      · subst hz0
        refine ⟨_, rfl, rfl, true, rfl, ?_⟩
        rw [if_pos rfl]
        exact ⟨by decide +kernel, rfl⟩
      · refine ⟨_, rfl, rfl, false, congrArg V.bl (v_str hz0), ?_⟩
        rw [if_neg Bool.false_ne_true]
        have hzl : z.length ≤ sizeLine := by rw [sizeLine_eq]; omega
        cases hl : z.cps.toList with
        | nil =>
          have ez := str_nil hl
          subst ez
          refine ⟨_, rfl, 1, rfl, _, rfl, hzl, rfl, false, by decide +kernel, ?_⟩
          rw [if_neg Bool.false_ne_true]
          exact ⟨by decide +kernel, rfl⟩
        | cons c r =>
          refine ⟨_, rfl, 1, rfl, _, rfl, hzl, rfl, true, by rw [cut1 hl]; exact congrArg (fun b => V.bl (!b)) (v_str one_ne), ?_⟩
          rw [if_pos rfl]
          refine ⟨_, rfl, z, 0, c, rfl, rfl, hzl, atI_nat (j := 0) (by rw [hl]; rfl), c, letters, rfl, rfl, decide (c ∈ letters.cps.toList), rfl, ?_⟩
          have eA : plainA z = (decide (c ∈ letters.cps.toList) && decide (z.length ≤ 100)) := by
            unfold plainA
            rw [cut1 hl, hl, decide_eq_false hz0, decide_eq_true (one_ne (c := c))]
            rfl
          rw [eA]
          cases decide (c ∈ letters.cps.toList) with
          | false =>
            rw [if_neg Bool.false_ne_true]
            exact ⟨rfl, rfl⟩
          | true =>
            rw [if_pos rfl]
            refine ⟨_, rfl, .str z, z.length, rfl, ⟨hzl, rfl⟩, _, _, rfl, rfl, _, rfl, ?_⟩
            refine ⟨?_, rfl⟩
            rw [Bool.true_and]
            exact decide_eq_decide.mpr (by omega)
    · rintro b H' ⟨rfl, rfl⟩
      split
      · rename_i hA
        refine ⟨_, rfl, z, rfl, LC_notIn (S := signs2) (by omega) (by show 1 < 3; decide) fun D' H1 e1 h1 => ⟨by rw [sizeLine_eq]; simp, fun p hp => ⟨D', p, _, rfl, rfl, .of (Ext.upd hp _ _ h1), upd_same, _, rfl, ?_⟩⟩⟩
        have e2 := e1.trans (Ext.upd (o := .lst []) hp)
        have eP : plainL z = ((notIn signs2 z).isEmpty && (decide (z = "-") || !decide (45 ∈ z.cps.toList))) := by
          unfold plainL
          rw [if_pos hA]
          rfl
        rw [eP] at q
        rw [show ((notIn signs2 z).map fun c => V.str ⟨#[c]⟩).isEmpty = (notIn signs2 z).isEmpty by cases notIn signs2 z <;> rfl]
        cases hE : (notIn signs2 z).isEmpty with
        | false =>
          rw [if_neg Bool.false_ne_true]
          rw [hE] at q
          exact q _ e2
        | true =>
          rw [if_pos rfl]
          rw [hE] at q
          by_cases hz0 : z = "-"
          · refine ⟨_, rfl, rfl, true, congrArg V.bl (v_str_t hz0), ?_⟩
            rw [if_pos rfl]
            rw [decide_eq_true hz0] at q
            exact q _ e2
          · refine ⟨_, rfl, rfl, false, congrArg V.bl (v_str hz0), ?_⟩
            rw [if_neg Bool.false_ne_true]
            rw [decide_eq_false hz0] at q
            exact ⟨_, rfl, 45, z, rfl, rfl, q _ e2⟩
      · rename_i hA
        refine ⟨fun v H1 => v = .str (bodyS z) ∧ H1 = H', ?_, ?_⟩
        · dsimp only [gCons, gName, gNil, gSub, gTup, gFld, iSeq, iList, iStr, iTup, iRng1, tAnd, tAndT, tAndV, tAsg, tAsg2, tAug, tB, tBM, tBM0, tBreak, tC, tCB, tCallR, tChain, tCons, tDrop, tFld, sFld, sFldAug, tFor_eq, tLc2_eq, tIf, tIfS, tIsN, tLc_eq, tLst, tM0, tM1, tMakeR, tMethR, tNever, tNm, tXk, tCallKw, tNext, tNil, tNoPart, tNot, tNotN, tNotT, tNotV, tOp, tOr, tOrT, tOrV, tOst, tPar, tPart, tRet, tRetN, tRg1, tSeq, tSl, tStar, tTest, tThen, tTup, tUn, C8.tCut, tVar]
          have hzl : z.length ≤ sizeLine := by rw [sizeLine_eq]; omega
          refine ⟨_, rfl, 1, rfl, z, rfl, hzl, rfl, _, rfl, ?_⟩
          by_cases h1 : cutS z none (some 1) = "-"
          · rw [v_str_t h1, if_pos rfl]
            refine ⟨_, rfl, 1, rfl, z, rfl, hzl, ?_, rfl⟩
            unfold bodyS
            rw [if_pos h1]
          · rw [v_str h1, if_neg Bool.false_ne_true]
            refine ⟨_, rfl, ?_, rfl⟩
            unfold bodyS
            rw [if_neg h1]
        · rintro v H1 ⟨rfl, rfl⟩
          have hbl : (bodyS z).length ≤ 700 := by
            unfold bodyS
            have := cutS_le z (some 1) none
            split <;> omega
          refine ⟨fun b H2 => b = plainC z ∧ Ext H1 H2, ?_, ?_⟩
          · dsimp only [gCons, gName, gNil, gSub, gTup, gFld, iSeq, iList, iStr, iTup, iRng1, tAnd, tAndT, tAndV, tAsg, tAsg2, tAug, tB, tBM, tBM0, tBreak, tC, tCB, tCallR, tChain, tCons, tDrop, tFld, sFld, sFldAug, tFor_eq, tLc2_eq, tIf, tIfS, tIsN, tLc_eq, tLst, tM0, tM1, tMakeR, tMethR, tNever, tNm, tXk, tCallKw, tNext, tNil, tNoPart, tNot, tNotN, tNotT, tNotV, tOp, tOr, tOrT, tOrV, tOst, tPar, tPart, tRet, tRetN, tRg1, tSeq, tSl, tStar, tTest, tThen, tTup, tUn, C8.tCut, tVar]
            refine ⟨_, rfl, rfl, _, rfl, ?_⟩
            by_cases h1 : bodyS z = ""
            · rw [v_str_t h1, if_pos rfl]
              exact ⟨by unfold plainC; rw [decide_eq_true h1]; rfl, Ext.rfl'⟩
            · rw [v_str h1, if_neg Bool.false_ne_true]
              refine ⟨_, rfl, .str (bodyS z), (bodyS z).length, rfl, ⟨by rw [sizeLine_eq]; omega, rfl⟩, _, _, rfl, rfl, _, rfl, ?_⟩
              by_cases h2 : 400 < (bodyS z).length
              · rw [if_pos (decide_eq_true (by omega))]
                exact ⟨by unfold plainC; rw [decide_eq_false h1, decide_eq_true h2]; rfl, Ext.rfl'⟩
              · rw [if_neg (by simp; omega)]
                refine ⟨_, rfl, bodyS z, rfl, LC_notIn (S := digits) (by omega) (by show 1 < 3; decide) fun D' H1' e1 h1' => ⟨by rw [sizeLine_eq]; simp, fun p hp => ⟨D', p, _, rfl, rfl, .of (Ext.upd hp _ _ h1'), upd_same, _, rfl, ?_⟩⟩⟩
                refine ⟨?_, e1.trans (Ext.upd hp)⟩
                unfold plainC
                rw [decide_eq_false h1, decide_eq_false h2]
                cases notIn digits (bodyS z) <;> rfl
          · rintro b H2 ⟨rfl, e2⟩
            split
            · rename_i hC
              have : plainL z = false := by
                unfold plainL
                rw [if_neg hA, if_pos hC]
              rw [this] at q
              exact q _ e2
            · rename_i hC
              have eP : plainL z = (decide (z = "0") || decide ((bodyS z).cps.toList.headD 0 ≠ 48)) := by
                unfold plainL
                rw [if_neg hA, if_neg hC]
                rfl
              rw [eP] at q
              by_cases h0 : z = "0"
              · refine ⟨_, rfl, rfl, true, congrArg V.bl (v_str_t h0), ?_⟩
                rw [if_pos rfl]
                rw [decide_eq_true h0] at q
                exact q _ e2
              · refine ⟨_, rfl, rfl, false, congrArg V.bl (v_str h0), ?_⟩
                rw [if_neg Bool.false_ne_true]
                rw [decide_eq_false h0] at q
                cases hl : (bodyS z).cps.toList with
                | nil =>
                  exact absurd (by unfold plainC; rw [decide_eq_true (str_nil hl)]; rfl) hC
                | cons c r =>
                  refine ⟨_, rfl, bodyS z, 0, c, rfl, rfl, by rw [sizeLine_eq]; omega, atI_nat (j := 0) (by rw [hl]; rfl), rfl, ?_⟩
                  rw [hl] at q
                  have e0 : decide (V.str ⟨#[c]⟩ = V.str "0") = decide (c = 48) := by
                    by_cases h : c = 48
                    · subst h
                      rfl
                    · rw [decide_eq_false h]
                      refine decide_eq_false fun e => h ?_
                      injection e with e
                      have := congrArg (fun z : Str => z.cps[0]?) e
                      have h0 : ("0" : Str).cps[0]? = some 48 := by decide +kernel
                      rw [h0] at this
                      simpa using this
                  have e3 : (false || decide ((c :: r).headD 0 ≠ 48)) = !decide (V.str ⟨#[c]⟩ = V.str "0") := by
                    rw [e0]
                    simp
                  rw [e3] at q
                  exact q _ e2
end
end K94
set_option maxRecDepth 100000
set_option maxHeartbeats 4000000
/-! k95: the plain law: what cannot stand. -/
namespace K94
open PySem PySem.Spec PyProof.Rows L2 L2.Q Pp StX L2.SupX
/-! ### the law's line -/
inductive Ln where
  | word | tup | left (n : Nat)
  deriving DecidableEq
def decL : Ln → Ln
  | .left n => .left (n - 1)
  | t => t
def opL (w : Str) : List Ln := if w = "(" then [.tup] else if w = "[" then [.word] else []
/-- what a word makes of the line (the top first); none: it cannot stand -/
def stepF (at_ : Nat) (w : Str) (line : List Ln) : Option (List Ln) :=
  if at_ = 0 then (if w = "[" then some [.word] else none) else match line with
    | [] => none
    | .word :: r => (match sizeN w with | some n => some (.left n :: r) | none => none)
    | top :: r => if w = ")" ∨ w = "]" then (if top = (if w = ")" then .tup else .left 0) then some r else none)
      else if top = .left 0 ∨ (¬ (w = "(" ∨ w = "[") ∧ plainL w = false) then none else some (opL w ++ (decL top :: r))
def faultM : List Str → Nat → List Ln → Option Nat
  | [], at_, line => if line = [] then none else some at_
  | w :: r, at_, line => match stepF at_ w line with
    | none => some at_
    | some l => faultM r (at_ + 1) l
/-! ### words -/
def okAny (w : Str) : Bool := match plainS w with
  | none => true
  | some .non => decide (w = "-")
  | some (.str z) => decide (z = w) && okStr w
  | some (.int i) => okInt i w
  | some _ => false
def okQ (w : Str) : Bool := decide (w.length ≤ 640) && ((!okNum w || (intText? w).isSome) && ((w.cps.toList.all fun c => decide (c ≠ 32) && decide (c < 128)) && (decide (plainL w = (plainS w).isSome) && (okAny w && decide (sizeN w = (kindW w).bind PK.size)))))
structure OkQ (w : Str) : Prop where
  len : w.length ≤ 640
  num : okNum w = true → ∃ n, intText? w = some n
  chars : ∀ c ∈ TL.tl w, c ≠ 32 ∧ c < 128
  plain : plainL w = (plainS w).isSome
  wr : ∀ d, plainS w = some d → Wr d [w]
  size : sizeN w = (kindW w).bind PK.size
theorem okQ_of {w : Str} (h : okQ w = true) : OkQ w := by
  simp only [okQ, Bool.and_eq_true, decide_eq_true_eq, Bool.or_eq_true, Bool.not_eq_true', List.all_eq_true] at h
  obtain ⟨h1, h2, h3, h4, h5, h6⟩ := h
  refine ⟨h1, fun e => ?_, fun c hc => h3 c hc, h4, fun d hd => ?_, h6⟩
  · rcases h2 with h2 | h2
    · rw [e] at h2; cases h2
    · exact Option.isSome_iff_exists.mp h2
  · unfold okAny at h5
    rw [hd] at h5
    cases d with
    | non =>
      have e : w = "-" := of_decide_eq_true h5
      rw [e]
      exact .non
    | str z =>
      obtain ⟨e, h⟩ := Bool.and_eq_true_iff.mp h5
      have e := of_decide_eq_true e
      subst e
      exact .str h
    | int i => exact .int h5
    | _ => cases h5
/-! ### balance -/
def dl (w : Str) : Int := if w = "(" ∨ w = "[" then 1 else if w = ")" ∨ w = "]" then -1 else 0
def sm (ws : List Str) : Int := (ws.map dl).sum
theorem sm_nil : sm [] = 0 := rfl
theorem sm_cons (w : Str) (r : List Str) : sm (w :: r) = dl w + sm r := by unfold sm; simp
theorem sm_app (a b : List Str) : sm (a ++ b) = sm a + sm b := by unfold sm; simp
theorem dl_le (w : Str) : dl w ≤ 1 ∧ -1 ≤ dl w := by
  unfold dl
  split
  · omega
  · split <;> omega
theorem dl_br {w : Str} (h : okBr w = true) : dl w = 0 := by
  simp only [okBr, Bool.and_eq_true, decide_eq_true_eq] at h
  obtain ⟨h1, h2, h3, h4⟩ := h
  unfold dl
  rw [if_neg (fun z => z.elim h1 h2), if_neg (fun z => z.elim h3 h4)]
theorem dl_word (c : PK) : dl c.word = 0 := by cases c <;> decide +kernel
mutual
theorem Wr.sm0 : ∀ {d : D} {ws : List Str}, Wr d ws → sm ws = 0
  | _, _, .non => by decide +kernel
  | _, _, .str h => by rw [sm_cons, dl_br (okStr_parts h).2.2.1]; rfl
  | _, _, .int h => by rw [sm_cons, dl_br (okInt_parts h).2.2.1]; rfl
  | _, _, .tup h => by
    rw [sm_cons, sm_app, h.sm0]
    decide +kernel
  | _, _, .pap (c := c) hc h => by
    rw [sm_cons, sm_cons, sm_app, h.sm0, dl_word]
    decide +kernel
theorem Wrs.sm0 : ∀ {ds : List D} {ws : List Str}, Wrs ds ws → sm ws = 0
  | _, _, .nil => rfl
  | _, _, .cons h1 h2 => by rw [sm_app, h1.sm0, h2.sm0]; rfl
end
theorem Wrs.snoc : ∀ {ds : List D} {vs : List Str} {d : D} {ws : List Str}, Wrs ds vs → Wr d ws → Wrs (ds ++ [d]) (vs ++ ws)
  | _, _, d, ws, .nil, g => by
    have := Wrs.cons g .nil
    simpa using this
  | _, _, d, ws, .cons (ws := u) h1 h2, g => by
    have := Wrs.cons h1 (h2.snoc g)
    simpa using this
/-! ### the open things -/
def opn : Option PK → List Str
  | none => ["("]
  | some k => ["[", k.word]
inductive PW : List Frame → List Str → Prop
  | nil : PW [] []
  | cons {c : Option PK} {ds : List D} {fr : List Frame} {ws vs : List Str} (t : PW fr ws) (h : Wrs ds vs) : PW ((c, ds) :: fr) (ws ++ (opn c ++ vs))
theorem PW.sm : ∀ {fr : List Frame} {ws : List Str}, PW fr ws → K94.sm ws = fr.length
  | _, _, .nil => rfl
  | _, _, .cons (c := c) t h => by
    rw [sm_app, sm_app, t.sm, h.sm0]
    have : K94.sm (opn c) = 1 := by
      cases c with
      | none => decide +kernel
      | some k => rw [opn, sm_cons, sm_cons, dl_word]; decide +kernel
    rw [this, List.length_cons]
    omega
theorem PW.inv {c : Option PK} {ds : List D} {fr : List Frame} {ws : List Str} (h : PW ((c, ds) :: fr) ws) : ∃ W vs, ws = W ++ (opn c ++ vs) ∧ PW fr W ∧ Wrs ds vs := by
  cases h with
  | cons t h => exact ⟨_, _, rfl, t, h⟩
inductive LR : List Frame → List Ln → Prop
  | nil : LR [] []
  | tup {ds : List D} {fr : List Frame} {l : List Ln} (h : LR fr l) : LR ((none, ds) :: fr) (.tup :: l)
  | pap {k : PK} {m : Nat} {ds : List D} {fr : List Frame} {l : List Ln} (hk : k.size = some m) (hl : ds.length < m) (h : LR fr l) : LR ((some k, ds) :: fr) (.left (m - ds.length - 1) :: l)
inductive TopR : Option PK → List D → Ln → Prop
  | tup {ds : List D} : TopR none ds .tup
  | pap {k : PK} {m : Nat} {ds : List D} (hk : k.size = some m) (hl : ds.length ≤ m) : TopR (some k) ds (.left (m - ds.length))
theorem TopR.isFull {c : Option PK} {ds : List D} {t : Ln} (h : TopR c ds t) : full c ds.length = decide (t = .left 0) := by
  cases h with
  | tup => rfl
  | @pap k m _ hk hl =>
    show decide (some ds.length = k.size) = _
    rw [hk]
    apply decide_eq_decide.mpr
    simp
    omega
theorem TopR.notWord {c : Option PK} {ds : List D} {t : Ln} (h : TopR c ds t) : t ≠ .word := by cases h <;> simp
/-- a thing begins within the top: the top waits -/
theorem TopR.wait {c : Option PK} {ds : List D} {t : Ln} {fr : List Frame} {l : List Ln} (h : TopR c ds t) (g : LR fr l) (hf : full c ds.length = false) : LR ((c, ds) :: fr) (decL t :: l) := by
  rw [h.isFull] at hf
  have hf := of_decide_eq_false hf
  cases h with
  | tup => exact .tup g
  | @pap k m _ hk hl =>
    have : ds.length < m := by
      rcases Nat.lt_or_ge ds.length m with z | z
      · exact z
      · exact absurd (congrArg Ln.left (by omega)) hf
    exact .pap hk this g
theorem TopR.plain {c : Option PK} {ds : List D} {t : Ln} {d : D} (h : TopR c ds t) (hf : full c ds.length = false) : TopR c (ds ++ [d]) (decL t) := by
  rw [h.isFull] at hf
  have hf := of_decide_eq_false hf
  cases h with
  | tup => exact .tup
  | @pap k m _ hk hl =>
    have : ds.length < m := by
      rcases Nat.lt_or_ge ds.length m with z | z
      · exact z
      · exact absurd (congrArg Ln.left (by omega)) hf
    have g := TopR.pap (k := k) (m := m) (ds := ds ++ [d]) hk (by simp; omega)
    have e : m - ds.length - 1 = m - (ds ++ [d]).length := by simp; omega
    show TopR _ _ (.left (m - ds.length - 1))
    rw [e]
    exact g
/-- the waiting one goes on -/
theorem LR.top {c : Option PK} {ds : List D} {fr : List Frame} {t : Ln} {l : List Ln} {d : D} (h : LR ((c, ds) :: fr) (t :: l)) : TopR c (ds ++ [d]) t ∧ LR fr l ∧ full c ds.length = false := by
  cases h with
  | tup h => exact ⟨.tup, h, rfl⟩
  | @pap k m _ _ _ hk hl h =>
    refine ⟨?_, h, ?_⟩
    · have g := TopR.pap (k := k) (m := m) (ds := ds ++ [d]) hk (by simp; omega)
      have e : m - ds.length - 1 = m - (ds ++ [d]).length := by simp; omega
      rw [e]
      exact g
    · show decide (some ds.length = k.size) = false
      rw [hk]
      simp
      omega
theorem loopM_eq {words : List Str} {n pt : Nat} {c : Option PK} {ds : List D} {fr : List Frame} {w : Str} (h : words[pt]? = some w) : loopM words (n + 1) pt ((c, ds) :: fr) =
    if w = "(" ∨ w = "[" then (if full c ds.length then .err pt else match beginM words pt (fr.length + 1) with
        | .error p => .err p
        | .ok (c', p) => loopM words n p ((c', []) :: (c, ds) :: fr))
      else if w = ")" ∨ w = "]" then (if badEnd words pt c ds.length then .err pt else match fr with
          | [] => if pt + 1 < words.length then .err (pt + 1) else .ok (madeD c ds)
          | (c', ds') :: fr'' => if full c' ds'.length then .err pt else loopM words n (pt + 1) ((c', ds' ++ [madeD c ds]) :: fr''))
      else match plainS w with
        | none => .err pt
        | some d => if full c ds.length then .err pt else loopM words n (pt + 1) ((c, ds ++ [d]) :: fr) := by
  rw [loopM.eq_def]
  dsimp only
  rw [h]
  rfl
theorem stepF_eq {pt : Nat} {w : Str} {t : Ln} {l : List Ln} (hp : 0 < pt) (ht : t ≠ .word) : stepF pt w (t :: l) = if w = ")" ∨ w = "]" then (if t = (if w = ")" then .tup else .left 0) then some l else none)
      else if t = .left 0 ∨ (¬ (w = "(" ∨ w = "[") ∧ plainL w = false) then none else some (opL w ++ (decL t :: l)) := by
  unfold stepF
  rw [if_neg (by omega)]
  cases t with
  | word => exact absurd rfl ht
  | _ => rfl
theorem stepF_word {pt : Nat} {w : Str} {l : List Ln} (hp : 0 < pt) : stepF pt w (.word :: l) = (sizeN w).map fun n => .left n :: l := by
  unfold stepF
  rw [if_neg (by omega)]
  dsimp only
  cases sizeN w <;> rfl
theorem badEnd_eq {words : List Str} {pt : Nat} {c : Option PK} {ds : List D} {t : Ln} {w : Str} (h : words[pt]? = some w) (hc : w = ")" ∨ w = "]") (T : TopR c ds t) : badEnd words pt c ds.length = !decide (t = if w = ")" then .tup else .left 0) := by
  unfold badEnd
  rw [h]
  have F := T.isFull
  cases T with
  | tup =>
    rcases hc with rfl | rfl
    · show (!decide (some (")" : Str) = some (closing none)) || false) = _
      decide +kernel
    · show (!decide (some ("]" : Str) = some (closing none)) || false) = _
      decide +kernel
  | @pap k m _ hk hl =>
    rcases hc with rfl | rfl
    · have e : decide (some (")" : Str) = some (closing (some k))) = false := by
        show decide (some (")" : Str) = some "]") = false
        decide +kernel
      rw [e]
      rfl
    · have e : decide (some ("]" : Str) = some (closing (some k))) = true := decide_eq_true rfl
      rw [e, F, if_neg (by decide +kernel)]
      rfl
theorem opens_ne {w : Str} (h : w = "(" ∨ w = "[") : ¬ (w = ")" ∨ w = "]") := by
  rcases h with rfl | rfl <;> decide +kernel
theorem take_succ {words : List Str} {pt : Nat} {w : Str} (h : words[pt]? = some w) : words.take (pt + 1) = words.take pt ++ [w] := by
  rw [List.take_add_one, h]
  rfl
theorem drop_succ {words : List Str} {pt : Nat} {w : Str} (h : words[pt]? = some w) : words.drop pt = w :: words.drop (pt + 1) := by
  obtain ⟨hl, e⟩ := List.getElem?_eq_some_iff.mp h
  rw [← e, List.drop_eq_getElem_cons hl]
theorem sim {words : List Str} (hq : ∀ w ∈ words, OkQ w) (hb : ∀ n, sm (words.take n) ≤ 19) : ∀ (n pt : Nat) {c : Option PK} {ds : List D} {fr : List Frame} {t : Ln} {l : List Ln}, words.length < n + pt → 0 < pt → pt ≤ words.length → PW ((c, ds) :: fr) (words.take pt) → TopR c ds t → LR fr l →
    (∃ p, loopM words n pt ((c, ds) :: fr) = .err p ∧ faultM (words.drop pt) pt (t :: l) = some p) ∨ (∃ d, loopM words n pt ((c, ds) :: fr) = .ok d ∧ faultM (words.drop pt) pt (t :: l) = none ∧ Wr d words)
  | 0, pt, c, ds, fr, t, l, h1, h2, h3, hp, hT, hL => by omega
  | n + 1, pt, c, ds, fr, t, l, h1, h2, h3, hp, hT, hL => by
    cases hw : words[pt]? with
    | none =>
      have hlen := List.getElem?_eq_none_iff.mp hw
      refine .inl ⟨pt, ?_, ?_⟩
      · rw [loopM.eq_def]
        dsimp only
        rw [hw]
      · rw [List.drop_of_length_le hlen]
        rfl
    | some w =>
      have hlen : pt < words.length := (List.getElem?_eq_some_iff.mp hw).1
      have hwm := List.mem_of_getElem? hw
      have hd := drop_succ hw
      have htk := take_succ hw
      rw [loopM_eq hw, hd]
      show (∃ p, _ ∧ (match stepF pt w (t :: l) with | none => some pt | some l' => faultM (words.drop (pt + 1)) (pt + 1) l') = some p) ∨ (∃ d, _ ∧ (match stepF pt w (t :: l) with | none => some pt | some l' => faultM (words.drop (pt + 1)) (pt + 1) l') = none ∧ _)
      rw [stepF_eq h2 hT.notWord]
      by_cases ho : w = "(" ∨ w = "["
      · rw [if_pos ho, if_neg (opens_ne ho)]
        cases hf : full c ds.length with
        | true =>
          rw [if_pos rfl]
          have e : t = .left 0 := by
            rw [hT.isFull] at hf
            exact of_decide_eq_true hf
          rw [if_pos (.inl e)]
          exact .inl ⟨pt, rfl, rfl⟩
        | false =>
          rw [if_neg Bool.false_ne_true]
          have e : ¬ t = .left 0 := by
            rw [hT.isFull] at hf
            exact of_decide_eq_false hf
          rw [if_neg (fun z => z.elim e fun z => z.1 ho)]
          have hW := hT.wait hL hf
          have hfr : fr.length + 1 < 20 := by
            have h5 := hb (pt + 1)
            rw [htk, sm_app, hp.sm, sm_cons, sm_nil] at h5
            have : dl w = 1 := by unfold dl; rw [if_pos ho]
            rw [List.length_cons, this] at h5
            omega
          dsimp only
          rcases ho with rfl | rfl
          · rw [begin_tup hw hfr]
            dsimp only
            have g := sim hq hb n (pt + 1) (c := none) (ds := []) (fr := (c, ds) :: fr) (t := .tup) (l := decL t :: l) (by omega) (by omega) (by omega) (by rw [htk]; exact PW.cons (c := none) hp .nil) .tup hW
            exact g
          · cases hw2 : words[pt + 1]? with
            | none =>
              have hl2 := List.getElem?_eq_none_iff.mp hw2
              have eB : beginM words pt (fr.length + 1) = .error (pt + 1) := by
                unfold beginM
                rw [if_neg (by omega), if_neg (by rw [hw]; intro e; exact absurd (Option.some.inj e) (by decide +kernel)), hw2]
              rw [eB]
              refine .inl ⟨pt + 1, rfl, ?_⟩
              rw [List.drop_of_length_le hl2]
              rfl
            | some z =>
              have hl2 : pt + 1 < words.length := (List.getElem?_eq_some_iff.mp hw2).1
              have hz := (hq z (List.mem_of_getElem? hw2)).size
              have hd2 := drop_succ hw2
              have htk2 := take_succ hw2
              have eO : opL "[" ++ (decL t :: l) = .word :: decL t :: l := rfl
              rw [eO, hd2]
              show (∃ p, _ ∧ (match stepF (pt + 1) z (.word :: decL t :: l) with | none => some (pt + 1) | some l' => faultM (words.drop (pt + 2)) (pt + 2) l') = some p) ∨ (∃ d, _ ∧ (match stepF (pt + 1) z (.word :: decL t :: l) with | none => some (pt + 1) | some l' => faultM (words.drop (pt + 2)) (pt + 2) l') = none ∧ _)
              rw [stepF_word (by omega), hz]
              cases hk : kindW z with
              | none =>
                have eB : beginM words pt (fr.length + 1) = .error (pt + 1) := by
                  unfold beginM
                  rw [if_neg (by omega), if_neg (by rw [hw]; intro e; exact absurd (Option.some.inj e) (by decide +kernel)), hw2]
                  dsimp only
                  rw [hk]
                rw [eB]
                exact .inl ⟨pt + 1, rfl, rfl⟩
              | some k =>
                obtain ⟨ez, hs⟩ := kindW_word hk
                obtain ⟨m, hm⟩ := Option.isSome_iff_exists.mp hs
                subst ez
                rw [begin_pap hw hw2 hm hfr]
                have eS : ((some k).bind PK.size).map (fun n => Ln.left n :: decL t :: l) = some (.left m :: decL t :: l) := by
                  show (k.size).map _ = _
                  rw [hm]
                  rfl
                rw [eS]
                dsimp only
                exact sim hq hb n (pt + 2) (c := some k) (ds := []) (fr := (c, ds) :: fr) (t := .left m) (l := decL t :: l) (by omega) (by omega) (by omega) (by
                  rw [htk2, htk, List.append_assoc]
                  exact PW.cons (c := some k) hp .nil) (TopR.pap (ds := []) hm (Nat.zero_le _)) hW
      · rw [if_neg ho]
        by_cases hc : w = ")" ∨ w = "]"
        · rw [if_pos hc, if_pos hc, badEnd_eq hw hc hT]
          by_cases ht : t = (if w = ")" then .tup else .left 0)
          · rw [if_pos ht, decide_eq_true ht, Bool.not_true, if_neg Bool.false_ne_true]
            have hcl : w = closing c := by
              cases hT with
              | tup =>
                rcases hc with rfl | rfl
                · rfl
                · rw [if_neg (by decide +kernel)] at ht; cases ht
              | pap hk hl =>
                rcases hc with rfl | rfl
                · rw [if_pos rfl] at ht; cases ht
                · rfl
            obtain ⟨W, vs, eW, hp, hvs⟩ := hp.inv
            have hfin : Wr (madeD c ds) (opn c ++ vs ++ [closing c]) := by
              cases hT with
              | tup => exact Wr.tup hvs
              | @pap k m _ hk hl =>
                have e0 : m - ds.length = 0 := by
                  rcases hc with rfl | rfl
                  · rw [if_pos rfl] at ht; cases ht
                  · rw [if_neg (by decide +kernel)] at ht
                    injection ht
                have e1 : k.size = some ds.length := by rw [hk]; congr 1; omega
                show Wr (.pap k (keptL ds)) _
                rw [hvs.kept]
                exact Wr.pap e1 hvs
            cases fr with
            | nil =>
              cases hL
              cases hp
              dsimp only
              by_cases hlast : pt + 1 < words.length
              · rw [if_pos hlast]
                obtain ⟨z, hz⟩ : ∃ z, words[pt + 1]? = some z := ⟨_, List.getElem?_eq_getElem hlast⟩
                rw [drop_succ hz]
                exact .inl ⟨pt + 1, rfl, rfl⟩
              · rw [if_neg hlast, List.drop_of_length_le (by omega)]
                refine .inr ⟨_, rfl, rfl, ?_⟩
                have e : words = words.take (pt + 1) := (List.take_of_length_le (by omega)).symm
                rw [e, htk, eW, hcl]
                exact hfin
            | cons f fr2 =>
              obtain ⟨c2, ds2⟩ := f
              obtain ⟨t2, l2, rfl⟩ : ∃ t2 l2, l = t2 :: l2 := by
                cases hL with
                | tup h => exact ⟨_, _, rfl⟩
                | pap _ _ h => exact ⟨_, _, rfl⟩
              obtain ⟨g1, g2, g3⟩ := hL.top (d := madeD c ds)
              dsimp only
              rw [g3, if_neg Bool.false_ne_true]
              refine sim hq hb n (pt + 1) (by omega) (by omega) (by omega) ?_ g1 g2
              obtain ⟨W2, vs2, eW2, hp2, hvs2⟩ := hp.inv
              have e : words.take (pt + 1) = W2 ++ (opn c2 ++ (vs2 ++ (opn c ++ vs ++ [closing c]))) := by
                rw [htk, eW, eW2, hcl]
                simp only [List.append_assoc]
              rw [e]
              exact PW.cons hp2 (hvs2.snoc hfin)
          · rw [if_neg ht, decide_eq_false ht]
            exact .inl ⟨pt, rfl, rfl⟩
        · rw [if_neg hc, if_neg hc]
          have hpl := (hq w hwm).plain
          cases hpS : plainS w with
          | none =>
            rw [hpS] at hpl
            rw [if_pos (.inr ⟨ho, hpl⟩)]
            exact .inl ⟨pt, rfl, rfl⟩
          | some d =>
            rw [hpS] at hpl
            dsimp only
            cases hf : full c ds.length with
            | true =>
              have e : t = .left 0 := by
                rw [hT.isFull] at hf
                exact of_decide_eq_true hf
              rw [if_pos rfl, if_pos (.inl e)]
              exact .inl ⟨pt, rfl, rfl⟩
            | false =>
              have e : ¬ t = .left 0 := by
                rw [hT.isFull] at hf
                exact of_decide_eq_false hf
              rw [if_neg Bool.false_ne_true, if_neg (fun z => z.elim e fun z => by rw [hpl] at z; cases z.2)]
              have eO : opL w ++ (decL t :: l) = decL t :: l := by
                unfold opL
                rw [if_neg (fun z => ho (.inl z)), if_neg (fun z => ho (.inr z))]
                rfl
              rw [eO]
              dsimp only
              refine sim hq hb n (pt + 1) (c := c) (ds := ds ++ [d]) (fr := fr) (t := decL t) (l := l) (by omega) (by omega) (by omega) ?_ (hT.plain hf) hL
              obtain ⟨W, vs, eW, hp, hvs⟩ := hp.inv
              have e2 : words.take (pt + 1) = W ++ (opn c ++ (vs ++ [w])) := by
                rw [htk, eW]
                simp only [List.append_assoc]
              rw [e2]
              exact PW.cons hp (hvs.snoc ((hq w hwm).wr d hpS))
/-- read_paper's model against the law's -/
theorem fault_whole {words : List Str} (hq : ∀ w ∈ words, OkQ w) (hb : ∀ n, sm (words.take n) ≤ 19) (hne : words ≠ []) : (∃ p, wholeM words 0 = .err p ∧ faultM words 0 [] = some p) ∨ (∃ d, wholeM words 0 = .ok d ∧ faultM words 0 [] = none ∧ Wr d words) := by
  obtain ⟨w, r, rfl⟩ : ∃ w r, words = w :: r := by
    cases words with
    | nil => exact absurd rfl hne
    | cons w r => exact ⟨w, r, rfl⟩
  have h0 : (w :: r)[0]? = some w := rfl
  unfold wholeM
  show (∃ p, _ ∧ (match (if w = "[" then some [Ln.word] else none) with | none => some 0 | some l' => faultM r 1 l') = some p) ∨ (∃ d, _ ∧ (match (if w = "[" then some [Ln.word] else none) with | none => some 0 | some l' => faultM r 1 l') = none ∧ _)
  by_cases hw : w = "["
  · subst hw
    rw [if_pos rfl, if_pos (show (("[" : Str) :: r)[0]? = some ("[" : Str) from rfl)]
    dsimp only
    cases r with
    | nil =>
      have eB : beginM ["["] 0 0 = .error 1 := by
        unfold beginM
        rw [if_neg (by omega), if_neg (by decide +kernel)]
        rfl
      rw [eB]
      exact .inl ⟨1, rfl, rfl⟩
    | cons z r =>
      have hz := (hq z (List.mem_cons_of_mem _ List.mem_cons_self)).size
      show (∃ p, _ ∧ (match stepF 1 z [.word] with | none => some 1 | some l' => faultM r 2 l') = some p) ∨ (∃ d, _ ∧ (match stepF 1 z [.word] with | none => some 1 | some l' => faultM r 2 l') = none ∧ _)
      rw [stepF_word (by omega), hz]
      have hw0 : (("[" : Str) :: z :: r)[0]? = some ("[" : Str) := rfl
      have hw2 : (("[" : Str) :: z :: r)[0 + 1]? = some z := rfl
      cases hk : kindW z with
      | none =>
        have eB : beginM (("[" : Str) :: z :: r) 0 0 = .error (0 + 1) := by
          unfold beginM
          rw [if_neg (by omega), if_neg (by rw [hw0]; intro e; exact absurd (Option.some.inj e) (by decide +kernel)), hw2]
          dsimp only
          rw [hk]
        rw [eB]
        exact .inl ⟨0 + 1, rfl, rfl⟩
      | some k =>
        obtain ⟨ez, hs⟩ := kindW_word hk
        obtain ⟨m, hm⟩ := Option.isSome_iff_exists.mp hs
        subst ez
        rw [begin_pap hw0 hw2 hm (by omega)]
        have eS : ((some k).bind PK.size).map (fun n => [Ln.left n]) = some [.left m] := by
          show (k.size).map _ = _
          rw [hm]
          rfl
        rw [eS]
        dsimp only
        exact sim hq hb _ (0 + 2) (c := some k) (ds := []) (fr := []) (t := .left m) (l := []) (by simp) (by omega) (by simp) (PW.cons (c := some k) .nil .nil) (TopR.pap (ds := []) hm (Nat.zero_le _)) .nil
  · rw [if_neg hw, if_neg (show ¬ (w :: r)[0]? = some ("[" : Str) from fun e => hw (by injection e))]
    exact .inl ⟨0, rfl, rfl⟩
end K94
set_option maxRecDepth 100000
set_option maxHeartbeats 4000000
/-! k95: the law's fault. -/
namespace K94
open PySem PySem.Spec PyProof.Rows L2 L2.Q Pp StX L2.SupX
theorem sc__law_fault : FnScope [("words" : Str), ("sizes" : Str), ("line" : Str), ("at" : Str), ("word" : Str), ("is_good" : Str)] [("words" : Str)] (defScope s__law_fault) := ⟨rfl, rfl, rfl, by decide +kernel, rfl, by decide +kernel, by decide +kernel⟩
def lnV : Ln → V
  | .word => .str "word"
  | .tup => .non
  | .left n => .int (n : Int)
def lnL (l : List Ln) : List V := (l.map lnV).reverse
theorem lnL_cons (t : Ln) (l : List Ln) : lnL (t :: l) = lnL l ++ [lnV t] := by unfold lnL; simp
theorem lnL_len (l : List Ln) : (lnL l).length = l.length := by unfold lnL; simp
theorem ixN_last (n : Nat) : ixN (n + 1) (-1) = some n := by
  unfold ixN
  rw [if_neg (by omega), if_pos (by omega)]
  congr 1
  omega
theorem lnL_app (a b : List Ln) : lnL (a ++ b) = lnL b ++ lnL a := by unfold lnL; simp
theorem v_int0 (i : Nat) : decide (V.int (i : Int) = V.int 0) = decide (i = 0) := by
  apply decide_eq_decide.mpr
  constructor
  · intro e
    injection e with e
    omega
  · rintro rfl
    rfl
theorem v_strE (a b : Str) : decide (V.str a = V.str b) = decide (a = b) := by
  apply decide_eq_decide.mpr
  exact ⟨fun e => by injection e, fun e => congrArg V.str e⟩
theorem lnV_inj (a b : Ln) : decide (lnV a = lnV b) = decide (a = b) := by
  apply decide_eq_decide.mpr
  refine ⟨fun e => ?_, fun e => congrArg lnV e⟩
  cases a <;> cases b <;> simp only [lnV] at e <;> first | rfl | (injection e with e; congr 1; omega) | cases e
theorem lnV_scal (a b : Ln) (h : a ≠ .word) (h' : b ≠ .word) : scal (lnV a) (lnV b) = true := by
  cases a <;> cases b <;> first | rfl | exact absurd rfl h | exact absurd rfl h'
theorem cut_last (xs : List V) (v : V) : cutV (xs ++ [v]) none (some (-1)) = xs := by
  unfold cutV
  have e : HT.sIx (xs ++ [v]).length (xs ++ [v]).length (some (-1)) = xs.length := by
    show (if (-1 : Int) < 0 then ((-1 : Int) + ((xs ++ [v]).length : Int)).toNat else min (-1 : Int).toNat (xs ++ [v]).length) = xs.length
    rw [if_pos (by decide), List.length_append, List.length_singleton]
    omega
  rw [e]
  show ((xs ++ [v]).drop 0).take (xs.length - 0) = xs
  simp
structure LS (H0 H : Hp) (sa la : Addr) (line : List Ln) : Prop where
  e : Ext H0 H
  n : H0 la = none
  hl : H la = some (.lst (lnL line))
  hs : H sa = some (.dK sizesL)
  ne : sa ≠ la
theorem LS.ext {H0 H H' : Hp} {sa la : Addr} {line : List Ln} (L : LS H0 H sa la line) (e : Ext H H') : LS H0 H' sa la line := ⟨L.e.trans e, L.n, e _ _ L.hl, e _ _ L.hs, L.ne⟩
theorem LS.put {H0 H : Hp} {sa la : Addr} {line line' : List Ln} (L : LS H0 H sa la line) {xs : List V} (h : xs = lnL line') : LS H0 (upd H la (.lst xs)) sa la line' := ⟨ext_ne L.n L.e, L.n, by rw [upd_same, h], by rw [upd_ne L.ne]; exact L.hs, L.ne⟩
theorem LS.new {H0 H : Hp} {sa la p : Addr} {line line' : List Ln} (L : LS H0 H sa la line) {xs : List V} (hp : H p = none) (h : xs = lnL line') : LS H0 (upd H p (.lst xs)) sa p line' := ⟨L.e.trans (Ext.upd hp), ext_none L.e hp, by rw [upd_same, h], Ext.upd hp _ _ L.hs, ne_of_none L.hs hp⟩
section
variable {w : World} {K : PySem.W.Frag} {mg : Str → Option Value} {base : Heap} (T : Txt w K mg)
include T
def spFault : Sp := fun vs H Q _ => ∃ l ws, vs = [.ref l] ∧ H l = some (.lst (ws.map V.str)) ∧ ws.length ≤ 4000 ∧ (∀ w ∈ ws, w.length ≤ 700) ∧ ∀ H', Ext H H' → Q (match faultM ws 0 [] with | some p => .int (p : Int) | none => .non) H'
theorem F__law_fault : FnR PR w K mg base CX0 10 (He.ga K "_law_fault") spFault := by
  have F__law_sizes := F__law_sizes (base := base) T
  have F__law_is_plain := F__law_is_plain (base := base) T
  refine fnr (k := 9) T.F__law_fault sc__law_fault (fun vs H Q E h => ?_) (fun _ _ _ _ _ _ us hl => match us, hl with | [_], _ => rfl) (fun cdv A outer s H vs Q E hr h => ⟨_, (pss_cons (ps_par (i := 1) (j := 2) rfl sc__law_fault.nd rfl rfl (by decide) rfl rfl (pa_cons (pe_callR0 F__law_sizes (hr.mono (by omega)) T.k__law_sizes T.g__law_sizes rfl pass0) (pa_cons (pe_lst pa_nil) pa_nil)) (by rfl))
      (pss_cons (ps_for PassesOwn.never rfl (pi_enum (by rfl) T.n_enumerate (pa_cons (pv 0) pa_nil)) (pg_tup rfl (pgs_cons (pg_name (i := 3) sc__law_fault.nd rfl (Or.inl rfl)) (pgs_cons (pg_name (i := 4) sc__law_fault.nd rfl (Or.inl rfl)) pgs_nil))) (pss_cons (ps_if (pt_cut (PW.pt (pw_and (pt_cmpR (op_eqNil hr.units0) (pv 2) (pe_lst pa_nil) (nomark _)) (pw_and1 (pt_cmpR op_gt (pv 3) pe_int (nomark _)))))) (pss_one (ps_ret (pv 3))) pss_nil)
      (pss_one (ps_if (pt_cut (PW.pt (pw_or (pt_cmpR op_eq (pv 3) pe_int (nomark _)) (pw_or1 (pt_cmpR op_eq (pe_ix ix_list (pv 2) (pe_un un_neg pe_int) (fun _ _ => rfl)) pe_str (nomark _)))))) (pss_cons (ps_set (i := 5) sc__law_fault.nd rfl (Or.inl rfl) (pe_cut (pe_ifExp (pt_cmpR op_eq (pv 3) pe_int (nomark _)) (pe_cmpR op_eq (pv 4) pe_str (nomark _)) (pe_cmp (pc_din (units1 hr) (pv 4) (pv 1))))))
      (pss_cons (ps_if (pt_not (pt_val (pv 5))) (pss_one (ps_ret (pv 3))) pss_nil)
      (pss_one (ps_set (i := 2) sc__law_fault.nd rfl (Or.inl rfl) (pe_cut (pe_ifExp (pt_cmpR op_eq (pv 3) pe_int (nomark _)) (pe_lst (pa_cons pe_str pa_nil)) (pe_op op_cat (pe_slice sl_list (pv 2) po_none (po_some (pe_un un_neg pe_int))) (pe_lst (pa_cons (pe_dget (units1 hr) (pv 1) (pv 4) (fun _ _ => rfl)) pa_nil))))))))) (pss_one (ps_if (pt_cut (PW.pt (pw_or (pt_cmpR op_eq (pv 4) pe_str (nomark _)) (pw_or1 (pt_cmpR op_eq (pv 4) pe_str (nomark _)))))) (pss_cons (ps_if (pt_cmpR op_ne (pe_ix ix_list (pv 2) (pe_un un_neg pe_int) (fun _ _ => rfl)) (pe_cut (pe_ifExp (pt_cmpR op_eq (pv 4) pe_str (nomark _)) pe_non pe_int)) (nomark _)) (pss_one (ps_ret (pv 3))) pss_nil)
      (pss_one (ps_expr (pe_bm0 PySem.F.plainAttrs_list PySem.F.slot_list_pop PySem.F.type_list_pop mt_pop (pv 2))))) (pss_cons (ps_if (pt_cut (PW.pt (pw_or (pt_cmpR op_eq (pe_ix ix_list (pv 2) (pe_un un_neg pe_int) (fun _ _ => rfl)) pe_int (nomark _)) (pw_or1 (PW.pt (pw_and (pt_cmpR op_notIn_seq (pv 4) (pe_tup (pa_cons pe_str (pa_cons pe_str pa_nil))) rfl) (pw_and1 (pt_not (pt_val (pe_callR F__law_is_plain (hr.mono (by omega)) T.k__law_is_plain T.g__law_is_plain rfl pass0 (pa_cons (pv 4) pa_nil))))))))))) (pss_one (ps_ret (pv 3))) pss_nil)
      (pss_cons (ps_asg (pe_cut (pe_ifExp (pt_cmpR op_isN (pe_ix ix_list (pv 2) (pe_un un_neg pe_int) (fun _ _ => rfl)) pe_non (nomark _)) pe_non (pe_op op_sub (pe_ix ix_list (pv 2) (pe_un un_neg pe_int) (fun _ _ => rfl)) pe_int))) (pg_sub (pv 2) (pe_un un_neg pe_int) set_list))
      (pss_one (ps_set (i := 2) sc__law_fault.nd rfl (Or.inl rfl) (pe_op op_cat (pv 2) (pe_cut (pe_ifExp (pt_cmpR op_eq (pv 4) pe_str (nomark _)) (pe_lst (pa_cons pe_non pa_nil)) (pe_ifExp (pt_cmpR op_eq (pv 4) pe_str (nomark _)) (pe_lst (pa_cons pe_str pa_nil)) (pe_lst pa_nil)))))))))))))))
      (pss_one (ps_ret (pe_cut (pe_ifExp (pt_cmpR (op_neNil hr.units0) (pv 2) (pe_lst pa_nil) (nomark _)) (pe_callB call_len (by rfl) T.n_len PySem.boot_len (pa_cons (pv 0) pa_nil)) pe_non)))))), ?_⟩)
  · obtain ⟨l, ws, rfl, _⟩ := h
    rfl
  · obtain ⟨l, ws, rfl, hl, hn, hw, q⟩ := h
    dsimp only [gCons, gName, gNil, gSub, gTup, gFld, iSeq, iList, iStr, iTup, iRng1, tAnd, tAndT, tAndV, tAsg, tAsg2, tAug, tB, tBM, tBM0, tBreak, tC, tCB, tCallR, tChain, tCons, tDrop, tFld, sFld, sFldAug, tFor_eq, tLc2_eq, tIf, tIfS, tIsN, tLc_eq, tLst, tM0, tM1, tMakeR, tMethR, tNever, tNm, tXk, tCallKw, tNext, tNil, tNoPart, tNot, tNotN, tNotT, tNotV, tOp, tOr, tOrT, tOrV, tOst, tPar, tPart, tRet, tRetN, tRg1, tSeq, tSl, tStar, tTest, tThen, tTup, tUn, C8.tCut, tVar]
    refine ⟨rfl, fun sa H1 hsa e1 hs1 => ⟨by rw [sizeLine_eq]; simp, fun la hla => ⟨_, _, rfl, .ref l, rfl, l, ws.map V.str, rfl, .of (Ext.upd hla _ _ (e1 _ _ hl)), ?_⟩⟩⟩
    have L0 : LS H (upd H1 la (.lst [])) sa la [] := ⟨e1.trans (Ext.upd hla), ext_none e1 hla, upd_same, Ext.upd hla _ _ hs1, ne_of_none hs1 hla⟩
    generalize upd H1 la (.lst []) = H2 at L0 ⊢
    refine for_it (walk_enum (xs := ws.map V.str)) (fun i σ H' => ∃ line la x3 x4 x5, σ = [some (.ref l), some (.ref sa), some (.ref la), x3, x4, x5] ∧ LS H H' sa la line ∧ faultM (ws.drop i) i line = faultM ws 0 [] ∧ (i = 0 → line = []) ∧ line.length ≤ i) ⟨[], la, none, none, none, rfl, L0, rfl, fun _ => rfl, Nat.le_refl _⟩ (fun i σ H' _ P => ?_) (fun i x σ H' H'' hi P Y => ?_) (fun σ H' P => ?_)
    · obtain ⟨line, la, x3, x4, x5, rfl, L, _⟩ := P
      exact .of (L.e _ _ hl)
    · obtain ⟨line, la, x3, x4, x5, rfl, L, hf, h0, hll⟩ := P
      obtain ⟨t, v1, v2, rfl, ht, rfl, y1, y2⟩ := Y
      injection y1 with y1
      subst y1
      dsimp only at y2
      rw [List.getElem?_map] at y2
      cases hw2 : ws[i]? with
      | none => rw [hw2] at y2; cases y2
      | some z =>
        rw [hw2] at y2
        cases y2
        have hd := drop_succ hw2
        rw [hd] at hf
        have hz := hw z (List.mem_of_getElem? hw2)
        have L2 := L.ext (Ext.upd (o := .tup [.int (i : Int), .str z]) ht)
        have ht2 : upd H' t (.tup [.int (i : Int), .str z]) t = _ := upd_same
        generalize upd H' t (.tup [.int (i : Int), .str z]) = H3 at L2 ht2 ⊢
        rw [List.length_map] at hi
        refine ⟨t, _, rfl, .of ht2, rfl, _, _, rfl, _, _, rfl, rfl, ?_⟩
        dsimp only [gCons, gName, gNil, gSub, gTup, gFld, iSeq, iList, iStr, iTup, iRng1, tAnd, tAndT, tAndV, tAsg, tAsg2, tAug, tB, tBM, tBM0, tBreak, tC, tCB, tCallR, tChain, tCons, tDrop, tFld, sFld, sFldAug, tFor_eq, tLc2_eq, tIf, tIfS, tIsN, tLc_eq, tLst, tM0, tM1, tMakeR, tMethR, tNever, tNm, tXk, tCallKw, tNext, tNil, tNoPart, tNot, tNotN, tNotT, tNotV, tOp, tOr, tOrT, tOrV, tOst, tPar, tPart, tRet, tRetN, tRg1, tSeq, tSl, tStar, tTest, tThen, tTup, tUn, C8.tCut, tVar]
        refine ⟨fun b H' => b = decide (line = [] ∧ 0 < i) ∧ LS H H' sa la line, ?_, ?_⟩
        · dsimp only [gCons, gName, gNil, gSub, gTup, gFld, iSeq, iList, iStr, iTup, iRng1, tAnd, tAndT, tAndV, tAsg, tAsg2, tAug, tB, tBM, tBM0, tBreak, tC, tCB, tCallR, tChain, tCons, tDrop, tFld, sFld, sFldAug, tFor_eq, tLc2_eq, tIf, tIfS, tIsN, tLc_eq, tLst, tM0, tM1, tMakeR, tMethR, tNever, tNm, tXk, tCallKw, tNext, tNil, tNoPart, tNot, tNotN, tNotT, tNotV, tOp, tOr, tOrT, tOrV, tOst, tPar, tPart, tRet, tRetN, tRg1, tSeq, tSl, tStar, tTest, tThen, tTup, tUn, C8.tCut, tVar]
          refine ⟨.ref la, rfl, by rw [sizeLine_eq]; simp, fun p hp => ⟨la, p, _, rfl, rfl, .of (Ext.upd hp _ _ L2.hl), upd_same, _, rfl, ?_⟩⟩
          have L3 := L2.ext (Ext.upd (o := .lst []) hp)
          cases line with
          | nil =>
            rw [if_pos (show (lnL []).isEmpty = true from rfl)]
            exact ⟨_, rfl, _, _, rfl, rfl, _, rfl, decide_eq_decide.mpr ⟨fun h => ⟨rfl, by omega⟩, fun h => by have := h.2; omega⟩, L3⟩
          | cons t r =>
            rw [if_neg (by rw [lnL_cons]; simp)]
            exact ⟨by simp, L3⟩
        · rintro b H4 ⟨rfl, L4⟩
          have hf2 : (match stepF i z line with | none => some i | some l' => faultM (ws.drop (i + 1)) (i + 1) l') = faultM ws 0 [] := hf
          have bad : stepF i z line = none → ∀ H', Ext H H' → Q (.int (i : Int)) H' := fun e H' eH => by
            have h := q H' eH
            rw [← hf2, e] at h
            exact h
          have good : ∀ line', stepF i z line = some line' → faultM (ws.drop (i + 1)) (i + 1) line' = faultM ws 0 [] := fun l' e => by
            rw [e] at hf2
            exact hf2
          by_cases h1 : line = [] ∧ 0 < i
          · rw [if_pos (decide_eq_true h1)]
            refine ⟨_, rfl, bad ?_ _ L4.e⟩
            rw [h1.1]
            unfold stepF
            rw [if_neg (by omega)]
          · rw [if_neg (by simpa using h1)]
            refine ⟨fun b H' => b = decide (i = 0 ∨ line.head? = some .word) ∧ LS H H' sa la line, ?_, ?_⟩
            · dsimp only [gCons, gName, gNil, gSub, gTup, gFld, iSeq, iList, iStr, iTup, iRng1, tAnd, tAndT, tAndV, tAsg, tAsg2, tAug, tB, tBM, tBM0, tBreak, tC, tCB, tCallR, tChain, tCons, tDrop, tFld, sFld, sFldAug, tFor_eq, tLc2_eq, tIf, tIfS, tIsN, tLc_eq, tLst, tM0, tM1, tMakeR, tMethR, tNever, tNm, tXk, tCallKw, tNext, tNil, tNoPart, tNot, tNotN, tNotT, tNotV, tOp, tOr, tOrT, tOrV, tOst, tPar, tPart, tRet, tRetN, tRg1, tSeq, tSl, tStar, tTest, tThen, tTup, tUn, C8.tCut, tVar]
              refine ⟨_, rfl, rfl, _, rfl, ?_⟩
              rw [v_int0]
              by_cases i0 : i = 0
              · rw [decide_eq_true i0, if_pos rfl]
                exact ⟨(decide_eq_true (.inl i0)).symm, L4⟩
              · rw [decide_eq_false i0, if_neg Bool.false_ne_true]
                cases line with
                | nil => exact absurd ⟨rfl, by omega⟩ h1
                | cons t r =>
                  refine ⟨_, rfl, 1, rfl, la, _, -1, lnV t, rfl, rfl, .of L4.hl, by rw [lnL_cons]; exact atI_last _ _, by cases t <;> rfl, _, rfl, ?_, L4⟩
                  cases t <;> simp [lnV, i0]
            · rintro b H5 ⟨rfl, L5⟩
              by_cases h2 : i = 0 ∨ line.head? = some .word
              · rw [if_pos (decide_eq_true h2)]
                refine ⟨fun v H' => v = .bl (if i = 0 then decide (z = "[") else (sizeN z).isSome) ∧ LS H H' sa la line, ?_, ?_⟩
                · dsimp only [gCons, gName, gNil, gSub, gTup, gFld, iSeq, iList, iStr, iTup, iRng1, tAnd, tAndT, tAndV, tAsg, tAsg2, tAug, tB, tBM, tBM0, tBreak, tC, tCB, tCallR, tChain, tCons, tDrop, tFld, sFld, sFldAug, tFor_eq, tLc2_eq, tIf, tIfS, tIsN, tLc_eq, tLst, tM0, tM1, tMakeR, tMethR, tNever, tNm, tXk, tCallKw, tNext, tNil, tNoPart, tNot, tNotN, tNotT, tNotV, tOp, tOr, tOrT, tOrV, tOst, tPar, tPart, tRet, tRetN, tRg1, tSeq, tSl, tStar, tTest, tThen, tTup, tUn, C8.tCut, tVar]
                  refine ⟨_, rfl, rfl, _, rfl, ?_⟩
                  rw [v_int0]
                  by_cases i0 : i = 0
                  · rw [decide_eq_true i0, if_pos rfl, if_pos i0]
                    exact ⟨_, rfl, rfl, congrArg V.bl (v_strE _ _), L5⟩
                  · rw [decide_eq_false i0, if_neg Bool.false_ne_true, if_neg i0]
                    exact ⟨_, rfl, _, rfl, sa, valV sizesL (.inr z), rfl, DGet.k (k := .inr z) L5.hs, by rw [sizes_val, Option.isSome_map], L5⟩
                · rintro v H6 ⟨rfl, L6⟩
                  refine ⟨_, rfl, _, rfl, ?_⟩
                  cases g : (if i = 0 then decide (z = "[") else (sizeN z).isSome) with
                  | false =>
                    rw [if_pos (show (!false) = true from rfl)]
                    refine ⟨_, rfl, bad ?_ _ L6.e⟩
                    unfold stepF
                    by_cases i0 : i = 0
                    · rw [if_pos i0] at g ⊢
                      rw [if_neg (of_decide_eq_false g)]
                    · rw [if_neg i0] at g ⊢
                      cases line with
                      | nil => rfl
                      | cons t r =>
                        have ht : t = .word := by
                          rcases h2 with h2 | h2
                          · exact absurd h2 i0
                          · simpa using h2
                        subst ht
                        dsimp only
                        rw [Option.isSome_eq_false_iff, Option.isNone_iff_eq_none] at g
                        rw [g]
                  | true =>
                    rw [if_neg (show ¬ (!true) = true from Bool.false_ne_true)]
                    refine ⟨fun v H' => ∃ la' line', v = .ref la' ∧ LS H H' sa la' line' ∧ stepF i z line = some line' ∧ line'.length ≤ line.length + 1, ?_, ?_⟩
                    · dsimp only [gCons, gName, gNil, gSub, gTup, gFld, iSeq, iList, iStr, iTup, iRng1, tAnd, tAndT, tAndV, tAsg, tAsg2, tAug, tB, tBM, tBM0, tBreak, tC, tCB, tCallR, tChain, tCons, tDrop, tFld, sFld, sFldAug, tFor_eq, tLc2_eq, tIf, tIfS, tIsN, tLc_eq, tLst, tM0, tM1, tMakeR, tMethR, tNever, tNm, tXk, tCallKw, tNext, tNil, tNoPart, tNot, tNotN, tNotT, tNotV, tOp, tOr, tOrT, tOrV, tOst, tPar, tPart, tRet, tRetN, tRg1, tSeq, tSl, tStar, tTest, tThen, tTup, tUn, C8.tCut, tVar]
                      refine ⟨_, rfl, rfl, _, rfl, ?_⟩
                      rw [v_int0]
                      by_cases i0 : i = 0
                      · rw [decide_eq_true i0, if_pos rfl]
                        rw [if_pos i0] at g
                        refine ⟨by rw [sizeLine_eq]; simp, fun p hp => ⟨p, [.word], rfl, L6.new hp rfl, ?_, by simp⟩⟩
                        unfold stepF
                        rw [if_pos i0, if_pos (of_decide_eq_true g)]
                      · rw [decide_eq_false i0, if_neg Bool.false_ne_true]
                        rw [if_neg i0] at g
                        obtain ⟨m, hm⟩ := Option.isSome_iff_exists.mp g
                        cases line with
                        | nil => exact absurd ⟨rfl, by omega⟩ h1
                        | cons t r =>
                          have ht : t = .word := by
                            rcases h2 with h2 | h2
                            · exact absurd h2 i0
                            · simpa using h2
                          subst ht
                          refine ⟨_, rfl, 1, rfl, _, rfl, la, _, rfl, .of L6.hl, fun p hp => ?_⟩
                          rw [lnL_cons, cut_last]
                          have L7 := L6.ext (Ext.upd (o := .lst (lnL r)) hp)
                          have h7 : upd H6 p (.lst (lnL r)) p = _ := upd_same
                          generalize upd H6 p (.lst (lnL r)) = H7 at L7 h7 ⊢
                          refine ⟨_, rfl, _, rfl, sa, .int (m : Int), rfl, ?_, by rw [sizeLine_eq]; simp, fun p2 hp2 => ⟨p, p2, lnL r, [.int (m : Int)], rfl, rfl, Ext.upd hp2 _ _ h7, upd_same, ?_, fun p3 hp3 => ⟨p3, .left m :: r, rfl, (L7.ext (Ext.upd hp2)).new hp3 ?_, ?_, by simp⟩⟩⟩
                          · have := DGet.k (k := .inr z) L7.hs
                            rw [sizes_val, hm] at this
                            exact this
                          · rw [lnL_len, sizeLine_eq]
                            simp at hll ⊢
                            omega
                          · rw [lnL_cons]
                            rfl
                          · rw [stepF_word (by omega), hm]
                            rfl
                    · rintro v H7 ⟨la', line', rfl, L7, e, hl'⟩
                      exact ⟨line', la', _, _, _, rfl, L7, good _ e, fun h => by omega, by omega⟩
              · rw [if_neg (by simpa using h2)]
                have i0 : ¬ i = 0 := fun h => h2 (.inl h)
                cases line with
                | nil => exact absurd ⟨rfl, by omega⟩ h1
                | cons t r =>
                have ht : t ≠ .word := fun h => h2 (.inr (by rw [h]; rfl))
                have hst := stepF_eq (pt := i) (w := z) (l := r) (by omega) ht
                refine ⟨fun b H' => b = decide (z = ")" ∨ z = "]") ∧ H' = H5, ?_, ?_⟩
                · dsimp only [gCons, gName, gNil, gSub, gTup, gFld, iSeq, iList, iStr, iTup, iRng1, tAnd, tAndT, tAndV, tAsg, tAsg2, tAug, tB, tBM, tBM0, tBreak, tC, tCB, tCallR, tChain, tCons, tDrop, tFld, sFld, sFldAug, tFor_eq, tLc2_eq, tIf, tIfS, tIsN, tLc_eq, tLst, tM0, tM1, tMakeR, tMethR, tNever, tNm, tXk, tCallKw, tNext, tNil, tNoPart, tNot, tNotN, tNotT, tNotV, tOp, tOr, tOrT, tOrV, tOst, tPar, tPart, tRet, tRetN, tRg1, tSeq, tSl, tStar, tTest, tThen, tTup, tUn, C8.tCut, tVar]
                  refine ⟨_, rfl, rfl, _, rfl, ?_⟩
                  rw [v_strE]
                  by_cases hz1 : z = ")"
                  · rw [decide_eq_true hz1, if_pos rfl]
                    exact ⟨(decide_eq_true (.inl hz1)).symm, rfl⟩
                  · rw [decide_eq_false hz1, if_neg Bool.false_ne_true]
                    refine ⟨_, rfl, rfl, _, rfl, ?_, rfl⟩
                    rw [v_strE]
                    apply decide_eq_decide.mpr
                    simp [hz1]
                · rintro b H5' ⟨rfl, e5⟩
                  rw [e5]
                  clear e5
                  by_cases hc : z = ")" ∨ z = "]"
                  · rw [if_pos (decide_eq_true hc)]
                    rw [if_pos hc] at hst
                    refine ⟨_, rfl, 1, rfl, la, _, -1, lnV t, rfl, rfl, .of L5.hl, by rw [lnL_cons]; exact atI_last _ _, fun v H' => v = lnV (if z = ")" then .tup else .left 0) ∧ H' = H5, ?_, ?_⟩
                    · dsimp only [gCons, gName, gNil, gSub, gTup, gFld, iSeq, iList, iStr, iTup, iRng1, tAnd, tAndT, tAndV, tAsg, tAsg2, tAug, tB, tBM, tBM0, tBreak, tC, tCB, tCallR, tChain, tCons, tDrop, tFld, sFld, sFldAug, tFor_eq, tLc2_eq, tIf, tIfS, tIsN, tLc_eq, tLst, tM0, tM1, tMakeR, tMethR, tNever, tNm, tXk, tCallKw, tNext, tNil, tNoPart, tNot, tNotN, tNotT, tNotV, tOp, tOr, tOrT, tOrV, tOst, tPar, tPart, tRet, tRetN, tRg1, tSeq, tSl, tStar, tTest, tThen, tTup, tUn, C8.tCut, tVar]
                      refine ⟨_, rfl, rfl, _, rfl, ?_⟩
                      rw [v_strE]
                      by_cases hz1 : z = ")"
                      · rw [decide_eq_true hz1, if_pos rfl, if_pos hz1]
                        exact ⟨rfl, rfl⟩
                      · rw [decide_eq_false hz1, if_neg Bool.false_ne_true, if_neg hz1]
                        exact ⟨rfl, rfl⟩
                    · rintro v H6' ⟨rfl, e6⟩
                      rw [e6]
                      clear e6
                      refine ⟨lnV_scal _ _ ht (by split <;> simp), _, rfl, ?_⟩
                      rw [lnV_inj]
                      by_cases hg : t = (if z = ")" then .tup else .left 0)
                      · rw [decide_eq_true hg, if_neg (show ¬ (!true) = true from Bool.false_ne_true)]
                        rw [if_pos hg] at hst
                        refine ⟨_, rfl, .inl ⟨rfl, _, .of L5.hl⟩, la, _, lnV t, rfl, rfl, L5.hl, ?_, r, la, _, _, _, rfl, L5.put ?_, good _ hst, fun h => by omega, by simp at hll; omega⟩
                        · rw [lnL_cons]
                          simp
                        · rw [lnL_cons]
                          simp
                      · rw [decide_eq_false hg, if_pos (show (!false) = true from rfl)]
                        rw [if_neg hg] at hst
                        exact ⟨_, rfl, bad hst _ L5.e⟩
                  · rw [if_neg (by simpa using hc)]
                    rw [if_neg hc] at hst
                    refine ⟨fun b H' => b = decide (t = .left 0 ∨ (¬ (z = "(" ∨ z = "[") ∧ plainL z = false)) ∧ LS H H' sa la (t :: r), ?_, ?_⟩
                    · dsimp only [gCons, gName, gNil, gSub, gTup, gFld, iSeq, iList, iStr, iTup, iRng1, tAnd, tAndT, tAndV, tAsg, tAsg2, tAug, tB, tBM, tBM0, tBreak, tC, tCB, tCallR, tChain, tCons, tDrop, tFld, sFld, sFldAug, tFor_eq, tLc2_eq, tIf, tIfS, tIsN, tLc_eq, tLst, tM0, tM1, tMakeR, tMethR, tNever, tNm, tXk, tCallKw, tNext, tNil, tNoPart, tNot, tNotN, tNotT, tNotV, tOp, tOr, tOrT, tOrV, tOst, tPar, tPart, tRet, tRetN, tRg1, tSeq, tSl, tStar, tTest, tThen, tTup, tUn, C8.tCut, tVar]
                      refine ⟨_, rfl, 1, rfl, la, _, -1, lnV t, rfl, rfl, .of L5.hl, by rw [lnL_cons]; exact atI_last _ _, by cases t <;> first | rfl | exact absurd rfl ht, _, rfl, ?_⟩
                      have e0 : decide (lnV t = V.int 0) = decide (t = .left 0) := lnV_inj t (.left 0)
                      rw [e0]
                      by_cases t0 : t = .left 0
                      · rw [decide_eq_true t0, if_pos rfl]
                        exact ⟨(decide_eq_true (.inl t0)).symm, L5⟩
                      · rw [decide_eq_false t0, if_neg Bool.false_ne_true]
                        refine ⟨_, rfl, by rw [sizeLine_eq]; simp, fun p hp => ⟨p, _, rfl, .inr (.of upd_same), rfl, rfl, _, rfl, ?_⟩⟩
                        have L6 := L5.ext (Ext.upd (o := .tup [.str "(", .str "["]) hp)
                        by_cases ho : z = "(" ∨ z = "["
                        · have ei : inV (.str z) [.str "(", .str "["] = true := in2.mpr ho
                          rw [ei, if_neg (by decide)]
                          exact ⟨(decide_eq_false (fun h => h.elim t0 fun h => h.1 ho)).symm, L6⟩
                        · have ei : inV (.str z) [.str "(", .str "["] = false := by
                            cases h : inV (.str z) [.str "(", .str "["] with
                            | false => rfl
                            | true => exact absurd (in2.mp h) ho
                          rw [ei, if_pos (by decide)]
                          refine ⟨_, rfl, z, rfl, hz, fun H' e' => ⟨_, rfl, ?_, L6.ext e'⟩⟩
                          cases plainL z <;> simp [t0, ho]
                    · rintro b H6 ⟨rfl, L6⟩
                      by_cases hb : t = .left 0 ∨ (¬ (z = "(" ∨ z = "[") ∧ plainL z = false)
                      · rw [if_pos (decide_eq_true hb)]
                        rw [if_pos hb] at hst
                        exact ⟨_, rfl, bad hst _ L6.e⟩
                      · rw [if_neg (by simpa using hb)]
                        rw [if_neg hb] at hst
                        have t0 : ¬ t = .left 0 := fun h => hb (.inl h)
                        refine ⟨fun v H' => v = lnV (decL t) ∧ H' = H6, ?_, ?_⟩
                        · dsimp only [gCons, gName, gNil, gSub, gTup, gFld, iSeq, iList, iStr, iTup, iRng1, tAnd, tAndT, tAndV, tAsg, tAsg2, tAug, tB, tBM, tBM0, tBreak, tC, tCB, tCallR, tChain, tCons, tDrop, tFld, sFld, sFldAug, tFor_eq, tLc2_eq, tIf, tIfS, tIsN, tLc_eq, tLst, tM0, tM1, tMakeR, tMethR, tNever, tNm, tXk, tCallKw, tNext, tNil, tNoPart, tNot, tNotN, tNotT, tNotV, tOp, tOr, tOrT, tOrV, tOst, tPar, tPart, tRet, tRetN, tRg1, tSeq, tSl, tStar, tTest, tThen, tTup, tUn, C8.tCut, tVar]
                          refine ⟨_, rfl, 1, rfl, la, _, -1, lnV t, rfl, rfl, .of L6.hl, by rw [lnL_cons]; exact atI_last _ _, rfl, _, rfl, ?_⟩
                          cases t with
                          | word => exact absurd rfl ht
                          | tup =>
                            rw [if_pos (show decide (lnV .tup = V.non) = true from rfl)]
                            exact ⟨rfl, rfl⟩
                          | left n =>
                            rw [if_neg (show ¬ decide (lnV (.left n) = V.non) = true from Bool.false_ne_true)]
                            refine ⟨_, rfl, 1, rfl, la, _, -1, lnV (.left n), rfl, rfl, .of L6.hl, by rw [lnL_cons]; exact atI_last _ _, (n : Int), 1, rfl, rfl, ?_, rfl⟩
                            have : n ≠ 0 := fun h => t0 (by rw [h])
                            show V.int ((n : Int) - 1) = V.int ((n - 1 : Nat) : Int)
                            congr 1
                            omega
                        · rintro v H7 ⟨rfl, e7⟩
                          rw [e7]
                          clear e7
                          have ixl : ixN (lnL (t :: r)).length (-1) = some (lnL r).length := by
                            rw [lnL_cons, List.length_append, List.length_singleton]
                            exact ixN_last _
                          refine ⟨_, rfl, 1, rfl, la, _, -1, _, rfl, rfl, L6.hl, ixl, ?_⟩
                          have L7 := L6.put (line' := decL t :: r) (xs := (lnL (t :: r)).set (lnL r).length (lnV (decL t))) (by rw [lnL_cons, lnL_cons]; simp)
                          generalize upd H6 la (.lst ((lnL (t :: r)).set (lnL r).length (lnV (decL t)))) = H8 at L7 ⊢
                          refine ⟨_, rfl, fun v H' => ∃ p, v = .ref p ∧ H' p = some (.lst (lnL (opL z))) ∧ LS H H' sa la (decL t :: r), ?_, ?_⟩
                          · dsimp only [gCons, gName, gNil, gSub, gTup, gFld, iSeq, iList, iStr, iTup, iRng1, tAnd, tAndT, tAndV, tAsg, tAsg2, tAug, tB, tBM, tBM0, tBreak, tC, tCB, tCallR, tChain, tCons, tDrop, tFld, sFld, sFldAug, tFor_eq, tLc2_eq, tIf, tIfS, tIsN, tLc_eq, tLst, tM0, tM1, tMakeR, tMethR, tNever, tNm, tXk, tCallKw, tNext, tNil, tNoPart, tNot, tNotN, tNotT, tNotV, tOp, tOr, tOrT, tOrV, tOst, tPar, tPart, tRet, tRetN, tRg1, tSeq, tSl, tStar, tTest, tThen, tTup, tUn, C8.tCut, tVar]
                            refine ⟨_, rfl, rfl, _, rfl, ?_⟩
                            rw [v_strE]
                            by_cases z1 : z = "("
                            · rw [decide_eq_true z1, if_pos rfl]
                              refine ⟨by rw [sizeLine_eq]; simp, fun p hp => ⟨p, rfl, ?_, L7.ext (Ext.upd hp)⟩⟩
                              rw [upd_same]
                              unfold opL
                              rw [if_pos z1]
                              rfl
                            · rw [decide_eq_false z1, if_neg Bool.false_ne_true]
                              refine ⟨_, rfl, rfl, _, rfl, ?_⟩
                              rw [v_strE]
                              by_cases z2 : z = "["
                              · rw [decide_eq_true z2, if_pos rfl]
                                refine ⟨by rw [sizeLine_eq]; simp, fun p hp => ⟨p, rfl, ?_, L7.ext (Ext.upd hp)⟩⟩
                                rw [upd_same]
                                unfold opL
                                rw [if_neg z1, if_pos z2]
                                rfl
                              · rw [decide_eq_false z2, if_neg Bool.false_ne_true]
                                refine ⟨by rw [sizeLine_eq]; simp, fun p hp => ⟨p, rfl, ?_, L7.ext (Ext.upd hp)⟩⟩
                                rw [upd_same]
                                unfold opL
                                rw [if_neg z1, if_neg z2]
                                rfl
                          · rintro v H9 ⟨p, rfl, hp9, L9⟩
                            have ho : (opL z).length ≤ 1 := by
                              unfold opL
                              split
                              · simp
                              · split <;> simp
                            simp only [List.length_cons] at hll
                            refine ⟨la, p, _, _, rfl, rfl, L9.hl, hp9, ?_, fun p2 hp2 => ⟨opL z ++ (decL t :: r), p2, _, _, _, rfl, L9.new hp2 (lnL_app _ _).symm, good _ hst, fun h => by omega, ?_⟩⟩
                            · rw [lnL_len, lnL_len, sizeLine_eq, List.length_cons]
                              omega
                            · rw [List.length_append, List.length_cons]
                              omega
    · obtain ⟨line, la, x3, x4, x5, rfl, L, hf, h0, hll⟩ := P
      refine ⟨fun v H'' => v = (match faultM ws 0 [] with | some p => .int (p : Int) | none => .non) ∧ Ext H H'', ?_, fun v H'' ⟨e, e2⟩ => by rw [e]; exact q _ e2⟩
      dsimp only [gCons, gName, gNil, gSub, gTup, gFld, iSeq, iList, iStr, iTup, iRng1, tAnd, tAndT, tAndV, tAsg, tAsg2, tAug, tB, tBM, tBM0, tBreak, tC, tCB, tCallR, tChain, tCons, tDrop, tFld, sFld, sFldAug, tFor_eq, tLc2_eq, tIf, tIfS, tIsN, tLc_eq, tLst, tM0, tM1, tMakeR, tMethR, tNever, tNm, tXk, tCallKw, tNext, tNil, tNoPart, tNot, tNotN, tNotT, tNotV, tOp, tOr, tOrT, tOrV, tOst, tPar, tPart, tRet, tRetN, tRg1, tSeq, tSl, tStar, tTest, tThen, tTup, tUn, C8.tCut, tVar]
      rw [List.length_map] at hf hll
      rw [List.drop_of_length_le (Nat.le_refl _)] at hf
      refine ⟨_, rfl, by rw [sizeLine_eq]; simp, fun p hp => ⟨la, p, _, rfl, rfl, .of (Ext.upd hp _ _ L.hl), upd_same, _, rfl, ?_⟩⟩
      have L3 := L.ext (Ext.upd (o := .lst []) hp)
      rw [← hf]
      cases line with
      | nil =>
        rw [if_neg (by decide +kernel)]
        exact ⟨rfl, L3.e⟩
      | cons t r =>
        rw [if_pos (by rw [lnL_cons]; simp)]
        exact ⟨_, rfl, .ref l, ws.length, rfl, .inl ⟨_, .of (L3.e _ _ hl), by simp⟩, rfl, L3.e⟩
end
end K94
set_option maxRecDepth 100000
set_option maxHeartbeats 4000000
/-! k95: drawn words. -/
namespace K94
open PySem PySem.Spec PyProof.Rows L2 L2.Q Pp StX L2.SupX
theorem sc__law_words : FnScope [("well" : Str), ("deep" : Str), ("way" : Str), ("some" : Str), ("turn" : Str)] [("well" : Str), ("deep" : Str)] (defScope s__law_words) := ⟨rfl, rfl, rfl, by decide +kernel, rfl, by decide +kernel, by decide +kernel⟩
theorem sc__law_paper_words : FnScope [("well" : Str), ("deep" : Str), ("sizes" : Str), ("word" : Str), ("part" : Str)] [("well" : Str), ("deep" : Str)] (defScope s__law_paper_words) := ⟨rfl, rfl, rfl, by decide +kernel, rfl, by decide +kernel, by decide +kernel⟩
/-! ### drawn words, plainly -/
structure Dr (b : Nat) (ws : List Str) : Prop where
  ok : ∀ w ∈ ws, okQ w = true
  sm0 : sm ws = 0
  bal : ∀ n, sm (ws.take n) ≤ b
theorem Dr.nil {b : Nat} : Dr b [] := ⟨fun w h => by simp at h, rfl, fun n => by simp [sm_nil]⟩
theorem Dr.mono {b c : Nat} {ws : List Str} (d : Dr b ws) (h : b ≤ c) : Dr c ws := ⟨d.ok, d.sm0, fun n => by have := d.bal n; omega⟩
theorem Dr.app {b : Nat} {xs ys : List Str} (x : Dr b xs) (y : Dr b ys) : Dr b (xs ++ ys) := by
  refine ⟨fun w h => (List.mem_append.mp h).elim (x.ok w) (y.ok w), by rw [sm_app, x.sm0, y.sm0]; rfl, fun n => ?_⟩
  rw [List.take_append, sm_app]
  by_cases h : n ≤ xs.length
  · rw [show n - xs.length = 0 by omega, List.take_zero, sm_nil]
    have := x.bal n
    omega
  · rw [List.take_of_length_le (show xs.length ≤ n by omega), x.sm0]
    have := y.bal (n - xs.length)
    omega
theorem Dr.one {b : Nat} {w : Str} (h : okQ w = true) (h0 : dl w = 0) : Dr b [w] := by
  refine ⟨fun z hz => by rw [List.mem_singleton.mp hz]; exact h, by rw [sm_cons, h0]; rfl, fun n => ?_⟩
  cases n with
  | zero => simp [sm_nil]
  | succ n => simp [sm_cons, sm_nil, h0]
theorem Dr.flat {b : Nat} : ∀ {wss : List (List Str)}, (∀ ws ∈ wss, Dr b ws) → Dr b wss.flatten
  | [], _ => .nil
  | ws :: r, h => (h ws List.mem_cons_self).app (Dr.flat fun x hx => h x (List.mem_cons_of_mem _ hx))
theorem Dr.wrap {b : Nat} {o c : Str} {ws : List Str} (d : Dr b ws) (ho : okQ o = true) (hc : okQ c = true) (h1 : dl o = 1) (h2 : dl c = -1) : Dr (b + 1) (o :: (ws ++ [c])) := by
  refine ⟨fun w h => ?_, by rw [sm_cons, sm_app, d.sm0, sm_cons, sm_nil, h1, h2]; rfl, fun n => ?_⟩
  · rcases List.mem_cons.mp h with rfl | h
    · exact ho
    rcases List.mem_append.mp h with h | h
    · exact d.ok w h
    · rw [List.mem_singleton.mp h]; exact hc
  · cases n with
    | zero => rw [List.take_zero, sm_nil]; omega
    | succ n =>
      rw [List.take_succ_cons, sm_cons, h1, List.take_append, sm_app]
      have h3 : sm ([c].take (n - ws.length)) ≤ 0 := by
        cases n - ws.length with
        | zero => rw [List.take_zero, sm_nil]; omega
        | succ m => simp [sm_cons, sm_nil, h2]
      have := d.bal n
      omega
theorem len_flat {m : Nat} : ∀ {wss : List (List Str)}, (∀ ws ∈ wss, ws.length ≤ m) → wss.flatten.length ≤ wss.length * m
  | [], _ => by simp
  | t :: r, h => by
    have := len_flat fun x hx => h x (List.mem_cons_of_mem _ hx)
    have h0 := h t List.mem_cons_self
    rw [List.flatten_cons, List.length_append, List.length_cons, Nat.add_mul]
    omega
def bW : Nat → Nat
  | 0 => 1
  | n + 1 => 3 * bW n + 2
def bT : Nat → Nat
  | 0 => 2
  | n + 1 => 5 * bT n + 4
theorem bW_le {n : Nat} (h : n ≤ 3) : bW n ≤ 53 := by
  rcases n with _ | _ | _ | _ | n <;> simp [bW] <;> omega
theorem two_le_bT : ∀ n, 2 ≤ bT n
  | 0 => Nat.le_refl _
  | n + 1 => by show 2 ≤ 5 * bT n + 4; omega
theorem bW_pos : ∀ n, 1 ≤ bW n
  | 0 => Nat.le_refl _
  | n + 1 => by show 1 ≤ 3 * bW n + 2; omega
theorem well_new {H : Hp} {wa ca p : Addr} {t : Nat} (W : Well H wa ca t) (h : H p = none) : p ≠ wa := fun z => by
  obtain ⟨cells, rest, h1, _⟩ := W.ex
  rw [z, h1] at h
  cases h
theorem well_strs {H : Hp} {wa ca l : Addr} {t : Nat} {ws : List Str} (W : Well H wa ca t) (h : H l = some (.lst (ws.map V.str))) : l ≠ wa := fun z => by
  obtain ⟨cells, rest, h1, _⟩ := W.ex
  rw [z, h1] at h
  cases ws with
  | nil => cases h
  | cons a b =>
    injection h with h
    injection h with h
    injection h with h
    cases h
theorem Well.ext {H H' : Hp} {wa ca : Addr} {t : Nat} (W : Well H wa ca t) (e : Ext H H') : Well H' wa ca t := by
  obtain ⟨cells, rest, h1, h2, h⟩ := W.ex
  exact ⟨cells, rest, e _ _ h1, e _ _ h2, h⟩
theorem sumL_of {H : Hp} {l z : Addr} {bs : List Addr} {xss : List (List V)} {Q : VK} (hl : H l = some (.lst (bs.map V.ref))) (hz : H z = some (.lst [])) (hb : LsH H bs xss) (hs : xss.flatten.length ≤ sizeLine) (q : ∀ r H', Ext H H' → H' r = some (.lst xss.flatten) → Q (.ref r) H') : rSumL [.ref l, .ref z] H Q := by
  refine ⟨l, z, bs, xss, rfl, hl, hz, hb, hs, fun e => ?_, fun _ p hp => q _ _ (Ext.upd hp) upd_same⟩
  subst e
  have : xss = [] := List.length_eq_zero_iff.mp hb.1.symm
  subst this
  exact q _ _ Ext.rfl' hz
/-- [words for turn in range(c)] -/
theorem LC_wds {c j : Nat} {te : TE} {σ : L2.St} {H2 : Hp} {Q : VK} {wa ca turn2 bt bl bd : Nat} (hj : j < σ.length) (hc : c ≤ 3) (W2 : Well H2 wa ca turn2)
    (hte : ∀ v H3 turn3, Well H3 wa ca turn3 → turn3 + bt ≤ turn2 + c * bt → ∀ Qc : VK, (∀ l ws turn4 H5, turn4 ≤ turn3 + bt → ExtB wa H3 H5 → Well H5 wa ca turn4 → H5 l = some (.lst (ws.map V.str)) → Dr bd ws → ws ≠ [] → ws.length ≤ bl → Qc (.ref l) H5) → te ((wipe σ [j]).set j (some v)) H3 Qc)
    (hd : ∀ D H' (ls : List Addr) (wss : List (List Str)) turn', H' D = some (.lst (ls.map V.ref)) → LsH H' ls (wss.map fun ws => ws.map V.str) → (∀ ws ∈ wss, Dr bd ws) → wss.flatten.length ≤ c * bl → Well H' wa ca turn' → turn' ≤ turn2 + c * bt → ExtB wa H2 H' → D ≠ wa → Q (.ref D) H') :
    LC (Itr 0 c) (gName j) tYes te [j] σ H2 Q := by
  intro D hD
  have hDw := well_new W2 hD
  refine lc_it walk_range (Pv := fun i H => ∃ (ls : List Addr) (wss : List (List Str)) (turn' : Nat), H D = some (.lst (ls.map V.ref)) ∧ LsH H ls (wss.map fun ws => ws.map V.str) ∧ (∀ l ∈ ls, l ≠ D ∧ l ≠ wa) ∧ (∀ ws ∈ wss, Dr bd ws ∧ ws.length ≤ bl) ∧ wss.length = i ∧ Well H wa ca turn' ∧ turn' ≤ turn2 + i * bt ∧ ExtB wa H2 H) ⟨[], [], turn2, upd_same, ⟨rfl, fun j b v e => by simp at e⟩, fun l h => by simp at h, fun w h => by simp at h, rfl, W2.ext (Ext.upd hD), by omega, .of (Ext.upd hD)⟩ (fun _ _ _ _ => trivial) (fun i x H3 H4 hi Pv y => ?_) (fun H3 Pv => ?_)
  · obtain ⟨ls, wss, turn3, hls, hL, hne, hdr, hlen, W3, t3, e3⟩ := Pv
    obtain ⟨rfl, hx⟩ := y
    have hib : i * bt + bt ≤ c * bt := by
      have : (i + 1) * bt ≤ c * bt := Nat.mul_le_mul_right _ (by omega)
      rw [Nat.add_mul] at this
      omega
    refine ⟨wipe_one, ?_⟩
    show te _ _ _
    refine hte x H4 turn3 W3 (by omega) _ fun l ws turn4 H5 t4 e5 W5 hl hd' hne' hlw => ?_
    have h5D := e5 _ _ hDw hls
    have hlD : l ≠ D := fun z => by
      rw [z, h5D] at hl
      injection hl with hl
      injection hl with hl
      cases ws with
      | nil => exact hne' rfl
      | cons a b =>
        cases ls with
        | nil => cases hl
        | cons c d => injection hl with hl; cases hl
    have hu : ∀ b o, b ≠ D → H5 b = some o → upd H5 D (.lst (ls.map V.ref ++ [.ref l])) b = some o := fun b o n h => by rw [upd_ne n]; exact h
    have hll : ls.length = wss.length := by simpa using hL.1
    refine ⟨_, h5D, by rw [List.length_map, sizeLine_eq]; omega, ls ++ [l], wss ++ [ws], turn4, by rw [upd_same]; simp, ⟨by simp [hll], fun k b v hb hv => ?_⟩, fun b hb => ?_, fun b hb => ?_, by simp [hlen], ?_, by rw [Nat.add_mul]; omega, ?_⟩
    · by_cases hk : k < ls.length
      · rw [List.getElem?_append_left hk] at hb
        rw [List.map_append, List.getElem?_append_left (by rw [List.length_map]; omega)] at hv
        have hm := hne b (List.mem_of_getElem? hb)
        exact hu _ _ hm.1 (e5 _ _ hm.2 (hL.2 k b v hb hv))
      · have hkl : k = ls.length := by
          have := (List.getElem?_eq_some_iff.mp hb).1
          simp at this
          omega
        subst hkl
        rw [List.getElem?_append_right (Nat.le_refl _), Nat.sub_self] at hb
        rw [List.map_append, List.getElem?_append_right (by rw [List.length_map]; omega), List.length_map, hll, Nat.sub_self] at hv
        cases hb
        cases hv
        exact hu _ _ hlD hl
    · rcases List.mem_append.mp hb with hb | hb
      · exact hne b hb
      · rw [List.mem_singleton.mp hb]
        exact ⟨hlD, well_strs W5 hl⟩
    · rcases List.mem_append.mp hb with hb | hb
      · exact hdr b hb
      · rw [List.mem_singleton.mp hb]
        exact ⟨hd', hlw⟩
    · obtain ⟨cells, rest, c1, c2, c3⟩ := W5.ex
      refine ⟨cells, rest, by rw [upd_ne (Ne.symm hDw)]; exact c1, ?_, c3⟩
      rw [upd_ne (fun z => ?_)]
      · exact c2
      · obtain ⟨_, _, _, c1', _⟩ := W2.ex
        rw [z, hD] at c1'
        cases c1'
    · exact fun b o n h => by
        rw [upd_ne (fun z => by rw [z, hD] at h; cases h)]
        exact e5 _ _ n (e3 _ _ n h)
  · obtain ⟨ls, wss, turn3, hls, hL, hne, hdr, hlen, W3, t3, e3⟩ := Pv
    refine hd D H3 ls wss turn3 hls hL (fun ws h => (hdr ws h).1) ?_ W3 (by omega) e3 hDw
    have := len_flat fun ws h => (hdr ws h).2
    rw [hlen] at this
    exact this
section
variable {w : World} {K : PySem.W.Frag} {mg : Str → Option Value} {base : Heap} (T : Txt w K mg)
include T
def spWds (n : Nat) : Sp := fun vs H Q _ => ∃ wa ca turn, vs = [.ref wa, .int ((n : Nat) : Int)] ∧ Well H wa ca turn ∧ turn + bT n ≤ 16384 ∧ ∀ l ws turn' H', turn' ≤ turn + bT n → ExtB wa H H' → Well H' wa ca turn' → H' l = some (.lst (ws.map V.str)) → Dr n ws → ws ≠ [] → ws.length ≤ bW n → Q (.ref l) H'
def spPws (n : Nat) : Sp := fun vs H Q _ => ∃ wa ca turn, vs = [.ref wa, .int ((n : Nat) : Int)] ∧ Well H wa ca turn ∧ turn + 2 * bT n + 2 ≤ 16384 ∧ ∀ l ws turn' H', turn' ≤ turn + 2 * bT n + 1 → ExtB wa H H' → Well H' wa ca turn' → H' l = some (.lst (ws.map V.str)) → Dr (n + 1) ws → ws ≠ [] → ws.length ≤ 2 * bW n + 3 → Q (.ref l) H'
theorem step_wd {k n : Nat} (hk : 20 ≤ k) (hn : n ≤ 3) (F__law_words : FnR PR w K mg base CX0 k (He.ga K "_law_words") (fun vs H Q E => ∃ m, m + 1 = n ∧ spWds m vs H Q E)) (F__law_paper_words : FnR PR w K mg base CX0 k (He.ga K "_law_paper_words") (fun vs H Q E => ∃ m, m + 1 = n ∧ spPws m vs H Q E)) : FnR PR w K mg base CX0 (k + 2) (He.ga K "_law_words") (spWds n) := by
  have F__law_draw := F__law_draw (base := base) T
  have F__law_one := F__law_one (base := base) T
  refine fnr (k := k + 1) T.F__law_words sc__law_words (fun vs H Q E h => ?_) (fun _ _ _ _ _ _ us hl => match us, hl with | [_, _], _ => rfl) (fun cdv A outer s H vs Q E hr h => ⟨_, (pss_cons (ps_set (i := 2) sc__law_words.nd rfl (Or.inl rfl) (pe_cut (pe_callR F__law_draw (hr.mono (by omega)) T.k__law_draw T.g__law_draw rfl pass0 (pa_cons (pv 0) (pa_cons (pe_ifExp (pt_cmpR op_gt (pv 1) pe_int (nomark _)) pe_int pe_int) pa_nil)))))
      (pss_cons (ps_if (pt_cmpR op_lt (pv 2) pe_int (nomark _)) (pss_one (ps_ret (pe_lst (pa_cons (pe_callR F__law_one (hr.mono (by omega)) T.k__law_one T.g__law_one rfl pass0 (pa_cons (pv 0) (pa_cons (pe_lst (pa_cons pe_str (pa_cons pe_str (pa_cons pe_str (pa_cons pe_str (pa_cons pe_str (pa_cons pe_str pa_nil))))))) pa_nil))) pa_nil)))) pss_nil)
      (pss_cons (ps_setLc (i := 3) (own := [(("turn" : Str), 4)]) rfl sc__law_words.nd rfl rfl (sw_true rfl rfl rfl (by decide +kernel)) (pi_range1 rfl T.n_range (pa_cons (pe_callR F__law_draw (hr.mono (by omega)) T.k__law_draw T.g__law_draw rfl pass0 (pa_cons (pv 0) (pa_cons pe_int pa_nil))) pa_nil)) (blkOk_by (own := [(("turn" : Str), 4)]) (N := [("well" : Str), ("deep" : Str), ("way" : Str), ("some" : Str), ("turn" : Str)]) (sc := defScope s__law_words) (by decide +kernel)) (fun _ _ _ _ _ => (pg_name (i := 4) sc__law_words.nd rfl (Or.inl rfl))) (fun _ _ _ _ _ => pts_nil) (fun _ _ _ _ _ => (pe_callR F__law_words (hr.mono (by omega)) T.k__law_words T.g__law_words rfl pass0 (pa_cons (pv 0) (pa_cons (pe_op op_sub (pv 1) pe_int) pa_nil)))))
      (pss_one (ps_ret (pe_ifExp (pt_cmpR op_eq (pv 2) pe_int (nomark _)) (pe_callR F__law_paper_words (hr.mono (by omega)) T.k__law_paper_words T.g__law_paper_words rfl pass0 (pa_cons (pv 0) (pa_cons (pe_op op_sub (pv 1) pe_int) pa_nil))) (pe_op op_cat (pe_op op_cat (pe_lst (pa_cons pe_str pa_nil)) (pe_callB (call_sumL rfl) (by rfl) T.n_sum (by decide +kernel) (pa_cons (pv 3) (pa_cons (pe_lst pa_nil) pa_nil)))) (pe_lst (pa_cons pe_str pa_nil))))))))), ?_⟩)
  · obtain ⟨wa, ca, turn, rfl, _⟩ := h
    rfl
  · obtain ⟨wa, ca, turn, rfl, W, ht, q⟩ := h
    dsimp only [gCons, gName, gNil, gSub, gTup, gFld, iSeq, iList, iStr, iTup, iRng1, tAnd, tAndT, tAndV, tAsg, tAsg2, tAug, tB, tBM, tBM0, tBreak, tC, tCB, tCallR, tChain, tCons, tDrop, tFld, sFld, sFldAug, tFor_eq, tLc2_eq, tIf, tIfS, tIsN, tLc_eq, tLst, tM0, tM1, tMakeR, tMethR, tNever, tNm, tXk, tCallKw, tNext, tNil, tNoPart, tNot, tNotN, tNotT, tNotV, tOp, tOr, tOrT, tOrV, tOst, tPar, tPart, tRet, tRetN, tRg1, tSeq, tSl, tStar, tTest, tThen, tTup, tUn, C8.tCut, tVar]
    refine ⟨fun v H' => ∃ (r : Int) (turn1 : Nat), v = .int r ∧ 0 ≤ r ∧ r < 6 ∧ (3 ≤ r → 1 ≤ n) ∧ turn1 ≤ turn + 1 ∧ ExtB wa H H' ∧ Well H' wa ca turn1, ?_, ?_⟩
    · dsimp only [gCons, gName, gNil, gSub, gTup, gFld, iSeq, iList, iStr, iTup, iRng1, tAnd, tAndT, tAndV, tAsg, tAsg2, tAug, tB, tBM, tBM0, tBreak, tC, tCB, tCallR, tChain, tCons, tDrop, tFld, sFld, sFldAug, tFor_eq, tLc2_eq, tIf, tIfS, tIsN, tLc_eq, tLst, tM0, tM1, tMakeR, tMethR, tNever, tNm, tXk, tCallKw, tNext, tNil, tNoPart, tNot, tNotN, tNotT, tNotV, tOp, tOr, tOrT, tOrV, tOst, tPar, tPart, tRet, tRetN, tRg1, tSeq, tSl, tStar, tTest, tThen, tTup, tUn, C8.tCut, tVar]
      have hb2 := two_le_bT n
      refine ⟨.ref wa, rfl, .int n, rfl, _, _, rfl, rfl, _, rfl, ?_⟩
      split
      · rename_i h
        have hn1 : 1 ≤ n := by
          have := of_decide_eq_true h
          omega
        exact ⟨wa, ca, 6, turn, rfl, by omega, W, by omega, fun r turn1 H1 h0 hr t1 e1 W1 => ⟨r, turn1, rfl, h0, by omega, fun _ => hn1, t1, e1, W1⟩⟩
      · exact ⟨wa, ca, 3, turn, rfl, by omega, W, by omega, fun r turn1 H1 h0 hr t1 e1 W1 => ⟨r, turn1, rfl, h0, by omega, fun h => by omega, t1, e1, W1⟩⟩
    · rintro v H1 ⟨r, turn1, rfl, h0, h6, h3, t1, e1, W1⟩
      have hb2 := two_le_bT n
      refine ⟨_, rfl, _, _, rfl, rfl, _, rfl, ?_⟩
      by_cases hr3 : r < 3
      · rw [if_pos (decide_eq_true hr3)]
        refine ⟨_, rfl, by rw [sizeLine_eq]; simp, fun p hp => ?_⟩
        refine ⟨wa, ca, p, _, turn1, rfl, upd_same, well_new W1 hp, by simp, by simp, W1.ext (Ext.upd hp), by omega, fun x hx turn2 H3 t2 e3 W3 => ⟨by rw [sizeLine_eq]; simp, fun p2 hp2 => ?_⟩⟩
        obtain ⟨z, rfl, hz, hz2⟩ : ∃ z, x = .str z ∧ okQ z = true ∧ dl z = 0 := by
          simp only [List.mem_cons, List.mem_nil_iff, or_false] at hx
          rcases hx with rfl | rfl | rfl | rfl | rfl | rfl <;> exact ⟨_, rfl, by decide +kernel, by decide +kernel⟩
        exact q p2 [z] turn2 _ (by omega) ((e1.trans (.of (Ext.upd hp))).trans (e3.trans (.of (Ext.upd hp2)))) (W3.ext (Ext.upd hp2)) upd_same (.one hz hz2) (by simp) (bW_pos n)
      · rw [if_neg (by simpa using hr3)]
        obtain ⟨m, rfl⟩ : ∃ m, n = m + 1 := ⟨n - 1, by have := h3 (by omega); omega⟩
        have hm1 : V.int (((m + 1 : Nat) : Int) - 1) = .int (m : Int) := by congr 1; omega
        have hbT : bT (m + 1) = 5 * bT m + 4 := rfl
        have hbW : bW (m + 1) = 3 * bW m + 2 := rfl
        have hbw := bW_le hn
        have hbp := bW_pos m
        refine ⟨_, rfl, wa, ca, 4, turn1, rfl, by omega, W1, by omega, fun j turn2 H2 hj0 hj t2 e2 W2 => ⟨j, rfl, by omega, by omega, ?_⟩⟩
        obtain ⟨jn, rfl⟩ : ∃ a : Nat, j = (a : Int) := ⟨j.toNat, by omega⟩
        have hjb : jn * bT m ≤ 3 * bT m := Nat.mul_le_mul_right _ (by omega)
        have hjw : jn * bW m ≤ 3 * bW m := Nat.mul_le_mul_right _ (by omega)
        rw [Int.toNat_natCast]
        refine LC_wds (bt := bT m) (bl := bW m) (bd := m) (by show 4 < 5; decide) (by omega) W2 (fun v H3 turn3 W3 t3 Qc hQc => ⟨_, rfl, _, rfl, _, 1, rfl, rfl, m, rfl, wa, ca, turn3, congrArg (fun z => [V.ref wa, z]) hm1, W3, by omega, hQc⟩) (fun D H3 ls wss turn3 hD hL hdr hfl W3 t3 e3 hDw => ?_)
        have eB := e1.trans (e2.trans e3)
        refine ⟨_, rfl, rfl, _, rfl, ?_⟩
        split
        · exact ⟨_, rfl, _, rfl, _, 1, rfl, rfl, m, rfl, wa, ca, turn3, congrArg (fun z => [V.ref wa, z]) hm1, W3, by omega, fun l ws turn4 H5 t4 e5 W5 hl hd hne hlw => q l ws turn4 H5 (by omega) (eB.trans e5) W5 hl hd hne (by omega)⟩
        · refine ⟨by rw [sizeLine_eq]; simp, fun b hb => ⟨_, rfl, by rw [sizeLine_eq]; simp, fun z hz => ?_⟩⟩
          have e7 := (Ext.upd (o := .lst [.str "("]) hb).trans (Ext.upd (o := .lst []) hz)
          have b7 := Ext.upd (o := .lst []) hz _ _ (show upd H3 b (.lst [.str "("]) b = some (.lst [.str "("]) from upd_same)
          have z7 : upd (upd H3 b (.lst [.str "("])) z (.lst []) z = _ := upd_same
          generalize upd (upd H3 b (.lst [.str "("])) z (.lst []) = H7 at e7 b7 z7 ⊢
          have hfm : (wss.map fun ws => ws.map V.str).flatten = wss.flatten.map V.str := by rw [List.map_flatten]
          refine sumL_of (bs := ls) (xss := wss.map fun ws => ws.map V.str) (e7 _ _ hD) z7 ⟨hL.1, fun j b v hb hv => e7 _ _ (hL.2 j b v hb hv)⟩ ?_ fun y H8 e8 y8 => ?_
          · rw [hfm, List.length_map, sizeLine_eq]
            omega
          · rw [hfm] at y8
            refine ⟨b, y, _, _, rfl, rfl, e8 _ _ b7, y8, by rw [List.length_map, sizeLine_eq]; show 1 + _ ≤ _; omega, fun g hg => ?_⟩
            have e9 := (e7.trans e8).trans (Ext.upd (o := .lst ([V.str "("] ++ wss.flatten.map V.str)) hg)
            have g9 : upd H8 g (.lst ([V.str "("] ++ wss.flatten.map V.str)) g = _ := upd_same
            generalize upd H8 g (.lst ([V.str "("] ++ wss.flatten.map V.str)) = H9 at e9 g9 ⊢
            refine ⟨by rw [sizeLine_eq]; simp, fun c hc => ?_⟩
            have e10 := e9.trans (Ext.upd (o := .lst [.str ")"]) hc)
            have g10 := Ext.upd (o := .lst [.str ")"]) hc _ _ g9
            have c10 : upd H9 c (.lst [.str ")"]) c = _ := upd_same
            generalize upd H9 c (.lst [.str ")"]) = H10 at e10 g10 c10 ⊢
            refine ⟨g, c, _, _, rfl, rfl, g10, c10, by rw [List.length_append, List.length_map, sizeLine_eq]; show 1 + _ + 1 ≤ _; omega, fun x hx => ?_⟩
            have e11 := e10.trans (Ext.upd (o := .lst ([V.str "("] ++ wss.flatten.map V.str ++ [.str ")"])) hx)
            refine q x (("(" : Str) :: (wss.flatten ++ [(")" : Str)])) turn3 _ (by omega) (eB.trans (.of e11)) (W3.ext e11) (by rw [upd_same]; simp) ((Dr.flat hdr).wrap (by decide +kernel) (by decide +kernel) (by decide +kernel) (by decide +kernel)) (by simp) ?_
            rw [List.length_cons, List.length_append]
            show _ + 1 + 1 ≤ _
            omega
theorem sizesK_ok : ∀ z ∈ sizesK.map (·.1), okQ z = true ∧ dl z = 0 ∧ ∃ m, sizeN z = some m ∧ m ≤ 2 := by
  have h : (sizesK.map (·.1)).all (fun z => okQ z && (decide (dl z = 0) && (match sizeN z with | some m => decide (m ≤ 2) | none => false))) = true := by decide +kernel
  intro z hz
  have h1 := List.all_eq_true.mp h z hz
  simp only [Bool.and_eq_true, decide_eq_true_eq] at h1
  obtain ⟨a, b, c⟩ := h1
  refine ⟨a, b, ?_⟩
  cases hs : sizeN z with
  | none => rw [hs] at c; cases c
  | some m =>
    rw [hs] at c
    exact ⟨m, rfl, of_decide_eq_true c⟩
theorem step_pw {k n : Nat} (hk : 20 ≤ k) (hn : n ≤ 3) (F__law_words : FnR PR w K mg base CX0 k (He.ga K "_law_words") (spWds n)) : FnR PR w K mg base CX0 (k + 2) (He.ga K "_law_paper_words") (spPws n) := by
  have F__law_one := F__law_one (base := base) T
  have F__law_sizes := F__law_sizes (base := base) T
  refine fnr (k := k + 1) T.F__law_paper_words sc__law_paper_words (fun vs H Q E h => ?_) (fun _ _ _ _ _ _ us hl => match us, hl with | [_, _], _ => rfl) (fun cdv A outer s H vs Q E hr h => ⟨_, (pss_cons (ps_set (i := 2) sc__law_paper_words.nd rfl (Or.inl rfl) (pe_callR0 F__law_sizes (hr.mono (by omega)) T.k__law_sizes T.g__law_sizes rfl pass0))
      (pss_cons (ps_set (i := 3) sc__law_paper_words.nd rfl (Or.inl rfl) (pe_callR F__law_one (hr.mono (by omega)) T.k__law_one T.g__law_one rfl pass0 (pa_cons (pv 0) (pa_cons (pe_callB cr_sortedS (by rfl) T.n_sorted (by decide +kernel) (pa_cons (pe_callTy (call_listD rfl) (by rfl) T.n_list (by decide +kernel) (pa_cons (pv 2) pa_nil)) pa_nil)) pa_nil))))
      (pss_one (ps_ret (pe_op op_cat (pe_op op_cat (pe_lst (pa_cons pe_str (pa_cons (pv 3) pa_nil))) (pe_callB (call_sumL rfl) (by rfl) T.n_sum (by decide +kernel) (pa_cons (pe_lc (own := [(("part" : Str), 4)]) rfl sc__law_paper_words.nd (pi_range1 rfl T.n_range (pa_cons (pe_dget (units1 hr) (pv 2) (pv 3) (fun _ _ => rfl)) pa_nil)) (blkOk_by (own := [(("part" : Str), 4)]) (N := [("well" : Str), ("deep" : Str), ("sizes" : Str), ("word" : Str), ("part" : Str)]) (sc := defScope s__law_paper_words) (by decide +kernel)) (fun _ _ _ _ _ => (pg_name (i := 4) sc__law_paper_words.nd rfl (Or.inl rfl))) (fun _ _ _ _ _ => pts_nil) (fun _ _ _ _ _ => (pe_callR F__law_words (hr.mono (by omega)) T.k__law_words T.g__law_words rfl pass0 (pa_cons (pv 0) (pa_cons (pv 1) pa_nil))))) (pa_cons (pe_lst pa_nil) pa_nil)))) (pe_lst (pa_cons pe_str pa_nil))))))), ?_⟩)
  · obtain ⟨wa, ca, turn, rfl, _⟩ := h
    rfl
  · obtain ⟨wa, ca, turn, rfl, W, ht, q⟩ := h
    dsimp only [gCons, gName, gNil, gSub, gTup, gFld, iSeq, iList, iStr, iTup, iRng1, tAnd, tAndT, tAndV, tAsg, tAsg2, tAug, tB, tBM, tBM0, tBreak, tC, tCB, tCallR, tChain, tCons, tDrop, tFld, sFld, sFldAug, tFor_eq, tLc2_eq, tIf, tIfS, tIsN, tLc_eq, tLst, tM0, tM1, tMakeR, tMethR, tNever, tNm, tXk, tCallKw, tNext, tNil, tNoPart, tNot, tNotN, tNotT, tNotV, tOp, tOr, tOrT, tOrV, tOst, tPar, tPart, tRet, tRetN, tRg1, tSeq, tSl, tStar, tTest, tThen, tTup, tUn, C8.tCut, tVar]
    have hbw := bW_le hn
    have hbp := bW_pos n
    have h2b := two_le_bT n
    refine ⟨rfl, fun sa H1 hsa e1 hs1 => ⟨_, rfl, _, rfl, sa, sizesL, rfl, .inl hs1, fun p hp => ⟨p, sizesK.map (·.1), rfl, .of (by rw [upd_same]; rfl), by decide, fun ys p2 hperm _ hp2 => ?_⟩⟩⟩
    have e2 := (Ext.upd (o := .lst (sizesL.map fun kv => kV kv.1)) hp).trans (Ext.upd (o := .lst (ys.map V.str)) hp2)
    have h2 : upd (upd H1 p (.lst (sizesL.map fun kv => kV kv.1))) p2 (.lst (ys.map V.str)) p2 = _ := upd_same
    have hp2w := well_new ((W.ext e1).ext (Ext.upd (o := .lst (sizesL.map fun kv => kV kv.1)) hp)) hp2
    generalize upd (upd H1 p (.lst (sizesL.map fun kv => kV kv.1))) p2 (.lst (ys.map V.str)) = H2 at e2 h2 ⊢
    have W2 := (W.ext e1).ext e2
    have hyl : ys.length = 11 := by rw [hperm.length_eq]; rfl
    have hsw : sa ≠ wa := fun z => by
      obtain ⟨_, _, c1, _⟩ := W2.ex
      have := e2 _ _ hs1
      rw [z, c1] at this
      cases this
    refine ⟨wa, ca, p2, ys.map V.str, turn, rfl, h2, hp2w, by intro z; have := congrArg List.length z; simp [hyl] at this, by rw [List.length_map]; omega, W2, by omega, fun x hx turn1 H4 t1 e4 W4 => ?_⟩
    obtain ⟨z, hz, rfl⟩ := List.mem_map.mp hx
    obtain ⟨hq, hdl, m, hm, hm2⟩ := sizesK_ok T z (hperm.mem_iff.mp hz)
    have hs4 := e4 _ _ hsw (e2 _ _ hs1)
    refine ⟨_, rfl, by rw [sizeLine_eq]; simp, fun p3 hp3 => ?_⟩
    have e5 := Ext.upd (o := .lst [.str "[", .str z]) hp3
    have h5 : upd H4 p3 (.lst [.str "[", .str z]) p3 = _ := upd_same
    have hp3w := well_new W4 hp3
    generalize upd H4 p3 (.lst [.str "[", .str z]) = H5 at e5 h5 ⊢
    have W5 := W4.ext e5
    have hmb : m * bT n ≤ 2 * bT n := Nat.mul_le_mul_right _ hm2
    have hmw : m * bW n ≤ 2 * bW n := Nat.mul_le_mul_right _ hm2
    refine ⟨_, rfl, _, rfl, sa, .int (m : Int), rfl, ?_, (m : Int), rfl, by omega, by omega, ?_⟩
    · have := DGet.k (k := .inr z) (e5 _ _ hs4)
      rw [sizes_val, hm] at this
      exact this
    rw [Int.toNat_natCast]
    refine LC_wds (bt := bT n) (bl := bW n) (bd := n) (by show 4 < 5; decide) (by omega) W5 (fun v H3 turn3 W3 t3 Qc hQc => ⟨_, rfl, _, rfl, wa, ca, turn3, rfl, W3, by omega, hQc⟩) (fun D H6 ls wss turn3 hD hL hdr hfl W6 t3 e6 hDw => ?_)
    have eB : ExtB wa H H6 := (((ExtB.of e1).trans (.of e2)).trans (e4.trans (.of e5))).trans e6
    have h6 := e6 _ _ hp3w h5
    refine ⟨by rw [sizeLine_eq]; simp, fun u hu => ?_⟩
    have e7 := Ext.upd (o := .lst []) hu
    have u7 : upd H6 u (.lst []) u = _ := upd_same
    generalize upd H6 u (.lst []) = H7 at e7 u7 ⊢
    have hfm : (wss.map fun ws => ws.map V.str).flatten = wss.flatten.map V.str := by rw [List.map_flatten]
    refine sumL_of (bs := ls) (xss := wss.map fun ws => ws.map V.str) (e7 _ _ hD) u7 ⟨hL.1, fun j b v hb hv => e7 _ _ (hL.2 j b v hb hv)⟩ ?_ fun y H8 e8 y8 => ?_
    · rw [hfm, List.length_map, sizeLine_eq]
      omega
    rw [hfm] at y8
    refine ⟨p3, y, _, _, rfl, rfl, e8 _ _ (e7 _ _ h6), y8, by rw [List.length_map, sizeLine_eq]; show 2 + _ ≤ _; omega, fun g hg => ?_⟩
    have e9 := (e7.trans e8).trans (Ext.upd (o := .lst ([V.str "[", .str z] ++ wss.flatten.map V.str)) hg)
    have g9 : upd H8 g (.lst ([V.str "[", .str z] ++ wss.flatten.map V.str)) g = _ := upd_same
    generalize upd H8 g (.lst ([V.str "[", .str z] ++ wss.flatten.map V.str)) = H9 at e9 g9 ⊢
    refine ⟨by rw [sizeLine_eq]; simp, fun c hc => ?_⟩
    have e10 := e9.trans (Ext.upd (o := .lst [.str "]"]) hc)
    have g10 := Ext.upd (o := .lst [.str "]"]) hc _ _ g9
    have c10 : upd H9 c (.lst [.str "]"]) c = _ := upd_same
    generalize upd H9 c (.lst [.str "]"]) = H10 at e10 g10 c10 ⊢
    refine ⟨g, c, _, _, rfl, rfl, g10, c10, by rw [List.length_append, List.length_map, sizeLine_eq]; show 2 + _ + 1 ≤ _; omega, fun x hx => ?_⟩
    have e11 := e10.trans (Ext.upd (o := .lst ([V.str "[", .str z] ++ wss.flatten.map V.str ++ [.str "]"])) hx)
    refine q x (("[" : Str) :: (([z] ++ wss.flatten) ++ [("]" : Str)])) turn3 _ (by omega) (eB.trans (.of e11)) (W6.ext e11) (by rw [upd_same]; simp) (((Dr.one hq hdl).app (Dr.flat hdr)).wrap (by decide +kernel) (by decide +kernel) (by decide +kernel) (by decide +kernel)) (by simp) ?_
    rw [List.length_cons, List.length_append, List.length_append]
    show 1 + _ + 1 + 1 ≤ _
    omega
theorem wds : ∀ n, n ≤ 3 → FnR PR w K mg base CX0 (4 * n + 22) (He.ga K "_law_words") (spWds n)
  | 0, h => step_wd T (k := 20) (Nat.le_refl _) h (fun _ _ _ _ _ _ _ _ _ _ _ ⟨_, h, _⟩ => absurd h (by omega)) (fun _ _ _ _ _ _ _ _ _ _ _ ⟨_, h, _⟩ => absurd h (by omega))
  | n + 1, h => step_wd T (k := 4 * n + 24) (by omega) h (((wds n (by omega)).mono (by omega)).imp fun vs H Q E ⟨m, h, p⟩ => by
      obtain rfl : m = n := by omega
      exact p) (((step_pw T (k := 4 * n + 22) (by omega) (by omega) (wds n (by omega)))).imp fun vs H Q E ⟨m, h, p⟩ => by
      obtain rfl : m = n := by omega
      exact p)
theorem F__law_paper_words : FnR PR w K mg base CX0 40 (He.ga K "_law_paper_words") (spPws 3) := (step_pw T (k := 34) (by omega) (by omega) (wds T 3 (Nat.le_refl _))).mono (by omega)
end
end K94
set_option maxRecDepth 100000
set_option maxHeartbeats 4000000
/-! k95: texts of words; deep ones. -/
namespace K94
open PySem PySem.Spec PyProof.Rows L2 L2.Q Pp StX L2.SupX
theorem sum_le {m : Nat} : ∀ {ws : List Str}, (∀ z ∈ ws, z.length ≤ m) → (ws.map (·.length)).sum ≤ ws.length * m
  | [], _ => by simp
  | z :: r, h => by
    have := sum_le fun x hx => h x (List.mem_cons_of_mem _ hx)
    have h0 := h z List.mem_cons_self
    rw [List.map_cons, List.sum_cons, List.length_cons, Nat.add_mul]
    omega
/-- words as one text -/
structure TW (ws : List Str) : Prop where
  q : ∀ w ∈ ws, OkQ w
  sum : (ws.map (·.length)).sum + ws.length ≤ 16777216
  jlen : (Txt.join " " ws).length + 2 ≤ sizeLine
  split : Txt.split (Txt.join " " ws) " " = ws
  few : ws.length ≤ 4000
  words : okWords ws
theorem tw_of {ws : List Str} (h : ∀ w ∈ ws, okQ w = true) (hl : ws.length ≤ 3000) (hne : ws ≠ []) : TW ws := by
  have hs : sizeLine = 16777216 := sizeLine_eq
  have hq := fun w hw => okQ_of (h w hw)
  have hsum := sum_le fun z e => (hq z e).len
  have hj : (Txt.join " " ws).length ≤ (ws.map (·.length)).sum + ws.length := by
    rw [TL.join_eq]
    have := StrLaws.join_length_le " " ws
    have e : (" " : Str).length = 1 := by decide +kernel
    rw [e] at this
    omega
  refine ⟨hq, by omega, by omega, ?_, by omega, fun z e => ⟨?_, fun e1 => ⟨(hq z e).len, (hq z e).num e1⟩⟩⟩
  · exact TL.split_join (s := 32) (S := []) (by decide +kernel) (by decide +kernel) hne fun p hp e => ((hq p hp).chars 32 e).1 rfl
  · have := (hq z e).len
    omega
theorem TW.spR {K : PySem.W.Frag} {ws : List Str} {H : Hp} {Q : VK} {E : XK} (t : TW ws) (h1 : ∀ d, wholeM ws 0 = .ok d → ∀ v H', Ext H H' → Rep K false H' v d → Q v H')
    (h2 : ∀ p : Nat, wholeM ws 0 = .err p → ∀ dd H', H dd = none → Ext H H' → H' dd = some (.xd [("word", .int (p : Int)), ("line", .int 0)]) → E (.ref (He.ga K "BadText")) (some dd) H') : spRead K [.str (Txt.join " " ws)] H Q E :=
  ⟨_, false, .str (Txt.join " " ws), rfl, .str, t.jlen, by rw [t.split]; exact t.few, by rw [t.split]; exact t.words, by
    rw [t.split]
    cases hw : wholeM ws 0 with
    | ok d => exact h1 d hw
    | err p => exact h2 p hw⟩
theorem map_some_inj : ∀ {a b : List Str}, a.map some = b.map some → a = b
  | [], [], _ => rfl
  | [], _ :: _, h => by simp at h
  | _ :: _, [], h => by simp at h
  | x :: a, y :: b, h => by
    simp only [List.map_cons, List.cons.injEq, Option.some.injEq] at h
    rw [h.1, map_some_inj h.2]
theorem TW.spT {K : PySem.W.Frag} {d : D} {ws : List Str} {v : V} {H : Hp} {Q : VK} (t : TW ws) (wr : Wr d ws) (hk : d.isKind = true) (hd : d.dep ≤ 20) (r : Rep K false H v d) (q : ∀ H', Ext H H' → Q (.str (Txt.join " " ws)) H') : spText K [v] H Q E0 := by
  have hw := wr.words 20 hd
  have ht : textW d = ws.map some := by
    unfold textW
    rw [if_pos hk]
    exact hw
  have hf := t.few
  refine ⟨v, _, rfl, r, wr.okW, by rw [hw, List.length_map]; omega, fun ws' e => ?_, fun ws' H' e x => ?_, fun h => ?_⟩
  · have e2 := map_some_inj (ht.symm.trans e)
    subst e2
    exact t.sum
  · have e2 := map_some_inj (ht.symm.trans e)
    subst e2
    exact q H' x
  · rw [ht] at h
    simp at h
/-! ### how deep -/
theorem bal_take {xs ys : List Str} {b : Int} (h0 : sm xs = 0) (h : ∀ n, sm ((xs ++ ys).take n) ≤ b) : (∀ n, sm (xs.take n) ≤ b) ∧ ∀ n, sm (ys.take n) ≤ b := by
  constructor
  · intro n
    by_cases hn : n ≤ xs.length
    · have := h n
      rw [List.take_append_of_le_length hn] at this
      exact this
    · rw [List.take_of_length_le (by omega)]
      have := h xs.length
      rw [List.take_left] at this
      exact this
  · intro n
    have := h (xs.length + n)
    rw [List.take_append, sm_app, List.take_of_length_le (by omega), h0] at this
    rw [show xs.length + n - xs.length = n by omega] at this
    omega
theorem bal_in {o c : Str} {vs : List Str} {b : Nat} (ho : dl o = 1) (h0 : sm vs = 0) (h : ∀ n, sm ((o :: (vs ++ [c])).take n) ≤ (b : Int)) : ∃ m : Nat, b = m + 1 ∧ ∀ n, sm (vs.take n) ≤ (m : Int) := by
  have h1 := h 1
  rw [List.take_succ_cons, List.take_zero, sm_cons, sm_nil, ho] at h1
  obtain ⟨m, rfl⟩ : ∃ m, b = m + 1 := ⟨b - 1, by omega⟩
  have h2 : ∀ n, sm ((vs ++ [c]).take n) ≤ (m : Int) := fun n => by
    have := h (n + 1)
    rw [List.take_succ_cons, sm_cons, ho] at this
    omega
  exact ⟨m, rfl, (bal_take h0 h2).1⟩
mutual
theorem Wr.deep : ∀ {d : D} {ws : List Str}, Wr d ws → ∀ b : Nat, (∀ n, sm (ws.take n) ≤ (b : Int)) → d.dep ≤ b
  | _, _, .non, b, _ => Nat.zero_le _
  | _, _, .str _, b, _ => Nat.zero_le _
  | _, _, .int _, b, _ => Nat.zero_le _
  | _, _, .tup (ds := ds) h, b, hb => by
    obtain ⟨m, rfl, hm⟩ := bal_in (by decide +kernel) h.sm0 hb
    have := h.deep m hm
    show depL ds + 1 ≤ m + 1
    omega
  | _, _, .pap (c := c) (ds := ds) hc h, b, hb => by
    have hb' : ∀ n, sm ((("[" : Str) :: (([c.word] ++ _) ++ [("]" : Str)])).take n) ≤ (b : Int) := hb
    obtain ⟨m, rfl, hm⟩ := bal_in (by decide +kernel) (by rw [sm_app, h.sm0, sm_cons, dl_word]; rfl) hb'
    have h3 := (bal_take (xs := [c.word]) (by rw [sm_cons, dl_word]; rfl) hm).2
    have := h.deep m h3
    show depL ds + 1 ≤ m + 1
    omega
theorem Wrs.deep : ∀ {ds : List D} {ws : List Str}, Wrs ds ws → ∀ b : Nat, (∀ n, sm (ws.take n) ≤ (b : Int)) → depL ds ≤ b
  | _, _, .nil, b, _ => Nat.zero_le _
  | _, _, .cons h1 h2, b, hb => by
    obtain ⟨g1, g2⟩ := bal_take h1.sm0 hb
    exact Nat.max_le.mpr ⟨h1.deep b g1, h2.deep b g2⟩
end
theorem Wr.kind {d : D} {ws : List Str} (h : Wr d ws) (h0 : ws[0]? = some ("[" : Str)) : d.isKind = true := by
  cases h with
  | non => exact absurd (Option.some.inj h0) (by decide +kernel)
  | str h =>
    have e := Option.some.inj h0
    have := (okStr_parts h).2.2.1
    rw [e] at this
    exact absurd this (by decide +kernel)
  | int h =>
    have e := Option.some.inj h0
    have := (okInt_parts h).2.2.1
    rw [e] at this
    exact absurd this (by decide +kernel)
  | tup h => exact absurd (Option.some.inj h0) (by decide +kernel)
  | @pap c ds _ hc h =>
    show c.size.isSome = true
    rw [hc]
    rfl
theorem whole_head {ws : List Str} {d : D} (h : wholeM ws 0 = .ok d) : ws[0]? = some ("[" : Str) := by
  unfold wholeM at h
  split at h
  · assumption
  · cases h
/-- what a text is due: refused at a word, or read and written back -/
inductive Due (ws : List Str) : Option Nat → Prop
  | bad {p : Nat} (h : wholeM ws 0 = .err p) : Due ws (some p)
  | good {d : D} (h : wholeM ws 0 = .ok d) (wr : Wr d ws) (hk : d.isKind = true) (hd : d.dep ≤ 20) : Due ws none
theorem due_fault {ws : List Str} (hq : ∀ w ∈ ws, OkQ w) (hb : ∀ n, sm (ws.take n) ≤ 19) (hne : ws ≠ []) : Due ws (faultM ws 0 []) := by
  rcases fault_whole hq hb hne with ⟨p, h1, h2⟩ | ⟨d, h1, h2, h3⟩
  · rw [h2]
    exact .bad h1
  · rw [h2]
    have := h3.deep 19 hb
    exact .good h1 h3 (h3.kind (whole_head h1)) (by omega)
/-! ### the mutations -/
theorem bal_del {a c : List Str} {w : Str} {b : Int} (h : ∀ n, sm ((a ++ w :: c).take n) ≤ b) : ∀ n, sm ((a ++ c).take n) ≤ b + 1 := by
  intro n
  have h0 := h 0
  rw [List.take_zero, sm_nil] at h0
  by_cases hn : n ≤ a.length
  · have := h n
    rw [List.take_append_of_le_length hn] at this ⊢
    omega
  · have := h (n + 1)
    rw [List.take_append, sm_app, List.take_of_length_le (by omega), show n + 1 - a.length = (n - a.length) + 1 by omega, List.take_succ_cons, sm_cons] at this
    rw [List.take_append, sm_app, List.take_of_length_le (by omega)]
    have := (dl_le w).2
    omega
theorem bal_ins {a c : List Str} {w : Str} {b : Int} (h : ∀ n, sm ((a ++ c).take n) ≤ b) : ∀ n, sm ((a ++ w :: c).take n) ≤ b + 1 := by
  intro n
  by_cases hn : n ≤ a.length
  · have := h n
    rw [List.take_append_of_le_length hn] at this ⊢
    omega
  · have := h (n - 1)
    rw [List.take_append, sm_app, List.take_of_length_le (by omega)] at this
    rw [List.take_append, sm_app, List.take_of_length_le (by omega), show n - a.length = (n - 1 - a.length) + 1 by omega, List.take_succ_cons, sm_cons]
    have := (dl_le w).1
    omega
/-- drawn words, bent by one word -/
structure Bent (ws : List Str) : Prop where
  ok : ∀ w ∈ ws, okQ w = true
  bal : ∀ n, sm (ws.take n) ≤ 6
  len : ws.length ≤ 112
theorem Bent.ofDr {ws : List Str} (d : Dr 4 ws) (h : ws.length ≤ 110) : Bent ws := ⟨d.ok, fun n => by have := d.bal n; omega, by omega⟩
theorem Dr.pre {ws : List Str} (d : Dr 4 ws) (h : ws.length ≤ 110) (k : Nat) : Bent (ws.take k) := ⟨fun w hw => d.ok w (List.mem_of_mem_take hw), fun n => by
  rw [List.take_take]
  have := d.bal (min n k)
  omega, by rw [List.length_take]; omega⟩
theorem Dr.del {ws : List Str} (d : Dr 4 ws) (h : ws.length ≤ 110) {k : Nat} (hk : k < ws.length) : Bent (ws.take k ++ ws.drop (k + 1)) := by
  have e : ws = ws.take k ++ ws[k] :: ws.drop (k + 1) := by
    rw [← List.drop_eq_getElem_cons hk, List.take_append_drop]
  refine ⟨fun w hw => ?_, fun n => ?_, by rw [List.length_append, List.length_take, List.length_drop]; omega⟩
  · rcases List.mem_append.mp hw with hw | hw
    · exact d.ok w (List.mem_of_mem_take hw)
    · exact d.ok w (List.mem_of_mem_drop hw)
  · have hb := d.bal
    rw [e] at hb
    have h2 := bal_del hb n
    omega
theorem Dr.ins {ws : List Str} (d : Dr 4 ws) (h : ws.length ≤ 110) {z : Str} (hz : okQ z = true) (k : Nat) : Bent (ws.take k ++ [z] ++ ws.drop k) := by
  have hb := d.bal
  rw [← List.take_append_drop k ws] at hb
  refine ⟨fun w hw => ?_, fun n => ?_, by rw [List.length_append, List.length_append, List.length_take, List.length_drop]; simp; omega⟩
  · simp only [List.mem_append, List.mem_singleton] at hw
    rcases hw with (hw | rfl) | hw
    · exact d.ok w (List.mem_of_mem_take hw)
    · exact hz
    · exact d.ok w (List.mem_of_mem_drop hw)
  · rw [List.append_assoc]
    have h2 := bal_ins (w := z) hb n
    show sm ((ws.take k ++ z :: ws.drop k).take n) ≤ 6
    omega
theorem Dr.rep {ws : List Str} (d : Dr 4 ws) (h : ws.length ≤ 110) {z : Str} (hz : okQ z = true) {k : Nat} (hk : k < ws.length) : Bent (ws.take k ++ [z] ++ ws.drop (k + 1)) := by
  have B := d.del h hk
  have e : ws = ws.take k ++ ws[k] :: ws.drop (k + 1) := by
    rw [← List.drop_eq_getElem_cons hk, List.take_append_drop]
  refine ⟨fun w hw => ?_, fun n => ?_, by rw [List.length_append, List.length_append, List.length_take, List.length_drop]; simp; omega⟩
  · simp only [List.mem_append, List.mem_singleton] at hw
    rcases hw with (hw | rfl) | hw
    · exact d.ok w (List.mem_of_mem_take hw)
    · exact hz
    · exact d.ok w (List.mem_of_mem_drop hw)
  · rw [List.append_assoc]
    have hb := d.bal
    rw [e] at hb
    have h2 := bal_ins (w := z) (bal_del hb) n
    show sm ((ws.take k ++ z :: ws.drop (k + 1)).take n) ≤ 6
    omega
theorem Dr.snoc {ws : List Str} (d : Dr 4 ws) (h : ws.length ≤ 110) {z : Str} (hz : okQ z = true) : Bent (ws ++ [z]) := by
  have B := d.ins h hz ws.length
  rw [List.take_length, List.drop_length, List.append_nil] at B
  exact B
theorem bent_empty : Bent [("" : Str)] := ⟨fun w hw => by rw [List.mem_singleton.mp hw]; decide +kernel, fun n => by
  cases n with
  | zero => decide +kernel
  | succ n => rw [List.take_of_length_le (by simp)]; decide +kernel, by simp⟩
theorem Bent.tw {ws : List Str} (b : Bent ws) (hne : ws ≠ []) : TW ws := tw_of b.ok (by have := b.len; omega) hne
theorem Bent.due {ws : List Str} (b : Bent ws) (hne : ws ≠ []) : Due ws (faultM ws 0 []) := due_fault (fun w hw => okQ_of (b.ok w hw)) (fun n => by have := b.bal n; omega) hne
/-! ### deep texts -/
def outErr : Out → Option Nat
  | .err p => some p
  | .ok _ => none
theorem outErr_of {o : Out} {p : Nat} (h : outErr o = some p) : o = .err p := by
  cases o with
  | err q => cases h; rfl
  | ok d => cases h
def tupsW (n : Nat) : List Str := [("[" : Str), ("holds" : Str)] ++ List.replicate n ("(" : Str) ++ List.replicate n (")" : Str) ++ [("]" : Str)]
def papsW (n : Nat) : List Str := (List.replicate n ([("[" : Str), ("alike" : Str)] : List Str)).flatten ++ [("-" : Str)] ++ List.replicate n ("]" : Str)
def tupN : Nat → D
  | 0 => .tup []
  | n + 1 => .tup [tupN n]
def papN : Nat → D
  | 0 => .non
  | n + 1 => .pap .alike [papN n]
theorem tupN_wr : ∀ n, Wr (tupN n) (List.replicate (n + 1) ("(" : Str) ++ List.replicate (n + 1) (")" : Str))
  | 0 => Wr.tup .nil
  | n + 1 => by
    have h := Wr.tup (Wrs.cons (tupN_wr n) .nil)
    have e : List.replicate (n + 1 + 1) ("(" : Str) ++ List.replicate (n + 1 + 1) (")" : Str) = ("(" : Str) :: ((List.replicate (n + 1) ("(" : Str) ++ List.replicate (n + 1) (")" : Str) ++ []) ++ [(")" : Str)]) := by
      rw [List.replicate_succ (n := n + 1) (a := ("(" : Str)), List.replicate_succ' (n := n + 1) (a := (")" : Str))]
      simp
    rw [e]
    exact h
theorem tupN_dep : ∀ n, (tupN n).dep = n + 1
  | 0 => rfl
  | n + 1 => by
    show max (tupN n).dep 0 + 1 = _
    rw [tupN_dep n]
    omega
theorem papN_wr : ∀ n, Wr (papN n) (papsW n)
  | 0 => by
    show Wr .non [("-" : Str)]
    exact .non
  | n + 1 => by
    have h := Wr.pap (c := .alike) rfl (Wrs.cons (papN_wr n) .nil)
    have e : papsW (n + 1) = ("[" : Str) :: ("alike" : Str) :: ((papsW n ++ []) ++ [("]" : Str)]) := by
      unfold papsW
      rw [List.replicate_succ (n := n) (a := ([("[" : Str), ("alike" : Str)] : List Str)), List.replicate_succ' (n := n) (a := ("]" : Str))]
      simp
    rw [e]
    exact h
theorem papN_dep : ∀ n, (papN n).dep = n
  | 0 => rfl
  | n + 1 => by
    show max (papN n).dep 0 + 1 = _
    rw [papN_dep n]
    omega
theorem due_tups {n : Nat} (h1 : 1 ≤ n) (h : n ≤ 19) : Due (tupsW n) none := by
  obtain ⟨m, rfl⟩ : ∃ m, n = m + 1 := ⟨n - 1, by omega⟩
  have wr : Wr (.pap .holds [tupN m]) (tupsW (m + 1)) := by
    have g := Wr.pap (c := .holds) rfl (Wrs.cons (tupN_wr m) .nil)
    have e : tupsW (m + 1) = ("[" : Str) :: ("holds" : Str) :: ((List.replicate (m + 1) ("(" : Str) ++ List.replicate (m + 1) (")" : Str) ++ []) ++ [("]" : Str)]) := by
      unfold tupsW
      simp
    rw [e]
    exact g
  have hd : depL [tupN m] = m + 1 := by
    show max (tupN m).dep 0 = _
    rw [tupN_dep]
    omega
  exact .good (wr.whole (by omega)) wr rfl (by show depL [tupN m] + 1 ≤ 20; omega)
theorem due_paps {n : Nat} (h1 : 1 ≤ n) (h : n ≤ 20) : Due (papsW n) none := by
  obtain ⟨m, rfl⟩ : ∃ m, n = m + 1 := ⟨n - 1, by omega⟩
  have wr := papN_wr (m + 1)
  have hd : depL [papN m] = m := by
    show max (papN m).dep 0 = _
    rw [papN_dep]
    omega
  exact .good (Wr.whole (c := .alike) wr (by omega)) wr rfl (by show depL [papN m] + 1 ≤ 20; omega)
theorem due_tups_20 : Due (tupsW 20) (some 21) := .bad (outErr_of (by decide +kernel))
theorem due_tups_21 : Due (tupsW 21) (some 21) := .bad (outErr_of (by decide +kernel))
theorem due_tups_40 : Due (tupsW 40) (some 21) := .bad (outErr_of (by decide +kernel))
theorem due_tups_1200 : Due (tupsW 1200) (some 21) := .bad (outErr_of (by decide +kernel))
theorem due_paps_21 : Due (papsW 21) (some 40) := .bad (outErr_of (by decide +kernel))
theorem due_paps_30 : Due (papsW 30) (some 40) := .bad (outErr_of (by decide +kernel))
theorem tups_ok {n : Nat} : ∀ w ∈ tupsW n, okQ w = true := fun w hw => by
  unfold tupsW at hw
  simp only [List.mem_append, List.mem_cons, List.mem_nil_iff, or_false, List.mem_replicate] at hw
  rcases hw with (((rfl | rfl) | ⟨_, rfl⟩) | ⟨_, rfl⟩) | rfl <;> decide +kernel
theorem paps_ok {n : Nat} : ∀ w ∈ papsW n, okQ w = true := fun w hw => by
  unfold papsW at hw
  simp only [List.mem_append, List.mem_flatten, List.mem_cons, List.mem_nil_iff, or_false, List.mem_replicate] at hw
  rcases hw with (⟨l, ⟨_, rfl⟩, hw⟩ | rfl) | ⟨_, rfl⟩
  · simp only [List.mem_cons, List.mem_nil_iff, or_false] at hw
    rcases hw with rfl | rfl <;> decide +kernel
  · decide +kernel
  · decide +kernel
theorem tups_len (n : Nat) : (tupsW n).length = 2 * n + 3 := by unfold tupsW; simp; omega
theorem paps_len (n : Nat) : (papsW n).length = 3 * n + 1 := by unfold papsW; simp; omega
end K94
set_option maxRecDepth 100000
set_option maxHeartbeats 4000000
/-! k95: deep texts. -/
namespace K94
open PySem PySem.Spec PyProof.Rows L2 L2.Q Pp StX L2.SupX
theorem sc__law_deep_right : FnScope [("well" : Str), ("many" : Str), ("twice" : Str), ("tuples" : Str), ("papers" : Str), ("words" : Str), ("deep" : Str), ("due" : Str), ("text" : Str), ("heard" : Str)] [("well" : Str)] (defScope s__law_deep_right) := ⟨rfl, rfl, rfl, by decide +kernel, rfl, by decide +kernel, by decide +kernel⟩
theorem rep_flat (n : Nat) (z : Str) : (List.replicate n ([V.str z] : List V)).flatten = (List.replicate n z).map V.str := by
  induction n with
  | zero => rfl
  | succ n ih => rw [List.replicate_succ, List.replicate_succ, List.flatten_cons, ih]; rfl
theorem rep_flat2 (n : Nat) (y z : Str) : (List.replicate n ([V.str y, V.str z] : List V)).flatten = ((List.replicate n ([y, z] : List Str)).flatten).map V.str := by
  induction n with
  | zero => rfl
  | succ n ih => rw [List.replicate_succ, List.replicate_succ, List.flatten_cons, ih]; rfl
theorem imm_extN {H H' : Hp} (e : LamX.ExtN H H') : ImmGr H H' := fun b o i h => e b o h (fun ps z => by rw [z] at i; exact i)
theorem well_extN {H H' : Hp} {wa ca : Addr} {t : Nat} (W : Well H wa ca t) (e : LamX.ExtN H H') : Well H' wa ca t := by
  obtain ⟨cells, rest, h1, h2, h⟩ := W.ex
  exact ⟨cells, rest, e _ _ h1 (fun ps z => by cases z), e _ _ h2 (fun ps z => by cases z), h⟩
theorem tabs_extB {Tt : List (Addr × Str)} {H H' : Hp} {wa ca : Addr} {t : Nat} (W : Well H wa ca t) (e : ExtB wa H H') (h : LamX.Tabs Tt H) : LamX.Tabs Tt H' := fun p hp => by
  obtain ⟨cells, rest, hw, _⟩ := W.ex
  obtain ⟨ps, h1, h2, h3⟩ := h p hp
  refine ⟨ps, e _ _ (fun z => by rw [z, hw] at h1; cases h1) h1, h2, fun pos cv hc => ?_⟩
  obtain ⟨c, e1, e2⟩ := h3 pos cv hc
  refine ⟨c, e1, e _ _ (fun z => ?_) e2⟩
  rw [z, hw] at e2
  unfold LamX.CodeO at e2
  cases e2
theorem Due.ok {ws : List Str} (h : Due ws none) : ∃ d, wholeM ws 0 = .ok d ∧ Wr d ws ∧ d.isKind = true ∧ d.dep ≤ 20 := by
  cases h with
  | good h wr hk hd => exact ⟨_, h, wr, hk, hd⟩
theorem Due.err {ws : List Str} {p : Nat} (h : Due ws (some p)) : wholeM ws 0 = .err p := by
  cases h with
  | bad h => exact h
theorem due_shaped (n : Int) : SeqAt.shaped (.tuple [.str "text", .int 0, .int n]) = true := by
  have h : PyData.canLay0 (.str "text") = true := by decide +kernel
  simp [SeqAt.shaped, PyData.canLay0, PyData.canLayAll0, PyData.depth, PyData.depthAll] at h ⊢
  exact h
theorem due_eqv (n : Int) : PyData.eqv (.tuple [.str "text", .int 0, .int n]) (.tuple [.str "text", .int 0, .int n]) = true := by simp [PyData.eqv, PyData.eqvAll]
/-- an entry: words, how deep, the word that is due -/
structure Ent (H : Hp) (p : Addr) (ws : List Str) (deep due : Nat) : Prop where
  ex : ∃ l, H p = some (.tup [.ref l, .int (deep : Int), .int (due : Int)]) ∧ H l = some (.lst (ws.map V.str))
  tw : TW ws
  due : Due ws (if deep ≤ 20 then none else some due)
theorem Ent.extN {H H' : Hp} {p : Addr} {ws : List Str} {deep due : Nat} (E : Ent H p ws deep due) (e : LamX.ExtN H H') : Ent H' p ws deep due := by
  obtain ⟨l, h1, h2⟩ := E.ex
  exact ⟨⟨l, e _ _ h1 (fun ps z => by cases z), e _ _ h2 (fun ps z => by cases z)⟩, E.tw, E.due⟩
theorem extN_of {H H' : Hp} (e : Ext H H') : LamX.ExtN H H' := LamX.ExtN.of e
def Tb2 (P1 P2 : Addr) : List (Addr × Str) := [(P1, "_law_deep_right.<locals>.<lambda>"), (P2, "law.<locals>.<lambda>")]
section
variable {w : World} {K : PySem.W.Frag} {mg : Str → Option Value} {base : Heap} (T : Txt w K mg)
include T
def spDeep (K : PySem.W.Frag) (P1 P2 : Addr) : Sp := fun vs H Q _ => ∃ wa ca turn, vs = [.ref wa] ∧ Well H wa ca turn ∧ turn + 2 ≤ 16384 ∧ LamX.Tabs (Tb2 P1 P2) H ∧ ∀ turn' H', turn' ≤ turn + 2 → Well H' wa ca turn' → LamX.Tabs (Tb2 P1 P2) H' → Q (.bl true) H'
theorem F__law_deep_right {P1 P2 : Addr} (TB : LamX.TabB base mg (He.codeOf K ("_law_deep_right", none)) P1) (hne : P1 ≠ P2) : FnR PR w K mg base CX0 190 (He.ga K "_law_deep_right") (spDeep K P1 P2) := by
  have F__law_one := F__law_one (base := base) T
  obtain ⟨_, FX_paper_text⟩ := both_paper_text (base := base) T
  obtain ⟨_, FX_read_paper⟩ := both_read_paper (base := base) T
  have F_paper_text := fnR_calm FX_paper_text
  have F_read_paper := fnR_calm FX_read_paper
  obtain ⟨fdS, FS⟩ := T.F__law_said
  have HBS := FS.bindsN (ps := [("ask" : Str)]) (fun kV doc pm an cdv ct us hl => match us, hl with | [_], _ => rfl)
  obtain ⟨oc, od, dV, kV, doc, pm, an, cdS, ct, osl, rfl, lkS, hcS, _, _⟩ := FS.ex
  let Tb : List (Addr × Str) := Tb2 P1 P2
  have hmT : (P1, ("_law_deep_right.<locals>.<lambda>" : Str)) ∈ Tb := List.mem_cons_self
  have huT : ∀ p ∈ Tb, p.1 = P1 → p.2 = ("_law_deep_right.<locals>.<lambda>" : Str) := fun p hp e => by
    rcases List.mem_cons.mp hp with rfl | hp
    · rfl
    · rw [List.mem_singleton.mp hp] at e
      exact absurd e.symm hne
  have hcd : (Value.ref (He.codeOf K ("_law_deep_right", none))) = .ref (He.codeOf K ("_law_deep_right", none)) := rfl
  refine fnrc (k := 189) (p := ("_law_deep_right", none)) T.F__law_deep_right sc__law_deep_right (fun vs H Q E h => ?_) (fun _ _ _ _ _ _ us hl => match us, hl with | [_], _ => rfl) (fun A outer s H vs Q E hr h => ⟨_, (C8.pss_cut (ps_par (i := 1) (j := 2) rfl sc__law_deep_right.nd rfl rfl (by decide) rfl rfl (pa_cons (pe_callR F__law_one (hr.mono (by omega)) T.k__law_one T.g__law_one rfl pass0 (pa_cons (pv 0) (pa_cons (pe_lst (pa_cons pe_int (pa_cons pe_int (pa_cons pe_int (pa_cons pe_int (pa_cons pe_int (pa_cons pe_int (pa_cons pe_int pa_nil)))))))) pa_nil))) (pa_cons (pe_callR F__law_one (hr.mono (by omega)) T.k__law_one T.g__law_one rfl pass0 (pa_cons (pv 0) (pa_cons (pe_lst (pa_cons pe_int (pa_cons pe_int (pa_cons pe_int (pa_cons pe_int (pa_cons pe_int pa_nil)))))) pa_nil))) pa_nil)) (by rfl))
      (C8.pss_cut (ps_set (i := 3) sc__law_deep_right.nd rfl (Or.inl rfl) (pe_op op_cat (pe_op op_cat (pe_op op_cat (pe_lst (pa_cons pe_str (pa_cons pe_str pa_nil))) (pe_op op_rep (pe_lst (pa_cons pe_str pa_nil)) (pv 1))) (pe_op op_rep (pe_lst (pa_cons pe_str pa_nil)) (pv 1))) (pe_lst (pa_cons pe_str pa_nil))))
      (C8.pss_cut (ps_set (i := 4) sc__law_deep_right.nd rfl (Or.inl rfl) (pe_op op_cat (pe_op op_cat (pe_op op_rep (pe_lst (pa_cons pe_str (pa_cons pe_str pa_nil))) (pv 2)) (pe_lst (pa_cons pe_str pa_nil))) (pe_op op_rep (pe_lst (pa_cons pe_str pa_nil)) (pv 2))))
      (pss_cons (ps_for PassesOwn.never rfl (pi_tup (pe_tup (pa_cons (pe_tup (pa_cons (pv 3) (pa_cons (pe_op op_add (pv 1) pe_int) (pa_cons pe_int pa_nil)))) (pa_cons (pe_tup (pa_cons (pv 4) (pa_cons (pv 2) (pa_cons pe_int pa_nil)))) pa_nil)))) (pg_tup rfl (pgs_cons (pg_name (i := 5) sc__law_deep_right.nd rfl (Or.inl rfl)) (pgs_cons (pg_name (i := 6) sc__law_deep_right.nd rfl (Or.inl rfl)) (pgs_cons (pg_name (i := 7) sc__law_deep_right.nd rfl (Or.inl rfl)) pgs_nil)))) (pss_cons (ps_set (i := 8) sc__law_deep_right.nd rfl (Or.inr rfl) (pe_join pe_str (pv 5)))
      (C8.pss_cut (ps_set (i := 9) sc__law_deep_right.nd rfl (Or.inl rfl) (LamX.pe_lamcall (T := Tb) (k := 170) rfl T.g__law_said T.k__law_said lkS hcS HBS sc__law_said rfl (by first | exact .inl rfl | exact .inr rfl | rfl) (said_gives T) TB hcd hmT huT (hr.mono (by omega)) (LamX.lamS_by (by rfl)) rfl (fun _ _ _ _ _ => rfl) (fun A outer s H E f c' hr => (pe_callR FX_read_paper (hr.mono (by omega)) T.k_read_paper T.g_read_paper rfl (passes_call (takes_of rfl rfl rfl rfl) (fun _ _ _ _ h => h)) (pa_cons (pv 8) pa_nil)))))
      (pss_one (ps_if (PW.pt (pw_or (pt_cmpR (op_neD (units64 hr)) (pv 9) (pe_cut (pe_ifExp (pt_cmpR op_le (pv 6) pe_int (nomark _)) pe_non (pe_tup (pa_cons pe_str (pa_cons pe_int (pa_cons (pv 7) pa_nil)))))) (nomark _)) (pw_or1 (PW.pt (pw_and (pt_cmpR op_isN (pv 9) pe_non (nomark _)) (pw_and1 (pt_cmpR op_ne (pe_callR F_paper_text (hr.mono (by omega)) T.k_paper_text T.g_paper_text rfl pass0 (pa_cons (pe_callR F_read_paper (hr.mono (by omega)) T.k_read_paper T.g_read_paper rfl pass0 (pa_cons (pv 8) pa_nil)) pa_nil)) (pv 8) (nomark _)))))))) (pss_one (ps_ret pe_bl)) pss_nil)))))
      (pss_one (ps_ret pe_bl)))))), ?_⟩)
  · obtain ⟨wa, ca, turn, rfl, _⟩ := h
    rfl
  · obtain ⟨wa, ca, turn, rfl, W, ht, hTb, q⟩ := h
    dsimp only [gCons, gName, gNil, gSub, gTup, gFld, iSeq, iList, iStr, iTup, iRng1, tAnd, tAndT, tAndV, tAsg, tAsg2, tAug, tB, tBM, tBM0, tBreak, tC, tCB, tCallR, tChain, tCons, tDrop, tFld, sFld, sFldAug, tFor_eq, tLc2_eq, tIf, tIfS, tIsN, tLc_eq, tLst, tM0, tM1, tMakeR, tMethR, tNever, tNm, tXk, tCallKw, tNext, tNil, tNoPart, tNot, tNotN, tNotT, tNotV, tOp, tOr, tOrT, tOrV, tOst, tPar, tPart, tRet, tRetN, tRg1, tSeq, tSl, tStar, tTest, tThen, tTup, tUn, C8.tCut, tVar]
    refine ⟨fun σ' H' => ∃ m k turn1 : Nat, σ' = [some (.ref wa), some (.int (m : Int)), some (.int (k : Int)), none, none, none, none, none, none, none] ∧ 1 ≤ m ∧ m ≤ 1200 ∧ Due (tupsW m) (if m + 1 ≤ 20 then none else some 21) ∧ k ≤ 30 ∧ Due (papsW k) (if k ≤ 20 then none else some 40) ∧ Well H' wa ca turn1 ∧ turn1 ≤ turn + 2 ∧ LamX.Tabs Tb H', ?_, ?_⟩
    · refine ⟨_, rfl, by rw [sizeLine_eq]; simp, fun p hp => ?_⟩
      have e0 := Ext.upd (o := .lst [.int 17, .int 18, .int 19, .int 20, .int 21, .int 40, .int 1200]) hp
      refine ⟨wa, ca, p, _, turn, rfl, upd_same, well_new W hp, by simp, by simp, W.ext e0, by omega, fun x hx turn1 H1 t1 e1 W1 => ?_⟩
      have T1 : LamX.Tabs Tb H1 := tabs_extB (W.ext e0) e1 (hTb.ext e0)
      obtain ⟨m, rfl, hm1, hm2, hmd⟩ : ∃ m : Nat, x = .int (m : Int) ∧ 1 ≤ m ∧ m ≤ 1200 ∧ Due (tupsW m) (if m + 1 ≤ 20 then none else some 21) := by
        simp only [List.mem_cons, List.mem_nil_iff, or_false] at hx
        rcases hx with rfl | rfl | rfl | rfl | rfl | rfl | rfl
        · exact ⟨17, rfl, by omega, by omega, due_tups (by omega) (by omega)⟩
        · exact ⟨18, rfl, by omega, by omega, due_tups (by omega) (by omega)⟩
        · exact ⟨19, rfl, by omega, by omega, due_tups (by omega) (by omega)⟩
        · exact ⟨20, rfl, by omega, by omega, due_tups_20⟩
        · exact ⟨21, rfl, by omega, by omega, due_tups_21⟩
        · exact ⟨40, rfl, by omega, by omega, due_tups_40⟩
        · exact ⟨1200, rfl, by omega, by omega, due_tups_1200⟩
      refine ⟨_, rfl, by rw [sizeLine_eq]; simp, fun p2 hp2 => ?_⟩
      have e2 := Ext.upd (o := .lst [.int 18, .int 19, .int 20, .int 21, .int 30]) hp2
      refine ⟨wa, ca, p2, _, turn1, rfl, upd_same, well_new W1 hp2, by simp, by simp, W1.ext e2, by omega, fun y hy turn2 H2 t2 e3 W2 => ?_⟩
      have T2 : LamX.Tabs Tb H2 := tabs_extB (W1.ext e2) e3 (T1.ext e2)
      obtain ⟨k, rfl, hk2, hkd⟩ : ∃ k : Nat, y = .int (k : Int) ∧ k ≤ 30 ∧ Due (papsW k) (if k ≤ 20 then none else some 40) := by
        simp only [List.mem_cons, List.mem_nil_iff, or_false] at hy
        rcases hy with rfl | rfl | rfl | rfl | rfl
        · exact ⟨18, rfl, by omega, due_paps (by omega) (by omega)⟩
        · exact ⟨19, rfl, by omega, due_paps (by omega) (by omega)⟩
        · exact ⟨20, rfl, by omega, due_paps (by omega) (by omega)⟩
        · exact ⟨21, rfl, by omega, due_paps_21⟩
        · exact ⟨30, rfl, by omega, due_paps_30⟩
      exact ⟨_, _, rfl, m, k, turn2, rfl, hm1, hm2, hmd, hk2, hkd, W2, by omega, T2⟩
    · rintro σ' H1 ⟨m, k, turn1, rfl, hm1, hm2, hmd, hk2, hkd, W1, t1, T1⟩
      refine ⟨fun σ' H' => ∃ l1, σ' = [some (.ref wa), some (.int (m : Int)), some (.int (k : Int)), some (.ref l1), none, none, none, none, none, none] ∧ H' l1 = some (.lst ((tupsW m).map V.str)) ∧ Ext H1 H', ?_, ?_⟩
      · refine ⟨by rw [sizeLine_eq]; simp, fun p1 hp1 => ⟨by rw [sizeLine_eq]; simp, fun p2 hp2 => ⟨_, rfl, p2, (m : Int), _, rfl, rfl, upd_same, by omega, by omega, ?_, fun p3 hp3 => ?_⟩⟩⟩
        · rw [Int.toNat_natCast, sizeLine_eq]
          simp
          omega
        have e1 := ((Ext.upd (o := .lst [.str "[", .str "holds"]) hp1).trans (Ext.upd (o := .lst [.str "("]) hp2)).trans (Ext.upd (o := .lst (List.replicate (m : Int).toNat [V.str "("]).flatten) hp3)
        have g1 := Ext.upd (o := .lst (List.replicate (m : Int).toNat [V.str "("]).flatten) hp3 _ _ (Ext.upd (o := .lst [.str "("]) hp2 _ _ (show upd H1 p1 (.lst [.str "[", .str "holds"]) p1 = some (.lst [.str "[", .str "holds"]) from upd_same))
        have g3 : upd (upd (upd H1 p1 (.lst [.str "[", .str "holds"])) p2 (.lst [.str "("])) p3 (.lst (List.replicate (m : Int).toNat [V.str "("]).flatten) p3 = _ := upd_same
        generalize upd (upd (upd H1 p1 (.lst [.str "[", .str "holds"])) p2 (.lst [.str "("])) p3 (.lst (List.replicate (m : Int).toNat [V.str "("]).flatten) = H2 at e1 g1 g3 ⊢
        rw [Int.toNat_natCast, rep_flat] at g3
        refine ⟨p1, p3, _, _, rfl, rfl, g1, g3, by rw [sizeLine_eq]; simp; omega, fun p4 hp4 => ?_⟩
        have e2 := e1.trans (Ext.upd (o := .lst ([.str "[", .str "holds"] ++ (List.replicate m ("(" : Str)).map V.str)) hp4)
        have g4 : upd H2 p4 (.lst ([.str "[", .str "holds"] ++ (List.replicate m ("(" : Str)).map V.str)) p4 = _ := upd_same
        generalize upd H2 p4 (.lst ([.str "[", .str "holds"] ++ (List.replicate m ("(" : Str)).map V.str)) = H3 at e2 g4 ⊢
        refine ⟨by rw [sizeLine_eq]; simp, fun p5 hp5 => ⟨_, rfl, p5, (m : Int), _, rfl, rfl, upd_same, by omega, by omega, ?_, fun p6 hp6 => ?_⟩⟩
        · rw [Int.toNat_natCast, sizeLine_eq]
          simp
          omega
        have e3 := e2.trans ((Ext.upd (o := .lst [.str ")"]) hp5).trans (Ext.upd (o := .lst (List.replicate (m : Int).toNat [V.str ")"]).flatten) hp6))
        have g5 := Ext.upd (o := .lst (List.replicate (m : Int).toNat [V.str ")"]).flatten) hp6 _ _ (Ext.upd (o := .lst [.str ")"]) hp5 _ _ g4)
        have g6 : upd (upd H3 p5 (.lst [.str ")"])) p6 (.lst (List.replicate (m : Int).toNat [V.str ")"]).flatten) p6 = _ := upd_same
        generalize upd (upd H3 p5 (.lst [.str ")"])) p6 (.lst (List.replicate (m : Int).toNat [V.str ")"]).flatten) = H4 at e3 g5 g6 ⊢
        rw [Int.toNat_natCast, rep_flat] at g6
        refine ⟨p4, p6, _, _, rfl, rfl, g5, g6, by rw [sizeLine_eq]; simp; omega, fun p7 hp7 => ?_⟩
        have e4 := e3.trans (Ext.upd (o := .lst ([.str "[", .str "holds"] ++ (List.replicate m ("(" : Str)).map V.str ++ (List.replicate m (")" : Str)).map V.str)) hp7)
        have g7 : upd H4 p7 (.lst ([.str "[", .str "holds"] ++ (List.replicate m ("(" : Str)).map V.str ++ (List.replicate m (")" : Str)).map V.str)) p7 = _ := upd_same
        generalize upd H4 p7 (.lst ([.str "[", .str "holds"] ++ (List.replicate m ("(" : Str)).map V.str ++ (List.replicate m (")" : Str)).map V.str)) = H5 at e4 g7 ⊢
        refine ⟨by rw [sizeLine_eq]; simp, fun p8 hp8 => ⟨p7, p8, _, _, rfl, rfl, Ext.upd hp8 _ _ g7, upd_same, by rw [sizeLine_eq]; simp; omega, fun p9 hp9 => ⟨p9, rfl, ?_, e4.trans ((Ext.upd hp8).trans (Ext.upd hp9))⟩⟩⟩
        rw [upd_same]
        unfold tupsW
        simp
      · rintro σ' H2 ⟨l1, rfl, hl1, e12⟩
        refine ⟨fun σ' H' => ∃ l2, σ' = [some (.ref wa), some (.int (m : Int)), some (.int (k : Int)), some (.ref l1), some (.ref l2), none, none, none, none, none] ∧ H' l2 = some (.lst ((papsW k).map V.str)) ∧ Ext H2 H', ?_, ?_⟩
        · refine ⟨by rw [sizeLine_eq]; simp, fun p1 hp1 => ⟨_, rfl, p1, (k : Int), _, rfl, rfl, upd_same, by omega, by omega, ?_, fun p2 hp2 => ?_⟩⟩
          · rw [Int.toNat_natCast, sizeLine_eq]
            simp
            omega
          have e1 := (Ext.upd (o := .lst [.str "[", .str "alike"]) hp1).trans (Ext.upd (o := .lst (List.replicate (k : Int).toNat [V.str "[", V.str "alike"]).flatten) hp2)
          have g2 : upd (upd H2 p1 (.lst [.str "[", .str "alike"])) p2 (.lst (List.replicate (k : Int).toNat [V.str "[", V.str "alike"]).flatten) p2 = _ := upd_same
          generalize upd (upd H2 p1 (.lst [.str "[", .str "alike"])) p2 (.lst (List.replicate (k : Int).toNat [V.str "[", V.str "alike"]).flatten) = H3 at e1 g2 ⊢
          rw [Int.toNat_natCast, rep_flat2] at g2
          refine ⟨by rw [sizeLine_eq]; simp, fun p3 hp3 => ⟨p2, p3, _, _, rfl, rfl, Ext.upd hp3 _ _ g2, upd_same, by rw [sizeLine_eq]; simp; omega, fun p4 hp4 => ?_⟩⟩
          have e2 := e1.trans ((Ext.upd (o := .lst [.str "-"]) hp3).trans (Ext.upd (o := .lst (((List.replicate k ([("[" : Str), "alike"] : List Str)).flatten).map V.str ++ [.str "-"])) hp4))
          have g4 : upd (upd H3 p3 (.lst [.str "-"])) p4 (.lst (((List.replicate k ([("[" : Str), "alike"] : List Str)).flatten).map V.str ++ [.str "-"])) p4 = _ := upd_same
          generalize upd (upd H3 p3 (.lst [.str "-"])) p4 (.lst (((List.replicate k ([("[" : Str), "alike"] : List Str)).flatten).map V.str ++ [.str "-"])) = H4 at e2 g4 ⊢
          refine ⟨by rw [sizeLine_eq]; simp, fun p5 hp5 => ⟨_, rfl, p5, (k : Int), _, rfl, rfl, upd_same, by omega, by omega, ?_, fun p6 hp6 => ?_⟩⟩
          · rw [Int.toNat_natCast, sizeLine_eq]
            simp
            omega
          have e3 := e2.trans ((Ext.upd (o := .lst [.str "]"]) hp5).trans (Ext.upd (o := .lst (List.replicate (k : Int).toNat [V.str "]"]).flatten) hp6))
          have g5 := Ext.upd (o := .lst (List.replicate (k : Int).toNat [V.str "]"]).flatten) hp6 _ _ (Ext.upd (o := .lst [.str "]"]) hp5 _ _ g4)
          have g6 : upd (upd H4 p5 (.lst [.str "]"])) p6 (.lst (List.replicate (k : Int).toNat [V.str "]"]).flatten) p6 = _ := upd_same
          generalize upd (upd H4 p5 (.lst [.str "]"])) p6 (.lst (List.replicate (k : Int).toNat [V.str "]"]).flatten) = H5 at e3 g5 g6 ⊢
          rw [Int.toNat_natCast, rep_flat] at g6
          refine ⟨p4, p6, _, _, rfl, rfl, g5, g6, by rw [sizeLine_eq]; simp; omega, fun p7 hp7 => ⟨p7, rfl, ?_, e3.trans (Ext.upd hp7)⟩⟩
          rw [upd_same]
          unfold papsW
          simp
        · rintro σ' H3 ⟨l2, rfl, hl2, e23⟩
          have W3 := (W1.ext e12).ext e23
          have T3 := (T1.ext e12).ext e23
          have twm : TW (tupsW m) := tw_of tups_ok (by rw [tups_len]; omega) (by intro z; have := congrArg List.length z; rw [tups_len] at this; simp at this)
          have twk : TW (papsW k) := tw_of paps_ok (by rw [paps_len]; omega) (by intro z; have := congrArg List.length z; rw [paps_len] at this; simp at this)
          refine ⟨_, rfl, _, rfl, _, _, rfl, rfl, by rw [sizeLine_eq]; simp, fun p1 hp1 => ⟨_, rfl, _, rfl, by rw [sizeLine_eq]; simp, fun p2 hp2 => ⟨by rw [sizeLine_eq]; simp, fun p3 hp3 => ⟨p3, rfl, ⟨_, .of upd_same⟩, ?_⟩⟩⟩⟩
          have e4 := ((Ext.upd (o := .tup [.ref l1, .int ((m : Int) + 1), .int 21]) hp1).trans (Ext.upd (o := .tup [.ref l2, .int (k : Int), .int 40]) hp2)).trans (Ext.upd (o := .tup [.ref p1, .ref p2]) hp3)
          have g1 := Ext.upd (o := .tup [.ref p1, .ref p2]) hp3 _ _ (Ext.upd (o := .tup [.ref l2, .int (k : Int), .int 40]) hp2 _ _ (show upd H3 p1 (.tup [.ref l1, .int ((m : Int) + 1), .int 21]) p1 = some (.tup [.ref l1, .int ((m : Int) + 1), .int 21]) from upd_same))
          have g2 := Ext.upd (o := .tup [.ref p1, .ref p2]) hp3 _ _ (show upd (upd H3 p1 (.tup [.ref l1, .int ((m : Int) + 1), .int 21])) p2 (.tup [.ref l2, .int (k : Int), .int 40]) p2 = some (.tup [.ref l2, .int (k : Int), .int 40]) from upd_same)
          have g3 : upd (upd (upd H3 p1 (.tup [.ref l1, .int ((m : Int) + 1), .int 21])) p2 (.tup [.ref l2, .int (k : Int), .int 40])) p3 (.tup [.ref p1, .ref p2]) p3 = _ := upd_same
          generalize upd (upd (upd H3 p1 (.tup [.ref l1, .int ((m : Int) + 1), .int 21])) p2 (.tup [.ref l2, .int (k : Int), .int 40])) p3 (.tup [.ref p1, .ref p2]) = H4 at e4 g1 g2 g3 ⊢
          have E1 : Ent H4 p1 (tupsW m) (m + 1) 21 := ⟨⟨l1, g1, e4 _ _ (e23 _ _ hl1)⟩, twm, hmd⟩
          have E2 : Ent H4 p2 (papsW k) k 40 := ⟨⟨l2, g2, e4 _ _ hl2⟩, twk, hkd⟩
          refine for_tup (xs := [.ref p1, .ref p2]) (fun i σ H' => ∃ x5 x6 x7 x8 x9, σ = [some (.ref wa), some (.int (m : Int)), some (.int (k : Int)), some (.ref l1), some (.ref l2), x5, x6, x7, x8, x9] ∧ H' p3 = some (.tup [.ref p1, .ref p2]) ∧ Ent H' p1 (tupsW m) (m + 1) 21 ∧ Ent H' p2 (papsW k) k 40 ∧ Well H' wa ca turn1 ∧ LamX.Tabs Tb H') ⟨none, none, none, none, none, rfl, g3, E1, E2, W3.ext e4, T3.ext e4⟩ (fun i σ H _ P => .of P.choose_spec.choose_spec.choose_spec.choose_spec.choose_spec.2.1) (fun i y σ H8 hi P => ?_) (fun σ H8 P => ?_)
          · obtain ⟨x5, x6, x7, x8, x9, rfl, h8, F1, F2, W8, T8⟩ := P
            obtain ⟨ep, ws, deep, due, rfl, EE⟩ : ∃ ep ws deep due, y = .ref ep ∧ Ent H8 ep ws deep due := by
              match i, hi with
              | 0, hi => cases hi; exact ⟨_, _, _, _, rfl, F1⟩
              | 1, hi => cases hi; exact ⟨_, _, _, _, rfl, F2⟩
            obtain ⟨l, hep, hl⟩ := EE.ex
            have tw := EE.tw
            have hj : (ws.map (·.length)).sum + ws.length * (" " : Str).length ≤ 16777216 := by
              rw [show (" " : Str).length = 1 by decide +kernel, Nat.mul_one]
              exact tw.sum
            dsimp only [gCons, gName, gNil, gSub, gTup, gFld, iSeq, iList, iStr, iTup, iRng1, tAnd, tAndT, tAndV, tAsg, tAsg2, tAug, tB, tBM, tBM0, tBreak, tC, tCB, tCallR, tChain, tCons, tDrop, tFld, sFld, sFldAug, tFor_eq, tLc2_eq, tIf, tIfS, tIsN, tLc_eq, tLst, tM0, tM1, tMakeR, tMethR, tNever, tNm, tXk, tCallKw, tNext, tNil, tNoPart, tNot, tNotN, tNotT, tNotV, tOp, tOr, tOrT, tOrV, tOst, tPar, tPart, tRet, tRetN, tRg1, tSeq, tSl, tStar, tTest, tThen, tTup, tUn, C8.tCut, tVar]
            refine ⟨ep, _, rfl, .of hep, rfl, _, _, rfl, _, _, rfl, _, _, rfl, rfl, ⟨_, rfl⟩, .ref l, rfl, _, l, ws, rfl, rfl, .inl (.of hl), hj, ?_⟩
            refine ⟨fun σ' H' => ∃ v, σ' = [some (.ref wa), some (.int (m : Int)), some (.int (k : Int)), some (.ref l1), some (.ref l2), some (.ref l), some (.int (deep : Int)), some (.int (due : Int)), some (.str (Txt.join " " ws)), some v] ∧ LamX.ExtN H8 H' ∧ LamX.Tabs Tb H' ∧ ((deep ≤ 20 ∧ v = .non ∧ ∃ d, wholeM ws 0 = .ok d ∧ Wr d ws ∧ d.isKind = true ∧ d.dep ≤ 20) ∨ (¬ deep ≤ 20 ∧ ∃ u, v = .ref u ∧ H' u = some (.tup [.str "text", .int 0, .int (due : Int)]))), ?_, ?_⟩
            · have hgood : deep ≤ 20 → ∃ d, wholeM ws 0 = .ok d ∧ Wr d ws ∧ d.isKind = true ∧ d.dep ≤ 20 := fun h => by
                have := EE.due
                rw [if_pos h] at this
                exact this.ok
              have hbad : ¬ deep ≤ 20 → wholeM ws 0 = .err due := fun h => by
                have := EE.due
                rw [if_neg h] at this
                exact this.err
              refine ⟨T8, fun H9 e9 T9 Q1 hq1 => ⟨_, rfl, tw.spR (fun d hd v H10 e10 r10 => hq1 v H10 ?_) (fun p hp dd H10 hdd e10 hx => ⟨dd, rfl, .inr ⟨rfl, _, _, hx, fun u H11 e11 hu => ?_⟩⟩)⟩⟩
              · have h20 : deep ≤ 20 := by
                  rcases Nat.lt_or_ge 20 deep with z | z
                  · have := hbad (by omega)
                    rw [hd] at this
                    cases this
                  · exact z
                exact ⟨.non, rfl, e9.trans (extN_of e10), T9.ext e10, .inl ⟨h20, rfl, hgood h20⟩⟩
              · have h20 : ¬ deep ≤ 20 := fun z => by
                  obtain ⟨d, h, _⟩ := hgood z
                  rw [hp] at h
                  cases h
                have ep : p = due := by
                  have := hbad h20
                  rw [hp] at this
                  injection this
                subst ep
                exact ⟨.ref u, rfl, e9.trans (extN_of (e10.trans e11)), (T9.ext e10).ext e11, .inr ⟨h20, u, rfl, hu⟩⟩
            · rintro σ' H9 ⟨v, rfl, e9, T9, hv⟩
              refine ⟨_, rfl, fun y H' => Ext H9 H' ∧ ((deep ≤ 20 ∧ y = .non) ∨ (¬ deep ≤ 20 ∧ ∃ u, y = .ref u ∧ H' u = some (.tup [.str "text", .int 0, .int (due : Int)]))), ?_, ?_⟩
              · dsimp only [gCons, gName, gNil, gSub, gTup, gFld, iSeq, iList, iStr, iTup, iRng1, tAnd, tAndT, tAndV, tAsg, tAsg2, tAug, tB, tBM, tBM0, tBreak, tC, tCB, tCallR, tChain, tCons, tDrop, tFld, sFld, sFldAug, tFor_eq, tLc2_eq, tIf, tIfS, tIsN, tLc_eq, tLst, tM0, tM1, tMakeR, tMethR, tNever, tNm, tXk, tCallKw, tNext, tNil, tNoPart, tNot, tNotN, tNotT, tNotV, tOp, tOr, tOrT, tOrV, tOst, tPar, tPart, tRet, tRetN, tRg1, tSeq, tSl, tStar, tTest, tThen, tTup, tUn, C8.tCut, tVar]
                refine ⟨_, rfl, _, _, rfl, rfl, _, rfl, ?_⟩
                by_cases hd : deep ≤ 20
                · rw [if_pos (decide_eq_true (by omega))]
                  exact ⟨Ext.rfl', .inl ⟨hd, rfl⟩⟩
                · rw [if_neg (by simp; omega)]
                  exact ⟨_, rfl, by rw [sizeLine_eq]; simp, fun p hp => ⟨Ext.upd hp, .inr ⟨hd, p, rfl, upd_same⟩⟩⟩
              · rintro y H10 ⟨e10, hy⟩
                have fin : ∀ H', Ext H10 H' → ∃ x5 x6 x7 x8 x9, [some (V.ref wa), some (.int (m : Int)), some (.int (k : Int)), some (.ref l1), some (.ref l2), some (.ref l), some (.int (deep : Int)), some (.int (due : Int)), some (.str (Txt.join " " ws)), some v] = [some (.ref wa), some (.int (m : Int)), some (.int (k : Int)), some (.ref l1), some (.ref l2), x5, x6, x7, x8, x9] ∧ H' p3 = some (.tup [.ref p1, .ref p2]) ∧ Ent H' p1 (tupsW m) (m + 1) 21 ∧ Ent H' p2 (papsW k) k 40 ∧ Well H' wa ca turn1 ∧ LamX.Tabs Tb H' := fun H' e' =>
                  ⟨_, _, _, _, _, rfl, e' _ _ (e10 _ _ (e9 _ _ h8 (fun ps z => by cases z))), ((F1.extN e9).extN (extN_of e10)).extN (extN_of e'), ((F2.extN e9).extN (extN_of e10)).extN (extN_of e'), ((well_extN W8 e9).ext e10).ext e', (T9.ext e10).ext e'⟩
                rcases hv with ⟨hd, rfl, d, hw, wr, hk, hdp⟩ | ⟨hd, u, rfl, hu⟩
                · have hyn : y = .non := by
                    rcases hy with ⟨_, h⟩ | ⟨h, _⟩
                    · exact h
                    · exact absurd hd h
                  subst hyn
                  refine ⟨.none, .none, .non, .non, rfl, rfl, false, rfl, ?_⟩
                  rw [if_neg Bool.false_ne_true]
                  refine ⟨_, rfl, rfl, true, rfl, ?_⟩
                  rw [if_pos rfl]
                  refine ⟨_, rfl, tw.spR (fun d' hw' v H11 e11 r11 => ?_) (fun p hp => by rw [hw] at hp; cases hp)⟩
                  rw [hw] at hw'
                  cases hw'
                  refine tw.spT wr hk hdp r11 fun H12 e12 => ⟨_, rfl, rfl, false, by simp, ?_⟩
                  rw [if_neg Bool.false_ne_true]
                  exact fin _ (e11.trans e12)
                · obtain ⟨u2, rfl, hu2⟩ : ∃ u2, y = .ref u2 ∧ H10 u2 = some (.tup [.str "text", .int 0, .int (due : Int)]) := by
                    rcases hy with ⟨h, _⟩ | ⟨_, h⟩
                    · exact absurd h hd
                    · exact h
                  refine ⟨.tuple [.str "text", .int 0, .int (due : Int)], .tuple [.str "text", .int 0, .int (due : Int)], .tup (.of (e10 _ _ hu)) (.cons (.str _) (.cons (.int _) (.cons (.int _) .nil))), .tup (.of hu2) (.cons (.str _) (.cons (.int _) (.cons (.int _) .nil))), due_shaped _, due_shaped _, false, by rw [due_eqv]; rfl, ?_⟩
                  rw [if_neg Bool.false_ne_true]
                  refine ⟨_, rfl, rfl, false, congrArg V.bl (decide_eq_false (fun z => by cases z)), ?_⟩
                  rw [if_neg Bool.false_ne_true, if_neg Bool.false_ne_true]
                  exact fin _ Ext.rfl'
          · obtain ⟨x5, x6, x7, x8, x9, rfl, h8, F1, F2, W8, T8⟩ := P
            exact q turn1 H8 t1 W8 T8
end
end K94
set_option maxRecDepth 100000
set_option maxHeartbeats 4000000
/-! k95: slices of words; words that are repeated. -/
namespace K94
open PySem PySem.Spec PyProof.Rows L2 L2.Q Pp StX L2.SupX
theorem cut_take (ws : List Str) (k : Nat) : cutV (ws.map V.str) none (some (k : Int)) = (ws.take k).map V.str := by
  unfold cutV
  rw [HT.sIx_nat, HT.sIx_none, List.drop_zero, Nat.sub_zero, List.length_map, List.map_take]
  by_cases h : k ≤ ws.length
  · rw [Nat.min_eq_left h]
  · rw [Nat.min_eq_right (by omega), List.take_of_length_le (by simp), List.take_of_length_le (by simp; omega)]
theorem cut_drop (ws : List Str) (k : Nat) : cutV (ws.map V.str) (some (k : Int)) none = (ws.drop k).map V.str := by
  unfold cutV
  rw [HT.sIx_nat, HT.sIx_none, List.length_map, List.map_drop]
  by_cases h : k ≤ ws.length
  · rw [Nat.min_eq_left h, List.take_of_length_le (by simp)]
  · rw [Nat.min_eq_right (by omega), List.drop_of_length_le (by simp), List.drop_of_length_le (by simp; omega), List.take_nil]
def rpS (n : Int) (z : Str) : Str := ⟨(List.replicate n.toNat z.cps).foldl (· ++ ·) #[]⟩
theorem op_repS2 {X : Cx} : OpR X (binaryOp .Mult) (fun x y H Q => ∃ z n, x = .str z ∧ y = .int n ∧ 2 ≤ n ∧ n ≤ 1000 ∧ 1 ≤ z.length ∧ z.length ≤ 1000 ∧ Q (.str (rpS n z)) H) := fun pins s σ H x y v u Q I rx ry ⟨z, n, e1, e2, h1, h2, h3, h4, q⟩ => op_repS pins s σ H x y v u Q I rx ry ⟨z, n, e1, e2, h1, h2, h3, h4, q⟩
theorem okq1 : okQ (rpS 401 "1") = true := by decide +kernel
theorem okq2 : okQ (rpS 400 "9") = true := by decide +kernel
theorem okq3 : okQ (rpS 101 "x") = true := by decide +kernel
theorem okq4 : okQ (rpS 100 "x") = true := by decide +kernel
theorem v_intE (a b : Int) : decide (V.int a = V.int b) = decide (a = b) := by
  apply decide_eq_decide.mpr
  exact ⟨fun e => by injection e, fun e => congrArg V.int e⟩
def dueV : Option Nat → V
  | some p => .int (p : Int)
  | none => .non
theorem dueV_eq (o : Option Nat) : (match o with | some p => V.int (p : Int) | none => .non) = dueV o := by cases o <;> rfl
end K94
set_option maxRecDepth 100000
set_option maxHeartbeats 4000000
/-! k95: the law. -/
namespace K94
open PySem PySem.Spec PyProof.Rows L2 L2.Q Pp StX L2.SupX
theorem sc_law : FnScope [("script" : Str), ("well" : Str), ("turn" : Str), ("words" : Str), ("at" : Str), ("way" : Str), ("odd" : Str), ("text" : Str), ("due" : Str), ("heard" : Str)] [("script" : Str)] (defScope s_law) := ⟨rfl, rfl, rfl, by decide +kernel, rfl, by decide +kernel, by decide +kernel⟩
section
variable {w : World} {K : PySem.W.Frag} {mg : Str → Option Value} {base : Heap} (T : Txt w K mg)
include T
def spLaw (K : PySem.W.Frag) (P1 P2 : Addr) : Sp := fun vs H Q _ => ∃ (a : Addr) (ns : List Int), vs = [.ref a] ∧ SqL K H a (ns.map V.int) ∧ ns.length ≤ 63 ∧ H P1 = some (.tbl #[]) ∧ H P2 = some (.tbl #[]) ∧ ∀ H', Q (.bl true) H'
theorem law_ok {P1 P2 c : Addr} (cdv : Value) (hcd : cdv = .ref c) (TB1 : LamX.TabB base mg (He.codeOf K ("_law_deep_right", none)) P1) (TB : LamX.TabB base mg c P2) (hne : P1 ≠ P2) (A : Around) (outer : List Env) (s : Shared) (H : Hp) (vs : List V) (Q : VK) (E : XK) (hr : Room 200 (A.deeper (envOfC "law" (defScope s_law) s.heap.objs.size (He.ga K "law") cdv))) (h : spLaw K P1 P2 vs H Q E) :
    ∃ t, PSs (cxOf CX0 PR w K mg base [("script" : Str), ("well" : Str), ("turn" : Str), ("words" : Str), ("at" : Str), ("way" : Str), ("odd" : Str), ("text" : Str), ("due" : Str), ("heard" : Str)] "law" (defScope s_law) (He.ga K "law") cdv A outer s H E).nox (defBody s_law) t ∧ t { nx := fun _ H' => Q .non H', rt := Q } (L2.start [("script" : Str), ("well" : Str), ("turn" : Str), ("words" : Str), ("at" : Str), ("way" : Str), ("odd" : Str), ("text" : Str), ("due" : Str), ("heard" : Str)] vs) H := by
  have F__law_well := F__law_well (base := base) T
  have F__law_one := F__law_one (base := base) T
  have F__law_draw := F__law_draw (base := base) T
  have F__law_fault := F__law_fault (base := base) T
  have F__law_paper_words := F__law_paper_words (base := base) T
  have F__law_deep_right := F__law_deep_right (base := base) T TB1 hne
  obtain ⟨_, FX_paper_text⟩ := both_paper_text (base := base) T
  obtain ⟨_, FX_read_paper⟩ := both_read_paper (base := base) T
  have F_paper_text := fnR_calm FX_paper_text
  have F_read_paper := fnR_calm FX_read_paper
  obtain ⟨fdS, FS⟩ := T.F__law_said
  have HBS := FS.bindsN (ps := [("ask" : Str)]) (fun kV doc pm an cdv ct us hl => match us, hl with | [_], _ => rfl)
  obtain ⟨oc, od, dV, kV, doc, pm, an, cdS, ct, osl, rfl, lkS, hcS, _, _⟩ := FS.ex
  let Tb : List (Addr × Str) := Tb2 P1 P2
  have hmT : (P2, ("law.<locals>.<lambda>" : Str)) ∈ Tb := List.mem_cons_of_mem _ List.mem_cons_self
  have huT : ∀ p ∈ Tb, p.1 = P2 → p.2 = ("law.<locals>.<lambda>" : Str) := fun p hp e => by
    rcases List.mem_cons.mp hp with rfl | hp
    · exact absurd e hne
    · rw [List.mem_singleton.mp hp]
  refine ⟨_, (pss_cons (ps_set (i := 1) sc_law.nd rfl (Or.inl rfl) (pe_callR F__law_well (hr.mono (by omega)) T.k__law_well T.g__law_well rfl pass0 (pa_cons (pv 0) pa_nil)))
      (C8.pss_cut (ps_if (pt_not (pt_val (pe_callR F__law_deep_right (hr.mono (by omega)) T.k__law_deep_right T.g__law_deep_right rfl pass0 (pa_cons (pv 1) pa_nil)))) (pss_one (ps_ret pe_bl)) pss_nil)
      (pss_cons (ps_for PassesOwn.never rfl (pi_range1 rfl T.n_range (pa_cons pe_int pa_nil)) (pg_name (i := 2) sc_law.nd rfl (Or.inl rfl)) (C8.pss_cut (ps_set (i := 3) sc_law.nd rfl (Or.inl rfl) (pe_callR F__law_paper_words (hr.mono (by omega)) T.k__law_paper_words T.g__law_paper_words rfl pass0 (pa_cons (pv 1) (pa_cons pe_int pa_nil))))
      (C8.pss_cut (ps_par (i := 4) (j := 5) rfl sc_law.nd rfl rfl (by decide) rfl rfl (pa_cons (pe_callR F__law_draw (hr.mono (by omega)) T.k__law_draw T.g__law_draw rfl pass0 (pa_cons (pv 1) (pa_cons (pe_callB call_len (by rfl) T.n_len PySem.boot_len (pa_cons (pv 3) pa_nil)) pa_nil))) (pa_cons (pe_callR F__law_draw (hr.mono (by omega)) T.k__law_draw T.g__law_draw rfl pass0 (pa_cons (pv 1) (pa_cons pe_int pa_nil))) pa_nil)) (by rfl))
      (C8.pss_cut (ps_set (i := 6) sc_law.nd rfl (Or.inl rfl) (pe_callR F__law_one (hr.mono (by omega)) T.k__law_one T.g__law_one rfl pass0 (pa_cons (pv 1) (pa_cons (pe_lst (pa_cons pe_str (pa_cons pe_str (pa_cons pe_str (pa_cons pe_str (pa_cons pe_str (pa_cons pe_str (pa_cons pe_str (pa_cons pe_str (pa_cons pe_str (pa_cons pe_str (pa_cons pe_str (pa_cons pe_str (pa_cons pe_str (pa_cons pe_str (pa_cons pe_str (pa_cons pe_str (pa_cons (pe_op op_repS2 pe_str pe_int) (pa_cons (pe_op op_repS2 pe_str pe_int) (pa_cons (pe_op op_repS2 pe_str pe_int) (pa_cons (pe_op op_repS2 pe_str pe_int) (pa_cons pe_str pa_nil)))))))))))))))))))))) pa_nil))))
      (C8.pss_cut (ps_if (pt_cmpR op_eq (pv 5) pe_int (nomark _)) (pss_one (ps_set (i := 3) sc_law.nd rfl (Or.inl rfl) (pe_op op_cat (pe_slice sl_list (pv 3) po_none (po_some (pv 4))) (pe_slice sl_list (pv 3) (po_some (pe_op op_add (pv 4) pe_int)) po_none)))) (pss_one (ps_if (pt_cmpR op_eq (pv 5) pe_int (nomark _)) (pss_one (ps_set (i := 3) sc_law.nd rfl (Or.inl rfl) (pe_op op_cat (pe_op op_cat (pe_slice sl_list (pv 3) po_none (po_some (pv 4))) (pe_lst (pa_cons (pv 6) pa_nil))) (pe_slice sl_list (pv 3) (po_some (pv 4)) po_none)))) (pss_one (ps_if (pt_cmpR op_eq (pv 5) pe_int (nomark _)) (pss_one (ps_set (i := 3) sc_law.nd rfl (Or.inl rfl) (pe_op op_cat (pe_op op_cat (pe_slice sl_list (pv 3) po_none (po_some (pv 4))) (pe_lst (pa_cons (pv 6) pa_nil))) (pe_slice sl_list (pv 3) (po_some (pe_op op_add (pv 4) pe_int)) po_none)))) (pss_one (ps_if (pt_cmpR op_eq (pv 5) pe_int (nomark _)) (pss_one (ps_set (i := 3) sc_law.nd rfl (Or.inl rfl) (pe_slice sl_list (pv 3) po_none (po_some (pv 4))))) (pss_one (ps_if (pt_cmpR op_eq (pv 5) pe_int (nomark _)) (pss_one (ps_set (i := 3) sc_law.nd rfl (Or.inl rfl) (pe_op op_cat (pv 3) (pe_lst (pa_cons (pv 6) pa_nil))))) pss_nil)))))))))
      (C8.pss_cut (ps_set (i := 3) sc_law.nd rfl (Or.inl rfl) (pe_cut (pe_ifExp (pt_cmpR (op_neNil hr.units0) (pv 3) (pe_lst pa_nil) (nomark _)) (pv 3) (pe_lst (pa_cons pe_str pa_nil)))))
      (C8.pss_cut (ps_asg (pe_tup (pa_cons (pe_join pe_str (pv 3)) (pa_cons (pe_callR F__law_fault (hr.mono (by omega)) T.k__law_fault T.g__law_fault rfl pass0 (pa_cons (pv 3) pa_nil)) pa_nil))) (pg_tup rfl (pgs_cons (pg_name (i := 7) sc_law.nd rfl (Or.inr rfl)) (pgs_cons (pg_name (i := 8) sc_law.nd rfl (Or.inl rfl)) pgs_nil))))
      (C8.pss_cut (ps_set (i := 9) sc_law.nd rfl (Or.inl rfl) (LamX.pe_lamcall (T := Tb) (k := 170) rfl T.g__law_said T.k__law_said lkS hcS HBS sc__law_said rfl (by first | exact .inl rfl | exact .inr rfl | rfl) (said_gives T) TB hcd hmT huT (hr.mono (by omega)) (LamX.lamS_by (by rfl)) rfl (fun _ _ _ _ _ => rfl) (fun A outer s H E f c' hr => (pe_callR FX_read_paper (hr.mono (by omega)) T.k_read_paper T.g_read_paper rfl (passes_call (takes_of rfl rfl rfl rfl) (fun _ _ _ _ h => h)) (pa_cons (pv 7) pa_nil)))))
      (pss_one (ps_if (PW.pt (pw_or (pt_cmpR (op_neD (units64 hr)) (pv 9) (pe_cut (pe_ifExp (pt_cmpR op_notN (pv 8) pe_non (nomark _)) (pe_tup (pa_cons pe_str (pa_cons pe_int (pa_cons (pv 8) pa_nil)))) pe_non)) (nomark _)) (pw_or1 (PW.pt (pw_and (pt_cmpR op_isN (pv 8) pe_non (nomark _)) (pw_and1 (pt_cmpR op_ne (pe_callR F_paper_text (hr.mono (by omega)) T.k_paper_text T.g_paper_text rfl pass0 (pa_cons (pe_callR F_read_paper (hr.mono (by omega)) T.k_read_paper T.g_read_paper rfl pass0 (pa_cons (pv 7) pa_nil)) pa_nil)) (pv 7) (nomark _)))))))) (pss_one (ps_ret pe_bl)) pss_nil))))))))))
      (pss_one (ps_ret pe_bl))))), ?_⟩
  obtain ⟨a, ns, rfl, ha, hns, hP1, hP2, q⟩ := h
  dsimp only [gCons, gName, gNil, gSub, gTup, gFld, iSeq, iList, iStr, iTup, iRng1, tAnd, tAndT, tAndV, tAsg, tAsg2, tAug, tB, tBM, tBM0, tBreak, tC, tCB, tCallR, tChain, tCons, tDrop, tFld, sFld, sFldAug, tFor_eq, tLc2_eq, tIf, tIfS, tIsN, tLc_eq, tLst, tM0, tM1, tMakeR, tMethR, tNever, tNm, tXk, tCallKw, tNext, tNil, tNoPart, tNot, tNotN, tNotT, tNotV, tOp, tOr, tOrT, tOrV, tOst, tPar, tPart, tRet, tRetN, tRg1, tSeq, tSl, tStar, tTest, tThen, tTup, tUn, C8.tCut, tVar]
  refine ⟨.ref a, rfl, a, ns, rfl, ha, by omega, fun wa ca H1 e1 hwa W => ?_⟩
  have T1 : LamX.Tabs Tb H1 := fun p hp => by
    rcases List.mem_cons.mp hp with rfl | hp
    · exact LamX.TabS.nil (e1 _ _ hP1)
    · rw [List.mem_singleton.mp hp]
      exact LamX.TabS.nil (e1 _ _ hP2)
  refine ⟨fun σ' H' => ∃ turn, σ' = [some (.ref a), some (.ref wa), none, none, none, none, none, none, none, none] ∧ Well H' wa ca turn ∧ turn ≤ 2 ∧ LamX.Tabs Tb H', ?_, ?_⟩
  · refine ⟨_, rfl, wa, ca, 0, rfl, W, by omega, T1, fun turn H2 t2 W2 T2 => ⟨_, rfl, ?_⟩⟩
    rw [if_neg (show ¬ (!true) = true from Bool.false_ne_true)]
    exact ⟨turn, rfl, W2, by omega, T2⟩
  rintro σ' H2 ⟨turn, rfl, W2, t2, T2⟩
  refine ⟨20, rfl, by decide, by decide, for_range (fun i σ' H' => ∃ x2 x3 x4 x5 x6 x7 x8 x9 turn, σ' = [some (.ref a), some (.ref wa), x2, x3, x4, x5, x6, x7, x8, x9] ∧ Well H' wa ca turn ∧ turn ≤ 2 + i * 752 ∧ LamX.Tabs Tb H') ⟨none, none, none, none, none, none, none, none, turn, rfl, W2, by omega, T2⟩ (fun i σ' H3 hi Pv => ?_) (fun σ' H3 Pv => q _)⟩
  obtain ⟨x2, x3, x4, x5, x6, x7, x8, x9, turn3, rfl, W3, t3, T3⟩ := Pv
  have hi' : i < 20 := hi
  have b3 : 2 * bT 3 + 1 = 749 := rfl
  have b4 : 2 * bW 3 + 3 = 109 := rfl
  dsimp only [gCons, gName, gNil, gSub, gTup, gFld, iSeq, iList, iStr, iTup, iRng1, tAnd, tAndT, tAndV, tAsg, tAsg2, tAug, tB, tBM, tBM0, tBreak, tC, tCB, tCallR, tChain, tCons, tDrop, tFld, sFld, sFldAug, tFor_eq, tLc2_eq, tIf, tIfS, tIsN, tLc_eq, tLst, tM0, tM1, tMakeR, tMethR, tNever, tNm, tXk, tCallKw, tNext, tNil, tNoPart, tNot, tNotN, tNotT, tNotV, tOp, tOr, tOrT, tOrV, tOst, tPar, tPart, tRet, tRetN, tRg1, tSeq, tSl, tStar, tTest, tThen, tTup, tUn, C8.tCut, tVar]
  refine ⟨fun σ' H' => ∃ x2 l ws turn4, σ' = [some (.ref a), some (.ref wa), x2, some (.ref l), x4, x5, x6, x7, x8, x9] ∧ H' l = some (.lst (ws.map V.str)) ∧ Dr 4 ws ∧ ws ≠ [] ∧ ws.length ≤ 109 ∧ Well H' wa ca turn4 ∧ turn4 ≤ turn3 + 749 ∧ LamX.Tabs Tb H', ?_, ?_⟩
  · exact ⟨_, rfl, wa, ca, turn3, rfl, W3, by omega, fun l ws turn4 H4 t4 e4 W4 hl hd hne hlen => ⟨_, l, ws, turn4, rfl, hl, hd, hne, by omega, W4, by omega, tabs_extB W3 e4 T3⟩⟩
  rintro σ' H4 ⟨x2, l, ws, turn4, rfl, hl, hd, hne0, hlen, W4, t4, T4⟩
  have hpos : 0 < ws.length := List.length_pos_iff.mpr hne0
  refine ⟨fun σ' H' => ∃ (k : Nat) (way : Int) (turn5 : Nat), σ' = [some (.ref a), some (.ref wa), x2, some (.ref l), some (.int (k : Int)), some (.int way), x6, x7, x8, x9] ∧ H' l = some (.lst (ws.map V.str)) ∧ k < ws.length ∧ 0 ≤ way ∧ way < 6 ∧ Well H' wa ca turn5 ∧ turn5 ≤ turn4 + 2 ∧ LamX.Tabs Tb H', ?_, ?_⟩
  · dsimp only [gCons, gName, gNil, gSub, gTup, gFld, iSeq, iList, iStr, iTup, iRng1, tAnd, tAndT, tAndV, tAsg, tAsg2, tAug, tB, tBM, tBM0, tBreak, tC, tCB, tCallR, tChain, tCons, tDrop, tFld, sFld, sFldAug, tFor_eq, tLc2_eq, tIf, tIfS, tIsN, tLc_eq, tLst, tM0, tM1, tMakeR, tMethR, tNever, tNm, tXk, tCallKw, tNext, tNil, tNoPart, tNot, tNotN, tNotT, tNotV, tOp, tOr, tOrT, tOrV, tOst, tPar, tPart, tRet, tRetN, tRg1, tSeq, tSl, tStar, tTest, tThen, tTup, tUn, C8.tCut, tVar]
    refine ⟨_, rfl, _, rfl, .ref l, ws.length, rfl, .inl ⟨_, .of hl, by simp⟩, wa, ca, ws.length, turn4, rfl, by omega, W4, by omega, fun r turn5 H5 h0 h1 t5 e5 W5 => ?_⟩
    obtain ⟨k, rfl⟩ : ∃ k : Nat, r = (k : Int) := ⟨r.toNat, by omega⟩
    have lw := well_strs W4 hl
    refine ⟨_, rfl, wa, ca, 6, turn5, rfl, by omega, W5, by omega, fun way turn6 H6 h2 h3 t6 e6 W6 => ⟨_, _, rfl, k, way, turn6, rfl, e6 _ _ lw (e5 _ _ lw hl), by omega, h2, by omega, W6, by omega, tabs_extB W5 e6 (tabs_extB W4 e5 T4)⟩⟩
  rintro σ' H5 ⟨k, way, turn5, rfl, hl5, hk, hw0, hw6, W5, t5, T5⟩
  refine ⟨fun σ' H' => ∃ (z : Str) (turn6 : Nat), σ' = [some (.ref a), some (.ref wa), x2, some (.ref l), some (.int (k : Int)), some (.int way), some (.str z), x7, x8, x9] ∧ okQ z = true ∧ H' l = some (.lst (ws.map V.str)) ∧ Well H' wa ca turn6 ∧ turn6 ≤ turn5 + 1 ∧ LamX.Tabs Tb H', ?_, ?_⟩
  · dsimp only [gCons, gName, gNil, gSub, gTup, gFld, iSeq, iList, iStr, iTup, iRng1, tAnd, tAndT, tAndV, tAsg, tAsg2, tAug, tB, tBM, tBM0, tBreak, tC, tCB, tCallR, tChain, tCons, tDrop, tFld, sFld, sFldAug, tFor_eq, tLc2_eq, tIf, tIfS, tIsN, tLc_eq, tLst, tM0, tM1, tMakeR, tMethR, tNever, tNm, tXk, tCallKw, tNext, tNil, tNoPart, tNot, tNotN, tNotT, tNotV, tOp, tOr, tOrT, tOrV, tOst, tPar, tPart, tRet, tRetN, tRg1, tSeq, tSl, tStar, tTest, tThen, tTup, tUn, C8.tCut, tVar]
    refine ⟨_, rfl, "1", 401, rfl, rfl, by omega, by omega, by decide +kernel, by decide +kernel, "9", 400, rfl, rfl, by omega, by omega, by decide +kernel, by decide +kernel, "x", 101, rfl, rfl, by omega, by omega, by decide +kernel, by decide +kernel, "x", 100, rfl, rfl, by omega, by omega, by decide +kernel, by decide +kernel, by rw [sizeLine_eq]; simp, fun p hp => ?_⟩
    refine ⟨wa, ca, p, _, turn5, rfl, upd_same, well_new W5 hp, by simp, by simp, W5.ext (Ext.upd hp), by omega, fun x hx turn6 H6 t6 e6 W6 => ?_⟩
    obtain ⟨z, rfl, hz⟩ : ∃ z, x = .str z ∧ okQ z = true := by
      simp only [List.mem_cons, List.mem_nil_iff, or_false] at hx
      rcases hx with rfl | rfl | rfl | rfl | rfl | rfl | rfl | rfl | rfl | rfl | rfl | rfl | rfl | rfl | rfl | rfl | rfl | rfl | rfl | rfl | rfl
      · exact ⟨_, rfl, by decide +kernel⟩
      · exact ⟨_, rfl, by decide +kernel⟩
      · exact ⟨_, rfl, by decide +kernel⟩
      · exact ⟨_, rfl, by decide +kernel⟩
      · exact ⟨_, rfl, by decide +kernel⟩
      · exact ⟨_, rfl, by decide +kernel⟩
      · exact ⟨_, rfl, by decide +kernel⟩
      · exact ⟨_, rfl, by decide +kernel⟩
      · exact ⟨_, rfl, by decide +kernel⟩
      · exact ⟨_, rfl, by decide +kernel⟩
      · exact ⟨_, rfl, by decide +kernel⟩
      · exact ⟨_, rfl, by decide +kernel⟩
      · exact ⟨_, rfl, by decide +kernel⟩
      · exact ⟨_, rfl, by decide +kernel⟩
      · exact ⟨_, rfl, by decide +kernel⟩
      · exact ⟨_, rfl, by decide +kernel⟩
      · exact ⟨_, rfl, okq1⟩
      · exact ⟨_, rfl, okq2⟩
      · exact ⟨_, rfl, okq3⟩
      · exact ⟨_, rfl, okq4⟩
      · exact ⟨_, rfl, by decide +kernel⟩
    have lw := well_strs W5 hl5
    exact ⟨z, turn6, rfl, hz, e6 _ _ lw (Ext.upd hp _ _ hl5), W6, t6, tabs_extB (W5.ext (Ext.upd hp)) e6 (T5.ext (Ext.upd hp))⟩
  rintro σ' H6 ⟨z, turn6, rfl, hz, hl6, W6, t6, T6⟩
  refine ⟨fun σ' H' => ∃ l2 ws2, σ' = [some (.ref a), some (.ref wa), x2, some (.ref l2), some (.int (k : Int)), some (.int way), some (.str z), x7, x8, x9] ∧ H' l2 = some (.lst (ws2.map V.str)) ∧ Bent ws2 ∧ Ext H6 H', ?_, ?_⟩
  · dsimp only [gCons, gName, gNil, gSub, gTup, gFld, iSeq, iList, iStr, iTup, iRng1, tAnd, tAndT, tAndV, tAsg, tAsg2, tAug, tB, tBM, tBM0, tBreak, tC, tCB, tCallR, tChain, tCons, tDrop, tFld, sFld, sFldAug, tFor_eq, tLc2_eq, tIf, tIfS, tIsN, tLc_eq, tLst, tM0, tM1, tMakeR, tMethR, tNever, tNm, tXk, tCallKw, tNext, tNil, tNoPart, tNot, tNotN, tNotT, tNotV, tOp, tOr, tOrT, tOrV, tOst, tPar, tPart, tRet, tRetN, tRg1, tSeq, tSl, tStar, tTest, tThen, tTup, tUn, C8.tCut, tVar]
    refine ⟨_, rfl, rfl, _, rfl, ?_⟩
    rw [v_intE]
    by_cases w1 : way = 1
    · rw [decide_eq_true w1, if_pos rfl]
      refine ⟨_, rfl, _, rfl, _, rfl, l, _, rfl, .of hl6, fun p hp => ?_⟩
      rw [cut_take]
      have e1 := Ext.upd (o := .lst ((ws.take k).map V.str)) hp
      have g1 : upd H6 p (.lst ((ws.take k).map V.str)) p = _ := upd_same
      have l1 := e1 _ _ hl6
      generalize upd H6 p (.lst ((ws.take k).map V.str)) = Ha at e1 g1 l1 ⊢
      refine ⟨_, rfl, _, rfl, _, _, rfl, rfl, _, rfl, l, _, rfl, .of l1, fun p2 hp2 => ?_⟩
      rw [show (k : Int) + 1 = ((k + 1 : Nat) : Int) by omega, cut_drop]
      refine ⟨p, p2, _, _, rfl, rfl, Ext.upd hp2 _ _ g1, upd_same, by rw [sizeLine_eq]; simp; omega, fun p3 hp3 => ⟨p3, ws.take k ++ ws.drop (k + 1), rfl, by rw [upd_same]; simp, hd.del (by omega) hk, e1.trans ((Ext.upd hp2).trans (Ext.upd hp3))⟩⟩
    · rw [decide_eq_false w1, if_neg Bool.false_ne_true]
      refine ⟨_, rfl, rfl, _, rfl, ?_⟩
      rw [v_intE]
      by_cases w2 : way = 2
      · rw [decide_eq_true w2, if_pos rfl]
        refine ⟨_, rfl, _, rfl, _, rfl, l, _, rfl, .of hl6, fun p hp => ?_⟩
        rw [cut_take]
        have e1 := Ext.upd (o := .lst ((ws.take k).map V.str)) hp
        have g1 : upd H6 p (.lst ((ws.take k).map V.str)) p = _ := upd_same
        have l1 := e1 _ _ hl6
        generalize upd H6 p (.lst ((ws.take k).map V.str)) = Ha at e1 g1 l1 ⊢
        refine ⟨_, rfl, by rw [sizeLine_eq]; simp, fun p2 hp2 => ⟨p, p2, _, _, rfl, rfl, Ext.upd hp2 _ _ g1, upd_same, by rw [sizeLine_eq]; simp; omega, fun p3 hp3 => ?_⟩⟩
        have e2 := e1.trans ((Ext.upd (o := .lst [.str z]) hp2).trans (Ext.upd (o := .lst ((ws.take k).map V.str ++ [.str z])) hp3))
        have g3 : upd (upd Ha p2 (.lst [.str z])) p3 (.lst ((ws.take k).map V.str ++ [.str z])) p3 = _ := upd_same
        have l3 := e2 _ _ hl6
        generalize upd (upd Ha p2 (.lst [.str z])) p3 (.lst ((ws.take k).map V.str ++ [.str z])) = Hb at e2 g3 l3 ⊢
        refine ⟨_, rfl, _, rfl, _, rfl, l, _, rfl, .of l3, fun p4 hp4 => ?_⟩
        rw [cut_drop]
        refine ⟨p3, p4, _, _, rfl, rfl, Ext.upd hp4 _ _ g3, upd_same, by rw [sizeLine_eq]; simp; omega, fun p5 hp5 => ⟨p5, ws.take k ++ [z] ++ ws.drop k, rfl, by rw [upd_same]; simp, hd.ins (by omega) hz k, e2.trans ((Ext.upd hp4).trans (Ext.upd hp5))⟩⟩
      · rw [decide_eq_false w2, if_neg Bool.false_ne_true]
        refine ⟨_, rfl, rfl, _, rfl, ?_⟩
        rw [v_intE]
        by_cases w3 : way = 3
        · rw [decide_eq_true w3, if_pos rfl]
          refine ⟨_, rfl, _, rfl, _, rfl, l, _, rfl, .of hl6, fun p hp => ?_⟩
          rw [cut_take]
          have e1 := Ext.upd (o := .lst ((ws.take k).map V.str)) hp
          have g1 : upd H6 p (.lst ((ws.take k).map V.str)) p = _ := upd_same
          have l1 := e1 _ _ hl6
          generalize upd H6 p (.lst ((ws.take k).map V.str)) = Ha at e1 g1 l1 ⊢
          refine ⟨_, rfl, by rw [sizeLine_eq]; simp, fun p2 hp2 => ⟨p, p2, _, _, rfl, rfl, Ext.upd hp2 _ _ g1, upd_same, by rw [sizeLine_eq]; simp; omega, fun p3 hp3 => ?_⟩⟩
          have e2 := e1.trans ((Ext.upd (o := .lst [.str z]) hp2).trans (Ext.upd (o := .lst ((ws.take k).map V.str ++ [.str z])) hp3))
          have g3 : upd (upd Ha p2 (.lst [.str z])) p3 (.lst ((ws.take k).map V.str ++ [.str z])) p3 = _ := upd_same
          have l3 := e2 _ _ hl6
          generalize upd (upd Ha p2 (.lst [.str z])) p3 (.lst ((ws.take k).map V.str ++ [.str z])) = Hb at e2 g3 l3 ⊢
          refine ⟨_, rfl, _, rfl, _, _, rfl, rfl, _, rfl, l, _, rfl, .of l3, fun p4 hp4 => ?_⟩
          rw [show (k : Int) + 1 = ((k + 1 : Nat) : Int) by omega, cut_drop]
          refine ⟨p3, p4, _, _, rfl, rfl, Ext.upd hp4 _ _ g3, upd_same, by rw [sizeLine_eq]; simp; omega, fun p5 hp5 => ⟨p5, ws.take k ++ [z] ++ ws.drop (k + 1), rfl, by rw [upd_same]; simp, hd.rep (by omega) hz hk, e2.trans ((Ext.upd hp4).trans (Ext.upd hp5))⟩⟩
        · rw [decide_eq_false w3, if_neg Bool.false_ne_true]
          refine ⟨_, rfl, rfl, _, rfl, ?_⟩
          rw [v_intE]
          by_cases w4 : way = 4
          · rw [decide_eq_true w4, if_pos rfl]
            refine ⟨_, rfl, _, rfl, _, rfl, l, _, rfl, .of hl6, fun p hp => ?_⟩
            rw [cut_take]
            have e1 := Ext.upd (o := .lst ((ws.take k).map V.str)) hp
            have g1 : upd H6 p (.lst ((ws.take k).map V.str)) p = _ := upd_same
            have l1 := e1 _ _ hl6
            generalize upd H6 p (.lst ((ws.take k).map V.str)) = Ha at e1 g1 l1 ⊢
            exact ⟨p, ws.take k, rfl, g1, hd.pre (by omega) k, e1⟩
          · rw [decide_eq_false w4, if_neg Bool.false_ne_true]
            refine ⟨_, rfl, rfl, _, rfl, ?_⟩
            rw [v_intE]
            by_cases w5 : way = 5
            · rw [decide_eq_true w5, if_pos rfl]
              exact ⟨_, rfl, _, rfl, by rw [sizeLine_eq]; simp, fun p2 hp2 => ⟨l, p2, _, _, rfl, rfl, Ext.upd hp2 _ _ hl6, upd_same, by rw [sizeLine_eq]; simp; omega, fun p3 hp3 => ⟨p3, ws ++ [z], rfl, by rw [upd_same]; simp, hd.snoc (by omega) hz, (Ext.upd hp2).trans (Ext.upd hp3)⟩⟩⟩
            · rw [decide_eq_false w5, if_neg Bool.false_ne_true]
              exact ⟨l, ws, rfl, hl6, .ofDr hd (by omega), Ext.rfl'⟩
  rintro σ' H7 ⟨l2, ws2, rfl, hl2, hB, e7⟩
  refine ⟨fun σ' H' => ∃ l3 ws3, σ' = [some (.ref a), some (.ref wa), x2, some (.ref l3), some (.int (k : Int)), some (.int way), some (.str z), x7, x8, x9] ∧ H' l3 = some (.lst (ws3.map V.str)) ∧ Bent ws3 ∧ ws3 ≠ [] ∧ Ext H7 H', ?_, ?_⟩
  · dsimp only [gCons, gName, gNil, gSub, gTup, gFld, iSeq, iList, iStr, iTup, iRng1, tAnd, tAndT, tAndV, tAsg, tAsg2, tAug, tB, tBM, tBM0, tBreak, tC, tCB, tCallR, tChain, tCons, tDrop, tFld, sFld, sFldAug, tFor_eq, tLc2_eq, tIf, tIfS, tIsN, tLc_eq, tLst, tM0, tM1, tMakeR, tMethR, tNever, tNm, tXk, tCallKw, tNext, tNil, tNoPart, tNot, tNotN, tNotT, tNotV, tOp, tOr, tOrT, tOrV, tOst, tPar, tPart, tRet, tRetN, tRg1, tSeq, tSl, tStar, tTest, tThen, tTup, tUn, C8.tCut, tVar]
    refine ⟨fun v H' => ∃ l3 ws3, v = .ref l3 ∧ H' l3 = some (.lst (ws3.map V.str)) ∧ Bent ws3 ∧ ws3 ≠ [] ∧ Ext H7 H', ?_, ?_⟩
    · dsimp only [gCons, gName, gNil, gSub, gTup, gFld, iSeq, iList, iStr, iTup, iRng1, tAnd, tAndT, tAndV, tAsg, tAsg2, tAug, tB, tBM, tBM0, tBreak, tC, tCB, tCallR, tChain, tCons, tDrop, tFld, sFld, sFldAug, tFor_eq, tLc2_eq, tIf, tIfS, tIsN, tLc_eq, tLst, tM0, tM1, tMakeR, tMethR, tNever, tNm, tXk, tCallKw, tNext, tNil, tNoPart, tNot, tNotN, tNotT, tNotV, tOp, tOr, tOrT, tOrV, tOst, tPar, tPart, tRet, tRetN, tRg1, tSeq, tSl, tStar, tTest, tThen, tTup, tUn, C8.tCut, tVar]
      refine ⟨_, rfl, by rw [sizeLine_eq]; simp, fun p hp => ⟨l2, p, _, rfl, rfl, .of (Ext.upd hp _ _ hl2), upd_same, _, rfl, ?_⟩⟩
      cases ws2 with
      | nil =>
        rw [if_neg (by decide)]
        exact ⟨by rw [sizeLine_eq]; simp, fun p2 hp2 => ⟨p2, [""], rfl, upd_same, bent_empty, by simp, (Ext.upd hp).trans (Ext.upd hp2)⟩⟩
      | cons a b =>
        rw [if_pos (show (!(List.map V.str (a :: b)).isEmpty) = true from rfl)]
        exact ⟨_, rfl, l2, a :: b, rfl, Ext.upd hp _ _ hl2, hB, by simp, Ext.upd hp⟩
    · rintro v H8 ⟨l3, ws3, rfl, h3, hB3, hne3, e8⟩
      exact ⟨l3, ws3, rfl, h3, hB3, hne3, e8⟩
  rintro σ' H8 ⟨l3, ws3, rfl, hl3, hB3, hne3, e8⟩
  have W8 := (W6.ext e7).ext e8
  have T8 := (T6.ext e7).ext e8
  have tw := hB3.tw hne3
  have hD := hB3.due hne3
  have hj : (ws3.map (·.length)).sum + ws3.length * (" " : Str).length ≤ 16777216 := by
    rw [show (" " : Str).length = 1 by decide +kernel, Nat.mul_one]
    exact tw.sum
  have hfl : ∀ w ∈ ws3, w.length ≤ 700 := fun w hw => by have := (tw.q w hw).len; omega
  generalize ho : faultM ws3 0 [] = o at hD
  refine ⟨fun σ' H' => σ' = [some (.ref a), some (.ref wa), x2, some (.ref l3), some (.int (k : Int)), some (.int way), some (.str z), some (.str (Txt.join " " ws3)), some (dueV o), x9] ∧ Ext H8 H', ?_, ?_⟩
  · dsimp only [gCons, gName, gNil, gSub, gTup, gFld, iSeq, iList, iStr, iTup, iRng1, tAnd, tAndT, tAndV, tAsg, tAsg2, tAug, tB, tBM, tBM0, tBreak, tC, tCB, tCallR, tChain, tCons, tDrop, tFld, sFld, sFldAug, tFor_eq, tLc2_eq, tIf, tIfS, tIsN, tLc_eq, tLst, tM0, tM1, tMakeR, tMethR, tNever, tNm, tXk, tCallKw, tNext, tNil, tNoPart, tNot, tNotN, tNotT, tNotV, tOp, tOr, tOrT, tOrV, tOst, tPar, tPart, tRet, tRetN, tRg1, tSeq, tSl, tStar, tTest, tThen, tTup, tUn, C8.tCut, tVar]
    refine ⟨⟨_, rfl⟩, _, rfl, _, l3, ws3, rfl, rfl, .inl (.of hl3), hj, _, rfl, l3, ws3, rfl, hl3, tw.few, hfl, fun H9 e9 => ⟨by rw [sizeLine_eq]; simp, fun p hp => ⟨p, _, rfl, .of upd_same, rfl, _, _, rfl, _, _, rfl, rfl, ?_, e9.trans (Ext.upd hp)⟩⟩⟩
    rw [← dueV_eq, ho]
    rfl
  rintro σ' H9 ⟨rfl, e9⟩
  refine ⟨fun σ' H' => ∃ v, σ' = [some (.ref a), some (.ref wa), x2, some (.ref l3), some (.int (k : Int)), some (.int way), some (.str z), some (.str (Txt.join " " ws3)), some (dueV o), some v] ∧ LamX.ExtN H9 H' ∧ LamX.Tabs Tb H' ∧ ((o = none ∧ v = .non ∧ ∃ d, wholeM ws3 0 = .ok d ∧ Wr d ws3 ∧ d.isKind = true ∧ d.dep ≤ 20) ∨ (∃ p, o = some p ∧ ∃ u, v = .ref u ∧ H' u = some (.tup [.str "text", .int 0, .int ((p : Nat) : Int)]))), ?_, ?_⟩
  · refine ⟨T8.ext e9, fun H10 e10 T10 Q1 hq1 => ⟨_, rfl, tw.spR (fun d hd2 v H11 e11 r11 => hq1 v H11 ?_) (fun p hp dd H11 hdd e11 hx => ⟨dd, rfl, .inr ⟨rfl, _, _, hx, fun u H12 e12 hu => ?_⟩⟩)⟩⟩
    · cases o with
      | none => exact ⟨.non, rfl, e10.trans (extN_of e11), T10.ext e11, .inl ⟨rfl, rfl, hD.ok⟩⟩
      | some p =>
        have := hD.err
        rw [hd2] at this
        cases this
    · cases o with
      | none =>
        obtain ⟨d, h, _⟩ := hD.ok
        rw [hp] at h
        cases h
      | some p2 =>
        have := hD.err
        rw [hp] at this
        injection this with this
        subst this
        exact ⟨.ref u, rfl, e10.trans (extN_of (e11.trans e12)), (T10.ext e11).ext e12, .inr ⟨p, rfl, u, rfl, hu⟩⟩
  rintro σ' H10 ⟨v, rfl, e10, T10, hv⟩
  have W10 := well_extN (W8.ext e9) e10
  refine ⟨_, rfl, fun y H' => Ext H10 H' ∧ ((o = none ∧ y = .non) ∨ (∃ p, o = some p ∧ ∃ u, y = .ref u ∧ H' u = some (.tup [.str "text", .int 0, .int ((p : Nat) : Int)]))), ?_, ?_⟩
  · dsimp only [gCons, gName, gNil, gSub, gTup, gFld, iSeq, iList, iStr, iTup, iRng1, tAnd, tAndT, tAndV, tAsg, tAsg2, tAug, tB, tBM, tBM0, tBreak, tC, tCB, tCallR, tChain, tCons, tDrop, tFld, sFld, sFldAug, tFor_eq, tLc2_eq, tIf, tIfS, tIsN, tLc_eq, tLst, tM0, tM1, tMakeR, tMethR, tNever, tNm, tXk, tCallKw, tNext, tNil, tNoPart, tNot, tNotN, tNotT, tNotV, tOp, tOr, tOrT, tOrV, tOst, tPar, tPart, tRet, tRetN, tRg1, tSeq, tSl, tStar, tTest, tThen, tTup, tUn, C8.tCut, tVar]
    cases o with
    | none => exact ⟨_, rfl, rfl, false, rfl, by rw [if_neg Bool.false_ne_true]; exact ⟨Ext.rfl', .inl ⟨rfl, rfl⟩⟩⟩
    | some p => exact ⟨_, rfl, rfl, true, rfl, by rw [if_pos rfl]; exact ⟨_, rfl, by rw [sizeLine_eq]; simp, fun p2 hp2 => ⟨Ext.upd hp2, .inr ⟨p, rfl, p2, rfl, upd_same⟩⟩⟩⟩
  rintro y H11 ⟨e11, hy⟩
  have fin : ∀ H', Ext H11 H' → Well H' wa ca turn6 ∧ turn6 ≤ 2 + (i + 1) * 752 ∧ LamX.Tabs Tb H' := fun H' e' => ⟨(W10.ext e11).ext e', by omega, (T10.ext e11).ext e'⟩
  cases o with
  | none =>
    have hv2 : v = .non ∧ ∃ d, wholeM ws3 0 = .ok d ∧ Wr d ws3 ∧ d.isKind = true ∧ d.dep ≤ 20 := by
      rcases hv with ⟨_, h⟩ | ⟨p, h, _⟩
      · exact h
      · cases h
    have hy2 : y = .non := by
      rcases hy with ⟨_, h⟩ | ⟨p, h, _⟩
      · exact h
      · cases h
    obtain ⟨rfl, d, hw, wr, hk2, hdp⟩ := hv2
    subst hy2
    refine ⟨.none, .none, .non, .non, rfl, rfl, false, rfl, ?_⟩
    rw [if_neg Bool.false_ne_true]
    refine ⟨_, rfl, rfl, true, rfl, ?_⟩
    rw [if_pos rfl]
    refine ⟨_, rfl, tw.spR (fun d' hw' v H12 e12 r12 => ?_) (fun p hp => by rw [hw] at hp; cases hp)⟩
    rw [hw] at hw'
    cases hw'
    refine tw.spT wr hk2 hdp r12 fun H13 e13 => ⟨_, rfl, rfl, false, by simp, ?_⟩
    rw [if_neg Bool.false_ne_true]
    exact ⟨_, _, _, _, _, _, _, _, turn6, rfl, fin _ (e12.trans e13)⟩
  | some p =>
    obtain ⟨u, rfl, hu⟩ : ∃ u, v = .ref u ∧ H10 u = some (.tup [.str "text", .int 0, .int ((p : Nat) : Int)]) := by
      rcases hv with ⟨h, _⟩ | ⟨p2, h, h2⟩
      · cases h
      · cases h; exact h2
    obtain ⟨u2, rfl, hu2⟩ : ∃ u, y = .ref u ∧ H11 u = some (.tup [.str "text", .int 0, .int ((p : Nat) : Int)]) := by
      rcases hy with ⟨h, _⟩ | ⟨p2, h, h2⟩
      · cases h
      · cases h; exact h2
    refine ⟨.tuple [.str "text", .int 0, .int (p : Int)], .tuple [.str "text", .int 0, .int (p : Int)], .tup (.of (e11 _ _ hu)) (.cons (.str _) (.cons (.int _) (.cons (.int _) .nil))), .tup (.of hu2) (.cons (.str _) (.cons (.int _) (.cons (.int _) .nil))), due_shaped _, due_shaped _, false, by rw [due_eqv]; rfl, ?_⟩
    rw [if_neg Bool.false_ne_true]
    refine ⟨_, rfl, rfl, false, rfl, ?_⟩
    rw [if_neg Bool.false_ne_true, if_neg Bool.false_ne_true]
    exact ⟨_, _, _, _, _, _, _, _, turn6, rfl, fin _ Ext.rfl'⟩
end
end K94
set_option maxRecDepth 100000
set_option maxHeartbeats 0
namespace K94
open PySem PySem.Spec PyProof.Rows L2
theorem law_at {w : World} {mg : Str → Option Value} {fa : Addr} {h : Heap} (Y : hk.says w h) (G : h.Ns mainGlobals mg) (hmg : mg ("law" : Str) = some (.ref fa)) : ∃ K : PySem.W.Frag, K.In h ∧ LamX.LawAtS PySem.Challenge.rw_alwaysso_k95_texts_of_papers_that_cannot w K CX0 201 63 "script" mg fa h := by
  obtain ⟨K, KX, s⟩ := Y
  have T : Txt w K mg := ⟨⟨h, KX, G, s⟩⟩
  obtain ⟨fd, F⟩ := T.F_law
  have eg : fa = He.ga K "law" := by
    have := hmg.symm.trans T.g_law
    cases this
    rfl
  subst eg
  have b := FunD.bindsA (ps := ["script"]) F fun _ _ _ _ _ _ us hl => match us, hl with | [_], _ => rfl
  obtain ⟨oc, od, dV, kV, doc, pm, an, cdv, ct, osl, rfl, lk, hcd, _, _⟩ := F.ex
  obtain ⟨c, rfl⟩ := code_ref hcd
  have ec : He.codeOf K ("law", none) = c := He.codeOf_eq (p := ("law", none)) lk rfl
  have e2 : He.cT K ("law", none) = (c, He.tabOf K c) := by
    unfold He.cT
    rw [ec]
  have e1 : He.cT K ("_law_deep_right", none) = (He.codeOf K ("_law_deep_right", none), He.tabOf K (He.codeOf K ("_law_deep_right", none))) := rfl
  have hm1 : (("_law_deep_right", none) : He.Defn) ∈ tf := List.mem_cons_self
  have hm2 : (("law", none) : He.Defn) ∈ tf := List.mem_cons_of_mem _ List.mem_cons_self
  have a1 := s.hd _ hm1
  have a2 := s.out _ hm1
  have a3 := s.empty _ hm1
  have b1 := s.hd _ hm2
  have b2 := s.out _ hm2
  have b3 := s.empty _ hm2
  have hn : He.tabOf K (He.codeOf K ("_law_deep_right", none)) ≠ He.tabOf K c := by
    have := T.tne
    have h2 : [(He.cT K ("_law_deep_right", none)).2, (He.cT K ("law", none)).2].Nodup := this
    rw [e2] at h2
    intro z
    rw [e1, z] at h2
    simp at h2
  rw [e1] at a1 a2 a3
  rw [e2] at b1 b2 b3
  have hall : ∀ {α : Prop} {p : Addr × Addr}, p ∈ [(He.codeOf K ("_law_deep_right", none), He.tabOf K (He.codeOf K ("_law_deep_right", none))), (c, He.tabOf K c)] → (p = (He.codeOf K ("_law_deep_right", none), He.tabOf K (He.codeOf K ("_law_deep_right", none))) → α) → (p = (c, He.tabOf K c) → α) → α := fun {α p} hp h1 h2 => by
    rcases List.mem_cons.mp hp with e | hp
    · exact h1 e
    · exact h2 (List.mem_singleton.mp hp)
  refine ⟨K, KX, _, [(He.codeOf K ("_law_deep_right", none), He.tabOf K (He.codeOf K ("_law_deep_right", none))), (c, He.tabOf K c)], spLaw K (He.tabOf K (He.codeOf K ("_law_deep_right", none))) (He.tabOf K c), fun p hp => hall hp (fun e => by rw [e]; exact a3) (fun e => by rw [e]; exact b3), fun p hp => hall hp (fun e => by rw [e]; exact a2) (fun e => by rw [e]; exact b2),
    fun p hp => hall hp (fun e => by rw [e]; exact PySem.W.codeHd_of_K KX a1) (fun e => by rw [e]; exact PySem.W.codeHd_of_K KX b1), fun s v => b s [v] rfl, fun H a ns hl _ hT hS => ⟨a, ns, rfl, hS, hl, hT _ List.mem_cons_self, hT _ (List.mem_cons_of_mem _ List.mem_cons_self), fun _ => rfl⟩, fun base KB GB hTB => ?_⟩
  refine fn_of lk hcd sc_law (fun vs H Q E hsp => ?_) fun A outer s H vs Q E hr hsp => ?_
  · obtain ⟨a, ns, rfl, _⟩ := hsp
    rfl
  · obtain ⟨t, ht, hq⟩ := law_ok T (.ref c) rfl (hTB _ List.mem_cons_self) (hTB _ (List.mem_cons_of_mem _ List.mem_cons_self)) hn A outer s H vs Q E hr hsp
    exact ⟨t, ht.nox, hq⟩
end K94
open PySem PySem.W PySem.Calls PyProof.Rows
theorem PySem.Challenge.cw_alwaysso_k95_texts_of_papers_that_cannot_holds : PySem.Challenge.rw_alwaysso_k95_texts_of_papers_that_cannot.Holds := by
  w_on; o_law
  refine HandSHeadRun.head_any (r := OpenLaw.row PySem.Challenge.rw_alwaysso_k95_texts_of_papers_that_cannot) (q := view (OpenLaw.row PySem.Challenge.rw_alwaysso_k95_texts_of_papers_that_cannot).prog [65]) (H := K94.hk) (ob := K94.ob) (M := 9000) (loose := K94.loose) (d := HandSHeadRun.topDef (OpenLaw.row PySem.Challenge.rw_alwaysso_k95_texts_of_papers_that_cannot).prog 65) (kwd := []) K94.ob_eq
    (by kernel_rfl) (fun s => by kernel_rfl) K94.run (by kernel_rfl) (by kernel_rfl) (by kernel_rfl) (by rfl) (by first | assumption | decide +kernel) (by decide +kernel) ⟨rfl, rfl, rfl, rfl, rfl, by decide +kernel⟩ ?hw ?hc
  case hw => w_witness2
  case hc =>
    refine LamX.walk_ofTsE (l := PySem.Challenge.rw_alwaysso_k95_texts_of_papers_that_cannot) (n := 63) (k := 201) (x := "script") (CX := fun _ => L2.CX0) rfl (by decide) (by kernel_rfl) ⟨rfl, by decide, by decide⟩ ?F (fun _ _ _ _ _ z => z)
    intro w mg fa h Y G hmg0
    have hmg : mg ("law" : PySem.Str) = some (.ref fa) := by
      have e : (HandSHeadRun.topDef (OpenLaw.row PySem.Challenge.rw_alwaysso_k95_texts_of_papers_that_cannot).prog 65).name = ("law" : PySem.Str) := by kernel_rfl
      rw [← e]
      exact hmg0
    exact K94.law_at Y G hmg
