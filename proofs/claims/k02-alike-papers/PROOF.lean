import PyProof.Rows.All
import Wide.All
import OpenK.AllK
import Wide.FinOn
import HandS.ForMost
import HandS.ForExc
import HandS.Nested
import HandS.Lambda
import KE.KDictKeyed
import HandS.TupAny
import HandS.TupMul
import HandS.Deep
import HandS.Style
import HandS.Conv
import HandS.TryMany
import HandS.HotCalls
import HandS.ExcIs
import HandS.Wide
import HandS.SortInts
import PyProof.ListRange
import HandS.Rev
import HandS.EndTab
import HandS.Small
import HandS.DictComp
import HandS.WordsDict
import KE.KDictCopyH
import HandS.Zip
import HandS.Walk
import HandS.Sort
import HandS.Words
import HandS.ExcCtx
import HandS.TupSets
import HandS.SortRule
import PySem.Challenge.RW_bydigits_k02_alike_papers_judged
set_option Elab.async false
set_option linter.all false
set_option maxRecDepth 100000
set_option maxHeartbeats 4000000
/-! The Den layer, part 1: trees, stores, results, and how they stand in the abstract heap. -/
namespace DD
open PySem PySem.Spec PyProof.Rows L2

inductive T where
  | hole | non | bl (b : Bool) | int (i : Int) | str (x : Str) | tup (ts : List T) | ref (n : Nat) | fn (k : Nat) | lam (k : Nat) | clo (k : Nat) (cs : List T)
inductive O where
  | lst (xs : List T) | frl (xs : List T) | dct (kvs : List (Key × T)) | dtp (kvs : List (T × T)) | set (xs : List T) | ins (c : Nat) (fs : List (Str × T))
abbrev Store := List O
inductive R (α : Type) where
  | ok (a : α) (S : Store) | exc (c : Nat) (p : List T) (S : Store) | bad
abbrev EnvT := List T
abbrev DE := EnvT → Store → R T
abbrev DA := EnvT → Store → R (List T)
inductive RS where
  | nx (e : EnvT) (S : Store) | rt (t : T) (S : Store) | bk (e : EnvT) (S : Store) | ct (e : EnvT) (S : Store) | exc (c : Nat) (p : List T) (e : EnvT) (S : Store) | bad
abbrev DS := EnvT → Store → RS

def R.bind {α β : Type} (r : R α) (k : α → Store → R β) : R β := match r with
  | .ok a S => k a S
  | .exc c p S => .exc c p S
  | .bad => .bad
def RS.bind (r : RS) (k : EnvT → Store → RS) : RS := match r with
  | .nx e S => k e S
  | .rt t S => .rt t S
  | .bk e S => .bk e S
  | .ct e S => .ct e S
  | .exc c p e S => .exc c p e S
  | .bad => .bad
/-- an expression's result within a statement -/
def R.inS {α : Type} (r : R α) (e : EnvT) (k : α → Store → RS) : RS := match r with
  | .ok a S => k a S
  | .exc c p S => .exc c p e S
  | .bad => .bad

/-- no closure, no hole: may stand in a container -/
def T.plain : T → Bool
  | .hole | .lam _ | .clo _ _ => false
  | _ => true

/-- a lambda of the text -/
structure LamD where
  params : Arguments
  body : Expr
  scope : Scope
  qual : Str
  fr : List Str

/-- what is fixed for the law: the written part, where the defs and the classes stand, the lambdas -/
structure Wd where
  K : PySem.W.Frag
  fa : Nat → Addr
  ca : Nat → Addr
  lams : Nat → Option LamD
  tabs : List (Addr × Str)
  w : World

/-- the function object of a lambda -/
def LamO (L : LamD) (cl : List (Str × Addr)) (pm : Value) (c : Addr) (ctv : Value) : HO := .frz (PySem.W.kla_obj "<lambda>" L.qual L.params L.body L.scope cl pm c ctv) (.ext fun _ => True)
/-- a cell that is locked with the value v -/
def cellHO (o : Obj) : HO := .frz o (.ext fun _ => True)

mutual
def Rep (W : Wd) (M : List Addr) (H : Hp) : T → V → Prop
  | .non, v => v = .non
  | .bl b, v => v = .bl b
  | .int i, v => v = .int i
  | .str x, v => v = .str x
  | .tup ts, v => ∃ a vs, v = .ref a ∧ SqT W.K H a vs ∧ Reps W M H ts vs
  | .ref n, v => ∃ a, M[n]? = some a ∧ v = .ref a
  | .fn k, v => v = .ref (W.fa k)
  | .hole, _ => False
  | .lam _, _ => False
  | .clo _ _, _ => False
def Reps (W : Wd) (M : List Addr) (H : Hp) : List T → List V → Prop
  | [], vs => vs = []
  | t :: ts, vs => ∃ v r, vs = v :: r ∧ Rep W M H t v ∧ Reps W M H ts r
end

/-- what never changes in the abstract heap -/
inductive Fix : HO → Prop
  | tup (xs) : Fix (.tup xs)
  | frz (o u) : Fix (.frz o u)
  | code (c q) : Fix (LamX.CodeO c q)

structure Ext (M : List Addr) (H : Hp) (M' : List Addr) (H' : Hp) : Prop where
  m : ∀ (n : Nat) a, M[n]? = some a → M'[n]? = some a
  h : ∀ a o, H a = some o → Fix o → H' a = some o
theorem Ext.refl {M H} : Ext M H M H := ⟨fun _ _ h => h, fun _ _ h _ => h⟩
theorem Ext.trans {M H M1 H1 M2 H2} (a : Ext M H M1 H1) (b : Ext M1 H1 M2 H2) : Ext M H M2 H2 :=
  ⟨fun n x h => b.m n x (a.m n x h), fun x o h f => b.h x o (a.h x o h f) f⟩
theorem Ext.sqT {K M H M' H'} (e : Ext M H M' H') {a vs} (h : SqT K H a vs) : SqT K H' a vs := by
  rcases h with h | h
  · rcases h with h | ⟨o, h⟩
    · exact .inl (.inl (e.h _ _ h (.tup _)))
    · exact .inl (.inr ⟨o, e.h _ _ h (.frz _ _)⟩)
  · exact .inr h
mutual
theorem Rep.mono {W M H M' H'} (e : Ext M H M' H') : ∀ (t : T) (v : V), Rep W M H t v → Rep W M' H' t v
  | .non, v, h => by simpa [Rep] using h
  | .bl b, v, h => by simpa [Rep] using h
  | .int i, v, h => by simpa [Rep] using h
  | .str x, v, h => by simpa [Rep] using h
  | .tup ts, v, h => by
    unfold Rep at h ⊢
    obtain ⟨a, vs, e1, e2, e3⟩ := h
    exact ⟨a, vs, e1, e.sqT e2, Reps.mono e ts vs e3⟩
  | .ref n, v, h => by
    unfold Rep at h ⊢
    obtain ⟨a, e1, e2⟩ := h
    exact ⟨a, e.m _ _ e1, e2⟩
  | .fn k, v, h => by simpa [Rep] using h
  | .hole, _, h => by unfold Rep at h; exact h.elim
  | .lam _, _, h => by unfold Rep at h; exact h.elim
  | .clo _ _, _, h => by unfold Rep at h; exact h.elim
theorem Reps.mono {W M H M' H'} (e : Ext M H M' H') : ∀ (ts : List T) (vs : List V), Reps W M H ts vs → Reps W M' H' ts vs
  | [], vs, h => by simpa [Reps] using h
  | t :: ts, vs, h => by
    unfold Reps at h ⊢
    obtain ⟨v, r, e1, e2, e3⟩ := h
    exact ⟨v, r, e1, Rep.mono e t v e2, Reps.mono e ts r e3⟩
end

/-- a captured value behind a locked cell -/
def CapOk (W : Wd) (M : List Addr) (H : Hp) (cl : List (Str × Addr)) (y : Str) (t : T) : Prop :=
  ∃ c, cl.lookup y = some c ∧ ∃ o, H c = some (cellHO o) ∧ ((t = .hole ∧ ∃ w, o.data = .cell w) ∨ ∃ u v, o.data = .cell (some u) ∧ RelV v u ∧ Rep W M H t v)
def CapsOk (W : Wd) (M : List Addr) (H : Hp) (cl : List (Str × Addr)) (fr : List Str) (cs : List T) : Prop :=
  fr.length = cs.length ∧ ∀ (j : Nat) y t, fr[j]? = some y → cs[j]? = some t → CapOk W M H cl y t
/-- any value that may stand in a name's slot; cells: the frame's own -/
def RepX (W : Wd) (cells : List (Str × Addr)) (M : List Addr) (H : Hp) : T → V → Prop
  | .lam k, v => ∃ f L c pm ctv, v = .ref f ∧ W.lams k = some L ∧ H f = some (LamO L (cloFrom cells L.scope.names []) pm c ctv) ∧ H c = some (LamX.CodeO c L.qual)
  | .clo k cs, v => ∃ f L cl c pm ctv, v = .ref f ∧ W.lams k = some L ∧ H f = some (LamO L cl pm c ctv) ∧ H c = some (LamX.CodeO c L.qual) ∧ CapsOk W M H cl L.fr cs
  | t, v => Rep W M H t v
theorem CapOk.mono {W M H M' H' cl y t} (e : Ext M H M' H') (h : CapOk W M H cl y t) : CapOk W M' H' cl y t := by
  obtain ⟨c, h1, o, h2, h3⟩ := h
  refine ⟨c, h1, o, e.h _ _ h2 (.frz _ _), ?_⟩
  rcases h3 with h3 | ⟨u, v, h3, h4, h5⟩
  · exact .inl h3
  · exact .inr ⟨u, v, h3, h4, h5.mono e⟩
theorem RepX.mono {W cells M H M' H'} (e : Ext M H M' H') {t v} (h : RepX W cells M H t v) : RepX W cells M' H' t v := by
  cases t with
  | lam k =>
    obtain ⟨f, L, c, pm, ctv, h1, h2, h3, h4⟩ := h
    exact ⟨f, L, c, pm, ctv, h1, h2, e.h _ _ h3 (.frz ..), e.h _ _ h4 (.code ..)⟩
  | clo k cs =>
    obtain ⟨f, L, cl, c, pm, ctv, h1, h2, h3, h4, h5, h6⟩ := h
    exact ⟨f, L, cl, c, pm, ctv, h1, h2, e.h _ _ h3 (.frz ..), e.h _ _ h4 (.code ..), h5, fun j y t a b => (h6 j y t a b).mono e⟩
  | _ => exact Rep.mono e _ _ h
theorem RepX.rep {W cells M H t v} (h : RepX W cells M H t v) (p : t.plain = true) : Rep W M H t v := by
  cases t <;> first | exact h | (simp [T.plain] at p)
theorem Rep.x {W cells M H t v} (h : Rep W M H t v) : RepX W cells M H t v := by
  cases t <;> first | exact h | (unfold Rep at h; exact h.elim)
theorem Rep.pl {W M H t v} (h : Rep W M H t v) : t.plain = true := by
  cases t <;> first | rfl | (unfold Rep at h; exact h.elim)

/-- dicts with keys that are tuples: the key, where its tuple stands, the value -/
abbrev EntN := NestedKey × Addr × V
def EntN.kv (e : EntN) : V := .ref e.2.1
def EntN.vv (e : EntN) : V := e.2.2
def entN (w : World) (u : NestedKey × Addr × Value) : DictEntry := ⟨u.1.hash w, .ref u.2.1, u.2.2⟩
def EntR (e : EntN) (u : NestedKey × Addr × Value) : Prop := e.1 = u.1 ∧ e.2.1 = u.2.1 ∧ RelV e.2.2 u.2.2
def DctN (w : World) (a : Addr) (es : List EntN) : HO := .ext fun h => ∃ o ds ep, h.get? a = some o ∧ o.ExactDict ∧ o.data = .dict ds ep ∧ (∃ us, Paired EntR es us ∧ ds.toList = us.map (entN w)) ∧ (es.map (·.1)).Nodup ∧ es.length ≤ sizeLine ∧ (a == sysModules) = false
mutual
/-- a value as a key -/
def keyN : T → Option NestedKey
  | .non => some .none
  | .bl b => some (.num (if b then 1 else 0))
  | .int i => some (.num i)
  | .str x => some (.text x)
  | .tup ts => (keyNs ts).map .tup
  | _ => none
def keyNs : List T → Option (List NestedKey)
  | [] => some []
  | t :: ts => (keyN t).bind fun k => (keyNs ts).map (k :: ·)
end
def KeyR (kv : T × T) (e : EntN) : Prop := keyN kv.1 = some e.1 ∧ e.1.depth ≤ 8

/-- a list that is never written: locked, or the module's -/
def FrL (K : PySem.W.Frag) (H : Hp) (a : Addr) (vs : List V) : Prop :=
  (∃ o, H a = some (.frz o (.lst vs))) ∨ ∃ (o : Obj) (its : Array Value) (n : Nat), K.lookup a = some o ∧ o.cls = .type "list" ∧ o.dict = none ∧ o.data = .seq its n ∧ its.size ≤ sizeLine ∧ Vals vs its.toList
theorem FrL.sq {K H a vs} (h : FrL K H a vs) : SqL K H a vs := h.elim (fun h => .inl (.inr h)) fun h => .inr h
/-- an object of the store at an address -/
def RepO (W : Wd) (M : List Addr) (H : Hp) (a : Addr) : O → Prop
  | .lst xs => ∃ vs, H a = some (.lst vs) ∧ Reps W M H xs vs
  | .frl xs => ∃ vs, FrL W.K H a vs ∧ Reps W M H xs vs
  | .dct kvs => ∃ vs, H a = some (.dK ((kvs.map (·.1)).zip vs)) ∧ Reps W M H (kvs.map (·.2)) vs
  | .dtp kvs => ∃ es, H a = some (DctN W.w a es) ∧ Reps W M H (kvs.map (·.1)) (es.map EntN.kv) ∧ Reps W M H (kvs.map (·.2)) (es.map EntN.vv) ∧ Paired KeyR kvs es
  | .set _ => False
  | .ins c fs => ∃ dx vs, H a = some (.ins (W.ca c) dx ((fs.map (·.1)).zip vs)) ∧ Reps W M H (fs.map (·.2)) vs
def O.mut : O → Bool
  | .frl _ => false
  | _ => true
structure Sim (W : Wd) (M : List Addr) (S : Store) (H : Hp) : Prop where
  len : M.length = S.length
  inj : ∀ (n m : Nat) a o o', M[n]? = some a → M[m]? = some a → S[n]? = some o → S[m]? = some o' → o.mut = true → o'.mut = true → n = m
  obj : ∀ (n : Nat) o a, S[n]? = some o → M[n]? = some a → RepO W M H a o
  tabs : LamX.Tabs W.tabs H
def EnvR (W : Wd) (cells : List (Str × Addr)) (M : List Addr) (H : Hp) (env : EnvT) (σ : L2.St) : Prop :=
  env.length = σ.length ∧ ∀ (i : Nat) t, env[i]? = some t → t ≠ .hole → ∃ v, σ[i]? = some (some v) ∧ RepX W cells M H t v
theorem EnvR.mono {W cells M H M' H' env σ} (e : Ext M H M' H') (h : EnvR W cells M H env σ) : EnvR W cells M' H' env σ :=
  ⟨h.1, fun i t a b => let ⟨v, c, d⟩ := h.2 i t a b; ⟨v, c, d.mono e⟩⟩

/-- an exception: its class and what its own dict holds -/
def ExcR (W : Wd) (M : List Addr) (H : Hp) (c : Nat) (p : List T) (cls : Value) (d : Option Addr) : Prop := cls = .ref (W.ca c) ∧ p = [] ∧ d = none

def PostE (W : Wd) (cells : List (Str × Addr)) (wx : WX) (σ : L2.St) (M : List Addr) (H : Hp) (Q : VK) : R T → Prop
  | .ok t S' => ∀ M' H' v, Ext M H M' H' → Sim W M' S' H' → RepX W cells M' H' t v → Q v H'
  | .exc c p S' => ∀ M' H' cls d, Ext M H M' H' → Sim W M' S' H' → ExcR W M' H' c p cls d → wx cls d σ H'
  | .bad => False
theorem PostE.mono {W cells wx σ M H M1 H1 Q r} (e : Ext M H M1 H1) (h : PostE W cells wx σ M H Q r) : PostE W cells wx σ M1 H1 Q r := by
  cases r with
  | ok t S => exact fun M' H' v e' => h M' H' v (e.trans e')
  | exc c p S => exact fun M' H' cls d e' => h M' H' cls d (e.trans e')
  | bad => exact h
def tE (W : Wd) (cells : List (Str × Addr)) (wx : WX) (d : DE) : TE := fun σ H Q =>
  ∃ M S env, Sim W M S H ∧ EnvR W cells M H env σ ∧ PostE W cells wx σ M H Q (d env S)
def PostA (W : Wd) (cells : List (Str × Addr)) (wx : WX) (σ : L2.St) (M : List Addr) (H : Hp) (Q : List V → Hp → Prop) : R (List T) → Prop
  | .ok ts S' => ∀ M' H' vs, Ext M H M' H' → Sim W M' S' H' → Paired (RepX W cells M' H') ts vs → Q vs H'
  | .exc c p S' => ∀ M' H' cls d, Ext M H M' H' → Sim W M' S' H' → ExcR W M' H' c p cls d → wx cls d σ H'
  | .bad => False
def tA (W : Wd) (cells : List (Str × Addr)) (wx : WX) (d : DA) : TA := fun σ H Q =>
  ∃ M S env, Sim W M S H ∧ EnvR W cells M H env σ ∧ PostA W cells wx σ M H Q (d env S)
def PostS (W : Wd) (cells : List (Str × Addr)) (wx : WX) (M : List Addr) (H : Hp) (D : Ends) : RS → Prop
  | .nx e S' => ∀ M' H' σ', Ext M H M' H' → Sim W M' S' H' → EnvR W cells M' H' e σ' → D.nx σ' H'
  | .bk e S' => ∀ M' H' σ', Ext M H M' H' → Sim W M' S' H' → EnvR W cells M' H' e σ' → D.bk σ' H'
  | .ct e S' => ∀ M' H' σ', Ext M H M' H' → Sim W M' S' H' → EnvR W cells M' H' e σ' → D.ct σ' H'
  | .rt t S' => ∀ M' H' v, Ext M H M' H' → Sim W M' S' H' → RepX W cells M' H' t v → D.rt v H'
  | .exc c p e S' => ∀ M' H' σ' cls d, Ext M H M' H' → Sim W M' S' H' → EnvR W cells M' H' e σ' → ExcR W M' H' c p cls d → wx cls d σ' H'
  | .bad => False
theorem PostS.mono {W cells wx M H M1 H1 D r} (e : Ext M H M1 H1) (h : PostS W cells wx M H D r) : PostS W cells wx M1 H1 D r := by
  cases r with
  | nx _ _ => exact fun M' H' s e' => h M' H' s (e.trans e')
  | bk _ _ => exact fun M' H' s e' => h M' H' s (e.trans e')
  | ct _ _ => exact fun M' H' s e' => h M' H' s (e.trans e')
  | rt _ _ => exact fun M' H' v e' => h M' H' v (e.trans e')
  | exc _ _ _ _ => exact fun M' H' s cls d e' => h M' H' s cls d (e.trans e')
  | bad => exact h
def tS (W : Wd) (cells : List (Str × Addr)) (wx : WX) (d : DS) : TS := fun D σ H =>
  ∃ M S env, Sim W M S H ∧ EnvR W cells M H env σ ∧ PostS W cells wx M H D (d env S)
end DD
set_option Elab.async false
set_option linter.all false
set_option maxRecDepth 100000
set_option maxHeartbeats 4000000
/-! The Den layer, part 2: new objects, written objects, the combinators of expressions. -/
namespace DD
open PySem PySem.Spec PyProof.Rows L2

theorem pe_weak {X : Cx} {e : Expr} {t t' : TE} (h : PE X e t) (hw : ∀ σ H Q, t' σ H Q → t σ H Q) : PE X e t' := ⟨fun pins s σ H Q I q => h.run pins s σ H Q I (hw σ H Q q)⟩
theorem pt_weak {X : Cx} {e : Expr} {t t' : TT} (h : PT X e t) (hw : ∀ σ H Q, t' σ H Q → t σ H Q) : PT X e t' := ⟨fun pins s σ H Q I q => h.run pins s σ H Q I (hw σ H Q q)⟩
theorem pa_weak {X : Cx} {e : List Expr} {t t' : TA} (h : PA X e t) (hw : ∀ σ H Q, t' σ H Q → t σ H Q) : PA X e t' := ⟨fun pos pins s σ H Q I q => h.run pos pins s σ H Q I (hw σ H Q q)⟩
theorem ps_weak {X : Cx} {e : Stmt} {t t' : TS} (h : PS X e t) (hw : ∀ D σ H, t' D σ H → t D σ H) : PS X e t' := ⟨fun pins s σ H D I q => h.run pins s σ H D I (hw D σ H q)⟩
theorem pss_weak {X : Cx} {e : List Stmt} {t t' : TS} (h : PSs X e t) (hw : ∀ D σ H, t' D σ H → t D σ H) : PSs X e t' := ⟨fun pins s σ H D I q => h.run pins s σ H D I (hw D σ H q)⟩

section
variable {W : Wd} {cells : List (Str × Addr)} {wx : WX} {σ : L2.St} {M M' : List Addr} {S : Store} {H H' : Hp} {env : EnvT}

theorem Rep.ref_of {n a} (h : M[n]? = some a) : Rep W M H (.ref n) (.ref a) := by unfold Rep; exact ⟨a, h, rfl⟩
theorem reps_len : ∀ {ts : List T} {vs : List V}, Reps W M H ts vs → vs.length = ts.length
  | [], vs, h => by unfold Reps at h; subst h; rfl
  | t :: ts, vs, h => by
    unfold Reps at h
    obtain ⟨v, r, rfl, _, h3⟩ := h
    simp [reps_len h3]
theorem reps_nil : Reps W M H [] [] := by unfold Reps; rfl
theorem reps_cons {t ts v vs} (h : Rep W M H t v) (h' : Reps W M H ts vs) : Reps W M H (t :: ts) (v :: vs) := by unfold Reps; exact ⟨v, vs, rfl, h, h'⟩
theorem reps_app : ∀ {ts us : List T} {vs ws : List V}, Reps W M H ts vs → Reps W M H us ws → Reps W M H (ts ++ us) (vs ++ ws)
  | [], us, vs, ws, h, h' => by unfold Reps at h; subst h; exact h'
  | t :: ts, us, vs, ws, h, h' => by
    unfold Reps at h
    obtain ⟨v, r, rfl, h2, h3⟩ := h
    exact reps_cons h2 (reps_app h3 h')
theorem reps_get : ∀ {ts : List T} {vs : List V} {i : Nat} {v : V}, Reps W M H ts vs → vs[i]? = some v → ∃ t, ts[i]? = some t ∧ Rep W M H t v
  | [], vs, i, v, h, e => by unfold Reps at h; subst h; simp at e
  | t :: ts, vs, i, v, h, e => by
    unfold Reps at h
    obtain ⟨v', r, rfl, h2, h3⟩ := h
    cases i with
    | zero => simp at e; subst e; exact ⟨t, rfl, h2⟩
    | succ i => simp at e; obtain ⟨t', a, b⟩ := reps_get h3 e; exact ⟨t', by simpa using a, b⟩
theorem reps_get' : ∀ {ts : List T} {vs : List V} {i : Nat} {t : T}, Reps W M H ts vs → ts[i]? = some t → ∃ v, vs[i]? = some v ∧ Rep W M H t v
  | [], vs, i, v, h, e => by simp at e
  | t :: ts, vs, i, t', h, e => by
    unfold Reps at h
    obtain ⟨v', r, rfl, h2, h3⟩ := h
    cases i with
    | zero => simp at e; subst e; exact ⟨v', rfl, h2⟩
    | succ i => simp at e; obtain ⟨t', a, b⟩ := reps_get' h3 e; exact ⟨t', by simpa using a, b⟩
theorem reps_set : ∀ {ts : List T} {vs : List V} {t : T} {v : V} (i : Nat), Reps W M H ts vs → Rep W M H t v → Reps W M H (ts.set i t) (vs.set i v)
  | [], vs, t, v, i, h, e => by unfold Reps at h; subst h; simpa using reps_nil
  | t' :: ts, vs, t, v, i, h, e => by
    unfold Reps at h
    obtain ⟨v', r, rfl, h2, h3⟩ := h
    cases i with
    | zero => exact reps_cons e h3
    | succ i => exact reps_cons h2 (reps_set i h3 e)
theorem reps_take : ∀ {ts : List T} {vs : List V} (i : Nat), Reps W M H ts vs → Reps W M H (ts.take i) (vs.take i)
  | [], vs, i, h => by unfold Reps at h; subst h; simpa using reps_nil
  | t' :: ts, vs, i, h => by
    unfold Reps at h
    obtain ⟨v', r, rfl, h2, h3⟩ := h
    cases i with
    | zero => exact reps_nil
    | succ i => exact reps_cons h2 (reps_take i h3)
theorem reps_drop : ∀ {ts : List T} {vs : List V} (i : Nat), Reps W M H ts vs → Reps W M H (ts.drop i) (vs.drop i)
  | [], vs, i, h => by unfold Reps at h; subst h; simpa using reps_nil
  | t' :: ts, vs, i, h => by
    unfold Reps at h
    obtain ⟨v', r, rfl, h2, h3⟩ := h
    cases i with
    | zero => exact reps_cons h2 h3
    | succ i => exact reps_drop i h3
theorem reps_rev {ts : List T} {vs : List V} (h : Reps W M H ts vs) : Reps W M H ts.reverse vs.reverse := by
  induction ts generalizing vs with
  | nil => unfold Reps at h; subst h; simpa using reps_nil
  | cons t ts ih =>
    unfold Reps at h
    obtain ⟨v', r, rfl, h2, h3⟩ := h
    simp only [List.reverse_cons]
    exact reps_app (ih h3) (reps_cons h2 reps_nil)
theorem reps_pad {ts : List T} {vs : List V} (h : Reps W M H ts vs) : Paired (RepX W cells M H) ts vs := by
  induction ts generalizing vs with
  | nil => unfold Reps at h; subst h; exact .nil
  | cons t ts ih =>
    unfold Reps at h
    obtain ⟨v', r, rfl, h2, h3⟩ := h
    exact .cons h2.x (ih h3)
theorem paired_reps {ts : List T} {vs : List V} (h : Paired (RepX W cells M H) ts vs) (p : ts.all T.plain = true) : Reps W M H ts vs := by
  induction h with
  | nil => exact reps_nil
  | cons r _ ih =>
    simp only [List.all_cons, Bool.and_eq_true] at p
    exact reps_cons (r.rep p.1) (ih p.2)
theorem paired_mono (e : Ext M H M' H') {ts : List T} {vs : List V} (h : Paired (RepX W cells M H) ts vs) : Paired (RepX W cells M' H') ts vs := Paired.mapP h fun _ _ r => r.mono e

/-! ### dicts and code objects are no immutable things -/
def someObj : Obj := { cls := .none, data := .fields #[] }
theorem dct_ne_code {w : World} {a : Addr} {es : List EntN} {c : Addr} {q : Str} : DctN w a es ≠ LamX.CodeO c q := by
  intro z
  unfold DctN LamX.CodeO at z
  injection z with z
  have hp : ∀ h : Heap, (∃ o ds ep, h.get? a = some o ∧ o.ExactDict ∧ o.data = .dict ds ep ∧ (∃ us, Paired EntR es us ∧ ds.toList = us.map (entN w)) ∧ (es.map (·.1)).Nodup ∧ es.length ≤ sizeLine ∧ (a == sysModules) = false) = ∃ (oc : Obj) (vs : Array Value) (t : Tok), h.get? c = some oc ∧ oc.data = .fields vs ∧ vs[1]? = some (.str q t) := fun h => congrFun z h
  have h0 : (({ objs := Array.replicate c someObj } : Heap).push { cls := .none, data := .fields #[.none, .str q 0] }).get? c = some { cls := .none, data := .fields #[.none, .str q 0] } := by
    have hs : ({ objs := Array.replicate c someObj } : Heap).objs.size = c := by simp
    have := Heap.get?_push_size ({ objs := Array.replicate c someObj } : Heap) (o := ({ cls := .none, data := .fields #[.none, .str q 0] } : Obj)) rfl
    rwa [hs] at this
  have := Eq.mpr (hp (({ objs := Array.replicate c someObj } : Heap).push { cls := .none, data := .fields #[.none, .str q 0] })) ⟨_, _, 0, h0, rfl, rfl⟩
  obtain ⟨o, ds, ep, h1, h2, h3, _⟩ := this
  have hlt := Heap.lt_size h1
  rw [Heap.size_push] at hlt
  have hs : ({ objs := Array.replicate c someObj } : Heap).objs.size = c := by simp
  rw [hs] at hlt
  by_cases e : a = c
  · subst e
    rw [h0] at h1
    cases h1
    cases h3
  · have hlt' : a < c := Nat.lt_of_le_of_ne (Nat.le_of_lt_succ hlt) e
    have hx : (({ objs := Array.replicate c someObj } : Heap)).get? a = some someObj := by
      unfold Heap.get?
      simp [hlt', someObj]
    have := Heap.get?_push_of_some (h := ({ objs := Array.replicate c someObj } : Heap)) ({ cls := .none, data := .fields #[.none, .str q 0] } : Obj) hx
    rw [this] at h1
    cases h1
    cases h3
theorem not_fix_lst {xs} : ¬ Fix (.lst xs) := by intro h; cases h
theorem not_fix_dk {kvs} : ¬ Fix (.dK kvs) := by intro h; cases h
theorem not_fix_dct {w a es} : ¬ Fix (DctN w a es) := by
  intro h
  generalize hx : DctN w a es = o at h
  cases h with
  | tup _ => cases hx
  | frz _ _ => cases hx
  | code c q => exact dct_ne_code hx
theorem not_fix_ins {C dx fs} : ¬ Fix (.ins C dx fs) := by intro h; cases h
end

/-! ### new objects -/
section
variable {W : Wd} {cells : List (Str × Addr)} {wx : WX} {σ : L2.St} {M : List Addr} {S : Store} {H : Hp} {env : EnvT}
theorem RepO.mono {M M' : List Addr} {H H' : Hp} {a : Addr} {o : O} (e : Ext M H M' H') (k : o.mut = true → ∀ u, H a = some u → H' a = some u) (h : RepO W M H a o) : RepO W M' H' a o := by
  cases o with
  | lst xs =>
    obtain ⟨vs, h1, h2⟩ := h
    exact ⟨vs, k rfl _ h1, h2.mono e⟩
  | frl xs =>
    obtain ⟨vs, h1, h2⟩ := h
    exact ⟨vs, h1.elim (fun ⟨o, h⟩ => .inl ⟨o, e.h _ _ h (.frz ..)⟩) .inr, h2.mono e⟩
  | dct kvs =>
    obtain ⟨vs, h1, h2⟩ := h
    exact ⟨vs, k rfl _ h1, h2.mono e⟩
  | dtp kvs =>
    obtain ⟨es, h1, h2, h3, h4⟩ := h
    exact ⟨es, k rfl _ h1, h2.mono e, h3.mono e, h4⟩
  | set xs => exact h.elim
  | ins c fs =>
    obtain ⟨dx, vs, h1, h2⟩ := h
    exact ⟨dx, vs, k rfl _ h1, h2.mono e⟩

theorem RepO.some {a : Addr} {o : O} (h : RepO W M H a o) (m : o.mut = true) : ∃ u, H a = some u ∧ ¬ Fix u := by
  cases o with
  | lst xs => obtain ⟨vs, h1, _⟩ := h; exact ⟨_, h1, not_fix_lst⟩
  | frl xs => cases m
  | dct kvs => obtain ⟨es, h1, _⟩ := h; exact ⟨_, h1, not_fix_dk⟩
  | dtp kvs => obtain ⟨es, h1, _⟩ := h; exact ⟨_, h1, not_fix_dct⟩
  | set xs => exact h.elim
  | ins c fs => obtain ⟨dx, vs, h1, _⟩ := h; exact ⟨_, h1, not_fix_ins⟩
theorem ext_alloc {p : Addr} {o : HO} (hp : H p = none) : Ext M H (M ++ [p]) (upd H p o) :=
  ⟨fun n a h => by rw [List.getElem?_append_left (List.getElem?_eq_some_iff.mp h).1]; exact h, fun a u h _ => by rw [upd_ne (ne_of_none h hp)]; exact h⟩
/-- a new immutable thing: the store stays -/
theorem ext_new {p : Addr} {o : HO} (hp : H p = none) : Ext M H M (upd H p o) :=
  ⟨fun n a h => h, fun a u h _ => by rw [upd_ne (ne_of_none h hp)]; exact h⟩
theorem tabs_upd {H : Hp} {T : List (Addr × Str)} {a : Addr} {o u : HO} (t : LamX.Tabs T H) (ha : H a = some u) (nf : ¬ Fix u) (nt : ∀ ps, u ≠ .tbl ps) : LamX.Tabs T (upd H a o) := fun p hp => by
  obtain ⟨ps, h1, h2, h3⟩ := t p hp
  refine ⟨ps, ?_, h2, fun pos cv hc => ?_⟩
  · rw [upd_ne fun z => nt ps (by rw [z, ha] at h1; exact Option.some.inj h1)]; exact h1
  · obtain ⟨c, e1, e2⟩ := h3 pos cv hc
    refine ⟨c, e1, ?_⟩
    rw [upd_ne fun z => nf (by rw [z, ha] at e2; rw [Option.some.inj e2]; exact .code ..)]; exact e2
theorem tabs_new {H : Hp} {T : List (Addr × Str)} {p : Addr} {o : HO} (t : LamX.Tabs T H) (hp : H p = none) : LamX.Tabs T (upd H p o) := t.ext fun b u h => by rw [upd_ne (ne_of_none h hp)]; exact h
theorem Sim.new {p : Addr} {o : HO} (sim : Sim W M S H) (hp : H p = none) : Sim W M S (upd H p o) :=
  ⟨sim.len, sim.inj, fun n o' a h1 h2 => (sim.obj n o' a h1 h2).mono (ext_new hp) fun m u hu => by rw [upd_ne (ne_of_none hu hp)]; exact hu, tabs_new sim.tabs hp⟩
theorem get_snoc {α : Type} {l : List α} {x y : α} {n : Nat} (h : (l ++ [x])[n]? = some y) : (n < l.length ∧ l[n]? = some y) ∨ (n = l.length ∧ x = y) := by
  by_cases hn : n < l.length
  · rw [List.getElem?_append_left hn] at h; exact .inl ⟨hn, h⟩
  · rw [List.getElem?_append_right (by omega)] at h
    have : n - l.length = 0 := by
      have := (List.getElem?_eq_some_iff.mp h).1
      simp at this; omega
    rw [this] at h
    simp at h
    exact .inr ⟨by omega, h⟩
theorem Sim.alloc {p : Addr} {o : HO} {ob : O} (sim : Sim W M S H) (hp : H p = none) (ho : RepO W (M ++ [p]) (upd H p o) p ob) : Sim W (M ++ [p]) (S ++ [ob]) (upd H p o) := by
  refine ⟨by simp [sim.len], fun n m a o1 o2 h1 h2 h3 h4 m1 m2 => ?_, fun n o' a h1 h2 => ?_, tabs_new sim.tabs hp⟩
  · have key : ∀ {k : Nat} {ok : O}, M[k]? = some p → S[k]? = some ok → ok.mut = true → False := fun {k ok} a1 a2 a3 => by
      obtain ⟨u, hu, _⟩ := (sim.obj k ok p a2 a1).some a3
      rw [hp] at hu; cases hu
    rcases get_snoc h1 with ⟨l1, h1⟩ | ⟨l1, h1⟩ <;> rcases get_snoc h2 with ⟨l2, h2⟩ | ⟨l2, h2⟩
    · rw [List.getElem?_append_left (by rw [← sim.len]; exact l1)] at h3
      rw [List.getElem?_append_left (by rw [← sim.len]; exact l2)] at h4
      exact sim.inj n m a o1 o2 h1 h2 h3 h4 m1 m2
    · rw [List.getElem?_append_left (by rw [← sim.len]; exact l1)] at h3
      subst h2
      exact (key h1 h3 m1).elim
    · rw [List.getElem?_append_left (by rw [← sim.len]; exact l2)] at h4
      subst h1
      exact (key h2 h4 m2).elim
    · omega
  · rcases get_snoc h2 with ⟨l2, h2⟩ | ⟨l2, h2⟩
    · rw [List.getElem?_append_left (by rw [← sim.len]; exact l2)] at h1
      exact (sim.obj n o' a h1 h2).mono (ext_alloc hp) fun m u hu => by rw [upd_ne (ne_of_none hu hp)]; exact hu
    · subst h2
      rw [l2, sim.len] at h1
      simp at h1
      subst h1
      exact ho
theorem snoc_get {α : Type} {l : List α} {x : α} : (l ++ [x])[l.length]? = some x := by simp
/-- a written object -/
theorem ext_write {a : Addr} {o u : HO} (ha : H a = some u) (nf : ¬ Fix u) : Ext M H M (upd H a o) :=
  ⟨fun n a h => h, fun b w h f => by
    by_cases e : b = a
    · subst e; rw [ha] at h; cases h; exact (nf f).elim
    · rw [upd_ne e]; exact h⟩
theorem Sim.write {n : Nat} {a : Addr} {o u : HO} {ob ob' : O} (sim : Sim W M S H) (hn : S[n]? = some ob) (hm : M[n]? = some a) (ha : H a = some u) (nf : ¬ Fix u) (mu : ob.mut = true) (mu' : ob'.mut = true) (ho : RepO W M (upd H a o) a ob') (nt : ∀ ps, u ≠ .tbl ps := by intro _ z; cases z) : Sim W M (S.set n ob') (upd H a o) := by
  have hlt : n < S.length := (List.getElem?_eq_some_iff.mp hn).1
  refine ⟨by simp [sim.len], fun k m b o1 o2 h1 h2 h3 h4 m1 m2 => ?_, fun k o' b h1 h2 => ?_, tabs_upd sim.tabs ha nf nt⟩
  · have key : ∀ {k : Nat} {ok : O}, (S.set n ob')[k]? = some ok → ok.mut = true → ∃ o0, S[k]? = some o0 ∧ o0.mut = true := fun {k ok} q1 q2 => by
      by_cases e : n = k
      · subst e; exact ⟨ob, hn, mu⟩
      · rw [List.getElem?_set_ne e] at q1; exact ⟨ok, q1, q2⟩
    obtain ⟨p1, p2, p3⟩ := key h3 m1
    obtain ⟨q1, q2, q3⟩ := key h4 m2
    exact sim.inj k m b p1 q1 h1 h2 p2 q2 p3 q3
  · by_cases e : n = k
    · subst e
      rw [List.getElem?_set_self hlt] at h1
      cases h1
      rw [hm] at h2; cases h2
      exact ho
    · rw [List.getElem?_set_ne e] at h1
      refine (sim.obj k o' b h1 h2).mono (ext_write ha nf) fun m w hw => ?_
      have : b ≠ a := fun z => by
        subst z
        exact e (sim.inj n k b ob o' hm h2 hn h1 mu m)
      rw [upd_ne this]; exact hw
end

/-! ### the combinators -/
def LINE : Nat := 16777216
theorem line_eq : sizeLine = LINE := sizeLine_eq
section
variable {W : Wd} {cells : List (Str × Addr)} {wx : WX} {σ : L2.St} {M : List Addr} {S : Store} {H : Hp} {env : EnvT} {Q : VK}
/-- one step: d is run, what is behind it goes on from where it stands -/
theorem step {α : Type} {d : DE} {k : T → Store → R T} (sim : Sim W M S H) (er : EnvR W cells M H env σ) (post : PostE W cells wx σ M H Q ((d env S).bind k)) {Q' : VK}
    (hq : ∀ M' S' H' t v, Ext M H M' H' → Sim W M' S' H' → EnvR W cells M' H' env σ → RepX W cells M' H' t v → PostE W cells wx σ M' H' Q (k t S') → Q' v H') : tE W cells wx d σ H Q' := by
  refine ⟨M, S, env, sim, er, ?_⟩
  cases e : d env S with
  | ok t S' =>
    rw [e] at post
    exact fun M' H' v ex sim' rep => hq M' S' H' t v ex sim' (er.mono ex) rep (PostE.mono ex post)
  | exc c p S' => rw [e] at post; exact post
  | bad => rw [e] at post; exact post
theorem stepA {d : DA} {k : List T → Store → R T} (sim : Sim W M S H) (er : EnvR W cells M H env σ) (post : PostE W cells wx σ M H Q ((d env S).bind k)) {Q' : List V → Hp → Prop}
    (hq : ∀ M' S' H' ts vs, Ext M H M' H' → Sim W M' S' H' → EnvR W cells M' H' env σ → Paired (RepX W cells M' H') ts vs → PostE W cells wx σ M' H' Q (k ts S') → Q' vs H') : tA W cells wx d σ H Q' := by
  refine ⟨M, S, env, sim, er, ?_⟩
  cases e : d env S with
  | ok t S' =>
    rw [e] at post
    exact fun M' H' v ex sim' rep => hq M' S' H' t v ex sim' (er.mono ex) rep (PostE.mono ex post)
  | exc c p S' => rw [e] at post; exact post
  | bad => rw [e] at post; exact post
theorem PostE.here {t : T} {v : V} (post : PostE W cells wx σ M H Q (.ok t S)) (sim : Sim W M S H) (r : RepX W cells M H t v) : Q v H := post M H v Ext.refl sim r
end

def dVar (i : Nat) : DE := fun env S => match env[i]? with
  | some .hole => .bad
  | some t => .ok t S
  | none => .bad
def dLit (t : T) : DE := fun _ S => .ok t S
def dBin (f : T → T → Store → R T) (a b : DE) : DE := fun env S => (a env S).bind fun t S1 => (b env S1).bind fun u S2 => f t u S2
def dUn (f : T → Store → R T) (a : DE) : DE := fun env S => (a env S).bind f
def isT : T → Option Bool
  | .bl b => some b
  | _ => none
def pick {α : Type} (z : α) (a b : Store → α) : T → Store → α
  | .bl true, S => a S
  | .bl false, S => b S
  | _, _ => z
def dIte (c a b : DE) : DE := fun env S => (c env S).bind (pick .bad (a env) (b env))
def dAnd (a b : DE) : DE := dIte a b (dLit (.bl false))
def dOr (a b : DE) : DE := dIte a (dLit (.bl true)) b
def nNot : T → Store → R T
  | .bl b, S => .ok (.bl (!b)) S
  | _, _ => .bad
def dChain (f g : T → T → Store → R T) (a b c : DE) : DE := fun env S => (a env S).bind fun t S1 => (b env S1).bind fun u S2 => (f t u S2).bind fun k S3 => match k with
  | .bl true => (c env S3).bind fun w S4 => g u w S4
  | .bl false => .ok (.bl false) S3
  | _ => .bad
def dNil : DA := fun _ S => .ok [] S
def dCons (a : DE) (r : DA) : DA := fun env S => (a env S).bind fun t S1 => (r env S1).bind fun ts S2 => .ok (t :: ts) S2
def dTup (a : DA) : DE := fun env S => (a env S).bind fun ts S1 => if ts.all T.plain && decide (ts.length ≤ LINE) then .ok (.tup ts) S1 else .bad
def newO (o : O) (S : Store) : R T := .ok (.ref S.length) (S ++ [o])
def dLst (a : DA) : DE := fun env S => (a env S).bind fun ts S1 => if ts.all T.plain && decide (ts.length ≤ LINE) then newO (.lst ts) S1 else .bad

/-- what an operation of two values does is what f says -/
def OpD (W : Wd) (cells : List (Str × Addr)) (wx : WX) (r : R2) (f : T → T → Store → R T) : Prop :=
  ∀ σ M S H Q t u v w, Sim W M S H → RepX W cells M H t v → RepX W cells M H u w → PostE W cells wx σ M H Q (f t u S) → r v w H Q
def UnD (W : Wd) (cells : List (Str × Addr)) (wx : WX) (r : V → Hp → VK → Prop) (f : T → Store → R T) : Prop :=
  ∀ σ M S H Q t v, Sim W M S H → RepX W cells M H t v → PostE W cells wx σ M H Q (f t S) → r v H Q
theorem OpR.either {X : Cx} {f : Value → Value → Sem Value} {r r' : R2} (h : OpR X f r) (h' : OpR X f r') : OpR X f (fun x y H Q => r x y H Q ∨ r' x y H Q) := fun pins s σ H x y v u Q I rx ry q =>
  q.elim (h pins s σ H x y v u Q I rx ry) (h' pins s σ H x y v u Q I rx ry)

section
variable {X : Cx} {W : Wd} {cells : List (Str × Addr)} {wx : WX} {pos : Pos}
abbrev EE (X : Cx) (W : Wd) (cells : List (Str × Addr)) (wx : WX) (e : Expr) (d : DE) : Prop := PE X e (tE W cells wx d)
/-- as a test -/
def tTst (W : Wd) (cells : List (Str × Addr)) (wx : WX) (d : DE) : TT := fun σ H Q => tE W cells wx (dUn (fun t S => match t with | .bl b => .ok (.bl b) S | _ => .bad) d) σ H fun v H' => ∃ b, v = .bl b ∧ Q b H'
abbrev EQ (X : Cx) (W : Wd) (cells : List (Str × Addr)) (wx : WX) (e : Expr) (d : DE) : Prop := PT X e (tTst W cells wx d)
abbrev EL (X : Cx) (W : Wd) (cells : List (Str × Addr)) (wx : WX) (es : List Expr) (d : DA) : Prop := PA X es (tA W cells wx d)

theorem ee_var {i : Nat} {x : Str} (hN : X.N[i]? = some x) (hv : Vis X.env.scope x) (hd : (x == ("__debug__" : Str)) = false := by decide) (hcd : (x == ("__classdict__" : Str)) = false := by decide) : EE X W cells wx (.Name x pos) (dVar i) := by
  refine pe_weak (pe_var hN hv hd hcd) fun σ H Q h => ?_
  obtain ⟨M, S, env, sim, er, post⟩ := h
  unfold dVar at post
  cases e : env[i]? with
  | none => rw [e] at post; exact post.elim
  | some t =>
    rw [e] at post
    cases ht : t with
    | hole => subst ht; exact post.elim
    | _ =>
      obtain ⟨v, h1, h2⟩ := er.2 i t e (by rw [ht]; exact fun z => nomatch z)
      refine ⟨v, h1, ?_⟩
      rw [ht] at post h2
      exact PostE.here post sim h2
theorem ee_int {i j} : EE X W cells wx (.Constant (.int i) j pos) (dLit (.int i)) := pe_weak pe_int fun σ H Q ⟨M, S, env, sim, er, post⟩ => PostE.here post sim (by show Rep ..; unfold Rep; rfl)
theorem ee_bl {b j} : EE X W cells wx (.Constant (.bool b) j pos) (dLit (.bl b)) := pe_weak pe_bl fun σ H Q ⟨M, S, env, sim, er, post⟩ => PostE.here post sim (by show Rep ..; unfold Rep; rfl)
theorem ee_non {j} : EE X W cells wx (.Constant .none j pos) (dLit .non) := pe_weak pe_non fun σ H Q ⟨M, S, env, sim, er, post⟩ => PostE.here post sim (by show Rep ..; unfold Rep; rfl)
theorem ee_str {x j} : EE X W cells wx (.Constant (.str x) j pos) (dLit (.str x)) := pe_weak pe_str fun σ H Q ⟨M, S, env, sim, er, post⟩ => PostE.here post sim (by show Rep ..; unfold Rep; rfl)
theorem ee_bin {a b : Expr} {da db : DE} {op : Operator} {r : R2} {f : T → T → Store → R T} (ho : OpR X (binaryOp op) r) (hf : OpD W cells wx r f) (ha : EE X W cells wx a da) (hb : EE X W cells wx b db) : EE X W cells wx (.BinOp a op b pos) (dBin f da db) :=
  pe_weak (pe_op ho ha hb) fun σ H Q ⟨M, S, env, sim, er, post⟩ => step (α := Unit) sim er post fun M1 S1 H1 t v e1 sim1 er1 r1 post1 => step (α := Unit) sim1 er1 post1 fun M2 S2 H2 u w e2 sim2 er2 r2 post2 =>
    hf σ M2 S2 H2 Q t u v w sim2 (r1.mono e2) r2 post2
theorem ee_cmp {a b : Expr} {da db : DE} {op : CmpOp} {r : R2} {f : T → T → Store → R T} (ho : OpR X (compareOp op) r) (hf : OpD W cells wx r f) (hm : behindInMarks op b = false) (ha : EE X W cells wx a da) (hb : EE X W cells wx b db) : EE X W cells wx (.Compare a [op] [b] pos) (dBin f da db) :=
  pe_weak (pe_cmpR ho ha hb hm) fun σ H Q ⟨M, S, env, sim, er, post⟩ => step (α := Unit) sim er post fun M1 S1 H1 t v e1 sim1 er1 r1 post1 => step (α := Unit) sim1 er1 post1 fun M2 S2 H2 u w e2 sim2 er2 r2 post2 =>
    hf σ M2 S2 H2 Q t u v w sim2 (r1.mono e2) r2 post2
theorem ee_sub {a b : Expr} {da db : DE} {r : R2} {f : T → T → Store → R T} (ho : IxR X r) (hf : OpD W cells wx r f) (hs : PlainIx b) (ha : EE X W cells wx a da) (hb : EE X W cells wx b db) : EE X W cells wx (.Subscript a b pos) (dBin f da db) :=
  pe_weak (pe_ix ho ha hb hs) fun σ H Q ⟨M, S, env, sim, er, post⟩ => step (α := Unit) sim er post fun M1 S1 H1 t v e1 sim1 er1 r1 post1 => step (α := Unit) sim1 er1 post1 fun M2 S2 H2 u w e2 sim2 er2 r2 post2 =>
    hf σ M2 S2 H2 Q t u v w sim2 (r1.mono e2) r2 post2
theorem ee_un {a : Expr} {da : DE} {op : UnaryOp} {r : V → Hp → VK → Prop} {f : T → Store → R T} (ho : UnR X (unaryOp op) r) (hf : UnD W cells wx r f) (ha : EE X W cells wx a da) : EE X W cells wx (.UnaryOp op a pos) (dUn f da) :=
  pe_weak (pe_un ho ha) fun σ H Q ⟨M, S, env, sim, er, post⟩ => step (α := Unit) sim er post fun M1 S1 H1 t v e1 sim1 er1 r1 post1 => hf σ M1 S1 H1 Q t v sim1 r1 post1
end
end DD
set_option Elab.async false
set_option linter.all false
set_option maxRecDepth 100000
set_option maxHeartbeats 4000000
/-! The Den layer, part 3: tests, displays, slices, calls of built-ins, statements. -/
namespace DD
open PySem PySem.Spec PyProof.Rows L2

def tQ (W : Wd) (cells : List (Str × Addr)) (wx : WX) (d : DE) : TT := fun σ H Q => tE W cells wx d σ H fun v H' => ∃ b, v = .bl b ∧ Q b H'
/-- a slice's part -/
def dPart : Option DE → EnvT → Store → R (Option Int)
  | none, _, S => .ok none S
  | some d, env, S => (d env S).bind fun t S1 => match t with
    | .int i => .ok (some i) S1
    | _ => .bad
def dSlc (f : T → Option Int → Option Int → Store → R T) (d : DE) (lo hi : Option DE) : DE := fun env S =>
  (d env S).bind fun t S1 => (dPart lo env S1).bind fun l S2 => (dPart hi env S2).bind fun u S3 => f t l u S3
def dCallF (f : List T → Store → R T) (a : DA) : DE := fun env S => (a env S).bind f
/-- o.m(args): c looks at the receiver -/
def dMeth (c : T → Store → Bool) (f : T → List T → Store → R T) (o : DE) (a : DA) : DE := fun env S => (o env S).bind fun t S1 => if c t S1 then (a env S1).bind fun ts S2 => f t ts S2 else .bad

section
variable {W : Wd} {cells : List (Str × Addr)} {wx : WX} {σ : L2.St} {M : List Addr} {S : Store} {H : Hp} {env : EnvT} {Q : VK}
theorem stepQ {d : DE} {k : T → Store → R T} (sim : Sim W M S H) (er : EnvR W cells M H env σ) (post : PostE W cells wx σ M H Q ((d env S).bind k)) (hk : ∀ t S', (∀ b, t ≠ .bl b) → k t S' = .bad) {Q' : Bool → Hp → Prop}
    (hq : ∀ M' S' H' b, Ext M H M' H' → Sim W M' S' H' → EnvR W cells M' H' env σ → PostE W cells wx σ M' H' Q (k (.bl b) S') → Q' b H') : tQ W cells wx d σ H Q' :=
  step (α := Unit) sim er post fun M' S' H' t v e sim' er' r post' => by
    cases t with
    | bl b => exact ⟨b, by simpa [RepX, Rep] using r, hq M' S' H' b e sim' er' post'⟩
    | _ => rw [hk _ _ (by intro b z; cases z)] at post'; exact post'.elim
theorem stepP {d : DE} {k : Option Int → Store → R T} (sim : Sim W M S H) (er : EnvR W cells M H env σ) (post : PostE W cells wx σ M H Q ((dPart (some d) env S).bind k)) {Q' : Option Int → Hp → Prop}
    (hq : ∀ M' S' H' o, Ext M H M' H' → Sim W M' S' H' → EnvR W cells M' H' env σ → PostE W cells wx σ M' H' Q (k o S') → Q' o H') : tPart (tE W cells wx d) σ H Q' := by
  have post2 : PostE W cells wx σ M H Q ((d env S).bind fun t S1 => match t with | .int i => k (some i) S1 | _ => .bad) := by
    have post : PostE W cells wx σ M H Q (((d env S).bind fun t S1 => match t with | .int i => .ok (some i) S1 | _ => .bad).bind k) := post
    cases e : d env S with
    | ok t S' => rw [e] at post; cases t <;> exact post
    | exc c p S' => rw [e] at post; exact post
    | bad => rw [e] at post; exact post
  refine step (α := Unit) sim er post2 fun M' S' H' t v e sim' er' r post' => ?_
  cases t with
  | int i => exact ⟨i, by simpa [RepX, Rep] using r, hq M' S' H' _ e sim' er' post'⟩
  | _ => exact post'.elim
theorem bind_assoc {α β γ : Type} (r : R α) (k : α → Store → R β) (k' : β → Store → R γ) : (r.bind k).bind k' = r.bind fun a S => (k a S).bind k' := by cases r <;> rfl
end

/-- what a call with values does is what f says -/
def CallD (W : Wd) (cells : List (Str × Addr)) (wx : WX) (r : List V → Hp → VK → Prop) (f : List T → Store → R T) : Prop :=
  ∀ σ M S H Q ts vs, Sim W M S H → Paired (RepX W cells M H) ts vs → PostE W cells wx σ M H Q (f ts S) → r vs H Q
def MethD (W : Wd) (cells : List (Str × Addr)) (wx : WX) (r : V → List V → Hp → VK → Prop) (f : T → List T → Store → R T) : Prop :=
  ∀ σ M S H Q t ts v vs, Sim W M S H → RepX W cells M H t v → Paired (RepX W cells M H) ts vs → PostE W cells wx σ M H Q (f t ts S) → r v vs H Q
def SlD (W : Wd) (cells : List (Str × Addr)) (wx : WX) (r : V → Option Int → Option Int → Hp → VK → Prop) (f : T → Option Int → Option Int → Store → R T) : Prop :=
  ∀ σ M S H Q t v l u, Sim W M S H → RepX W cells M H t v → PostE W cells wx σ M H Q (f t l u S) → r v l u H Q
def TyD (W : Wd) (cells : List (Str × Addr)) (T0 : String) (c : T → Store → Bool) : Prop := ∀ M S H t v, Sim W M S H → RepX W cells M H t v → c t S = true → tyV W.K T0 v H

section
variable {X : Cx} {W : Wd} {cells : List (Str × Addr)} {wx : WX} {pos : Pos}
abbrev EB (X : Cx) (W : Wd) (cells : List (Str × Addr)) (wx : WX) (e : Expr) (d : DE) : Prop := PT X e (tQ W cells wx d)
abbrev EW (X : Cx) (W : Wd) (cells : List (Str × Addr)) (wx : WX) (e : Expr) (d : DE) : Prop := PW X e (tQ W cells wx d)
theorem pw_weak {e : Expr} {t t' : TT} (h : PW X e t) (hw : ∀ σ H Q, t' σ H Q → t σ H Q) : PW X e t' := ⟨fun wh pins s σ H Q I q => h.run wh pins s σ H Q I (hw σ H Q q)⟩
theorem eb_val {e : Expr} {d : DE} (h : EE X W cells wx e d) (he : ∀ whole, isTrue e X.env whole = (do let v ← whole; standAt e.pos; holding [v] (truthy v)) := by intro _; rfl) : EB X W cells wx e d := pt_val h he
theorem eb_cmp {a b : Expr} {da db : DE} {op : CmpOp} {r : R2} {f : T → T → Store → R T} (ho : OpR X (compareOp op) r) (hf : OpD W cells wx r f) (hm : behindInMarks op b = false) (ha : EE X W cells wx a da) (hb : EE X W cells wx b db) : EB X W cells wx (.Compare a [op] [b] pos) (dBin f da db) :=
  pt_weak (pt_cmpR ho ha hb hm) fun σ H Q ⟨M, S, env, sim, er, post⟩ => step (α := Unit) sim er post fun M1 S1 H1 t v e1 sim1 er1 r1 post1 => step (α := Unit) sim1 er1 post1 fun M2 S2 H2 u w e2 sim2 er2 r2 post2 =>
    hf σ M2 S2 H2 _ t u v w sim2 (r1.mono e2) r2 post2
theorem chain_w {a b c : Expr} {da db dc : DE} {r r' : R2} {f g : T → T → Store → R T} (hf : OpD W cells wx r f) (hg : OpD W cells wx r' g) {σ : L2.St} {H : Hp} {Q : VK}
    (h : tE W cells wx (dChain f g da db dc) σ H Q) : tChain r r' (tE W cells wx da) (tE W cells wx db) (tE W cells wx dc) σ H Q := by
  obtain ⟨M, S, env, sim, er, post⟩ := h
  refine step (α := Unit) sim er post fun M1 S1 H1 t v e1 sim1 er1 r1 post1 => step (α := Unit) sim1 er1 post1 fun M2 S2 H2 u w e2 sim2 er2 r2 post2 => ?_
  refine hf σ M2 S2 H2 _ t u v w sim2 (r1.mono e2) r2 ?_
  cases e : f t u S2 with
  | bad => rw [e] at post2; exact post2.elim
  | exc c p S3 => rw [e] at post2; exact post2
  | ok k S3 =>
    rw [e] at post2
    intro M3 H3 z e3 sim3 r3
    cases k with
    | bl k =>
      have ez : z = .bl k := by simpa [RepX, Rep] using r3
      refine ⟨k, ez, ?_⟩
      cases k with
      | true =>
        rw [if_pos rfl]
        have post3 := PostE.mono e3 post2
        exact step (α := Unit) sim3 (er2.mono e3) post3 fun M4 S4 H4 w' v4 e4 sim4 er4 r4 post4 => hg σ M4 S4 H4 _ u w' w v4 sim4 ((r2.mono e3).mono e4) r4 post4
      | false =>
        rw [if_neg Bool.false_ne_true]
        exact post2 M3 H3 _ e3 sim3 (by show Rep ..; unfold Rep; rfl)
    | _ => exact post2.elim
theorem ee_chain {a b c : Expr} {da db dc : DE} {op op' : CmpOp} {r r' : R2} {f g : T → T → Store → R T} (ho : OpR X (compareOp op) r) (hf : OpD W cells wx r f) (ho' : OpR X (compareOp op') r') (hg : OpD W cells wx r' g)
    (ha : EE X W cells wx a da) (hb : EE X W cells wx b db) (hc : EE X W cells wx c dc) (hm : lastMarks [op, op'] [b, c] = false := by with_unfolding_all rfl) : EE X W cells wx (.Compare a [op, op'] [b, c] pos) (dChain f g da db dc) :=
  pe_weak (pe_chain ho ho' ha hb hc hm) fun σ H Q h => chain_w (a := a) (b := b) (c := c) hf hg h
theorem eb_chain {a b c : Expr} {da db dc : DE} {op op' : CmpOp} {r r' : R2} {f g : T → T → Store → R T} (ho : OpR X (compareOp op) r) (hf : OpD W cells wx r f) (ho' : OpR X (compareOp op') r') (hg : OpD W cells wx r' g)
    (ha : EE X W cells wx a da) (hb : EE X W cells wx b db) (hc : EE X W cells wx c dc) (hm : lastMarks [op, op'] [b, c] = false := by with_unfolding_all rfl) : EB X W cells wx (.Compare a [op, op'] [b, c] pos) (dChain f g da db dc) :=
  pt_weak (pt_chain ho ho' ha hb hc hm) fun σ H Q h => chain_w (a := a) (b := b) (c := c) hf hg h
theorem ite_bad {α : Type} {z : α} {a b : Store → α} : ∀ t S', (∀ k, t ≠ T.bl k) → pick z a b t S' = z := fun t S' h => by
  cases t with
  | bl k => exact (h k rfl).elim
  | _ => rfl
theorem ew_and1 {a : Expr} {da : DE} (ha : EB X W cells wx a da) : EW X W cells wx (.BoolOp .And [a] pos) da := pw_and1 ha
theorem ew_or1 {a : Expr} {da : DE} (ha : EB X W cells wx a da) : EW X W cells wx (.BoolOp .Or [a] pos) da := pw_or1 ha
theorem ew_and {a b : Expr} {rest : List Expr} {da db : DE} (ha : EB X W cells wx a da) (hb : EW X W cells wx (.BoolOp .And (b :: rest) pos) db) : EW X W cells wx (.BoolOp .And (a :: b :: rest) pos) (dAnd da db) :=
  pw_weak (pw_and ha hb) fun σ H Q ⟨M, S, env, sim, er, post⟩ => stepQ sim er post ite_bad fun M' S' H' k e sim' er' post' => by
    cases k with
    | true => rw [if_pos rfl]; exact ⟨M', S', env, sim', er', post'⟩
    | false =>
      rw [if_neg Bool.false_ne_true]
      obtain ⟨b, e1, q⟩ := PostE.here post' sim' (v := .bl false) (by show Rep ..; unfold Rep; rfl)
      cases e1; exact q
theorem ew_or {a b : Expr} {rest : List Expr} {da db : DE} (ha : EB X W cells wx a da) (hb : EW X W cells wx (.BoolOp .Or (b :: rest) pos) db) : EW X W cells wx (.BoolOp .Or (a :: b :: rest) pos) (dOr da db) :=
  pw_weak (pw_or ha hb) fun σ H Q ⟨M, S, env, sim, er, post⟩ => stepQ sim er post ite_bad fun M' S' H' k e sim' er' post' => by
    cases k with
    | false => rw [if_neg Bool.false_ne_true]; exact ⟨M', S', env, sim', er', post'⟩
    | true =>
      rw [if_pos rfl]
      obtain ⟨b, e1, q⟩ := PostE.here post' sim' (v := .bl true) (by show Rep ..; unfold Rep; rfl)
      cases e1; exact q
theorem eb_w {e : Expr} {d : DE} (h : EW X W cells wx e d) : EB X W cells wx e d := h.pt
theorem not_bad : ∀ t S', (∀ k, t ≠ T.bl k) → nNot t S' = .bad := fun t S' h => by
  cases t with
  | bl k => exact (h k rfl).elim
  | _ => rfl
theorem eb_not {a : Expr} {da : DE} (ha : EB X W cells wx a da) : EB X W cells wx (.UnaryOp .Not a pos) (dUn nNot da) :=
  pt_weak (pt_not ha) fun σ H Q ⟨M, S, env, sim, er, post⟩ => stepQ sim er post not_bad fun M' S' H' k e sim' er' post' => by
    obtain ⟨b, e1, q⟩ := PostE.here post' sim' (v := .bl (!k)) (by show Rep ..; unfold Rep; rfl)
    cases e1; exact q
theorem ee_not {a : Expr} {da : DE} (ha : EE X W cells wx a da) : EE X W cells wx (.UnaryOp .Not a pos) (dUn nNot da) :=
  pe_weak (pe_not ha) fun σ H Q ⟨M, S, env, sim, er, post⟩ => stepQ sim er post not_bad fun M' S' H' k e sim' er' post' =>
    PostE.here post' sim' (v := .bl (!k)) (by show Rep ..; unfold Rep; rfl)
theorem ee_one {op} {a : Expr} {da : DE} (ha : EE X W cells wx a da) : EE X W cells wx (.BoolOp op [a] pos) da := pe_one ha
theorem ee_and {a b : Expr} {rest : List Expr} {da db : DE} (ha : EE X W cells wx a da) (hb : EE X W cells wx (.BoolOp .And (b :: rest) pos) db) : EE X W cells wx (.BoolOp .And (a :: b :: rest) pos) (dAnd da db) :=
  pe_weak (pe_and ha hb) fun σ H Q ⟨M, S, env, sim, er, post⟩ => stepQ sim er post ite_bad fun M' S' H' k e sim' er' post' => by
    cases k with
    | true => rw [if_pos rfl]; exact ⟨M', S', env, sim', er', post'⟩
    | false => rw [if_neg Bool.false_ne_true]; exact PostE.here post' sim' (v := .bl false) (by show Rep ..; unfold Rep; rfl)
theorem ee_or {a b : Expr} {rest : List Expr} {da db : DE} (ha : EE X W cells wx a da) (hb : EE X W cells wx (.BoolOp .Or (b :: rest) pos) db) : EE X W cells wx (.BoolOp .Or (a :: b :: rest) pos) (dOr da db) :=
  pe_weak (pe_or ha hb) fun σ H Q ⟨M, S, env, sim, er, post⟩ => stepQ sim er post ite_bad fun M' S' H' k e sim' er' post' => by
    cases k with
    | false => rw [if_neg Bool.false_ne_true]; exact ⟨M', S', env, sim', er', post'⟩
    | true => rw [if_pos rfl]; exact PostE.here post' sim' (v := .bl true) (by show Rep ..; unfold Rep; rfl)
theorem ee_ifx {c a b : Expr} {dc da db : DE} (hc : EB X W cells wx c dc) (ha : EE X W cells wx a da) (hb : EE X W cells wx b db) : EE X W cells wx (.IfExp c a b pos) (dIte dc da db) :=
  pe_weak (pe_ifExp hc ha hb) fun σ H Q ⟨M, S, env, sim, er, post⟩ => stepQ sim er post ite_bad fun M' S' H' k e sim' er' post' => by
    cases k with
    | true => rw [if_pos rfl]; exact ⟨M', S', env, sim', er', post'⟩
    | false => rw [if_neg Bool.false_ne_true]; exact ⟨M', S', env, sim', er', post'⟩

/-! ### lists of arguments, displays -/
theorem el_nil : EL X W cells wx [] dNil := pa_weak pa_nil fun σ H Q ⟨M, S, env, sim, er, post⟩ => post M H [] Ext.refl sim .nil
theorem el_cons {e : Expr} {es : List Expr} {d : DE} {ds : DA} (h : EE X W cells wx e d) (hs : EL X W cells wx es ds) (hst : starEach (e :: es) X.env = (false, eval e X.env) :: starEach es X.env := by rfl) : EL X W cells wx (e :: es) (dCons d ds) :=
  pa_weak (pa_cons h hs hst) fun σ H Q ⟨M, S, env, sim, er, post⟩ => by
    refine ⟨M, S, env, sim, er, ?_⟩
    unfold dCons at post
    cases e1 : d env S with
    | bad => rw [e1] at post; exact post.elim
    | exc c p S' => rw [e1] at post; exact post
    | ok t S' =>
      rw [e1] at post
      intro M1 H1 v x1 sim1 r1
      refine ⟨M1, S', env, sim1, er.mono x1, ?_⟩
      cases e2 : ds env S' with
      | bad => simp only [R.bind, e2] at post; exact post.elim
      | exc c p S'' => simp only [R.bind, e2] at post; exact fun M' H' cls dd e' => post M' H' cls dd (x1.trans e')
      | ok ts S'' =>
        simp only [R.bind, e2] at post
        exact fun M2 H2 vs x2 sim2 r2 => post M2 H2 (v :: vs) (x1.trans x2) sim2 (.cons (r1.mono x2) r2)
theorem ee_tup {es : List Expr} {da : DA} {n : Nat} (h : EL X W cells wx es da) : EE X W cells wx (.Tuple es n pos) (dTup da) :=
  pe_weak (pe_tup h) fun σ H Q ⟨M, S, env, sim, er, post⟩ => stepA sim er post fun M' S' H' ts vs e sim' er' r post' => by
    by_cases hc : (ts.all T.plain && decide (ts.length ≤ LINE)) = true
    · rw [if_pos hc] at post'
      simp only [Bool.and_eq_true, decide_eq_true_eq] at hc
      have rr := paired_reps r hc.1
      have hl := reps_len rr
      refine ⟨by rw [line_eq, hl]; exact hc.2, fun p hp => ?_⟩
      refine post' M' _ _ (ext_new hp) (sim'.new hp) ?_
      show Rep ..
      unfold Rep
      exact ⟨p, vs, rfl, SqT.of upd_same, rr.mono (ext_new hp)⟩
    · rw [if_neg hc] at post'; exact post'.elim
theorem newO_ok {ob : O} {ho : HO} {σ : L2.St} {M : List Addr} {S : Store} {H : Hp} {Q : VK} (sim : Sim W M S H) (post : PostE W cells wx σ M H Q (newO ob S)) {p : Addr} (hp : H p = none) (hr : RepO W (M ++ [p]) (upd H p ho) p ob) : Q (.ref p) (upd H p ho) := by
  refine post (M ++ [p]) _ _ (ext_alloc hp) (sim.alloc hp hr) ?_
  show Rep ..
  exact Rep.ref_of (by rw [← sim.len]; exact snoc_get)
theorem ee_lst {es : List Expr} {da : DA} (h : EL X W cells wx es da) : EE X W cells wx (.List es pos) (dLst da) :=
  pe_weak (pe_lst h) fun σ H Q ⟨M, S, env, sim, er, post⟩ => stepA sim er post fun M' S' H' ts vs e sim' er' r post' => by
    by_cases hc : (ts.all T.plain && decide (ts.length ≤ LINE)) = true
    · rw [if_pos hc] at post'
      simp only [Bool.and_eq_true, decide_eq_true_eq] at hc
      have rr := paired_reps r hc.1
      have hl := reps_len rr
      refine ⟨by rw [line_eq, hl]; exact hc.2, fun p hp => newO_ok sim' post' hp ⟨vs, upd_same, rr.mono (ext_alloc hp)⟩⟩
    · rw [if_neg hc] at post'; exact post'.elim

/-! ### slices, calls -/
inductive EO (X : Cx) (W : Wd) (cells : List (Str × Addr)) (wx : WX) : Option Expr → Option DE → Prop
  | none : EO X W cells wx none none
  | some {e d} : EE X W cells wx e d → EO X W cells wx (some e) (some d)
theorem ee_slc {e : Expr} {lo hi : Option Expr} {d : DE} {dl dh : Option DE} {p2 : Pos} {r : V → Option Int → Option Int → Hp → VK → Prop} {f : T → Option Int → Option Int → Store → R T} (hr : SlR X r) (hf : SlD W cells wx r f) (h : EE X W cells wx e d) (hl : EO X W cells wx lo dl) (hh : EO X W cells wx hi dh) :
    EE X W cells wx (.Subscript e (.Slice lo hi none p2) pos) (dSlc f d dl dh) := by
  cases hl with
  | none =>
    cases hh with
    | none => exact pe_weak (pe_slice hr h po_none po_none) fun σ H Q ⟨M, S, env, sim, er, post⟩ => step (α := Unit) sim er post fun M1 S1 H1 t v e1 sim1 er1 r1 post1 => hf σ M1 S1 H1 Q t v _ _ sim1 r1 post1
    | some hh =>
      exact pe_weak (pe_slice hr h po_none (po_some hh)) fun σ H Q ⟨M, S, env, sim, er, post⟩ => step (α := Unit) sim er post fun M1 S1 H1 t v e1 sim1 er1 r1 post1 =>
        stepP sim1 er1 post1 fun M2 S2 H2 o e2 sim2 er2 post2 => hf σ M2 S2 H2 Q t v _ _ sim2 (r1.mono e2) post2
  | some hl =>
    cases hh with
    | none =>
      exact pe_weak (pe_slice hr h (po_some hl) po_none) fun σ H Q ⟨M, S, env, sim, er, post⟩ => step (α := Unit) sim er post fun M1 S1 H1 t v e1 sim1 er1 r1 post1 =>
        stepP sim1 er1 post1 fun M2 S2 H2 o e2 sim2 er2 post2 => hf σ M2 S2 H2 Q t v _ _ sim2 (r1.mono e2) post2
    | some hh =>
      exact pe_weak (pe_slice hr h (po_some hl) (po_some hh)) fun σ H Q ⟨M, S, env, sim, er, post⟩ => step (α := Unit) sim er post fun M1 S1 H1 t v e1 sim1 er1 r1 post1 =>
        stepP sim1 er1 post1 fun M2 S2 H2 o e2 sim2 er2 post2 => stepP sim2 er2 post2 fun M3 S3 H3 o3 e3 sim3 er3 post3 => hf σ M3 S3 H3 Q t v _ _ sim3 ((r1.mono e2).mono e3) post3
theorem ee_callB {x : Str} {id : String} {p : Pos} {e : Expr} {es : List Expr} {da : DA} {r : List V → Hp → VK → Prop} {f : List T → Store → R T} (hc : CallR X (.builtin id) r) (hf : CallD W cells wx r f) (hg : Gl X x) (hm : X.mg x = none) (hv : bootBuiltins x = some (.builtin id)) (ha : EL X W cells wx (e :: es) da)
    (hn : x ≠ "__name__" := by decide) (hdb : (x == ("__debug__" : Str)) = false := by decide) (he : starEach (e :: es) X.env = (false, eval e X.env) :: starEach es X.env := by rfl) (hpl : (backTo pos (starEach es X.env)).any (·.1) = false := by rfl) :
    EE X W cells wx (.Call (.Name x p) (e :: es) [] pos) (dCallF f da) :=
  pe_weak (pe_callB hc hg hm hv ha hn hdb he hpl) fun σ H Q ⟨M, S, env, sim, er, post⟩ => stepA sim er post fun M' S' H' ts vs e sim' er' r post' => hf σ M' S' H' Q ts vs sim' r post'
theorem ee_callT {x : Str} {T0 : String} {p : Pos} {e : Expr} {es : List Expr} {da : DA} {r : List V → Hp → VK → Prop} {f : List T → Store → R T} (hc : CallR X (.type T0) r) (hf : CallD W cells wx r f) (hg : Gl X x) (hm : X.mg x = none) (hv : bootBuiltins x = some (.type T0)) (ha : EL X W cells wx (e :: es) da)
    (hn : x ≠ "__name__" := by decide) (hdb : (x == ("__debug__" : Str)) = false := by decide) (he : starEach (e :: es) X.env = (false, eval e X.env) :: starEach es X.env := by rfl) (hpl : (backTo pos (starEach es X.env)).any (·.1) = false := by rfl) :
    EE X W cells wx (.Call (.Name x p) (e :: es) [] pos) (dCallF f da) :=
  pe_weak (pe_callTy hc hg hm hv ha hn hdb he hpl) fun σ H Q ⟨M, S, env, sim, er, post⟩ => stepA sim er post fun M' S' H' ts vs e sim' er' r post' => hf σ M' S' H' Q ts vs sim' r post'
theorem ee_bm {o e : Expr} {es : List Expr} {d0 : DE} {da : DA} {name : Str} {apos cpos : Pos} {T0 id : String} {r : V → List V → Hp → VK → Prop} {c : T → Store → Bool} {f : T → List T → Store → R T} (pa : PlainAttrs T0) (slot : Slot T0 name id) (hty : typeOf (.builtin id) = pure (.type "method_descriptor")) (hm : MtR X id r)
    (hc : TyD W cells T0 c) (hK : X.K = W.K) (hf : MethD W cells wx r f) (ho : EE X W cells wx o d0) (ha : EL X W cells wx (e :: es) da)
    (hbase : attributeBase o name X.env (eval o X.env) = eval o X.env := by rfl)
    (hfew : ((backTo cpos (starEach (e :: es) X.env)).all (fun x => !x.1) && (backToKw cpos (keywordEach [] X.env)).all (fun x => x.1.isSome)
      && decide ((e :: es).length + ([] : List Keyword).length + (if ([] : List Keyword).isEmpty then 0 else 1) < 30)) = true := by rfl)
    (hline : (apos.endLine == cpos.line) = true := by rfl) (hs : starEach (e :: es) X.env = (false, eval e X.env) :: starEach es X.env := by rfl) (hplain : (backTo cpos (starEach es X.env)).any (·.1) = false := by rfl) :
    EE X W cells wx (.Call (.Attribute o name apos) (e :: es) [] cpos) (dMeth c f d0 da) :=
  pe_weak (pe_bm pa slot hty hm ho ha hbase hfew hline hs hplain) fun σ H Q ⟨M, S, env, sim, er, post⟩ => step (α := Unit) sim er post fun M1 S1 H1 t v e1 sim1 er1 r1 post1 => by
    by_cases hcc : c t S1 = true
    · rw [if_pos hcc] at post1
      exact ⟨hK ▸ hc M1 S1 H1 t v sim1 r1 hcc, stepA sim1 er1 post1 fun M2 S2 H2 ts vs e2 sim2 er2 r2 post2 => hf σ M2 S2 H2 Q t ts v vs sim2 (r1.mono e2) r2 post2⟩
    · rw [if_neg hcc] at post1; exact post1.elim
theorem ee_bm0 {o : Expr} {d0 : DE} {name : Str} {apos cpos : Pos} {T0 id : String} {r : V → List V → Hp → VK → Prop} {c : T → Store → Bool} {f : T → List T → Store → R T} (pa : PlainAttrs T0) (slot : Slot T0 name id) (hty : typeOf (.builtin id) = pure (.type "method_descriptor")) (hm : MtR X id r)
    (hc : TyD W cells T0 c) (hK : X.K = W.K) (hf : MethD W cells wx r f) (ho : EE X W cells wx o d0) (hbase : attributeBase o name X.env (eval o X.env) = eval o X.env := by rfl) (hline : (apos.endLine == cpos.line) = true := by rfl) :
    EE X W cells wx (.Call (.Attribute o name apos) [] [] cpos) (dMeth c f d0 dNil) :=
  pe_weak (pe_bm0 pa slot hty hm ho hbase hline) fun σ H Q ⟨M, S, env, sim, er, post⟩ => step (α := Unit) sim er post fun M1 S1 H1 t v e1 sim1 er1 r1 post1 => by
    by_cases hcc : c t S1 = true
    · rw [if_pos hcc] at post1
      exact ⟨hK ▸ hc M1 S1 H1 t v sim1 r1 hcc, hf σ M1 S1 H1 Q t [] v [] sim1 r1 .nil post1⟩
    · rw [if_neg hcc] at post1; exact post1.elim
end

/-! ### statements -/
def dSkip : DS := fun e S => .nx e S
def dSeq (a b : DS) : DS := fun e S => (a e S).bind b
def dExpr (d : DE) : DS := fun e S => (d e S).inS e fun _ S1 => .nx e S1
def dRet (d : DE) : DS := fun e S => (d e S).inS e fun t S1 => .rt t S1
def dRetN : DS := fun e S => .rt .non S
def dBrk : DS := fun e S => .bk e S
def dCnt : DS := fun e S => .ct e S
def dIf (c : DE) (a b : DS) : DS := fun e S => (c e S).inS e (pick .bad (a e) (b e))
/-- a target: what it makes of the names and the store -/
inductive RG where
  | ok (e : EnvT) (S : Store) | exc (c : Nat) (p : List T) (e : EnvT) (S : Store) | bad
abbrev DG := T → EnvT → Store → RG
def RG.toS (r : RG) (k : EnvT → Store → RS) : RS := match r with
  | .ok e S => k e S
  | .exc c p e S => .exc c p e S
  | .bad => .bad
def dAsg (d : DE) (g : DG) : DS := fun e S => (d e S).inS e fun t S1 => (g t e S1).toS RS.nx
def gNam (i : Nat) : DG := fun t e S => if i < e.length then .ok (e.set i t) S else .bad
/-- behind a turn of a loop -/
def RS.loop (r : RS) (k : EnvT → Store → RS) : RS := match r with
  | .nx e S => k e S
  | .ct e S => k e S
  | .bk e S => .nx e S
  | .rt t S => .rt t S
  | .exc c p e S => .exc c p e S
  | .bad => .bad
def FUEL : Nat := 1000000000
def whileL (c : DE) (b : DS) : Nat → EnvT → Store → RS
  | 0, _, _ => .bad
  | n + 1, e, S => (c e S).inS e (pick .bad (fun S1 => (b e S1).loop (whileL c b n)) (fun S1 => .nx e S1))
def dWhile (c : DE) (b : DS) : DS := fun e S => whileL c b FUEL e S
end DD
set_option Elab.async false
set_option linter.all false
set_option maxRecDepth 100000
set_option maxHeartbeats 4000000
/-! The Den layer, part 4: statements, targets, loops, comprehensions. -/
namespace DD
open PySem PySem.Spec PyProof.Rows L2

inductive NX where
  | item (t : T) | stop | bad
abbrev ItD := Nat → Store → NX
abbrev DI := EnvT → Store → R ItD
def forL (it : ItD) (g : DG) (b : DS) : Nat → Nat → EnvT → Store → RS
  | 0, _, _, _ => .bad
  | n + 1, i, e, S => match it i S with
    | .stop => .nx e S
    | .bad => .bad
    | .item t => (g t e S).toS fun e1 S1 => (b e1 S1).loop (forL it g b n (i + 1))
def dFor (di : DI) (g : DG) (b : DS) : DS := fun e S => (di e S).inS e fun it S1 => forL it g b FUEL 0 e S1
abbrev DGs := List T → EnvT → Store → RG
def RG.bind (r : RG) (k : EnvT → Store → RG) : RG := match r with
  | .ok e S => k e S
  | .exc c p e S => .exc c p e S
  | .bad => .bad
def gNilD : DGs := fun ts e S => match ts with
  | [] => .ok e S
  | _ => .bad
def gConsD (g : DG) (r : DGs) : DGs := fun ts e S => match ts with
  | t :: ts => (g t e S).bind (r ts)
  | [] => .bad
def gTupD (n : Nat) (gs : DGs) : DG := fun t e S => match t with
  | .tup ts => if ts.length = n then gs ts e S else .bad
  | _ => .bad
def R.inG {α : Type} (r : R α) (e : EnvT) (k : α → Store → RG) : RG := match r with
  | .ok a S => k a S
  | .exc c p S => .exc c p e S
  | .bad => .bad
/-- o[i] = v -/
def gSubD (f : T → T → T → Store → R Unit) (o i : DE) : DG := fun t e S => (o e S).inG e fun x S1 => (i e S1).inG e fun y S2 => (f x y t S2).inG e fun _ S3 => .ok e S3

section
variable {W : Wd} {cells : List (Str × Addr)} {wx : WX} {σ : L2.St} {M : List Addr} {S : Store} {H : Hp} {env : EnvT} {D : Ends}
theorem stepS {d : DE} {k : T → Store → RS} (sim : Sim W M S H) (er : EnvR W cells M H env σ) (post : PostS W cells wx M H D ((d env S).inS env k)) {Q' : VK}
    (hq : ∀ M' S' H' t v, Ext M H M' H' → Sim W M' S' H' → EnvR W cells M' H' env σ → RepX W cells M' H' t v → PostS W cells wx M' H' D (k t S') → Q' v H') : tE W cells wx d σ H Q' := by
  refine ⟨M, S, env, sim, er, ?_⟩
  cases e : d env S with
  | ok t S' =>
    rw [e] at post
    exact fun M' H' v ex sim' rep => hq M' S' H' t v ex sim' (er.mono ex) rep (PostS.mono ex post)
  | exc c p S' => rw [e] at post; exact fun M' H' cls d ex sim' xr => post M' H' σ cls d ex sim' (er.mono ex) xr
  | bad => rw [e] at post; exact post
theorem stepSQ {d : DE} {a b : Store → RS} (sim : Sim W M S H) (er : EnvR W cells M H env σ) (post : PostS W cells wx M H D ((d env S).inS env (pick .bad a b))) {Q' : Bool → Hp → Prop}
    (ht : ∀ M' S' H', Ext M H M' H' → Sim W M' S' H' → EnvR W cells M' H' env σ → PostS W cells wx M' H' D (a S') → Q' true H')
    (hf : ∀ M' S' H', Ext M H M' H' → Sim W M' S' H' → EnvR W cells M' H' env σ → PostS W cells wx M' H' D (b S') → Q' false H') : tQ W cells wx d σ H Q' :=
  stepS sim er post fun M' S' H' t v e sim' er' r post' => by
    cases t with
    | bl k =>
      have ev : v = .bl k := by simpa [RepX, Rep] using r
      cases k with
      | true => exact ⟨true, ev, ht M' S' H' e sim' er' post'⟩
      | false => exact ⟨false, ev, hf M' S' H' e sim' er' post'⟩
    | _ => rw [ite_bad _ _ (by intro b z; cases z)] at post'; exact post'.elim
/-- a target's reading -/
def PostG (W : Wd) (cells : List (Str × Addr)) (wx : WX) (M : List Addr) (H : Hp) (Q : L2.St → Hp → Prop) : RG → Prop
  | .ok e S' => ∀ M' H' σ', Ext M H M' H' → Sim W M' S' H' → EnvR W cells M' H' e σ' → Q σ' H'
  | .exc c p e S' => ∀ M' H' σ' cls d, Ext M H M' H' → Sim W M' S' H' → EnvR W cells M' H' e σ' → ExcR W M' H' c p cls d → wx cls d σ' H'
  | .bad => False
theorem PostG.mono {M1 H1 Q r} (e : Ext M H M1 H1) (h : PostG W cells wx M H Q r) : PostG W cells wx M1 H1 Q r := by
  cases r with
  | ok _ _ => exact fun M' H' s e' => h M' H' s (e.trans e')
  | exc _ _ _ _ => exact fun M' H' s cls d e' => h M' H' s cls d (e.trans e')
  | bad => exact h
theorem stepG {d : DE} {k : T → Store → RG} {Q : L2.St → Hp → Prop} (sim : Sim W M S H) (er : EnvR W cells M H env σ) (post : PostG W cells wx M H Q ((d env S).inG env k)) {Q' : VK}
    (hq : ∀ M' S' H' t v, Ext M H M' H' → Sim W M' S' H' → EnvR W cells M' H' env σ → RepX W cells M' H' t v → PostG W cells wx M' H' Q (k t S') → Q' v H') : tE W cells wx d σ H Q' := by
  refine ⟨M, S, env, sim, er, ?_⟩
  cases e : d env S with
  | ok t S' =>
    rw [e] at post
    exact fun M' H' v ex sim' rep => hq M' S' H' t v ex sim' (er.mono ex) rep (PostG.mono ex post)
  | exc c p S' => rw [e] at post; exact fun M' H' cls d ex sim' xr => post M' H' σ cls d ex sim' (er.mono ex) xr
  | bad => rw [e] at post; exact post
def tG (W : Wd) (cells : List (Str × Addr)) (wx : WX) (g : DG) : TG := fun v σ H Q => ∃ M S env t, Sim W M S H ∧ EnvR W cells M H env σ ∧ RepX W cells M H t v ∧ PostG W cells wx M H Q (g t env S)
def tGs (W : Wd) (cells : List (Str × Addr)) (wx : WX) (g : DGs) : TGs := fun vs σ H Q => ∃ M S env ts, Sim W M S H ∧ EnvR W cells M H env σ ∧ Reps W M H ts vs ∧ PostG W cells wx M H Q (g ts env S)
theorem EnvR.set {i : Nat} {t : T} {v : V} (er : EnvR W cells M H env σ) (r : RepX W cells M H t v) : EnvR W cells M H (env.set i t) (σ.set i (some v)) := by
  refine ⟨by simp [er.1], fun j u h1 h2 => ?_⟩
  by_cases e : i = j
  · subst e
    have hl : i < env.length := by
      have := (List.getElem?_eq_some_iff.mp h1).1
      simpa using this
    rw [List.getElem?_set_self hl] at h1
    cases h1
    exact ⟨v, by rw [List.getElem?_set_self (by rw [← er.1]; exact hl)], r⟩
  · rw [List.getElem?_set_ne e] at h1
    obtain ⟨w, a, b⟩ := er.2 j u h1 h2
    exact ⟨w, by rw [List.getElem?_set_ne e]; exact a, b⟩
end

section
variable {X : Cx} {W : Wd} {cells : List (Str × Addr)} {wx : WX} {pos : Pos}
abbrev ES (X : Cx) (W : Wd) (cells : List (Str × Addr)) (wx : WX) (st : Stmt) (d : DS) : Prop := PS X st (tS W cells wx d)
abbrev EBk (X : Cx) (W : Wd) (cells : List (Str × Addr)) (wx : WX) (st : List Stmt) (d : DS) : Prop := PSs X st (tS W cells wx d)
abbrev EG (X : Cx) (W : Wd) (cells : List (Str × Addr)) (wx : WX) (tg : Expr) (g : DG) : Prop := PG X tg (tG W cells wx g)
abbrev EGs (X : Cx) (W : Wd) (cells : List (Str × Addr)) (wx : WX) (tg : List Expr) (g : DGs) : Prop := PGs X tg (tGs W cells wx g)
theorem pg_weak {e : Expr} {t t' : TG} (h : PG X e t) (hw : ∀ v σ H Q, t' v σ H Q → t v σ H Q) : PG X e t' := ⟨fun pins s σ H v u Q I r q => h.run pins s σ H v u Q I r (hw v σ H Q q)⟩
theorem pgs_weak {e : List Expr} {t t' : TGs} (h : PGs X e t) (hw : ∀ v σ H Q, t' v σ H Q → t v σ H Q) : PGs X e t' := ⟨fun pins s σ H v u Q I r q => h.run pins s σ H v u Q I r (hw v σ H Q q)⟩
theorem ebk_nil : EBk X W cells wx [] dSkip := pss_weak pss_nil fun D σ H ⟨M, S, env, sim, er, post⟩ => post M H σ Ext.refl sim er
theorem ebk_one {st : Stmt} {d : DS} (h : ES X W cells wx st d) : EBk X W cells wx [st] d := pss_one h
theorem ebk_cons {st : Stmt} {rest : List Stmt} {d r : DS} (h : ES X W cells wx st d) (hr : EBk X W cells wx rest r) : EBk X W cells wx (st :: rest) (dSeq d r) :=
  pss_weak (pss_cons h hr) fun D σ H ⟨M, S, env, sim, er, post⟩ => by
    refine ⟨M, S, env, sim, er, ?_⟩
    unfold dSeq at post
    cases e : d env S with
    | nx e1 S1 => rw [e] at post; exact fun M' H' σ' ex sim' er' => ⟨M', S1, e1, sim', er', PostS.mono ex post⟩
    | rt _ _ => rw [e] at post; exact post
    | bk _ _ => rw [e] at post; exact post
    | ct _ _ => rw [e] at post; exact post
    | exc _ _ _ _ => rw [e] at post; exact post
    | bad => rw [e] at post; exact post
theorem es_pass : ES X W cells wx (.Pass pos) dSkip := ps_weak ps_pass fun D σ H ⟨M, S, env, sim, er, post⟩ => post M H σ Ext.refl sim er
theorem es_break : ES X W cells wx (.Break pos) dBrk := ps_weak ps_break fun D σ H ⟨M, S, env, sim, er, post⟩ => post M H σ Ext.refl sim er
theorem es_cont : ES X W cells wx (.Continue pos) dCnt := ps_weak ps_continue fun D σ H ⟨M, S, env, sim, er, post⟩ => post M H σ Ext.refl sim er
theorem es_expr {e : Expr} {d : DE} (he : EE X W cells wx e d) (hs : swapsWith e none pos.line X.env = pure false := by rfl) : ES X W cells wx (.Expr e pos) (dExpr d) :=
  ps_weak (ps_expr he hs) fun D σ H ⟨M, S, env, sim, er, post⟩ => stepS sim er post fun M' S' H' t v ex sim' er' r post' => post' M' H' σ Ext.refl sim' er'
theorem es_ret {e : Expr} {d : DE} (he : EE X W cells wx e d) : ES X W cells wx (.Return (some e) pos) (dRet d) :=
  ps_weak (ps_ret he) fun D σ H ⟨M, S, env, sim, er, post⟩ => stepS sim er post fun M' S' H' t v ex sim' er' r post' => post' M' H' v Ext.refl sim' r
theorem es_retN : ES X W cells wx (.Return none pos) dRetN := ps_weak ps_retN fun D σ H ⟨M, S, env, sim, er, post⟩ => post M H .non Ext.refl sim (by show Rep ..; unfold Rep; rfl)
theorem es_if {c : Expr} {a b : List Stmt} {dc : DE} {da db : DS} (hc : EB X W cells wx c dc) (ha : EBk X W cells wx a da) (hb : EBk X W cells wx b db) : ES X W cells wx (.If c a b pos) (dIf dc da db) :=
  ps_weak (ps_if hc ha hb) fun D σ H ⟨M, S, env, sim, er, post⟩ => stepSQ sim er post (fun M' S' H' ex sim' er' post' => by rw [if_pos rfl]; exact ⟨M', S', env, sim', er', post'⟩) fun M' S' H' ex sim' er' post' => by
    rw [if_neg Bool.false_ne_true]; exact ⟨M', S', env, sim', er', post'⟩
theorem loop_post {b : DS} {W' : L2.St → Hp → Prop} {D : Ends} {k : EnvT → Store → RS} {M S H env σ} (sim : Sim W M S H) (er : EnvR W cells M H env σ) (post : PostS W cells wx M H D ((b env S).loop k))
    (hN : ∀ M' S' H' e σ', Sim W M' S' H' → EnvR W cells M' H' e σ' → PostS W cells wx M' H' D (k e S') → W' σ' H') : tS W cells wx b { D with nx := W', ct := W', bk := D.nx } σ H := by
  refine ⟨M, S, env, sim, er, ?_⟩
  cases e : b env S with
  | nx e1 S1 => rw [e] at post; exact fun M' H' σ' ex sim' er' => hN M' S1 H' e1 σ' sim' er' (PostS.mono ex post)
  | ct e1 S1 => rw [e] at post; exact fun M' H' σ' ex sim' er' => hN M' S1 H' e1 σ' sim' er' (PostS.mono ex post)
  | rt _ _ => rw [e] at post; exact post
  | bk _ _ => rw [e] at post; exact post
  | exc _ _ _ _ => rw [e] at post; exact post
  | bad => rw [e] at post; exact post
theorem es_while {c : Expr} {body : List Stmt} {dc : DE} {db : DS} (hp : PassesOwn (model X.prog X.w) X.A X.env X.xe) (hc : EB X W cells wx c dc) (hb : EBk X W cells wx body db) : ES X W cells wx (.While c body [] pos) (dWhile dc db) :=
  ps_weak (ps_while hp hc hb) fun D σ H ⟨M, S, env, sim, er, post⟩ => by
    refine ⟨fun m σ H => ∃ M S env, Sim W M S H ∧ EnvR W cells M H env σ ∧ PostS W cells wx M H D (whileL dc db m env S), ⟨FUEL, M, S, env, sim, er, post⟩, ?_⟩
    rintro m σ H ⟨M, S, env, sim, er, post⟩
    cases m with
    | zero => exact post.elim
    | succ m =>
      refine stepSQ sim er post (fun M' S' H' ex sim' er' post' => ?_) fun M' S' H' ex sim' er' post' => ?_
      · rw [if_pos rfl]
        exact ⟨fun σ' H' => ∃ M S env, Sim W M S H' ∧ EnvR W cells M H' env σ' ∧ PostS W cells wx M H' D (whileL dc db m env S), fun σ' H' h => ⟨m, Nat.lt_succ_self _, h⟩,
          loop_post sim' er' post' fun M' S' H' e σ' a b c => ⟨M', S', e, a, b, c⟩⟩
      · rw [if_neg Bool.false_ne_true]
        exact post' M' H' σ Ext.refl sim' er'
/-! ### targets -/
theorem eg_name {i : Nat} {x : Str} (hN : X.N.Nodup) (hi : X.N[i]? = some x) (hx : Loc X.env.scope x) (hf : X.fn x = true ∨ X.env.scope.names.lookup x = some .local := by first | exact .inl rfl | exact .inr rfl | assumption) : EG X W cells wx (.Name x pos) (gNam i) :=
  pg_weak (pg_name hN hi hx hf) fun v σ H Q ⟨M, S, env, t, sim, er, r, post⟩ => by
    by_cases hc : i < env.length
    · simp only [gNam, if_pos hc] at post
      exact post M H _ Ext.refl sim (er.set r)
    · simp only [gNam, if_neg hc] at post
      exact post.elim
theorem egs_nil : EGs X W cells wx [] gNilD := pgs_weak pgs_nil fun v σ H Q ⟨M, S, env, ts, sim, er, r, post⟩ => by
  cases ts with
  | nil => unfold Reps at r; exact ⟨r, post M H σ Ext.refl sim er⟩
  | cons _ _ => exact post.elim
theorem egs_cons {e : Expr} {es : List Expr} {g : DG} {gs : DGs} (h1 : EG X W cells wx e g) (h2 : EGs X W cells wx es gs)
    (hs : (assignEach (e :: es) X.env).map (·.2) = assign e X.env :: (assignEach es X.env).map (·.2) := by rfl) : EGs X W cells wx (e :: es) (gConsD g gs) :=
  pgs_weak (pgs_cons h1 h2 hs) fun v σ H Q ⟨M, S, env, ts, sim, er, r, post⟩ => by
    cases ts with
    | nil => exact post.elim
    | cons t ts =>
      unfold Reps at r
      obtain ⟨x, rr, e1, r1, r2⟩ := r
      refine ⟨x, rr, e1, M, S, env, t, sim, er, r1.x, ?_⟩
      unfold gConsD at post
      cases e2 : g t env S with
      | ok e' S' =>
        simp only [e2, RG.bind] at post
        exact fun M' H' σ' ex sim' er' => ⟨M', S', e', ts, sim', er', r2.mono ex, PostG.mono ex post⟩
      | exc _ _ _ _ => simp only [e2, RG.bind] at post; exact post
      | bad => simp only [e2, RG.bind] at post; exact post
theorem eg_tup {es : List Expr} {k : Nat} {gs : DGs} {n : Nat} (hK : X.K = W.K) (hc : X.calm = true) (h : EGs X W cells wx es gs) (hn : (assignEach es X.env).length = n := by rfl) (hst : (assignEach es X.env).findIdx? (·.1) = none := by rfl) : EG X W cells wx (.Tuple es k pos) (gTupD n gs) :=
  pg_weak (pg_tup hc h hn hst) fun v σ H Q ⟨M, S, env, t, sim, er, r, post⟩ => by
    cases t with
    | tup ts =>
      have r' : Rep W M H (.tup ts) v := r
      unfold Rep at r'
      obtain ⟨a, vs, e1, e2, e3⟩ := r'
      by_cases hl : ts.length = n
      · simp only [gTupD, if_pos hl] at post
        exact ⟨a, vs, e1, hK ▸ e2, (reps_len e3).trans hl, M, S, env, ts, sim, er, e3, post⟩
      · simp only [gTupD, if_neg hl] at post
        exact post.elim
    | _ => exact post.elim
def PostU (W : Wd) (wx : WX) (σ : L2.St) (M : List Addr) (H : Hp) (Q : Hp → Prop) : R Unit → Prop
  | .ok _ S' => ∀ M' H', Ext M H M' H' → Sim W M' S' H' → Q H'
  | .exc c p S' => ∀ M' H' cls d, Ext M H M' H' → Sim W M' S' H' → ExcR W M' H' c p cls d → wx cls d σ H'
  | .bad => False
def SetD (W : Wd) (cells : List (Str × Addr)) (wx : WX) (r : TSet) (f : T → T → T → Store → R Unit) : Prop :=
  ∀ σ M S H (Q : Hp → Prop) t u w x y z, Sim W M S H → RepX W cells M H t x → RepX W cells M H u y → RepX W cells M H w z →
    PostU W wx σ M H Q (f t u w S) → r x y z H Q
theorem eg_sub {o i : Expr} {d0 di : DE} {r : TSet} {f : T → T → T → Store → R Unit} (hs : PSet X r) (hf : SetD W cells wx r f) (ho : EE X W cells wx o d0) (hi : EE X W cells wx i di)
    (ha : ∀ v, assign (.Subscript o i pos) X.env v = (do
      let ov ← holding [v] (eval o X.env)
      let iv ← holding [v, ov] (eval i X.env)
      standAt pos
      holding [v, ov, iv] (setItem ov iv v)
      release [v, ov, iv] []) := by intro _; rfl) : EG X W cells wx (.Subscript o i pos) (gSubD f d0 di) :=
  pg_weak (pg_sub ho hi hs ha) fun v σ H Q ⟨M, S, env, t, sim, er, r, post⟩ => by
    refine stepG sim er post fun M1 S1 H1 x vx e1 sim1 er1 r1 post1 => stepG sim1 er1 post1 fun M2 S2 H2 y vy e2 sim2 er2 r2 post2 => ?_
    refine hf σ M2 S2 H2 _ x y t vx vy v sim2 (r1.mono e2) r2 ((r.mono e1).mono e2) ?_
    cases e : f x y t S2 with
    | ok _ S' => rw [e] at post2; exact fun M' H' ex sim' => post2 M' H' σ ex sim' (er2.mono ex)
    | exc c p S' => rw [e] at post2; exact fun M' H' cls d ex sim' xr => post2 M' H' σ cls d ex sim' (er2.mono ex) xr
    | bad => rw [e] at post2; exact post2
theorem asg_post {g : DG} {d : DE} {D : Ends} {σ : L2.St} {H : Hp} (h : tS W cells wx (dAsg d g) D σ H) : tAsg (tE W cells wx d) (tG W cells wx g) D σ H := by
  obtain ⟨M, S, env, sim, er, post⟩ := h
  refine stepS sim er post fun M' S' H' t v ex sim' er' r post' => ⟨M', S', env, t, sim', er', r, ?_⟩
  cases e : g t env S' with
  | ok e1 S1 => rw [e] at post'; exact post'
  | exc _ _ _ _ => rw [e] at post'; exact post'
  | bad => rw [e] at post'; exact post'
theorem es_asg {tg e : Expr} {d : DE} {g : DG} (he : EE X W cells wx e d) (hg : EG X W cells wx tg g) (hs : swapsWithSole [tg] e pos.line X.env = pure false := by rfl) (hw : swappedStores [tg] e X.env = pure none := by rfl)
    (h1 : (assignEach [tg] X.env).map (·.2) = [assign tg X.env] := by rfl) : ES X W cells wx (.Assign [tg] e pos) (dAsg d g) :=
  ps_weak (ps_asg he hg hs hw h1) fun D σ H h => asg_post h
theorem es_set {i : Nat} {x : Str} {e : Expr} {d : DE} {p' : Pos} (hN : X.N.Nodup) (hi : X.N[i]? = some x) (hx : Loc X.env.scope x) (he : EE X W cells wx e d) (hs : swapsWith e (some (.Name x p')) pos.line X.env = pure false := by rfl)
    (hf : X.fn x = true ∨ X.env.scope.names.lookup x = some .local := by first | exact .inl rfl | exact .inr rfl | assumption) : ES X W cells wx (.Assign [.Name x p'] e pos) (dAsg d (gNam i)) :=
  ps_weak (ps_set hN hi hx he hs hf) fun D σ H ⟨M, S, env, sim, er, post⟩ => stepS sim er post fun M' S' H' t v ex sim' er' r post' => by
    by_cases hc : i < env.length
    · simp only [gNam, if_pos hc] at post'
      exact post' M' H' _ Ext.refl sim' (er'.set r)
    · simp only [gNam, if_neg hc] at post'
      exact post'.elim

/-! ### iterators and for -/
/-- J walks as it says, from M0, H0 on -/
def ItR (W : Wd) (J : It) (it : ItD) (M0 : List Addr) (H0 : Hp) : Prop :=
  ∀ (i : Nat) M S H, Ext M0 H0 M H → Sim W M S H → match it i S with
    | .item t => J.go i H ∧ ∀ x H', J.yld i H x H' → ∃ M', Ext M H M' H' ∧ Sim W M' S H' ∧ Rep W M' H' t x
    | .stop => J.stop i H
    | .bad => True
def PostI (W : Wd) (cells : List (Str × Addr)) (wx : WX) (σ : L2.St) (M : List Addr) (H : Hp) (Rr : It → Hp → Prop) : R ItD → Prop
  | .ok it S' => ∀ M' H' J, Ext M H M' H' → Sim W M' S' H' → ItR W J it M' H' → Rr J H'
  | .exc c p S' => ∀ M' H' cls d, Ext M H M' H' → Sim W M' S' H' → ExcR W M' H' c p cls d → wx cls d σ H'
  | .bad => False
def tI (W : Wd) (cells : List (Str × Addr)) (wx : WX) (di : DI) : TI := fun σ H Rr => ∃ M S env, Sim W M S H ∧ EnvR W cells M H env σ ∧ PostI W cells wx σ M H Rr (di env S)
abbrev EI (X : Cx) (W : Wd) (cells : List (Str × Addr)) (wx : WX) (tg iter : Expr) (di : DI) : Prop := PI X tg iter (tI W cells wx di)
theorem pi_weak {tg iter : Expr} {t t' : TI} (h : PI X tg iter t) (hw : ∀ σ H Q, t' σ H Q → t σ H Q) : PI X tg iter t' := ⟨fun pins s σ H Q I q => h.run pins s σ H Q I (hw σ H Q q)⟩
theorem es_for {tg iter : Expr} {body : List Stmt} {di : DI} {g : DG} {db : DS} (hp : PassesOwn (model X.prog X.w) X.A X.env X.xe) (hc : X.calm = true) (hi : EI X W cells wx tg iter di) (hg : EG X W cells wx tg g) (hb : EBk X W cells wx body db)
    (hs : ∀ x, foldedSetIterable iter X.env x = pure x := by intro _; rfl) : ES X W cells wx (.For tg iter body [] pos) (dFor di g db) :=
  ps_weak (ps_for hp hc hi hg hb hs) fun D σ H ⟨M, S, env, sim, er, post⟩ => by
    refine ⟨M, S, env, sim, er, ?_⟩
    unfold dFor at post
    cases e : di env S with
    | bad => rw [e] at post; exact post
    | exc c p S' => rw [e] at post; exact fun M' H' cls d ex sim' xr => post M' H' σ cls d ex sim' (er.mono ex) xr
    | ok it S1 =>
      rw [e] at post
      intro M0 H0 J ex0 sim0 hJ
      refine ⟨fun i m σ H => ∃ M S env, Ext M0 H0 M H ∧ Sim W M S H ∧ EnvR W cells M H env σ ∧ PostS W cells wx M H D (forL it g db m i env S), ⟨FUEL, M0, S1, env, Ext.refl, sim0, er.mono ex0, PostS.mono ex0 post⟩, ?_⟩
      rintro i m σ H ⟨M, S, env, ex, sim, er, post⟩
      cases m with
      | zero => exact post.elim
      | succ m =>
        have hj := hJ i M S H ex sim
        unfold forL at post
        cases ei : it i S with
        | bad => rw [ei] at post; exact post.elim
        | stop => rw [ei] at post hj; exact .inl ⟨hj, post M H σ Ext.refl sim er⟩
        | item t =>
          rw [ei] at post hj
          obtain ⟨hgo, hy⟩ := hj
          refine .inr ⟨hgo, fun σ' H' => ∃ M S env, Ext M0 H0 M H' ∧ Sim W M S H' ∧ EnvR W cells M H' env σ' ∧ PostS W cells wx M H' D (forL it g db m (i + 1) env S), fun σ' H' h => ⟨m, Nat.lt_succ_self _, h⟩, fun x H' y => ?_⟩
          obtain ⟨M', ex', sim', rx⟩ := hy x H' y
          refine ⟨M', S, env, t, sim', er.mono ex', rx.x, ?_⟩
          have post : PostS W cells wx M' H' D ((g t env S).toS fun e1 S1 => (db e1 S1).loop (forL it g db m (i + 1))) := PostS.mono ex' post
          cases eg : g t env S with
          | bad => rw [eg] at post; exact post
          | exc c p e1 S2 => rw [eg] at post; exact post
          | ok e1 S2 =>
            rw [eg] at post
            intro M2 H2 σ2 ex2 sim2 er2
            have post : PostS W cells wx M2 H2 D ((db e1 S2).loop (forL it g db m (i + 1))) := PostS.mono ex2 post
            refine ⟨M2, S2, e1, sim2, er2, ?_⟩
            cases eb : db e1 S2 with
            | nx e3 S3 => simp only [eb, RS.loop] at post; exact fun M3 H3 σ3 ex3 sim3 er3 => ⟨M3, S3, e3, ((ex.trans ex').trans ex2).trans ex3, sim3, er3, PostS.mono ex3 post⟩
            | ct e3 S3 => simp only [eb, RS.loop] at post; exact fun M3 H3 σ3 ex3 sim3 er3 => ⟨M3, S3, e3, ((ex.trans ex').trans ex2).trans ex3, sim3, er3, PostS.mono ex3 post⟩
            | rt _ _ => simp only [eb, RS.loop] at post; exact post
            | bk _ _ => simp only [eb, RS.loop] at post; exact post
            | exc _ _ _ _ => simp only [eb, RS.loop] at post; exact post
            | bad => simp only [eb, RS.loop] at post; exact post
end
end DD
set_option Elab.async false
set_option linter.all false
set_option maxRecDepth 100000
set_option maxHeartbeats 4000000
/-! The Den layer, part 5: what is dropped at an end; list comprehensions. -/
namespace DD
open PySem PySem.Spec PyProof.Rows L2

mutual
def T.low (n0 : Nat) : T → Bool
  | .ref n => decide (n < n0)
  | .tup ts => T.lows n0 ts
  | .lam _ => false
  | .clo _ _ => false
  | .hole => false
  | _ => true
def T.lows (n0 : Nat) : List T → Bool
  | [] => true
  | t :: ts => T.low n0 t && T.lows n0 ts
end
def O.low (n0 : Nat) : O → Bool
  | .lst xs => T.lows n0 xs
  | .frl xs => T.lows n0 xs
  | .dct kvs => T.lows n0 (kvs.map (·.2))
  | .dtp kvs => T.lows n0 (kvs.map (·.1)) && T.lows n0 (kvs.map (·.2))
  | .set xs => T.lows n0 xs
  | .ins _ fs => T.lows n0 (fs.map (·.2))
def finAt (n0 : Nat) (t : T) (S : Store) : R T := match t with
  | .ref n => match S[n]? with
    | some (.lst xs) => if T.lows n0 xs then .ok (.ref n0) (S.take n0 ++ [.lst xs]) else .ok t S
    | _ => .ok t S
  | _ => .ok t S
/-- what stands beyond n0 is dropped, where nothing leads there -/
def fin (n0 : Nat) (t : T) (S : Store) : R T :=
  if (S.take n0).all (O.low n0) then (if t.low n0 then .ok t (S.take n0) else finAt n0 t S) else .ok t S

section
variable {W : Wd} {cells : List (Str × Addr)} {wx : WX} {σ : L2.St} {M M' : List Addr} {S : Store} {H : Hp} {n0 : Nat} {Q : VK}
mutual
theorem rep_below (h : ∀ n, n < n0 → M'[n]? = M[n]?) : ∀ (t : T) (v : V), t.low n0 = true → Rep W M H t v → Rep W M' H t v
  | .non, v, _, r => by simpa [Rep] using r
  | .bl b, v, _, r => by simpa [Rep] using r
  | .int i, v, _, r => by simpa [Rep] using r
  | .str x, v, _, r => by simpa [Rep] using r
  | .tup ts, v, b, r => by
    unfold Rep at r ⊢
    obtain ⟨a, vs, e1, e2, e3⟩ := r
    exact ⟨a, vs, e1, e2, reps_below h ts vs (by simpa [T.low] using b) e3⟩
  | .ref n, v, b, r => by
    unfold Rep at r ⊢
    obtain ⟨a, e1, e2⟩ := r
    exact ⟨a, by rw [h n (by simpa [T.low] using b)]; exact e1, e2⟩
  | .fn k, v, _, r => by simpa [Rep] using r
  | .hole, _, _, r => by unfold Rep at r; exact r.elim
  | .lam _, _, _, r => by unfold Rep at r; exact r.elim
  | .clo _ _, _, _, r => by unfold Rep at r; exact r.elim
theorem reps_below (h : ∀ n, n < n0 → M'[n]? = M[n]?) : ∀ (ts : List T) (vs : List V), T.lows n0 ts = true → Reps W M H ts vs → Reps W M' H ts vs
  | [], vs, _, r => by simpa [Reps] using r
  | t :: ts, vs, b, r => by
    unfold Reps at r ⊢
    obtain ⟨v, rr, e1, e2, e3⟩ := r
    simp only [T.lows, Bool.and_eq_true] at b
    exact ⟨v, rr, e1, rep_below h t v b.1 e2, reps_below h ts rr b.2 e3⟩
end
theorem repO_below (h : ∀ n, n < n0 → M'[n]? = M[n]?) {a : Addr} {o : O} (b : o.low n0 = true) (r : RepO W M H a o) : RepO W M' H a o := by
  cases o with
  | lst xs => obtain ⟨vs, h1, h2⟩ := r; exact ⟨vs, h1, reps_below h _ _ b h2⟩
  | frl xs => obtain ⟨vs, h1, h2⟩ := r; exact ⟨vs, h1, reps_below h _ _ b h2⟩
  | dct kvs => obtain ⟨vs, h1, h2⟩ := r; exact ⟨vs, h1, reps_below h _ _ b h2⟩
  | dtp kvs =>
    obtain ⟨es, h1, h2, h3, h4⟩ := r
    simp only [O.low, Bool.and_eq_true] at b
    exact ⟨es, h1, reps_below h _ _ b.1 h2, reps_below h _ _ b.2 h3, h4⟩
  | set xs => exact r.elim
  | ins c fs => obtain ⟨dx, vs, h1, h2⟩ := r; exact ⟨dx, vs, h1, reps_below h _ _ b h2⟩
theorem Sim.cut (sim : Sim W M S H) (hb : (S.take n0).all (O.low n0) = true) (hm : ∀ n, n < n0 → M'[n]? = M[n]?) (hl : M'.length = (S.take n0).length) : Sim W M' (S.take n0) H := by
  have low : ∀ {n : Nat} {o : O}, (S.take n0)[n]? = some o → n < n0 ∧ S[n]? = some o := fun {n o} e => by
    have h1 := (List.getElem?_eq_some_iff.mp e).1
    rw [List.length_take] at h1
    have : n < n0 := by omega
    rw [List.getElem?_take_of_lt this] at e
    exact ⟨this, e⟩
  refine ⟨hl, fun n m a o o' h1 h2 h3 h4 m1 m2 => ?_, fun n o a h1 h2 => ?_, sim.tabs⟩
  · obtain ⟨l1, h3⟩ := low h3
    obtain ⟨l2, h4⟩ := low h4
    rw [hm n l1] at h1
    rw [hm m l2] at h2
    exact sim.inj n m a o o' h1 h2 h3 h4 m1 m2
  · have hb' := List.all_eq_true.mp hb o (List.mem_of_getElem? h1)
    obtain ⟨l1, h1⟩ := low h1
    rw [hm n l1] at h2
    exact repO_below hm hb' (sim.obj n o a h1 h2)
theorem rx_below (h : ∀ n, n < n0 → M'[n]? = M[n]?) {t : T} {v : V} (b : t.low n0 = true) (r : RepX W cells M H t v) : RepX W cells M' H t v := by
  cases t with
  | lam _ => simp [T.low] at b
  | clo _ _ => simp [T.low] at b
  | _ => exact rep_below h _ _ b r
theorem fin_ok {M1 : List Addr} {H1 : Hp} {t : T} {v : V} (hn : M1.length = n0) (ex : Ext M1 H1 M H) (sim : Sim W M S H) (r : RepX W cells M H t v) (post : PostE W cells wx σ M1 H1 Q (fin n0 t S)) : Q v H := by
  have hle : n0 ≤ M.length := by
    by_cases h0 : n0 = 0
    · omega
    · have h1 : M1[n0 - 1]? = some M1[n0 - 1] := List.getElem?_eq_getElem (by omega)
      have := (List.getElem?_eq_some_iff.mp (ex.m _ _ h1)).1
      omega
  have hS : n0 ≤ S.length := by rw [← sim.len]; exact hle
  have same : PostE W cells wx σ M1 H1 Q (.ok t S) → Q v H := fun p => p M H v ex sim r
  unfold fin at post
  split at post
  · rename_i hb
    have tk : ∀ n, n < n0 → (M.take n0)[n]? = M[n]? := fun n h => List.getElem?_take_of_lt h
    have lt : (M.take n0).length = (S.take n0).length := by simp [sim.len]
    have exT : Ext M1 H1 (M.take n0) H := ⟨fun n a h => by
      have : n < n0 := by rw [← hn]; exact (List.getElem?_eq_some_iff.mp h).1
      rw [tk n this]; exact ex.m n a h, ex.h⟩
    split at post
    · rename_i hb2
      exact post (M.take n0) H v exT (sim.cut hb tk lt) (rx_below tk hb2 r)
    · rename_i hb2
      cases t with
      | ref n =>
        simp only [finAt] at post
        split at post
        · rename_i xs hx
          split at post
          · rename_i hb3
            obtain ⟨a, ha, rfl⟩ : ∃ a, M[n]? = some a ∧ v = .ref a := by
              have r' : Rep W M H (.ref n) v := r
              unfold Rep at r'; exact r'
            have simC := sim.cut hb tk lt
            have hlen : (M.take n0).length = n0 := by simp; omega
            have hlenS : (S.take n0).length = n0 := by simp; omega
            by_cases hn0 : n < n0
            · simp [T.low, hn0] at hb2
            · have tk2 : ∀ k, k < n0 → (M.take n0 ++ [a])[k]? = M[k]? := fun k h => by
                rw [List.getElem?_append_left (by omega)]; exact tk k h
              have tk3 : (M.take n0 ++ [a])[n0]? = some a := by
                rw [List.getElem?_append_right (by omega), hlen]; simp
              refine post (M.take n0 ++ [a]) H (.ref a) ⟨fun k b h => ?_, ex.h⟩ ⟨by simp [lt], fun k m b o o' h1 h2 h3 h4 m1 m2 => ?_, fun k o b h1 h2 => ?_, sim.tabs⟩ (by show Rep ..; exact Rep.ref_of tk3)
              · have : k < n0 := by rw [← hn]; exact (List.getElem?_eq_some_iff.mp h).1
                rw [tk2 k this]; exact ex.m k b h
              · -- no two
                have back : ∀ {k : Nat} {b : Addr} {o : O}, (M.take n0 ++ [a])[k]? = some b → (S.take n0 ++ [O.lst xs])[k]? = some o → ∃ k', M[k']? = some b ∧ S[k']? = some o ∧ ((k < n0 ∧ k' = k) ∨ (k = n0 ∧ k' = n)) := fun {k b o} h1 h2 => by
                  rcases get_snoc h1 with ⟨l1, h1⟩ | ⟨l1, h1⟩
                  · rw [hlen] at l1
                    rw [List.getElem?_append_left (by omega)] at h2
                    rw [tk k l1] at h1
                    rw [List.getElem?_take_of_lt l1] at h2
                    exact ⟨k, h1, h2, .inl ⟨l1, rfl⟩⟩
                  · rw [hlen] at l1
                    subst h1 l1
                    rw [List.getElem?_append_right (by omega), hlenS] at h2
                    simp at h2
                    subst h2
                    exact ⟨n, ha, hx, .inr ⟨rfl, rfl⟩⟩
                obtain ⟨k1, p1, p2, p3⟩ := back h1 h3
                obtain ⟨k2, q1, q2, q3⟩ := back h2 h4
                have := sim.inj k1 k2 b o o' p1 q1 p2 q2 m1 m2
                omega
              · rcases get_snoc h2 with ⟨l1, h2⟩ | ⟨l1, h2⟩
                · rw [hlen] at l1
                  rw [List.getElem?_append_left (by omega)] at h1
                  have h1' := h1
                  rw [List.getElem?_take_of_lt l1] at h1
                  rw [tk k l1] at h2
                  exact repO_below tk2 (List.all_eq_true.mp hb o (List.mem_of_getElem? h1')) (sim.obj k o b h1 h2)
                · rw [hlen] at l1
                  subst h2 l1
                  rw [List.getElem?_append_right (by omega), hlenS] at h1
                  simp at h1
                  subst h1
                  exact repO_below tk2 hb3 (sim.obj n _ a hx ha)
          · exact same post
        · exact same post
      | _ => exact same post
  · exact same post
end

/-! ### list comprehensions -/
def T.noLam : T → T
  | .lam _ => .hole
  | t => t
def blkEnv : List Nat → EnvT → EnvT
  | [], e => e.map T.noLam
  | i :: is, e => (blkEnv is e).set i .hole
def lcL (it : ItD) (g : DG) (tt te : DE) (D : Nat) (e : EnvT) : Nat → Nat → Store → R Unit
  | 0, _, _ => .bad
  | n + 1, i, S => match it i S with
    | .stop => .ok () S
    | .bad => .bad
    | .item t => match g t e S with
      | .ok e1 S1 => (tt e1 S1).bind (pick .bad (fun S2 => (te e1 S2).bind fun y S3 => match S3[D]? with
          | some (.lst acc) => if y.plain && decide (acc.length < LINE) then lcL it g tt te D e n (i + 1) (S3.set D (.lst (acc ++ [y]))) else .bad
          | _ => .bad) (lcL it g tt te D e n (i + 1)))
      | _ => .bad
def R.calm {α : Type} : R α → R α
  | .exc _ _ _ => .bad
  | r => r
def dLC (own : List Nat) (di : DI) (g : DG) (tt te : DE) : DE := fun e S => (di e S).bind fun it S1 =>
  (lcL it g tt te S1.length (blkEnv own e) FUEL 0 (S1 ++ [.lst []])).calm.bind fun _ S2 => fin S1.length (.ref S1.length) S2
def wF : WX := fun _ _ _ _ => False
def PostGo (W : Wd) (own : List Nat) (σ : L2.St) (M : List Addr) (H : Hp) (Q : L2.St → Hp → Prop) : RG → Prop
  | .ok e S' => ∀ M' H' σ', Ext M H M' H' → Sim W M' S' H' → EnvR W [] M' H' e σ' → wipe σ' own = wipe σ own → Q σ' H'
  | _ => False
def tGo (W : Wd) (own : List Nat) (g : DG) : TG := fun v σ H Q => ∃ M S env t, Sim W M S H ∧ EnvR W [] M H env σ ∧ RepX W [] M H t v ∧ PostGo W own σ M H Q (g t env S)
def tGos (W : Wd) (own : List Nat) (g : DGs) : TGs := fun vs σ H Q => ∃ M S env ts, Sim W M S H ∧ EnvR W [] M H env σ ∧ Reps W M H ts vs ∧ PostGo W own σ M H Q (g ts env S)
section
variable {W : Wd} {cells : List (Str × Addr)} {σ : L2.St} {M : List Addr} {S : Store} {H : Hp} {env : EnvT}
theorem EnvR.blk (er : EnvR W cells M H env σ) : ∀ own : List Nat, EnvR W [] M H (blkEnv own env) (wipe σ own)
  | [] => by
    refine ⟨by simp [blkEnv, wipe, er.1], fun i t h1 h2 => ?_⟩
    unfold blkEnv at h1
    rw [List.getElem?_map] at h1
    cases e : env[i]? with
    | none => rw [e] at h1; cases h1
    | some u =>
      rw [e] at h1
      cases h1
      cases u with
      | lam k => exact (h2 rfl).elim
      | hole => exact (h2 rfl).elim
      | _ =>
        obtain ⟨v, a, b⟩ := er.2 i _ e (by intro z; cases z)
        exact ⟨v, a, b⟩
  | j :: js => by
    have ih := EnvR.blk er js
    refine ⟨by simp [blkEnv, wipe, ih.1], fun i t h1 h2 => ?_⟩
    unfold blkEnv at h1
    unfold wipe
    by_cases e : j = i
    · subst e
      have := (List.getElem?_eq_some_iff.mp h1).1
      rw [List.getElem?_set_self (by simpa using this)] at h1
      cases h1
      exact (h2 rfl).elim
    · rw [List.getElem?_set_ne e] at h1 ⊢
      exact ih.2 i t h1 h2
theorem wipe_set {i : Nat} {v : Option V} : ∀ {own : List Nat} {σ : L2.St}, i ∈ own → wipe (σ.set i v) own = wipe σ own
  | j :: js, σ, h => by
    unfold wipe
    by_cases e : i ∈ js
    · rw [wipe_set e]
    · have : i = j := by
        rcases List.mem_cons.mp h with h | h
        · exact h
        · exact (e h).elim
      subst this
      have aux : ∀ (js : List Nat), i ∉ js → wipe (σ.set i v) js = (wipe σ js).set i v := by
        intro js
        induction js with
        | nil => intro _; rfl
        | cons k ks ih =>
          intro h
          simp only [List.mem_cons, not_or] at h
          unfold wipe
          rw [ih h.2, List.set_comm _ _ h.1]
      rw [aux js e]
      simp
theorem wipe_sub {own : List Nat} {σ : L2.St} : ∀ sub : List Nat, (∀ i ∈ sub, i ∈ own) → wipe (wipe σ sub) own = wipe σ own
  | [], _ => rfl
  | j :: js, h => by
    show wipe ((wipe σ js).set j none) own = wipe σ own
    rw [wipe_set (h j List.mem_cons_self)]
    exact wipe_sub js fun i hi => h i (List.mem_cons_of_mem _ hi)
theorem wipe_idem {σ : L2.St} (own : List Nat) : wipe (wipe σ own) own = wipe σ own := wipe_sub own fun _ h => h
end
section
variable {X : Cx} {W : Wd} {cells : List (Str × Addr)} {wx : WX} {pos : Pos}
theorem ego_name {own : List Nat} {i : Nat} {x : Str} (hN : X.N.Nodup) (hi : X.N[i]? = some x) (hx : Loc X.env.scope x) (ho : i ∈ own) (hf : X.fn x = true ∨ X.env.scope.names.lookup x = some .local := by first | exact .inl rfl | exact .inr rfl | assumption) : PG X (.Name x pos) (tGo W own (gNam i)) :=
  pg_weak (pg_name hN hi hx hf) fun v σ H Q ⟨M, S, env, t, sim, er, r, post⟩ => by
    by_cases hc : i < env.length
    · simp only [gNam, if_pos hc] at post
      exact post M H _ Ext.refl sim (er.set r) (wipe_set ho)
    · simp only [gNam, if_neg hc] at post
      exact post.elim
theorem egos_nil {own : List Nat} : PGs X [] (tGos W own gNilD) := pgs_weak pgs_nil fun v σ H Q ⟨M, S, env, ts, sim, er, r, post⟩ => by
  cases ts with
  | nil => unfold Reps at r; exact ⟨r, post M H σ Ext.refl sim er rfl⟩
  | cons _ _ => exact post.elim
theorem egos_cons {own : List Nat} {e : Expr} {es : List Expr} {g : DG} {gs : DGs} (h1 : PG X e (tGo W own g)) (h2 : PGs X es (tGos W own gs))
    (hs : (assignEach (e :: es) X.env).map (·.2) = assign e X.env :: (assignEach es X.env).map (·.2) := by rfl) : PGs X (e :: es) (tGos W own (gConsD g gs)) :=
  pgs_weak (pgs_cons h1 h2 hs) fun v σ H Q ⟨M, S, env, ts, sim, er, r, post⟩ => by
    cases ts with
    | nil => exact post.elim
    | cons t ts =>
      unfold Reps at r
      obtain ⟨x, rr, e1, r1, r2⟩ := r
      refine ⟨x, rr, e1, M, S, env, t, sim, er, r1.x, ?_⟩
      unfold gConsD at post
      cases e2 : g t env S with
      | ok e' S' =>
        simp only [e2, RG.bind] at post
        intro M' H' σ' ex sim' er' hw
        refine ⟨M', S', e', ts, sim', er', r2.mono ex, ?_⟩
        cases e3 : gs ts e' S' with
        | ok e'' S'' => rw [e3] at post; exact fun M2 H2 σ2 ex2 sim2 er2 hw2 => post M2 H2 σ2 (ex.trans ex2) sim2 er2 (hw2.trans hw)
        | exc _ _ _ _ => rw [e3] at post; exact post
        | bad => rw [e3] at post; exact post
      | exc _ _ _ _ => simp only [e2, RG.bind] at post; exact post
      | bad => simp only [e2, RG.bind] at post; exact post
theorem ego_tup {own : List Nat} {es : List Expr} {k : Nat} {gs : DGs} {n : Nat} (hK : X.K = W.K) (hc : X.calm = true) (h : PGs X es (tGos W own gs)) (hn : (assignEach es X.env).length = n := by rfl) (hst : (assignEach es X.env).findIdx? (·.1) = none := by rfl) : PG X (.Tuple es k pos) (tGo W own (gTupD n gs)) :=
  pg_weak (pg_tup hc h hn hst) fun v σ H Q ⟨M, S, env, t, sim, er, r, post⟩ => by
    cases t with
    | tup ts =>
      have r' : Rep W M H (.tup ts) v := r
      unfold Rep at r'
      obtain ⟨a, vs, e1, e2, e3⟩ := r'
      by_cases hl : ts.length = n
      · simp only [gTupD, if_pos hl] at post
        exact ⟨a, vs, e1, hK ▸ e2, (reps_len e3).trans hl, M, S, env, ts, sim, er, e3, post⟩
      · simp only [gTupD, if_neg hl] at post
        exact post.elim
    | _ => exact post.elim
theorem ets_nil : PTs X [] (tQ W cells wx (dLit (.bl true))) := ⟨fun pins s σ H Q I h => pts_nil.run pins s σ H Q I (by
  obtain ⟨M, S, env, sim, er, post⟩ := h
  obtain ⟨b, e, q⟩ := PostE.here post sim (v := .bl true) (by show Rep ..; unfold Rep; rfl)
  cases e; exact q)⟩
theorem ets_one {c : Expr} {d : DE} (h : EB X W cells wx c d) : PTs X [c] (tQ W cells wx d) := pts_one h
theorem lc_w {own : List (Str × Nat)} {di : DI} {g : DG} {tt te : DE} {σ : L2.St} {H : Hp} {Q : VK} (h : tE W cells wx (dLC (own.map (·.2)) di g tt te) σ H Q) :
    tLc (tI W cells wx di) (tGo W (own.map (·.2)) g) (tQ W [] wF tt) (tE W [] wF te) (own.map (·.2)) σ H Q := by
  obtain ⟨M, S, env, sim, er, post⟩ := h
  generalize hown : own.map (·.2) = ow at post ⊢
  refine ⟨M, S, env, sim, er, ?_⟩
  unfold dLC at post
  cases e : di env S with
  | bad => rw [e] at post; exact post
  | exc c p S' => rw [e] at post; exact post
  | ok it S1 =>
    rw [e] at post
    intro M1 H1 J ex1 sim1 hJ D hD
    have post : PostE W cells wx σ M1 H1 Q ((lcL it g tt te S1.length (blkEnv ow env) FUEL 0 (S1 ++ [.lst []])).calm.bind fun _ S2 => fin S1.length (.ref S1.length) S2) := PostE.mono ex1 post
    have er1 := er.mono ex1
    have hs0 : Sim W (M1 ++ [D]) (S1 ++ [.lst []]) (upd H1 D (.lst [])) := sim1.alloc hD ⟨[], upd_same, reps_nil⟩
    have hx0 : Ext M1 H1 (M1 ++ [D]) (upd H1 D (.lst [])) := ext_alloc hD
    have hD0 : (M1 ++ [D])[S1.length]? = some D := by rw [← sim1.len]; exact snoc_get
    refine ⟨fun i m H => ∃ M S, Ext (M1 ++ [D]) (upd H1 D (.lst [])) M H ∧ Sim W M S H ∧ PostE W cells wx σ M1 H1 Q ((lcL it g tt te S1.length (blkEnv ow env) m i S).calm.bind fun _ S2 => fin S1.length (.ref S1.length) S2), ⟨FUEL, M1 ++ [D], S1 ++ [.lst []], Ext.refl, hs0, post⟩, ?_⟩
    rintro i m H ⟨M, S, ex, sim, post⟩
    have hDm : M[S1.length]? = some D := ex.m _ _ hD0
    have exB := hx0.trans ex
    have erB : EnvR W [] M H (blkEnv ow env) (wipe σ ow) := (er1.mono exB).blk ow
    cases m with
    | zero => exact post.elim
    | succ m =>
      have hj := hJ i M S H exB sim
      unfold lcL at post
      cases ei : it i S with
      | bad => rw [ei] at post; exact post.elim
      | stop =>
        rw [ei] at post hj
        exact .inl ⟨hj, fin_ok sim1.len exB sim (by show Rep ..; exact Rep.ref_of hDm) post⟩
      | item t =>
        rw [ei] at post hj
        obtain ⟨hgo, hy⟩ := hj
        refine .inr ⟨hgo, fun H' => ∃ M S, Ext (M1 ++ [D]) (upd H1 D (.lst [])) M H' ∧ Sim W M S H' ∧ PostE W cells wx σ M1 H1 Q ((lcL it g tt te S1.length (blkEnv ow env) m (i + 1) S).calm.bind fun _ S2 => fin S1.length (.ref S1.length) S2),
          fun H' h => ⟨m, Nat.lt_succ_self _, h⟩, fun x H' y => ?_⟩
        obtain ⟨M', ex', sim', rx⟩ := hy x H' y
        refine ⟨M', S, blkEnv ow env, t, sim', erB.mono ex', rx.x, ?_⟩
        cases eg : g t (blkEnv ow env) S with
        | bad => simp only [eg] at post; exact post.elim
        | exc c p e1 S2 => simp only [eg] at post; exact post.elim
        | ok e1 S2 =>
          simp only [eg] at post
          intro M2 H2 σ2 ex2 sim2 er2 hw
          refine ⟨hw.trans (wipe_idem ow), M2, S2, e1, sim2, er2, ?_⟩
          cases et : tt e1 S2 with
          | bad => simp only [et, R.bind] at post; exact post.elim
          | exc c p S3 => simp only [et, R.bind] at post; exact post.elim
          | ok b S3 =>
            simp only [et, R.bind] at post
            intro M3 H3 v3 ex3 sim3 r3
            cases b with
            | bl b =>
              have ev : v3 = .bl b := by simpa [RepX, Rep] using r3
              refine ⟨b, ev, ?_⟩
              cases b with
              | false =>
                rw [if_neg Bool.false_ne_true]
                exact ⟨M3, S3, ((ex.trans ex').trans ex2).trans ex3, sim3, post⟩
              | true =>
                rw [if_pos rfl]
                refine ⟨M3, S3, e1, sim3, er2.mono ex3, ?_⟩
                cases ee : te e1 S3 with
                | bad => simp only [pick, ee] at post; exact post.elim
                | exc c p S4 => simp only [pick, ee] at post; exact post.elim
                | ok y S4 =>
                  simp only [pick, ee] at post
                  intro M4 H4 v4 ex4 sim4 r4
                  have exA := (((ex.trans ex').trans ex2).trans ex3).trans ex4
                  have hD4 : M4[S1.length]? = some D := exA.m _ _ hD0
                  cases ea : S4[S1.length]? with
                  | none => rw [ea] at post; exact post.elim
                  | some ob =>
                    rw [ea] at post
                    cases ob with
                    | lst acc =>
                      obtain ⟨vs, hh, hr⟩ := sim4.obj _ _ D ea hD4
                      by_cases hc : (y.plain && decide (acc.length < LINE)) = true
                      · simp only [if_pos hc] at post
                        simp only [Bool.and_eq_true, decide_eq_true_eq] at hc
                        refine ⟨vs, hh, by rw [reps_len hr, line_eq]; exact hc.2, M4, _, exA.trans (ext_write hh not_fix_lst), sim4.write (ob' := .lst (acc ++ [y])) ea hD4 hh not_fix_lst rfl rfl ⟨_, upd_same, ?_⟩, post⟩
                        have e5 : Ext M4 H4 M4 (upd H4 D (.lst (vs ++ [v4]))) := ext_write hh not_fix_lst
                        exact reps_app (hr.mono e5) (reps_cons ((r4.rep hc.1).mono e5) reps_nil)
                      · simp only [if_neg hc] at post; exact post.elim
                    | _ => exact post.elim
            | _ => exact post.elim
end
end DD
set_option Elab.async false
set_option linter.all false
set_option maxRecDepth 100000
set_option maxHeartbeats 4000000
/-! The Den layer, part 6: defs by their bodies, calls, raise. -/
namespace DD
open PySem PySem.Spec PyProof.Rows L2

def T.noLamB : T → Bool
  | .lam _ => false
  | .hole => false
  | _ => true
def finX (n0 : Nat) (c : Nat) (p : List T) (S : Store) : R T := if (S.take n0).all (O.low n0) && p.isEmpty then .exc c p (S.take n0) else .exc c p S
/-- a def's end -/
def endD (n0 : Nat) : RS → R T
  | .nx _ S => fin n0 .non S
  | .rt t S => if t.plain then fin n0 t S else .bad
  | .exc c p _ S => finX n0 c p S
  | _ => .bad
def entD (nl : Nat) (ts : List T) : EnvT := ts ++ List.replicate (nl - ts.length) .hole
/-- a def with nl names, np of them parameters -/
def runD (nl np : Nat) (body : DS) (ts : List T) (S : Store) : R T := if ts.length = np then endD S.length (body (entD nl ts) S) else .bad

def PostF (W : Wd) (M : List Addr) (H : Hp) (Q : VK) (E : XK) : R T → Prop
  | .ok t S' => ∀ M' H' v, Ext M H M' H' → Sim W M' S' H' → Rep W M' H' t v → Q v H'
  | .exc c p S' => ∀ M' H' cls d, Ext M H M' H' → Sim W M' S' H' → ExcR W M' H' c p cls d → E cls d H'
  | .bad => False
/-- the promise of a def that does what F says -/
def spD (W : Wd) (n : Nat) (F : List T → Store → R T) : Sp := fun vs H Q E => vs.length = n ∧ ∃ M S ts, Sim W M S H ∧ Paired (RepX W [] M H) ts vs ∧ ts.all T.noLamB = true ∧ PostF W M H Q E (F ts S)
theorem rx_any {W : Wd} {cells cells' M H t v} (h : RepX W cells M H t v) (n : t.noLamB = true) : RepX W cells' M H t v := by
  cases t with
  | lam _ => simp [T.noLamB] at n
  | _ => exact h
theorem paired_any {W : Wd} {cells cells' M H} {ts : List T} {vs : List V} (h : Paired (RepX W cells M H) ts vs) (n : ts.all T.noLamB = true) : Paired (RepX W cells' M H) ts vs := by
  induction h with
  | nil => exact .nil
  | cons r _ ih =>
    simp only [List.all_cons, Bool.and_eq_true] at n
    exact .cons (rx_any r n.1) (ih n.2)
theorem paired_lenT {α β : Type} {R : α → β → Prop} {a : List α} {b : List β} (h : Paired R a b) : a.length = b.length := by
  induction h with
  | nil => rfl
  | cons _ _ ih => simp [ih]
theorem paired_getT {α β : Type} {R : α → β → Prop} {a : List α} {b : List β} (h : Paired R a b) : ∀ {i : Nat} {x : α}, a[i]? = some x → ∃ y, b[i]? = some y ∧ R x y := by
  induction h with
  | nil => intro i x e; simp at e
  | cons r _ ih =>
    intro i x e
    cases i with
    | zero => simp at e; subst e; exact ⟨_, rfl, r⟩
    | succ i => simp at e; obtain ⟨y, h1, h2⟩ := ih e; exact ⟨y, by simpa using h1, h2⟩

/-- as FnOk, where nothing is being shown (repr) at the call -/
structure FnG (P : Program) (w : World) (K : PySem.W.Frag) (mg : Str → Option Value) (base : Heap) (k : Nat) (f : Addr) (fd : FuncData) (ps : List Str) (sp : Sp) : Prop where
  len : ∀ vs H Q E, sp vs H Q E → vs.length = ps.length
  run : ∀ (A : Around) (outer : List Env) (s : Shared) (H : Hp) (args : Args) (us : List Value) (vs : List V) (Q : VK) (E : XK), Room k A → A.guards = some [] → Env0 P w K mg base A outer s H →
    BindsTo s fd args (ps.zip us) → Vals vs us → sp vs H Q E → codeAny (model P w) A (.call (.ref f) args) (CR (L2N.CX P w) outer P w H s Q E) s

section
variable {W : Wd} {M : List Addr} {S : Store} {H : Hp} {cells : List (Str × Addr)} {wx : WX}
theorem entD_ok {N : List Str} {ts : List T} {vs : List V} (h : Paired (RepX W [] M H) ts vs) (n : ts.all T.noLamB = true) (hl : vs.length ≤ N.length) : EnvR W cells M H (entD N.length ts) (L2.start N vs) := by
  have e := paired_lenT h
  refine ⟨by unfold entD L2.start; simp; omega, fun i t h1 h2 => ?_⟩
  unfold entD at h1
  unfold L2.start
  by_cases hi : i < ts.length
  · rw [List.getElem?_append_left hi] at h1
    obtain ⟨v, a, b⟩ := paired_getT (paired_any (cells' := cells) h n) h1
    exact ⟨v, by rw [List.getElem?_append_left (by simp; omega), List.getElem?_map, a]; rfl, b⟩
  · rw [List.getElem?_append_right (by omega), List.getElem?_replicate] at h1
    split at h1
    · cases h1; exact (h2 rfl).elim
    · cases h1
theorem finX_ok {c p n0} {S' : Store} {M' : List Addr} {H' : Hp} {cls d} {Q E} (hn : M.length = n0) (ex : Ext M H M' H') (sim : Sim W M' S' H') (xr : ExcR W M' H' c p cls d) (post : PostF W M H Q E (finX n0 c p S')) : E cls d H' := by
  unfold finX at post
  split at post
  · rename_i hb
    simp only [Bool.and_eq_true] at hb
    have hle : n0 ≤ M'.length := by
      by_cases h0 : n0 = 0
      · omega
      · have h1 : M[n0 - 1]? = some M[n0 - 1] := List.getElem?_eq_getElem (by omega)
        have := (List.getElem?_eq_some_iff.mp (ex.m _ _ h1)).1
        omega
    refine post (M'.take n0) H' cls d ⟨fun n a h => ?_, ex.h⟩ (sim.cut hb.1 (fun n h => List.getElem?_take_of_lt h) (by simp [sim.len])) xr
    have : n < n0 := by rw [← hn]; exact (List.getElem?_eq_some_iff.mp h).1
    rw [List.getElem?_take_of_lt this]; exact ex.m n a h
  · exact post M' H' cls d ex sim xr
theorem postF_E {Q : VK} {E : XK} {σ : L2.St} {r : R T} (h : PostF W M H Q E r) (hp : ∀ t S', r = .ok t S' → t.plain = true) : PostE W cells (fun cls d _ H' => E cls d H') σ M H Q r := by
  cases r with
  | ok t S' => exact fun M' H' v ex sim rx => h M' H' v ex sim (rx.rep (hp t S' rfl))
  | exc c p S' => exact h
  | bad => exact h
theorem fin_plain {n0 : Nat} {t t' : T} {S S' : Store} (hp : t.plain = true) (e : fin n0 t S = .ok t' S') : t'.plain = true := by
  unfold fin at e
  split at e
  · split at e
    · cases e; exact hp
    · unfold finAt at e
      split at e
      · split at e
        · split at e <;> (cases e; rfl)
        · cases e; rfl
      · cases e; exact hp
  · cases e; exact hp
end

section
variable {P : Program} {w : World} {K : PySem.W.Frag} {mg : Str → Option Value} {base : Heap} {W : Wd}
/-- the exception's wish in a def's body -/
abbrev wxD (E : XK) : WX := fun cls d _ H => E cls d H
/-- THE RULE: a def by its body -/
theorem fng_of {x qual : Str} {params : Arguments} {body : List Stmt} {scope : Scope} {dV kV doc pm cdv ct oc : Value} {an od : Option Addr} {osl : Array (Option Value)} {f : Addr} {N ps : List Str} {k nl np : Nat} {db : DS}
    (lk : K.lookup f = some ⟨oc, od, .func (PySem.W.fnOf x qual params body scope dV kV doc pm an cdv ct), osl⟩) (hcd : PySem.W.codeIn K cdv qual = true) (hs : FnScope N ps scope) (hnl : N.length = nl) (hnp : ps.length = np)
    (hbody : ∀ (A : Around) (outer : List Env) (s : Shared) (H : Hp) (E : XK), Room k (A.deeper (envOfC qual scope s.heap.objs.size f cdv)) → A.guards = some [] →
      EBk (cxOf (L2N.CX P w) P w K mg base N qual scope f cdv A outer s H E) W (envOfC qual scope s.heap.objs.size f cdv).cells (wxD E) body db) :
    FnG P w K mg base (k + 1) f (PySem.W.fnOf x qual params body scope dV kV doc pm an cdv ct) ps (spD W np (runD nl np db)) := by
  refine ⟨fun vs H Q E h => h.1.trans hnp.symm, fun A outer s H args us vs Q E hr hg e0 hb r hsp => ?_⟩
  obtain ⟨hl, M, S, ts, sim, pr, nl2, post⟩ := hsp
  refine LamX.run_ofS (N := N) (ps := ps) lk hcd hs hr e0 hb r (hl.trans hnp.symm) fun hr' => ⟨_, hbody A outer s H E hr' hg, ?_⟩
  have hN : ps.length ≤ N.length := by have := congrArg List.length hs.pre; rw [List.length_take] at this; omega
  have hts : ts.length = np := (paired_lenT pr).trans hl
  unfold runD at post
  rw [if_pos hts] at post
  refine ⟨M, S, entD nl ts, sim, hnl ▸ entD_ok pr nl2 (by omega), ?_⟩
  cases e : db (entD nl ts) S with
  | nx e1 S1 =>
    simp only [e, endD] at post
    exact fun M' H' σ' ex sim' er' => fin_ok (cells := []) (wx := wxD E) (σ := σ') sim.len ex sim' (v := .non) (by show Rep ..; unfold Rep; rfl) (postF_E post fun t S' h => fin_plain rfl h)
  | rt t S1 =>
    simp only [e, endD] at post
    by_cases hp : t.plain = true
    · rw [if_pos hp] at post
      exact fun M' H' v ex sim' rx => fin_ok (wx := wxD E) (σ := []) sim.len ex sim' rx (postF_E post fun t S' h => fin_plain hp h)
    · rw [if_neg hp] at post; exact post.elim
  | exc c p e1 S1 =>
    simp only [e, endD] at post
    exact fun M' H' σ' cls d ex sim' er' xr => finX_ok sim.len ex sim' xr post
  | bk _ _ => simp only [e, endD] at post; exact post.elim
  | ct _ _ => simp only [e, endD] at post; exact post.elim
  | bad => simp only [e, endD] at post; exact post.elim
end

/-! ### calls -/
def dCall (F : List T → Store → R T) (a : DA) : DE := fun env S => (a env S).bind fun ts S1 => if ts.all T.noLamB then F ts S1 else .bad
/-- a def of the module that may be called from here: under the name x stands the def k, which does what F says -/
structure FnAt (X : Cx) (W : Wd) (x : Str) (k : Nat) (F : List T → Store → R T) : Prop where
  hm : X.mg x = some (.ref (W.fa k))
  keep : PySem.W.keepIn X.K (.ref (W.fa k)) = true
  ok : ∃ (fd : FuncData) (ps : List Str) (n lvl : Nat), Room lvl X.A ∧ FnG X.prog X.w X.K X.mg X.base lvl (W.fa k) fd ps (spD W n F) ∧ Binds X.K fd ps [] ∧ ∀ ts S, ts.length ≠ n → F ts S = .bad
section
variable {X : Cx} {W : Wd} {cells : List (Str × Addr)} {wx : WX} {pos : Pos}
theorem postE_F {M H Q σ} {r : R T} (h : PostE W cells wx σ M H Q r) : PostF W M H Q (fun cls d H' => wx cls d σ H') r := by
  cases r with
  | ok t S' => exact fun M' H' v ex sim rx => h M' H' v ex sim rx.x
  | exc c p S' => exact h
  | bad => exact h
theorem run_g {pins : List (Addr × Obj)} {σ : L2.St} {H : Hp} {s : Shared} {Q : VK} {us : List Value} {vs : List V} {lvl : Nat} {f : Addr} {fd : FuncData} {ps : List Str} {sp : Sp} (fg : FnG X.prog X.w X.K X.mg X.base lvl f fd ps sp) (hr : Room lvl X.A) (hg : X.A.guards = some []) (hb : Binds X.K fd ps [])
    (tk : L2N.Takes X wx) (I : Inv X pins σ H s) (r : Vals vs us) (h : sp vs H Q (fun cls d H' => wx cls d σ H')) : wpAny (model X.prog X.w) X.A (call (.ref f) us) (EP X pins σ Q) X.xe s := by
  have hl : us.length = ps.length := by rw [← r.length]; exact fg.len _ _ _ _ h
  have hb' := hb s us I.kIn (by simpa using hl)
  rw [List.append_nil] at hb'
  refine wpAny_call (codeAny_mono (fg.run X.A X.stack s H ⟨us, []⟩ us vs Q _ hr hg I.env0 hb' r h) fun res s' hq => ?_)
  match res, hq with
  | .error e, hq => exact tk e s' (L2N.XE.of_call I (fun _ _ _ h => h) hq)
  | .ok (.ret u), hq => exact I.after hq
  | .ok .next, hq => exact False.elim hq
  | .ok .brk, hq => exact False.elim hq
  | .ok .cont, hq => exact False.elim hq
theorem call_sp {F : List T → Store → R T} {n : Nat} (hbad : ∀ ts S, ts.length ≠ n → F ts S = .bad) {da : DA} {σ : L2.St} {H : Hp} {Q : VK} (hq : tE W cells wx (dCall F da) σ H Q) :
    tA W cells wx da σ H fun vs H1 => spD W n F vs H1 Q (fun cls d H' => wx cls d σ H') := by
  obtain ⟨M, S, env, sim, er, post⟩ := hq
  refine stepA sim er post fun M1 S1 H1 ts vs ex sim1 er1 r1 post1 => ?_
  by_cases hc : ts.all T.noLamB = true
  · rw [if_pos hc] at post1
    have hsp := postE_F post1
    refine ⟨?_, M1, S1, ts, sim1, paired_any r1 hc, hc, hsp⟩
    rw [← paired_lenT r1]
    by_cases hl : ts.length = n
    · exact hl
    · rw [hbad _ _ hl] at hsp; exact hsp.elim
  · rw [if_neg hc] at post1; exact post1.elim
theorem ee_call {x : Str} {k : Nat} {F : List T → Store → R T} {p : Pos} {e : Expr} {es : List Expr} {da : DA} (h : FnAt X W x k F) (hgd : X.A.guards = some []) (tk : L2N.Takes X wx) (hg : Gl X x) (ha : EL X W cells wx (e :: es) da)
    (hdb : (x == ("__debug__" : Str)) = false := by decide) (he : starEach (e :: es) X.env = (false, eval e X.env) :: starEach es X.env := by rfl) (hpl : (backTo pos (starEach es X.env)).any (·.1) = false := by rfl) :
    EE X W cells wx (.Call (.Name x p) (e :: es) [] pos) (dCall F da) := by
  obtain ⟨hm, hk, fd, ps, n, lvl, hr, fg, hb, hbad⟩ := h
  refine ⟨fun pins s σ H Q I hq => wpAny_Call_Name_kw (ld_glob I hg hm ?_ hdb)⟩
  refine PySem.W.callWith_K (h₀ := X.base) I.ok.mod.kin hk (thn (ha.run pos pins s σ H _ I (call_sp hbad hq)) fun us s1 ⟨vs, H1, I1, r, q⟩ => ⟨I1.kIn, ?_⟩) he hpl
  exact run_g fg hr hgd hb tk I1 r q
theorem ee_call0 {x : Str} {k : Nat} {F : List T → Store → R T} {p : Pos} (h : FnAt X W x k F) (hgd : X.A.guards = some []) (tk : L2N.Takes X wx) (hg : Gl X x) (hdb : (x == ("__debug__" : Str)) = false := by decide) :
    EE X W cells wx (.Call (.Name x p) [] [] pos) (dCall F dNil) := by
  obtain ⟨hm, hk, fd, ps, n, lvl, hr, fg, hb, hbad⟩ := h
  refine ⟨fun pins s σ H Q I hq => wpAny_Call_Name_kw (ld_glob I hg hm ?_ hdb)⟩
  obtain ⟨M, S, env, sim, er, post⟩ := call_sp hbad hq
  exact PySem.W.callWith_K0 I.kIn hk (run_g (us := []) fg hr hgd hb tk I .nil (post M H [] Ext.refl sim .nil))

/-! ### raise -/
def dRaise (c : Nat) : DS := fun e S => .exc c [] e S
theorem es_raise {e : Expr} {c : Nat} (hc : X.calm = true) (tk : L2N.Takes X wx) (mk : L2N.PMk X e (fun _ H Q => Q (.ref (W.ca c)) none H)) : ES X W cells wx (.Raise (some e) none pos) (dRaise c) :=
  ps_weak (L2N.ps_raise hc tk mk) fun D σ H ⟨M, S, env, sim, er, post⟩ => post M H σ _ _ Ext.refl sim er ⟨rfl, rfl, rfl⟩
end
end DD
set_option Elab.async false
set_option linter.all false
set_option maxRecDepth 100000
set_option maxHeartbeats 4000000
/-! The Den layer, part 7: operations on values. -/
namespace DD
open PySem PySem.Spec PyProof.Rows L2

/-! ### data -/
mutual
def datW (r : Nat → Option PyData) : T → Option PyData
  | .non => some .none
  | .bl b => some (.bool b)
  | .int i => some (.int i)
  | .str x => some (.str x)
  | .tup ts => (datsW r ts).map .tuple
  | .ref k => r k
  | _ => none
def datsW (r : Nat → Option PyData) : List T → Option (List PyData)
  | [] => some []
  | t :: ts => (datW r t).bind fun d => (datsW r ts).map (d :: ·)
end
def datR : Nat → Store → Nat → Option PyData
  | 0, _, _ => none
  | n + 1, S, k => match S[k]? with
    | some (.lst xs) => (datsW (datR n S) xs).map .list
    | _ => none
def dat (S : Store) (t : T) : Option PyData := datW (datR 8 S) t
section
variable {W : Wd} {M : List Addr} {S : Store} {H : Hp}
mutual
theorem datW_dp {r : Nat → Option PyData} (hr : ∀ k d a, r k = some d → M[k]? = some a → Dp W.K H (.ref a) d) : ∀ (t : T) (v : V) (d : PyData), datW r t = some d → Rep W M H t v → Dp W.K H v d
  | .non, v, d, e, h => by unfold Rep at h; subst h; cases e; exact .non
  | .bl b, v, d, e, h => by unfold Rep at h; subst h; cases e; exact .bl b
  | .int i, v, d, e, h => by unfold Rep at h; subst h; cases e; exact .int i
  | .str x, v, d, e, h => by unfold Rep at h; subst h; cases e; exact .str x
  | .tup ts, v, d, e, h => by
    unfold Rep at h
    obtain ⟨a, vs, rfl, h2, h3⟩ := h
    unfold datW at e
    cases e2 : datsW r ts with
    | none => rw [e2] at e; cases e
    | some ds => rw [e2] at e; cases e; exact .tup h2 (datsW_dp hr ts vs ds e2 h3)
  | .ref k, v, d, e, h => by
    unfold Rep at h
    obtain ⟨a, h1, rfl⟩ := h
    exact hr k d a e h1
  | .fn _, _, _, e, _ => by simp [datW] at e
  | .hole, _, _, e, _ => by simp [datW] at e
  | .lam _, _, _, e, _ => by simp [datW] at e
  | .clo _ _, _, _, e, _ => by simp [datW] at e
theorem datsW_dp {r : Nat → Option PyData} (hr : ∀ k d a, r k = some d → M[k]? = some a → Dp W.K H (.ref a) d) : ∀ (ts : List T) (vs : List V) (ds : List PyData), datsW r ts = some ds → Reps W M H ts vs → DpAll W.K H vs ds
  | [], vs, ds, e, h => by unfold Reps at h; subst h; cases e; exact .nil
  | t :: ts, vs, ds, e, h => by
    unfold Reps at h
    obtain ⟨v, rr, rfl, h2, h3⟩ := h
    unfold datsW at e
    cases e1 : datW r t with
    | none => rw [e1] at e; cases e
    | some d =>
      rw [e1] at e
      cases e2 : datsW r ts with
      | none => simp [e2] at e
      | some ds' =>
        simp [e2] at e
        subst e
        exact .cons (datW_dp hr t v d e1 h2) (datsW_dp hr ts rr ds' e2 h3)
end
theorem datR_dp (sim : Sim W M S H) : ∀ (n : Nat) k d a, datR n S k = some d → M[k]? = some a → Dp W.K H (.ref a) d
  | 0, _, _, _, e, _ => by cases e
  | n + 1, k, d, a, e, h => by
    unfold datR at e
    cases e1 : S[k]? with
    | none => rw [e1] at e; cases e
    | some o =>
      rw [e1] at e
      cases o with
      | lst xs =>
        obtain ⟨vs, h1, h2⟩ := sim.obj k _ a e1 h
        cases e2 : datsW (datR n S) xs with
        | none => simp [e2] at e
        | some ds => simp [e2] at e; subst e; exact .lst (SqL.of h1) (datsW_dp (datR_dp sim n) xs vs ds e2 h2)
      | _ => cases e
theorem dat_dp {cells} (sim : Sim W M S H) {t : T} {v : V} {d : PyData} (e : dat S t = some d) (h : RepX W cells M H t v) : Dp W.K H v d := by
  cases t with
  | lam k => simp [dat, datW] at e
  | clo k cs => simp [dat, datW] at e
  | _ => exact datW_dp (datR_dp sim 8) _ _ _ e h
end
def okB (b : Bool) (S : Store) : R T := .ok (.bl b) S
def okI (i : Int) (S : Store) : R T := .ok (.int i) S
def shp (d : PyData) : Bool := SeqAt.shaped d
def nEqD (neg : Bool) (a b : Option PyData) (S : Store) : R T := match a, b with
  | some a, some b => if shp a && shp b then okB (if neg then !PyData.eqv a b else PyData.eqv a b) S else .bad
  | _, _ => .bad
def nEq : T → T → Store → R T
  | .int a, .int b, S => okB (decide (a = b)) S
  | t, u, S => nEqD false (dat S t) (dat S u) S
def nNe : T → T → Store → R T
  | .int a, .int b, S => okB (!decide (a = b)) S
  | t, u, S => nEqD true (dat S t) (dat S u) S

/-- the ints of a list -/
def intsT : List T → Option (List Int)
  | [] => some []
  | .int i :: ts => (intsT ts).map (i :: ·)
  | _ => none
def boolsT : List T → Option (List Bool)
  | [] => some []
  | .bl b :: ts => (boolsT ts).map (b :: ·)
  | _ => none
section
variable {W : Wd} {cells : List (Str × Addr)} {M : List Addr} {S : Store} {H : Hp}
theorem rep_int {i v} (h : RepX W cells M H (.int i) v) : v = .int i := by simpa [RepX, Rep] using h
theorem rep_bl {b v} (h : RepX W cells M H (.bl b) v) : v = .bl b := by simpa [RepX, Rep] using h
theorem rep_str {x v} (h : RepX W cells M H (.str x) v) : v = .str x := by simpa [RepX, Rep] using h
theorem rep_non {v} (h : RepX W cells M H .non v) : v = .non := by simpa [RepX, Rep] using h
theorem rep_tup {ts v} (h : RepX W cells M H (.tup ts) v) : ∃ a vs, v = .ref a ∧ SqT W.K H a vs ∧ Reps W M H ts vs := by
  have h' : Rep W M H (.tup ts) v := h
  unfold Rep at h'; exact h'
theorem rep_ref {n v} (h : RepX W cells M H (.ref n) v) : ∃ a, M[n]? = some a ∧ v = .ref a := by
  have h' : Rep W M H (.ref n) v := h
  unfold Rep at h'; exact h'
theorem x_int {i} : RepX W cells M H (.int i) (.int i) := by show Rep ..; unfold Rep; rfl
theorem x_bl {i} : RepX W cells M H (.bl i) (.bl i) := by show Rep ..; unfold Rep; rfl
theorem x_str {i} : RepX W cells M H (.str i) (.str i) := by show Rep ..; unfold Rep; rfl
theorem x_non : RepX W cells M H .non .non := by show Rep ..; unfold Rep; rfl
theorem r_int {i} : Rep W M H (.int i) (.int i) := by unfold Rep; rfl
theorem intsT_reps : ∀ {ts : List T} {vs : List V} {ns : List Int}, intsT ts = some ns → Reps W M H ts vs → vs = ns.map V.int
  | [], vs, ns, e, h => by unfold Reps at h; cases e; exact h
  | t :: ts, vs, ns, e, h => by
    unfold Reps at h
    obtain ⟨v, r, rfl, h2, h3⟩ := h
    cases t with
    | int i =>
      simp only [intsT, Option.map_eq_some_iff] at e
      obtain ⟨ms, e1, rfl⟩ := e
      rw [intsT_reps e1 h3]
      unfold Rep at h2; subst h2; rfl
    | _ => cases e
theorem boolsT_reps : ∀ {ts : List T} {vs : List V} {ns : List Bool}, boolsT ts = some ns → Reps W M H ts vs → vs = ns.map V.bl
  | [], vs, ns, e, h => by unfold Reps at h; cases e; exact h
  | t :: ts, vs, ns, e, h => by
    unfold Reps at h
    obtain ⟨v, r, rfl, h2, h3⟩ := h
    cases t with
    | bl i =>
      simp only [boolsT, Option.map_eq_some_iff] at e
      obtain ⟨ms, e1, rfl⟩ := e
      rw [boolsT_reps e1 h3]
      unfold Rep at h2; subst h2; rfl
    | _ => cases e
/-- a list of the store -/
def lstAt (S : Store) (n : Nat) : Option (List T) := match S[n]? with
  | some (.lst xs) => some xs
  | some (.frl xs) => some xs
  | _ => none
theorem lstAt_ok (sim : Sim W M S H) {n a xs} (h : M[n]? = some a) (e : lstAt S n = some xs) : ∃ vs, SqL W.K H a vs ∧ Reps W M H xs vs := by
  unfold lstAt at e
  cases e1 : S[n]? with
  | none => rw [e1] at e; cases e
  | some o =>
    rw [e1] at e
    cases o with
    | lst ys => cases e; obtain ⟨vs, h1, h2⟩ := sim.obj n _ a e1 h; exact ⟨vs, SqL.of h1, h2⟩
    | frl ys => cases e; obtain ⟨vs, h1, h2⟩ := sim.obj n _ a e1 h; exact ⟨vs, h1.sq, h2⟩
    | _ => cases e
theorem here_int {wx : WX} {σ : L2.St} {Q : VK} {i : Int} (sim : Sim W M S H) (p : PostE W cells wx σ M H Q (okI i S)) : Q (.int i) H := PostE.here p sim x_int
theorem here_bl {wx : WX} {σ : L2.St} {Q : VK} {i : Bool} (sim : Sim W M S H) (p : PostE W cells wx σ M H Q (okB i S)) : Q (.bl i) H := PostE.here p sim x_bl
end

section
variable {X : Cx} {W : Wd} {cells : List (Str × Addr)} {wx : WX}
/-- == -/
theorem eq_w (hK : X.K = W.K) : OpD W cells wx (rEqD X.K) nEq := fun σ M S H Q t u v w sim rt ru post => by
  have gen : PostE W cells wx σ M H Q (nEqD false (dat S t) (dat S u) S) → rEqD X.K v w H Q := fun post => by
    cases e1 : dat S t with
    | none => rw [e1] at post; exact post.elim
    | some d1 =>
      cases e2 : dat S u with
      | none => rw [e1, e2] at post; exact post.elim
      | some d2 =>
        rw [e1, e2] at post
        simp only [nEqD] at post
        split at post
        · rename_i hs
          simp only [Bool.and_eq_true, shp] at hs
          exact ⟨d1, d2, hK ▸ dat_dp sim e1 rt, hK ▸ dat_dp sim e2 ru, hs.1, hs.2, here_bl sim (by simpa using post)⟩
        · exact post.elim
  unfold nEq at post
  split at post
  · rename_i a b _ _ _
    rw [rep_int rt, rep_int ru]
    exact ⟨.int _, .int _, .int _, .int _, by rfl, by rfl, by
      have := here_bl sim post
      simpa [PyData.eqv, BEq.beq] using this⟩
  · exact gen post
theorem ne_w (hK : X.K = W.K) : OpD W cells wx (rNeD X.K) nNe := fun σ M S H Q t u v w sim rt ru post => by
  have gen : PostE W cells wx σ M H Q (nEqD true (dat S t) (dat S u) S) → rNeD X.K v w H Q := fun post => by
    cases e1 : dat S t with
    | none => rw [e1] at post; exact post.elim
    | some d1 =>
      cases e2 : dat S u with
      | none => rw [e1, e2] at post; exact post.elim
      | some d2 =>
        rw [e1, e2] at post
        simp only [nEqD] at post
        split at post
        · rename_i hs
          simp only [Bool.and_eq_true, shp] at hs
          exact ⟨d1, d2, hK ▸ dat_dp sim e1 rt, hK ▸ dat_dp sim e2 ru, hs.1, hs.2, here_bl sim (by simpa using post)⟩
        · exact post.elim
  unfold nNe at post
  split at post
  · rename_i a b _ _ _
    rw [rep_int rt, rep_int ru]
    exact ⟨.int _, .int _, .int _, .int _, by rfl, by rfl, by
      have := here_bl sim post
      simpa [PyData.eqv, BEq.beq] using this⟩
  · exact gen post
end
end DD
set_option Elab.async false
set_option linter.all false
set_option maxRecDepth 100000
set_option maxHeartbeats 4000000
/-! The Den layer, part 8: arithmetic, order, indexes, slices, small built-ins. -/
namespace DD
open PySem PySem.Spec PyProof.Rows L2

def newT (ts : List T) (S : Store) : R T := .ok (.tup ts) S
/-- + -/
def nAdd : T → T → Store → R T
  | .int a, .int b, S => okI (a + b) S
  | .str a, .str b, S => if a.length + b.length ≤ LINE then .ok (.str (a ++ b)) S else .bad
  | .tup a, .tup b, S => if a.length + b.length ≤ LINE then .ok (.tup (a ++ b)) S else .bad
  | .ref n, .ref m, S => match S[n]?, S[m]? with
    | some (.lst a), some (.lst b) => if a.length + b.length ≤ LINE then newO (.lst (a ++ b)) S else .bad
    | _, _ => .bad
  | _, _, _ => .bad
def nSub : T → T → Store → R T
  | .int a, .int b, S => okI (a - b) S
  | _, _, _ => .bad
def small (i : Int) : Bool := decide (-(18446744073709551616) < i) && decide (i < 18446744073709551616)
def nMul : T → T → Store → R T
  | .int a, .int b, S => if small a || small b || decide (a.natAbs.log2 + b.natAbs.log2 < 1000000) then okI (a * b) S else .bad
  | .tup a, .int k, S => if decide (a ≠ []) && decide (2 ≤ k) && decide (k ≤ 1000) && decide (a.length ≤ 1000) then .ok (.tup (List.replicate k.toNat a).flatten) S else .bad
  | .ref n, .int k, S => match S[n]? with
    | some (.lst a) => if decide (-(9223372036854775808) ≤ k) && decide (k < 9223372036854775808) && decide (a.length * k.toNat ≤ LINE) then newO (.lst (List.replicate k.toNat a).flatten) S else .bad
    | _ => .bad
  | _, _, _ => .bad
def nDiv : T → T → Store → R T
  | .int a, .int b, S => if decide (0 < b) && decide (b.natAbs.log2 < 9000) then okI (a / b) S else .bad
  | _, _, _ => .bad
def nMod : T → T → Store → R T
  | .int a, .int b, S => if 0 < b then okI (a % b) S else .bad
  | _, _, _ => .bad
def nPow : T → T → Store → R T
  | .int a, .int b, S => if decide (0 ≤ b) && decide (b ≤ 1000000) && decide (a.natAbs < 18446744073709551616) then okI (a ^ b.toNat) S else .bad
  | _, _, _ => .bad
def nNeg : T → Store → R T
  | .int a, S => okI (-a) S
  | _, _ => .bad
def nLt : T → T → Store → R T
  | .int a, .int b, S => okB (decide (a < b)) S
  | .tup a, .tup b, S => match intsT a, intsT b with
    | some a, some b => okB (HT.lexLt a b) S
    | _, _ => .bad
  | .str a, .str b, S => okB (decide (a.cps.toList < b.cps.toList)) S
  | _, _, _ => .bad
def nLe : T → T → Store → R T
  | .int a, .int b, S => okB (decide (a ≤ b)) S
  | _, _, _ => .bad
def nGt : T → T → Store → R T
  | .int a, .int b, S => okB (decide (b < a)) S
  | _, _, _ => .bad
def nGe : T → T → Store → R T
  | .int a, .int b, S => okB (decide (b ≤ a)) S
  | _, _, _ => .bad
def nIsN (neg : Bool) : T → T → Store → R T
  | .non, .non, S => okB (!neg) S
  | t, .non, S => if t.plain then okB neg S else .bad
  | _, _, _ => .bad
/-- o[i] of a sequence -/
def nIdx : T → T → Store → R T
  | .tup ts, .int i, S => match atI ts i with
    | some t => .ok t S
    | none => .bad
  | .ref n, .int i, S => match lstAt S n with
    | some ts => match atI ts i with
      | some t => .ok t S
      | none => .bad
    | none => .bad
  | .str z, .int i, S => if z.length ≤ LINE then (match atI z.cps.toList i with
      | some c => .ok (.str ⟨#[c]⟩) S
      | none => .bad) else .bad
  | _, _, _ => .bad
def cutT {α : Type} (xs : List α) (lo hi : Option Int) : List α := (xs.drop (HT.sIx xs.length 0 lo)).take (HT.sIx xs.length xs.length hi - HT.sIx xs.length 0 lo)
def nSlc : T → Option Int → Option Int → Store → R T
  | .tup ts, l, h, S => .ok (.tup (cutT ts l h)) S
  | .ref n, l, h, S => match lstAt S n with
    | some ts => newO (.lst (cutT ts l h)) S
    | none => .bad
  | _, _, _, _ => .bad
/-- xs[k] = v -/
def nSet : T → T → T → Store → R Unit
  | .ref n, .int k, t, S => match S[n]? with
    | some (.lst xs) => match ixN xs.length k with
      | some j => if t.plain then .ok () (S.set n (.lst (xs.set j t))) else .bad
      | none => .bad
    | _ => .bad
  | _, _, _, _ => .bad

section
variable {W : Wd} {cells : List (Str × Addr)} {wx : WX} {σ : L2.St} {M : List Addr} {S : Store} {H : Hp} {Q : VK}
theorem tup_new {ts : List T} {vs : List V} {p : Addr} (sim : Sim W M S H) (post : PostE W cells wx σ M H Q (.ok (.tup ts) S)) (hp : H p = none) (r : Reps W M H ts vs) : Q (.ref p) (upd H p (.tup vs)) := by
  refine post M _ _ (ext_new hp) (sim.new hp) ?_
  show Rep ..
  unfold Rep
  exact ⟨p, vs, rfl, SqT.of upd_same, r.mono (ext_new hp)⟩
theorem lst_new {ts : List T} {vs : List V} {p : Addr} (sim : Sim W M S H) (post : PostE W cells wx σ M H Q (newO (.lst ts) S)) (hp : H p = none) (r : Reps W M H ts vs) : Q (.ref p) (upd H p (.lst vs)) :=
  newO_ok sim post hp ⟨vs, upd_same, r.mono (ext_alloc hp)⟩
theorem reps_flat {ts : List T} {vs : List V} (r : Reps W M H ts vs) : ∀ k : Nat, Reps W M H (List.replicate k ts).flatten (List.replicate k vs).flatten
  | 0 => reps_nil
  | k + 1 => by rw [List.replicate_succ, List.replicate_succ, List.flatten_cons, List.flatten_cons]; exact reps_app r (reps_flat r k)
theorem reps_cut {ts : List T} {vs : List V} (r : Reps W M H ts vs) (l h : Option Int) : Reps W M H (cutT ts l h) (cutV vs l h) := by
  unfold cutT cutV
  rw [reps_len r]
  exact reps_take _ (reps_drop _ r)
theorem reps_at {ts : List T} {vs : List V} {i : Int} {t : T} (r : Reps W M H ts vs) (e : atI ts i = some t) : ∃ v, atI vs i = some v ∧ Rep W M H t v := by
  unfold atI at e ⊢
  rw [reps_len r]
  cases e1 : ixN ts.length i with
  | none => rw [e1] at e; cases e
  | some j => rw [e1] at e; exact reps_get' r e
theorem lst_at (sim : Sim W M S H) {n : Nat} {a : Addr} {xs : List T} (hn : M[n]? = some a) (e : S[n]? = some (.lst xs)) : ∃ vs, H a = some (.lst vs) ∧ Reps W M H xs vs := sim.obj n _ a e hn
theorem reps_ne {ts : List T} {vs : List V} (r : Reps W M H ts vs) (h : ts ≠ []) : vs ≠ [] := by
  intro e
  have := reps_len r
  rw [e] at this
  exact h (List.eq_nil_of_length_eq_zero this.symm)
end

section
variable {X : Cx} {W : Wd} {cells : List (Str × Addr)} {wx : WX}
abbrev rAddA (K : PySem.W.Frag) : R2 := fun x y H Q => rI0 (fun i j => .int (i + j)) x y H Q ∨ ((∃ i j, x = .str i ∧ y = .str j ∧ i.length + j.length ≤ sizeLine ∧ Q (.str (i ++ j)) H) ∨ (rCatA K x y H Q ∨ rCat x y H Q))
theorem o_add : OpR X (binaryOp .Add) (rAddA X.K) := OpR.either op_add (OpR.either op_add_str (OpR.either op_catA op_cat))
theorem add_w (hK : X.K = W.K) : OpD W cells wx (rAddA X.K) nAdd := fun σ M S H Q t u v w sim rt ru post => by
  unfold nAdd at post
  split at post
  · rw [rep_int rt, rep_int ru]; exact .inl ⟨_, _, rfl, rfl, here_int sim post⟩
  · split at post
    · rename_i h
      rw [rep_str rt, rep_str ru]; exact .inr (.inl ⟨_, _, rfl, rfl, by rw [line_eq]; exact h, PostE.here post sim x_str⟩)
    · exact post.elim
  · rename_i a b
    split at post
    · rename_i h
      obtain ⟨p, vs, rfl, h1, r1⟩ := rep_tup rt
      obtain ⟨q, ws, rfl, h2, r2⟩ := rep_tup ru
      refine .inr (.inr (.inl ⟨p, q, vs, ws, rfl, rfl, hK ▸ h1, hK ▸ h2, by rw [reps_len r1, reps_len r2, line_eq]; exact h, fun e => ?_, fun _ e => ?_, fun _ _ z hz => ?_⟩))
      · subst e
        have : a = [] := List.eq_nil_of_length_eq_zero (by have := reps_len r1; simpa using this.symm)
        subst this
        exact PostE.here post sim (by show Rep ..; unfold Rep; exact ⟨q, ws, rfl, h2, r2⟩)
      · subst e
        have : b = [] := List.eq_nil_of_length_eq_zero (by have := reps_len r2; simpa using this.symm)
        subst this
        rw [List.append_nil] at post
        exact PostE.here post sim (by show Rep ..; unfold Rep; exact ⟨p, vs, rfl, h1, r1⟩)
      · exact tup_new sim post hz (reps_app r1 r2)
    · exact post.elim
  · rename_i n m
    split at post
    · rename_i a b e1 e2
      split at post
      · rename_i h
        obtain ⟨p, h1, rfl⟩ := rep_ref rt
        obtain ⟨q, h2, rfl⟩ := rep_ref ru
        obtain ⟨vs, k1, r1⟩ := lst_at sim h1 e1
        obtain ⟨ws, k2, r2⟩ := lst_at sim h2 e2
        exact .inr (.inr (.inr ⟨p, q, vs, ws, rfl, rfl, k1, k2, by rw [reps_len r1, reps_len r2, line_eq]; exact h, fun z hz => lst_new sim post hz (reps_app r1 r2)⟩))
      · exact post.elim
    · exact post.elim
  · exact post.elim
theorem sub_w : OpD W cells wx (rI0 fun i j => .int (i - j)) nSub := fun σ M S H Q t u v w sim rt ru post => by
  unfold nSub at post
  split at post
  · rw [rep_int rt, rep_int ru]; exact ⟨_, _, rfl, rfl, here_int sim post⟩
  · exact post.elim
abbrev rMulA (K : PySem.W.Frag) : R2 := fun x y H Q => rI CMul (fun i j => .int (i * j)) x y H Q ∨ (rI CMulW (fun i j => .int (i * j)) x y H Q ∨ (rRepT K x y H Q ∨ rRep x y H Q))
theorem o_mul : OpR X (binaryOp .Mult) (rMulA X.K) := OpR.either op_mul (OpR.either op_mulW (OpR.either op_repT op_rep))
theorem small_ok {i : Int} (h : small i = true) : -(2 ^ 64) < i ∧ i < 2 ^ 64 := by
  simp only [small, Bool.and_eq_true, decide_eq_true_eq] at h
  exact h
theorem mul_w (hK : X.K = W.K) : OpD W cells wx (rMulA X.K) nMul := fun σ M S H Q t u v w sim rt ru post => by
  unfold nMul at post
  split at post
  · rename_i a b
    rw [rep_int rt, rep_int ru]
    split at post
    · rename_i h
      simp only [Bool.or_eq_true, decide_eq_true_eq] at h
      have q := here_int sim post
      rcases h with (h | h) | h
      · exact .inl ⟨_, _, rfl, rfl, .inl (small_ok h), q⟩
      · exact .inl ⟨_, _, rfl, rfl, .inr (small_ok h), q⟩
      · exact .inr (.inl ⟨_, _, rfl, rfl, h, q⟩)
    · exact post.elim
  · rename_i a k
    split at post
    · rename_i h
      simp only [Bool.and_eq_true, decide_eq_true_eq] at h
      obtain ⟨p, vs, rfl, h1, r1⟩ := rep_tup rt
      rw [rep_int ru]
      exact .inr (.inr (.inl ⟨p, k, vs, rfl, rfl, hK ▸ h1, reps_ne r1 h.1.1.1, h.1.1.2, h.1.2, by rw [reps_len r1]; exact h.2, fun z hz => tup_new sim post hz (reps_flat r1 _)⟩))
    · exact post.elim
  · rename_i n k
    split at post
    · rename_i a e1
      split at post
      · rename_i h
        simp only [Bool.and_eq_true, decide_eq_true_eq] at h
        obtain ⟨p, h1, rfl⟩ := rep_ref rt
        rw [rep_int ru]
        obtain ⟨vs, k1, r1⟩ := lst_at sim h1 e1
        exact .inr (.inr (.inr ⟨p, k, vs, rfl, rfl, k1, h.1.1, h.1.2, by rw [reps_len r1, line_eq]; exact h.2, fun z hz => lst_new sim post hz (reps_flat r1 _)⟩))
      · exact post.elim
    · exact post.elim
  · exact post.elim
theorem div_w : OpD W cells wx (rI CDivW fun i j => .int (i / j)) nDiv := fun σ M S H Q t u v w sim rt ru post => by
  unfold nDiv at post
  split at post
  · rw [rep_int rt, rep_int ru]
    split at post
    · rename_i h
      simp only [Bool.and_eq_true, decide_eq_true_eq] at h
      exact ⟨_, _, rfl, rfl, h, here_int sim post⟩
    · exact post.elim
  · exact post.elim
theorem mod_w : OpD W cells wx (rI (fun _ j => 0 < j) fun i j => .int (i % j)) nMod := fun σ M S H Q t u v w sim rt ru post => by
  unfold nMod at post
  split at post
  · rw [rep_int rt, rep_int ru]
    split at post
    · rename_i h
      exact ⟨_, _, rfl, rfl, h, here_int sim post⟩
    · exact post.elim
  · exact post.elim
theorem pow_w : OpD W cells wx (rI CPow fun i j => .int (i ^ j.toNat)) nPow := fun σ M S H Q t u v w sim rt ru post => by
  unfold nPow at post
  split at post
  · rw [rep_int rt, rep_int ru]
    split at post
    · rename_i h
      simp only [Bool.and_eq_true, decide_eq_true_eq] at h
      exact ⟨_, _, rfl, rfl, ⟨h.1.1, h.1.2, h.2⟩, here_int sim post⟩
    · exact post.elim
  · exact post.elim
theorem neg_w : UnD W cells wx (rU fun i => .int (-i)) nNeg := fun σ M S H Q t v sim rt post => by
  unfold nNeg at post
  split at post
  · rw [rep_int rt]; exact ⟨_, rfl, here_int sim post⟩
  · exact post.elim
abbrev rLtA (K : PySem.W.Frag) : R2 := fun x y H Q => rI0 (fun i j => .bl (decide (i < j))) x y H Q ∨ (rLtT K x y H Q ∨ ∃ i j, x = .str i ∧ y = .str j ∧ Q (.bl (decide (i.cps.toList < j.cps.toList))) H)
theorem o_lt (hu : X.A.units < cLine) : OpR X (compareOp .Lt) (rLtA X.K) := OpR.either op_lt (OpR.either (op_ltT hu) op_lt_str)
theorem lt_w (hK : X.K = W.K) : OpD W cells wx (rLtA X.K) nLt := fun σ M S H Q t u v w sim rt ru post => by
  unfold nLt at post
  split at post
  · rw [rep_int rt, rep_int ru]; exact .inl ⟨_, _, rfl, rfl, here_bl sim post⟩
  · split at post
    · rename_i e1 e2
      obtain ⟨p, vs, rfl, h1, r1⟩ := rep_tup rt
      obtain ⟨q, ws, rfl, h2, r2⟩ := rep_tup ru
      rw [intsT_reps e1 r1] at h1
      rw [intsT_reps e2 r2] at h2
      exact .inr (.inl ⟨p, q, _, _, rfl, rfl, hK ▸ h1, hK ▸ h2, here_bl sim post⟩)
    · exact post.elim
  · rw [rep_str rt, rep_str ru]; exact .inr (.inr ⟨_, _, rfl, rfl, here_bl sim post⟩)
  · exact post.elim
theorem le_w : OpD W cells wx (rI0 fun i j => .bl (decide (i ≤ j))) nLe := fun σ M S H Q t u v w sim rt ru post => by
  unfold nLe at post
  split at post
  · rw [rep_int rt, rep_int ru]; exact ⟨_, _, rfl, rfl, here_bl sim post⟩
  · exact post.elim
theorem gt_w : OpD W cells wx (rI0 fun i j => .bl (decide (j < i))) nGt := fun σ M S H Q t u v w sim rt ru post => by
  unfold nGt at post
  split at post
  · rw [rep_int rt, rep_int ru]; exact ⟨_, _, rfl, rfl, here_bl sim post⟩
  · exact post.elim
theorem ge_w : OpD W cells wx (rI0 fun i j => .bl (decide (j ≤ i))) nGe := fun σ M S H Q t u v w sim rt ru post => by
  unfold nGe at post
  split at post
  · rw [rep_int rt, rep_int ru]; exact ⟨_, _, rfl, rfl, here_bl sim post⟩
  · exact post.elim
theorem rep_isN {M : List Addr} {H : Hp} {t : T} {v : V} (r : RepX W cells M H t v) (hp : t.plain = true) (h : t ≠ .non) : v ≠ .non := by
  intro e
  subst e
  cases t with
  | non => exact h rfl
  | bl b => have := rep_bl r; cases this
  | int b => have := rep_int r; cases this
  | str b => have := rep_str r; cases this
  | tup ts => obtain ⟨_, _, e, _⟩ := rep_tup r; cases e
  | ref n => obtain ⟨_, _, e⟩ := rep_ref r; cases e
  | fn k => have r' : Rep W M H (.fn k) .non := r; unfold Rep at r'; cases r'
  | hole => cases hp
  | lam _ => cases hp
  | clo _ _ => cases hp
theorem isN_w : OpD W cells wx (fun x y H Q => y = .non ∧ Q (.bl (decide (x = .non))) H) (nIsN false) := fun σ M S H Q t u v w sim rt ru post => by
  unfold nIsN at post
  split at post
  · rw [rep_non rt, rep_non ru]; exact ⟨rfl, here_bl sim post⟩
  · rename_i hne
    split at post
    · rename_i hp
      rw [rep_non ru]
      refine ⟨rfl, ?_⟩
      rw [decide_eq_false (rep_isN rt hp (fun e => hne e))]
      exact here_bl sim post
    · exact post.elim
  · exact post.elim
theorem isNN_w : OpD W cells wx (fun x y H Q => y = .non ∧ Q (.bl (!decide (x = .non))) H) (nIsN true) := fun σ M S H Q t u v w sim rt ru post => by
  unfold nIsN at post
  split at post
  · rw [rep_non rt, rep_non ru]; exact ⟨rfl, here_bl sim post⟩
  · rename_i hne
    split at post
    · rename_i hp
      rw [rep_non ru]
      refine ⟨rfl, ?_⟩
      rw [decide_eq_false (rep_isN rt hp (fun e => hne e))]
      exact here_bl sim post
    · exact post.elim
  · exact post.elim
theorem idx_w (hK : X.K = W.K) : OpD W cells wx (rIx X.K) nIdx := fun σ M S H Q t u v w sim rt ru post => by
  unfold nIdx at post
  split at post
  · rename_i ts i
    split at post
    · rename_i z e
      obtain ⟨p, vs, rfl, h1, r1⟩ := rep_tup rt
      obtain ⟨x, ex, rx⟩ := reps_at r1 e
      rw [rep_int ru]
      exact .inr (.inl ⟨p, vs, i, x, rfl, rfl, hK ▸ h1, ex, PostE.here post sim rx.x⟩)
    · exact post.elim
  · rename_i n i
    split at post
    · rename_i ts e0
      split at post
      · rename_i z e
        obtain ⟨p, h1, rfl⟩ := rep_ref rt
        obtain ⟨vs, h2, r1⟩ := lstAt_ok sim h1 e0
        obtain ⟨x, ex, rx⟩ := reps_at r1 e
        rw [rep_int ru]
        exact .inl ⟨p, vs, i, x, rfl, rfl, hK ▸ h2, ex, PostE.here post sim rx.x⟩
      · exact post.elim
    · exact post.elim
  · rename_i z i
    split at post
    · rename_i hl
      split at post
      · rename_i c e
        rw [rep_str rt, rep_int ru]
        exact .inr (.inr ⟨z, i, c, rfl, rfl, by rw [line_eq]; exact hl, e, PostE.here post sim x_str⟩)
      · exact post.elim
    · exact post.elim
  · exact post.elim
abbrev rSlAll (K : PySem.W.Frag) : V → Option Int → Option Int → Hp → VK → Prop := fun x lo hi H Q => rSlL K x lo hi H Q ∨ rSlA K x lo hi H Q
theorem o_slc : SlR X (rSlAll X.K) := SlR.or sl_list sl_tupA
theorem slc_w (hK : X.K = W.K) : SlD W cells wx (rSlAll X.K) nSlc := fun σ M S H Q t v l h sim rt post => by
  unfold nSlc at post
  split at post
  · rename_i ts
    obtain ⟨p, vs, rfl, h1, r1⟩ := rep_tup rt
    refine .inr ⟨p, vs, rfl, hK ▸ h1, fun e => ?_, fun _ z hz => tup_new sim post hz (reps_cut r1 _ _)⟩
    have ec : cutT ts l h = ts := by
      unfold cutT
      rw [← reps_len r1, e.1, e.2]
      simp [reps_len r1]
    rw [ec] at post
    exact PostE.here post sim rt
  · split at post
    · rename_i ts e0
      obtain ⟨p, h1, rfl⟩ := rep_ref rt
      obtain ⟨vs, h2, r1⟩ := lstAt_ok sim h1 e0
      exact .inl ⟨p, vs, rfl, hK ▸ h2, fun z hz => lst_new sim post hz (reps_cut r1 _ _)⟩
    · exact post.elim
  · exact post.elim
theorem set_w : SetD W cells wx rSetL nSet := fun σ M S H Q t u w x y z sim rt ru rw' post => by
  unfold nSet at post
  split at post
  · rename_i n k
    split at post
    · rename_i xs e1
      split at post
      · rename_i j ej
        split at post
        · rename_i hp
          obtain ⟨p, h1, rfl⟩ := rep_ref rt
          obtain ⟨vs, h2, r1⟩ := lst_at sim h1 e1
          rw [rep_int ru]
          refine ⟨p, vs, k, j, rfl, rfl, h2, by rw [reps_len r1]; exact ej, ?_⟩
          have ex : Ext M H M (upd H p (.lst (vs.set j z))) := ext_write h2 not_fix_lst
          exact post M _ ex (sim.write (ob' := .lst (xs.set j w)) e1 h1 h2 not_fix_lst rfl rfl ⟨_, upd_same, reps_set j (r1.mono ex) ((rw'.rep hp).mono ex)⟩)
        · exact post.elim
      · exact post.elim
    · exact post.elim
  · exact post.elim
end
end DD
set_option Elab.async false
set_option linter.all false
set_option maxRecDepth 100000
set_option maxHeartbeats 4000000
/-! The Den layer, part 9: a list comprehension over range(n) within an except suite. -/
namespace DD
open PySem PySem.Spec PyProof.Rows L2

/-- range(n)'s iterator gives its item, whatever is handled -/
theorem next_item {X : Cx} {pins : List (Addr × Obj)} {σ : L2.St} {H : Hp} {s : Shared} {it : Addr} {tg : Expr} {n i : Nat} {E : Value → Shared → Prop} (I : Inv X pins σ H s) (f : FpOk X pins H it)
    (st : IsRangeIter s.heap it ((i : Nat) : Int) ((n : Int) - (i : Nat)) 1) (hi : i < n) {Q : V → Value → Shared → Prop}
    (q : ∀ u s2, Inv X pins σ H s2 → RelV (.int (i : Nat)) u → IsRangeIter s2.heap it (((i + 1 : Nat) : Nat) : Int) ((n : Int) - ((i + 1 : Nat) : Nat)) 1 → Q (.int (i : Nat)) u s2) :
    wpAny (model X.prog X.w) X.A (pyNext (.ref it)) (fun r s1 => ∃ u, r = some u ∧ wpAny (model X.prog X.w) X.A (letOwnedTupleGo tg (.ref it) u) (fun _ s2 => Q (.int (i : Nat)) u s2) E s1) E s := by
  obtain ⟨f0, f1, f2, f3, f4, f5⟩ := f
  refine wpAny_pyNext_range_item st (by omega) fun h' st' sb => ⟨_, rfl, ?_⟩
  have e1 : ((i : Nat) : Int) + 1 = ((i + 1 : Nat) : Int) := by omega
  have e2 : (n : Int) - ((i : Nat) : Int) - 1 = (n : Int) - ((i + 1 : Nat) : Int) := by omega
  rw [e1, e2] at st'
  exact go_of (s := { s with heap := h', toks := s.toks + 1 }) (n := "range_iterator") st' rfl rfl (by decide) (q _ _ (I.turned (fun b o hb e => (sb.2 b hb).trans e) f0 f1 f3 f4 f5) ⟨s.toks, rfl⟩ st')

section
variable {X : Cx} {pins : List (Addr × Obj)} {σ : L2.St} {H : Hp} {s : Shared} {elt tg : Expr} {ifs : List Expr} {scope : Scope} {own : List (Str × Nat)} {pos pos' ipos npos cpos : Pos} {n j : Nat} {g : TG} {tt : TT} {te : TE} {use : Option (Value → Sem Unit)} {Qf : Value → Shared → Prop} {Q : VK}
def tLcH (n : Nat) (g : TG) (tt : TT) (te : TE) (vs : List Nat) : TE := tLc (fun σ H R => R (Itr 0 n) H) g tt te vs
abbrev rngE (n : Nat) (j : Nat) (ipos npos cpos : Pos) : Expr := .Call (.Name "range" npos) [.Constant (.int n) j cpos] [] ipos
theorem lcH_core (hot : L2H.HotC X) (hN : X.N.Nodup) (I : Inv X pins σ H s) (hR : Gl X "range") (hm : X.mg "range" = none) (hn : n < 1000) (ok : BlkOk X.N X.env.scope scope own)
    (hg : ∀ (s : Shared) (H : Hp) (C : Addr) (cl : List (Str × Addr)) (fp : List Addr), PG (X.blk s H scope (compEnvC scope cl C X.env) fp) tg g) (ht : ∀ (s : Shared) (H : Hp) (C : Addr) (cl : List (Str × Addr)) (fp : List Addr), PTs (X.blk s H scope (compEnvC scope cl C X.env) fp) ifs tt)
    (he : ∀ (s : Shared) (H : Hp) (C : Addr) (cl : List (Str × Addr)) (fp : List Addr), PE (X.blk s H scope (compEnvC scope cl C X.env) fp) elt te)
    (h : tLcH n g tt te (own.map (·.2)) σ H Q)
    (hRR : ∀ D C s' m H', Inv X pins σ H' s' → Q (.ref D) H' → s'.heap.Ns C m → FpOk X pins H' C → compPost (model X.prog X.w) X.A X.xe use Qf (.ref D) C (.ok .next) s') :
    wpAny (model X.prog X.w) X.A (comprehension (.ListComp elt [⟨tg, rngE n j ipos npos cpos, ifs, 0⟩] scope pos) scope X.env pos' (newList []) false (eval (rngE n j ipos npos cpos) X.env) use) Qf X.xe s := by
  have hfree : ∀ y ∈ scope.names, y.2 = .free → ∃ c, X.env.cells.lookup y.1 = some c := fun y hy e => (ok.free y hy e).elim (fun k => I.ok.has _ (.inl k)) fun k => I.ok.has _ (.inr k)
  refine wpAny_comprehension_free (use := use) rfl (by intro _; rfl) (closure_ok hfree) ok.kind (fun y hy e => by rw [ok.uniq y hy, e]) ?_
  have ha : PA X [.Constant (.int (n : Int)) j cpos] (tCons (tC (.int n)) tNil) := pa_cons pe_int pa_nil
  refine Call_ (ld_blt I hR hm boot_range (PyProof.Rows.callWith_type1 (thn (ha.run ipos pins s σ H (fun vs H1 => vs = [V.int n] ∧ H1 = H) I ⟨rfl, rfl⟩) fun us s1 ⟨vs, H1, I1, r1, e1, e2⟩ => ?_) (by rfl) rfl))
  subst e1 e2
  cases r1 with
  | cons r rr =>
    cases rr
    obtain ⟨t, rfl⟩ := r
    refine call_range_1 (wpAny_pyIter_range (IsRange.new ..) (small_one (by omega) (by omega) (by omega) (by omega)) ?_)
    have I2 : Inv X pins σ H1 { s1 with heap := s1.heap.push { cls := .type "range", data := .fields #[.int 0 s1.toks, .int n t, .int 1 (s1.toks + 1)] }, toks := s1.toks + 1 + 1 } := I1.kept fun b o e => Heap.get?_push_of_some _ e
    generalize ({ s1 with heap := s1.heap.push { cls := .type "range", data := .fields #[.int 0 s1.toks, .int n t, .int 1 (s1.toks + 1)] }, toks := s1.toks + 1 + 1 } : Shared) = s2 at I2 ⊢
    have I3 : Inv X pins σ H1 { s2 with heap := s2.heap.push { cls := .type "range_iterator", data := .fields #[rawInt 0, rawInt (Builtin.Range.rangeSize 0 n 1), rawInt 1] } } := I2.kept (t' := s2.toks) fun b o e => Heap.get?_push_of_some _ e
    have st3 : IsRangeIter (s2.heap.push { cls := .type "range_iterator", data := .fields #[rawInt 0, rawInt (Builtin.Range.rangeSize 0 n 1), rawInt 1] }) s2.heap.objs.size ((0 : Nat) : Int) ((n : Int) - (0 : Nat)) 1 := by
      have e2 : (n : Int) - ((0 : Nat) : Int) = Builtin.Range.rangeSize 0 n 1 := by rw [rangeSize_one]; split <;> omega
      rw [e2]
      exact Heap.get?_push_size _ rfl
    have f3 : FpOk X pins H1 s2.heap.objs.size := I2.fpOk (Nat.le_refl _) (I2.hok.fresh (Nat.le_refl _))
    have l3 : s2.heap.objs.size < (s2.heap.push { cls := .type "range_iterator", data := .fields #[rawInt 0, rawInt (Builtin.Range.rangeSize 0 n 1), rawInt 1] }).objs.size := by rw [Heap.size_push]; omega
    generalize s2.heap.objs.size = it at st3 f3 l3 ⊢
    generalize hs3 : ({ s2 with heap := s2.heap.push { cls := .type "range_iterator", data := .fields #[rawInt 0, rawInt (Builtin.Range.rangeSize 0 n 1), rawInt 1] } } : Shared) = s3 at I3 ⊢
    have st3 : IsRangeIter s3.heap it ((0 : Nat) : Int) ((n : Int) - (0 : Nat)) 1 := by rw [← hs3]; exact st3
    have l3 : it < s3.heap.objs.size := by rw [← hs3]; exact l3
    -- the new list
    refine wpAny_newObj_type (newEnv_comp ?_) (by show 0 ≤ sizeLine; decide)
    have hDn : H1 s3.heap.objs.size = none := I3.hok.fresh (Nat.le_refl _)
    obtain ⟨W, ⟨m0, w0⟩, turn⟩ := h s3.heap.objs.size hDn
    have I4 : Inv X pins σ (upd H1 s3.heap.objs.size (.lst [])) { s3 with heap := s3.heap.push { cls := .type "list", data := .seq ([] : List Value).toArray } } :=
      I3.laid (t' := s3.toks) (fun b o e => Heap.get?_push_of_some _ e) (Nat.le_refl _) ⟨Nat.zero_le _, [], 0, .nil, Heap.get?_push_size _ rfl⟩
    have st4 : IsRangeIter (s3.heap.push { cls := .type "list", data := .seq ([] : List Value).toArray }) it ((0 : Nat) : Int) ((n : Int) - (0 : Nat)) 1 := Heap.get?_push_of_some _ st3
    have f4 : FpOk X pins (upd H1 s3.heap.objs.size (.lst [])) it := ⟨by rw [upd_ne (Nat.ne_of_lt l3)]; exact f3.1, f3.2⟩
    have l4 : it < (s3.heap.push { cls := .type "list", data := .seq ([] : List Value).toArray }).objs.size := by rw [Heap.size_push]; omega
    generalize s3.heap.objs.size = D at turn w0 I4 f4 ⊢
    generalize upd H1 D (.lst []) = H4 at w0 I4 f4
    generalize hs4 : ({ s3 with heap := s3.heap.push { cls := .type "list", data := .seq ([] : List Value).toArray } } : Shared) = s4 at I4 ⊢
    have st4 : IsRangeIter s4.heap it ((0 : Nat) : Int) ((n : Int) - (0 : Nat)) 1 := by rw [← hs4]; exact st4
    have l4 : it < s4.heap.objs.size := by rw [← hs4]; exact l4
    have f4' : ∀ b ∈ [it], FpOk X pins H4 b ∧ b < s4.heap.objs.size := fun b hb => by
      have e : b = it := by simpa using hb
      subst e; exact ⟨f4, l4⟩
    have I5 := block_start I4 ok hN f4'
    have pg := hg s4 H4 s4.heap.objs.size (cellsFrom (s4.heap.objs.size + 1) scope.names (cloFrom X.env.cells scope.names [])) [it]
    have pt := ht s4 H4 s4.heap.objs.size (cellsFrom (s4.heap.objs.size + 1) scope.names (cloFrom X.env.cells scope.names [])) [it]
    have pe := he s4 H4 s4.heap.objs.size (cellsFrom (s4.heap.objs.size + 1) scope.names (cloFrom X.env.cells scope.names [])) [it]
    have st5 : IsRangeIter (pushCells (s4.heap.push { cls := .type "dict", data := .dict #[] }) scope.names) it ((0 : Nat) : Int) ((n : Int) - (0 : Nat)) 1 := pushCells_keeps _ _ _ _ (Heap.get?_push_of_some _ st4)
    show codeAny _ _ (.compStart (.ListComp elt [⟨tg, rngE n j ipos npos cpos, ifs, 0⟩] scope pos) 0 (.ref it) (.ref D) (compEnvC scope (cellsFrom (s4.heap.objs.size + 1) scope.names (cloFrom X.env.cells scope.names [])) s4.heap.objs.size X.env)) (compPost (model X.prog X.w) X.A X.xe use Qf (.ref D) s4.heap.objs.size) { s4 with heap := pushCells (s4.heap.push { cls := .type "dict", data := .dict #[] }) scope.names }
    generalize hce : compEnvC scope (cellsFrom (s4.heap.objs.size + 1) scope.names (cloFrom X.env.cells scope.names [])) s4.heap.objs.size X.env = ce at I5 pg pt pe ⊢
    have cL : ce.locals = s4.heap.objs.size := by subst hce; rfl
    generalize hs5 : ({ s4 with heap := pushCells (s4.heap.push { cls := .type "dict", data := .dict #[] }) scope.names } : Shared) = s5 at I5 ⊢
    have st5 : IsRangeIter s5.heap it ((0 : Nat) : Int) ((n : Int) - (0 : Nat)) 1 := by rw [← hs5]; exact st5
    have stat : ∀ {σ' : L2.St} {H' : Hp} {s' : Shared}, Inv (X.blk s4 H4 scope ce [it]) [] σ' H' s' → H' it = none → FpOk (X.blk s4 H4 scope ce [it]) [] H' it := fun {σ' H' s'} I' hn =>
      ⟨hn, (I'.ok.exf it (by simp)).1, I'.ok.exfs it (by simp), .inl (by simp), fun x c e => (I'.ok.exf it (by simp)).2 x c e, fun p hp => absurd (show p ∈ ([] : List (Addr × Obj)) ++ [] from hp) (by simp)⟩
    refine codeAny_compStart_list ?_ (wpAny_pyIter_rangeiter st5 ?_)
    all_goals
      refine compLoop_any (fun k s' => ∃ i H', Inv (X.blk s4 H4 scope ce [it]) [] (wipe σ (own.map (·.2))) H' s' ∧ IsRangeIter s'.heap it ((i : Nat) : Int) ((n : Int) - (i : Nat)) 1 ∧ H' it = none ∧ W i k H') ?_ m0 ⟨0, H4, I5, st5, f4.1, w0⟩
      rintro k s6 ⟨i, H6, I6, st6, n6, w6⟩
      rcases turn i k H6 w6 with ⟨stop, qq⟩ | ⟨go, Nx, hNx, step⟩
      · -- the end, back in the suite's context
        have I7 : Inv X pins σ H6 s6 := I4.call' (ch := [it]) I6.os I6.base I6.hok I6.bare fun b hb => ⟨(f4' b hb).1.2.2.2.1, (f4' b hb).1.2.1, (f4' b hb).1.2.2.2.2.1, (f4' b hb).1.2.2.2.2.2⟩
        obtain ⟨x1, hx⟩ := hot.at I7
        refine HotX.pyNext_range_end_hot hx st6 (by have : n ≤ i := stop; omega) fun h' eb => ?_
        have I8 : Inv X pins σ H6 { s6 with heap := h' } := I7.kept (t' := s6.toks) eb
        have nC : H6 s4.heap.objs.size = none := by
          have z : H6 ce.locals = none := I6.free
          rw [cL] at z
          exact z
        obtain ⟨m, hn', _⟩ := (I6.kept (t' := s6.toks) eb).loc
        have hn' : h'.Ns ce.locals m := hn'
        rw [cL] at hn'
        exact hRR D s4.heap.objs.size _ m H6 I8 qq hn' (I4.fpOk (Nat.le_refl _) nC)
      · have hi : i < n := go
        refine thnF (next_item (X := X.blk s4 H4 scope ce [it]) (tg := tg) (E := fun _ _ => False) I6 (stat I6 n6) st6 hi (Q := fun x u s2 => Inv (X.blk s4 H4 scope ce [it]) [] (wipe σ (own.map (·.2))) H6 s2 ∧ RelV x u ∧ x = .int (i : Nat) ∧ IsRangeIter s2.heap it (((i + 1 : Nat) : Nat) : Int) ((n : Int) - ((i + 1 : Nat) : Nat)) 1) fun u s2 a b c => ⟨a, b, rfl, c⟩) fun r s7 ⟨u, hr, h7⟩ => ?_
        subst hr
        refine thnF h7 fun _ s8 ⟨I8, r8, _, st8⟩ => ?_
        have I8' := I8.pinned (fp := [it]) (fun b hb => by have e : b = it := by simpa using hb
                                                           subst e; exact stat I8 n6) (fun b hb => by
          have e : b = it := by simpa using hb
          subst e
          exact ⟨_, st8, fun v z => by
            have z' : Data.fields _ = Data.cell v := z
            cases z'⟩)
        refine thnF (pg.run _ s8 _ H6 (.int (i : Nat)) u _ I8' r8 (step _ H6 ⟨rfl, by simp⟩)) fun _ s9 ⟨σ9, H9, I9, hw9, q9⟩ => ?_
        refine thnF (pt.run _ s9 σ9 H9 _ I9 q9) fun b s10 ⟨H10, I10, q10⟩ => ?_
        have fin : ∀ {s' : Shared} {H' : Hp}, Inv (X.blk s4 H4 scope ce [it]) ([] ++ pinsAt [it] s8.heap) σ9 H' s' → Nx H' → ∃ m, m < k ∧ ∃ i H', Inv (X.blk s4 H4 scope ce [it]) [] (wipe σ (own.map (·.2))) H' s' ∧ IsRangeIter s'.heap it ((i : Nat) : Int) ((n : Int) - (i : Nat)) 1 ∧ H' it = none ∧ W i m H' := fun {s' H'} I' nx => by
          obtain ⟨m', hm', w'⟩ := hNx H' nx
          have pin' := I'.pin (it, _) (List.mem_append_right _ (List.mem_append_right _ (mem_pinsAt (fp := [it]) (by simp) st8)))
          have hl : (wipe σ (own.map (·.2))).length = σ9.length := by rw [← hw9, wipe_length]
          exact ⟨m', hm', i + 1, H', (I'.unpinned (pins := [])).weak hl (fun j v e => by rw [← hw9] at e; exact (wipe_some e).1), pin'.1, pin'.2.1, w'⟩
        cases b with
        | false =>
          simp only [Bool.false_eq_true, if_false] at q10 ⊢
          exact fin I10 q10
        | true =>
          simp only [if_true] at q10 ⊢
          refine thnF (pe.run _ s10 σ9 H10 _ I10 q10) fun z s11 ⟨yv, H11, I11, r11, acc, hD11, hz11, nx⟩ => ?_
          exact app_ok (X := X.blk s4 H4 scope ce [it]) I11 hD11 hz11 r11 fun s12 I12 => fin I12 nx
end
end DD
set_option Elab.async false
set_option linter.all false
set_option maxRecDepth 100000
set_option maxHeartbeats 4000000
/-! The Den layer, part 10: built-ins, methods of lists, iterators, comprehensions as values. -/
namespace DD
open PySem PySem.Spec PyProof.Rows L2

theorem CallR.either {X : Cx} {f : Value} {r r' : List V → Hp → VK → Prop} (h : CallR X f r) (h' : CallR X f r') : CallR X f (fun xs H Q => r xs H Q ∨ r' xs H Q) := fun pins s σ H xs us Q I rv q =>
  q.elim (h pins s σ H xs us Q I rv) (h' pins s σ H xs us Q I rv)

/-! ### the functions -/
def nLen : List T → Store → R T
  | [.tup ts], S => okI ts.length S
  | [.str x], S => if x.length ≤ LINE then okI x.length S else .bad
  | [.ref n], S => match lstAt S n with
    | some ts => okI ts.length S
    | none => .bad
  | _, _ => .bad
def nInt : List T → Store → R T
  | [.int i], S => okI i S
  | [.bl b], S => okI (if b then 1 else 0) S
  | _, _ => .bad
def nAbs : List T → Store → R T
  | [.int i], S => okI (if i < 0 then -i else i) S
  | _, _ => .bad
def nMax2 : List T → Store → R T
  | [.int i, .int j], S => okI (if j > i then j else i) S
  | _, _ => .bad
def nMin2 : List T → Store → R T
  | [.int i, .int j], S => okI (if j < i then j else i) S
  | _, _ => .bad
def lst1 (f : List T → Store → R T) : List T → Store → R T
  | [.ref n], S => match lstAt S n with
    | some ts => f ts S
    | none => .bad
  | _, _ => .bad
def nSum : List T → Store → R T := lst1 fun ts S => match intsT ts with
  | some ns => okI ns.sum S
  | none => .bad
def nAll : List T → Store → R T := lst1 fun ts S => match boolsT ts with
  | some bs => okB (bs.all id) S
  | none => .bad
def nAny : List T → Store → R T := lst1 fun ts S => match boolsT ts with
  | some bs => okB (bs.any id) S
  | none => .bad
def nLst : List T → Store → R T
  | [.tup ts], S => newO (.lst ts) S
  | [.ref n], S => match lstAt S n with
    | some ts => newO (.lst ts) S
    | none => .bad
  | _, _ => .bad
def nTup : List T → Store → R T
  | [.tup ts], S => .ok (.tup ts) S
  | [.ref n], S => match lstAt S n with
    | some ts => .ok (.tup ts) S
    | none => .bad
  | _, _ => .bad
def isL (t : T) (S : Store) : Bool := match t with
  | .ref n => (lstAt S n).isSome
  | _ => false
def nApp : T → List T → Store → R T
  | .ref n, [y], S => match S[n]? with
    | some (.lst xs) => if y.plain && decide (xs.length < LINE) then .ok .non (S.set n (.lst (xs ++ [y]))) else .bad
    | _ => .bad
  | _, _, _ => .bad
def nExt : T → List T → Store → R T
  | .ref n, [.ref m], S => match S[n]?, S[m]? with
    | some (.lst xs), some (.lst ys) => if xs.length + ys.length ≤ LINE then .ok .non (S.set n (.lst (xs ++ ys))) else .bad
    | _, _ => .bad
  | _, _, _ => .bad

section
variable {X : Cx} {W : Wd} {cells : List (Str × Addr)} {wx : WX}
theorem paired1 {R : T → V → Prop} {t : T} {vs : List V} (h : Paired R [t] vs) : ∃ v, vs = [v] ∧ R t v := by
  cases h with
  | cons r h => cases h; exact ⟨_, rfl, r⟩
theorem paired2 {R : T → V → Prop} {t u : T} {vs : List V} (h : Paired R [t, u] vs) : ∃ v w, vs = [v, w] ∧ R t v ∧ R u w := by
  cases h with
  | cons r h =>
    obtain ⟨w, rfl, q⟩ := paired1 h
    exact ⟨_, w, rfl, r, q⟩
theorem len_w (hK : X.K = W.K) : CallD W cells wx (fun xs H Q => ∃ x n, xs = [x] ∧ LenV X.K x H n ∧ Q (.int (n : Nat)) H) nLen := fun σ M S H Q ts vs sim pr post => by
  unfold nLen at post
  split at post
  · obtain ⟨v, rfl, r⟩ := paired1 pr
    obtain ⟨p, ws, rfl, h1, r1⟩ := rep_tup r
    exact ⟨_, _, rfl, .inr ⟨ws, hK ▸ h1, (reps_len r1).symm⟩, here_int sim post⟩
  · split at post
    · rename_i h
      obtain ⟨v, rfl, r⟩ := paired1 pr
      rw [rep_str r]
      exact ⟨_, _, rfl, ⟨by rw [line_eq]; exact h, rfl⟩, here_int sim post⟩
    · exact post.elim
  · split at post
    · rename_i e
      obtain ⟨v, rfl, r⟩ := paired1 pr
      obtain ⟨p, h1, rfl⟩ := rep_ref r
      obtain ⟨ws, h2, r1⟩ := lstAt_ok sim h1 e
      exact ⟨_, _, rfl, .inl ⟨ws, hK ▸ h2, (reps_len r1).symm⟩, here_int sim post⟩
    · exact post.elim
  · exact post.elim
theorem int_w : CallD W cells wx (fun xs H Q => (∃ i, xs = [.int i] ∧ Q (.int i) H) ∨ ∃ k, xs = [.bl k] ∧ Q (.int (if k = true then 1 else 0)) H) nInt := fun σ M S H Q ts vs sim pr post => by
  unfold nInt at post
  split at post
  · obtain ⟨v, rfl, r⟩ := paired1 pr
    rw [rep_int r]; exact .inl ⟨_, rfl, here_int sim post⟩
  · obtain ⟨v, rfl, r⟩ := paired1 pr
    rw [rep_bl r]; exact .inr ⟨_, rfl, here_int sim post⟩
  · exact post.elim
theorem abs_w : CallD W cells wx (fun xs H Q => ∃ i, xs = [.int i] ∧ Q (.int (if i < 0 then -i else i)) H) nAbs := fun σ M S H Q ts vs sim pr post => by
  unfold nAbs at post
  split at post
  · obtain ⟨v, rfl, r⟩ := paired1 pr
    rw [rep_int r]; exact ⟨_, rfl, here_int sim post⟩
  · exact post.elim
theorem max2_w : CallD W cells wx (fun xs H Q => ∃ i j, xs = [.int i, .int j] ∧ Q (.int (if j > i then j else i)) H) nMax2 := fun σ M S H Q ts vs sim pr post => by
  unfold nMax2 at post
  split at post
  · obtain ⟨v, w, rfl, r, r'⟩ := paired2 pr
    rw [rep_int r, rep_int r']; exact ⟨_, _, rfl, here_int sim post⟩
  · exact post.elim
theorem min2_w : CallD W cells wx (fun xs H Q => ∃ i j, xs = [.int i, .int j] ∧ Q (.int (if j < i then j else i)) H) nMin2 := fun σ M S H Q ts vs sim pr post => by
  unfold nMin2 at post
  split at post
  · obtain ⟨v, w, rfl, r, r'⟩ := paired2 pr
    rw [rep_int r, rep_int r']; exact ⟨_, _, rfl, here_int sim post⟩
  · exact post.elim
theorem lst1_w {f : List T → Store → R T} {σ : L2.St} {M S H Q} {ts : List T} {vs : List V} (sim : Sim W M S H) (pr : Paired (RepX W cells M H) ts vs) (post : PostE W cells wx σ M H Q (lst1 f ts S)) :
    ∃ (a : Addr) (us : List T) (ws : List V), vs = [.ref a] ∧ SqL W.K H a ws ∧ Reps W M H us ws ∧ PostE W cells wx σ M H Q (f us S) := by
  unfold lst1 at post
  split at post
  · split at post
    · rename_i e
      obtain ⟨v, rfl, r⟩ := paired1 pr
      obtain ⟨p, h1, rfl⟩ := rep_ref r
      obtain ⟨ws, h2, r1⟩ := lstAt_ok sim h1 e
      exact ⟨p, _, ws, rfl, h2, r1, post⟩
    · exact post.elim
  · exact post.elim
theorem sum_w (hK : X.K = W.K) : CallD W cells wx (rSum X.K) nSum := fun σ M S H Q ts vs sim pr post => by
  obtain ⟨a, us, ws, rfl, h1, r, post⟩ := lst1_w sim pr post
  split at post
  · rename_i ns e
    rw [intsT_reps e r] at h1
    exact ⟨a, ns, rfl, hK ▸ h1, here_int sim post⟩
  · exact post.elim
theorem all_w (hK : X.K = W.K) : CallD W cells wx (rAll X.K) nAll := fun σ M S H Q ts vs sim pr post => by
  obtain ⟨a, us, ws, rfl, h1, r, post⟩ := lst1_w sim pr post
  split at post
  · rename_i ns e
    rw [boolsT_reps e r] at h1
    exact ⟨a, ns, rfl, hK ▸ h1, here_bl sim post⟩
  · exact post.elim
theorem any_w (hK : X.K = W.K) : CallD W cells wx (rAny X.K) nAny := fun σ M S H Q ts vs sim pr post => by
  obtain ⟨a, us, ws, rfl, h1, r, post⟩ := lst1_w sim pr post
  split at post
  · rename_i ns e
    rw [boolsT_reps e r] at h1
    exact ⟨a, ns, rfl, hK ▸ h1, here_bl sim post⟩
  · exact post.elim
theorem lst_w (hK : X.K = W.K) : CallD W cells wx (fun xs H Q => ∃ p ys, xs = [.ref p] ∧ (SqL X.K H p ys ∨ SqT X.K H p ys) ∧ ∀ l, H l = none → Q (.ref l) (upd H l (.lst ys))) nLst := fun σ M S H Q ts vs sim pr post => by
  unfold nLst at post
  split at post
  · obtain ⟨v, rfl, r⟩ := paired1 pr
    obtain ⟨p, ws, rfl, h1, r1⟩ := rep_tup r
    exact ⟨p, ws, rfl, .inr (hK ▸ h1), fun l hl => lst_new sim post hl r1⟩
  · split at post
    · rename_i e
      obtain ⟨v, rfl, r⟩ := paired1 pr
      obtain ⟨p, h1, rfl⟩ := rep_ref r
      obtain ⟨ws, h2, r1⟩ := lstAt_ok sim h1 e
      exact ⟨p, ws, rfl, .inl (hK ▸ h2), fun l hl => lst_new sim post hl r1⟩
    · exact post.elim
  · exact post.elim
theorem tupc_w (hK : X.K = W.K) : CallD W cells wx (fun xs H Q => ∃ p ys, xs = [.ref p] ∧ ((SqL X.K H p ys ∧ ∀ l, H l = none → Q (.ref l) (upd H l (.tup ys))) ∨ SqT X.K H p ys ∧ Q (.ref p) H)) nTup := fun σ M S H Q ts vs sim pr post => by
  unfold nTup at post
  split at post
  · obtain ⟨v, rfl, r⟩ := paired1 pr
    obtain ⟨p, ws, rfl, h1, r1⟩ := rep_tup r
    exact ⟨p, ws, rfl, .inr ⟨hK ▸ h1, PostE.here post sim r⟩⟩
  · split at post
    · rename_i e
      obtain ⟨v, rfl, r⟩ := paired1 pr
      obtain ⟨p, h1, rfl⟩ := rep_ref r
      obtain ⟨ws, h2, r1⟩ := lstAt_ok sim h1 e
      exact ⟨p, ws, rfl, .inl ⟨hK ▸ h2, fun l hl => tup_new sim post hl r1⟩⟩
    · exact post.elim
  · exact post.elim
theorem isL_ty : TyD W cells "list" isL := fun M S H t v sim r h => by
  unfold isL at h
  split at h
  · obtain ⟨xs, e⟩ := Option.isSome_iff_exists.mp h
    obtain ⟨p, h1, rfl⟩ := rep_ref r
    obtain ⟨ws, h2, r1⟩ := lstAt_ok sim h1 e
    exact .inl ⟨rfl, ws, h2⟩
  · cases h
theorem app_w : MethD W cells wx rAppend nApp := fun σ M S H Q t ts v vs sim r pr post => by
  unfold nApp at post
  split at post
  · rename_i n y
    split at post
    · rename_i xs e
      split at post
      · rename_i hc
        simp only [Bool.and_eq_true, decide_eq_true_eq] at hc
        obtain ⟨w, rfl, ry⟩ := paired1 pr
        obtain ⟨p, h1, rfl⟩ := rep_ref r
        obtain ⟨ws, h2, r1⟩ := lst_at sim h1 e
        have ex : Ext M H M (upd H p (.lst (ws ++ [w]))) := ext_write h2 not_fix_lst
        exact ⟨p, ws, w, rfl, rfl, h2, by rw [reps_len r1, line_eq]; exact hc.2, post M _ .non ex (sim.write (ob' := .lst (xs ++ [y])) e h1 h2 not_fix_lst rfl rfl ⟨_, upd_same, reps_app (r1.mono ex) (reps_cons ((ry.rep hc.1).mono ex) reps_nil)⟩) x_non⟩
      · exact post.elim
    · exact post.elim
  · exact post.elim
theorem ext_w : MethD W cells wx rExtend nExt := fun σ M S H Q t ts v vs sim r pr post => by
  unfold nExt at post
  split at post
  · rename_i n m
    split at post
    · rename_i xs ys e e'
      split at post
      · rename_i hc
        obtain ⟨w, rfl, ry⟩ := paired1 pr
        obtain ⟨p, h1, rfl⟩ := rep_ref r
        obtain ⟨q, h1', rfl⟩ := rep_ref ry
        obtain ⟨ws, h2, r1⟩ := lst_at sim h1 e
        obtain ⟨zs, h2', r2⟩ := lst_at sim h1' e'
        have ex : Ext M H M (upd H p (.lst (ws ++ zs))) := ext_write h2 not_fix_lst
        exact ⟨p, q, ws, zs, rfl, rfl, h2, h2', by rw [reps_len r1, reps_len r2, line_eq]; exact hc, post M _ .non ex (sim.write (ob' := .lst (xs ++ ys)) e h1 h2 not_fix_lst rfl rfl ⟨_, upd_same, reps_app (r1.mono ex) (r2.mono ex)⟩) x_non⟩
      · exact post.elim
    · exact post.elim
  · exact post.elim
end

/-! ### iterators -/
def iTs (ts : List T) : ItD := fun i _ => match ts[i]? with
  | some t => .item t
  | none => .stop
def iLst (n : Nat) : ItD := fun i S => match lstAt S n with
  | some ts => (match ts[i]? with
    | some t => .item t
    | none => .stop)
  | none => .bad
def iRng (lo c : Int) (n : Nat) : ItD := fun i _ => if i < n then .item (.int (lo + i * c)) else .stop
/-- for x in e: e a list or a tuple -/
def dItT (d : DE) : DI := fun env S => (d env S).bind fun t S1 => match t with
  | .tup ts => .ok (iTs ts) S1
  | _ => .bad
def dItL (d : DE) : DI := fun env S => (d env S).bind fun t S1 => match t with
  | .ref n => if (lstAt S1 n).isSome then .ok (iLst n) S1 else .bad
  | _ => .bad
def BIG : Int := 4611686018427387904
def inB (i : Int) : Bool := decide (-BIG ≤ i) && decide (i < BIG)
theorem inB_ok {i : Int} (h : inB i = true) : -(2 ^ 62) ≤ i ∧ i < 2 ^ 62 := by
  simp only [inB, Bool.and_eq_true, decide_eq_true_eq] at h
  unfold BIG at h
  omega
def dRng1 (a : DA) : DI := fun env S => (a env S).bind fun ts S1 => match ts with
  | [.int j] => if inB j then .ok (iRng 0 1 j.toNat) S1 else .bad
  | _ => .bad
def dRng2 (a : DA) : DI := fun env S => (a env S).bind fun ts S1 => match ts with
  | [.int i, .int j] => if inB i && inB j then .ok (iRng i 1 (j - i).toNat) S1 else .bad
  | _ => .bad

section
variable {X : Cx} {W : Wd} {cells : List (Str × Addr)} {wx : WX} {σ : L2.St} {M : List Addr} {S : Store} {H : Hp} {Q : VK} {tg : Expr} {pos p : Pos}
theorem stepI {d : DE} {k : T → Store → R ItD} {env : EnvT} {Rr : It → Hp → Prop} (sim : Sim W M S H) (er : EnvR W cells M H env σ) (post : PostI W cells wx σ M H Rr ((d env S).bind k)) {Q' : VK}
    (hq : ∀ M' S' H' t v, Ext M H M' H' → Sim W M' S' H' → RepX W cells M' H' t v → PostI W cells wx σ M' H' Rr (k t S') → Q' v H') : tE W cells wx d σ H Q' := by
  refine ⟨M, S, env, sim, er, ?_⟩
  cases e : d env S with
  | ok t S' =>
    rw [e] at post
    intro M' H' v ex sim' rep
    refine hq M' S' H' t v ex sim' rep ?_
    show PostI W cells wx σ M' H' Rr (k t S')
    have post : PostI W cells wx σ M H Rr (k t S') := post
    cases ek : k t S' with
    | ok it S2 => rw [ek] at post; exact fun M2 H2 J e2 => post M2 H2 J (ex.trans e2)
    | exc c p S2 => rw [ek] at post; exact fun M2 H2 c' d' e2 => post M2 H2 c' d' (ex.trans e2)
    | bad => rw [ek] at post; exact post
  | exc c p S' => rw [e] at post; exact post
  | bad => rw [e] at post; exact post
theorem stepIA {d : DA} {k : List T → Store → R ItD} {env : EnvT} {Rr : It → Hp → Prop} (sim : Sim W M S H) (er : EnvR W cells M H env σ) (post : PostI W cells wx σ M H Rr ((d env S).bind k)) {Q' : List V → Hp → Prop}
    (hq : ∀ M' S' H' ts vs, Ext M H M' H' → Sim W M' S' H' → Paired (RepX W cells M' H') ts vs → PostI W cells wx σ M' H' Rr (k ts S') → Q' vs H') : tA W cells wx d σ H Q' := by
  refine ⟨M, S, env, sim, er, ?_⟩
  cases e : d env S with
  | ok t S' =>
    rw [e] at post
    intro M' H' v ex sim' rep
    refine hq M' S' H' t v ex sim' rep ?_
    show PostI W cells wx σ M' H' Rr (k t S')
    have post : PostI W cells wx σ M H Rr (k t S') := post
    cases ek : k t S' with
    | ok it S2 => rw [ek] at post; exact fun M2 H2 J e2 => post M2 H2 J (ex.trans e2)
    | exc c p S2 => rw [ek] at post; exact fun M2 H2 c' d' e2 => post M2 H2 c' d' (ex.trans e2)
    | bad => rw [ek] at post; exact post
  | exc c p S' => rw [e] at post; exact post
  | bad => rw [e] at post; exact post
theorem itr_tup {a : Addr} {ts : List T} {vs : List V} (h : SqT W.K H a vs) (r : Reps W M H ts vs) : ItR W (Itt W.K a) (iTs ts) M H := fun i M' S' H' ex sim => by
  have h' := ex.sqT h
  have r' := r.mono ex
  unfold iTs
  cases e : ts[i]? with
  | none =>
    refine ⟨vs, h', ?_⟩
    rw [reps_len r']
    exact List.getElem?_eq_none_iff.mp e
  | some t =>
    obtain ⟨v, hv, rv⟩ := reps_get' r' e
    exact ⟨⟨vs, v, h', hv⟩, fun x H2 y => by
      obtain ⟨e1, e2⟩ := y
      subst e1
      have := e2 vs h'
      rw [hv] at this
      cases this
      exact ⟨M', Ext.refl, sim, rv⟩⟩
theorem itr_lst {a : Addr} {n : Nat} (h : M[n]? = some a) : ItR W (Itl W.K a) (iLst n) M H := fun i M' S' H' ex sim => by
  unfold iLst
  cases e0 : lstAt S' n with
  | none => trivial
  | some ts =>
    obtain ⟨vs, h', r'⟩ := lstAt_ok sim (ex.m _ _ h) e0
    dsimp only
    cases e : ts[i]? with
    | none =>
      refine ⟨vs, h', ?_⟩
      rw [reps_len r']
      exact List.getElem?_eq_none_iff.mp e
    | some t =>
      obtain ⟨v, hv, rv⟩ := reps_get' r' e
      exact ⟨⟨vs, v, h', hv⟩, fun x H2 y => by
        obtain ⟨e1, e2⟩ := y
        subst e1
        have := e2 vs h'
        rw [hv] at this
        cases this
        exact ⟨M', Ext.refl, sim, rv⟩⟩
theorem itr_rng {lo : Int} {n : Nat} : ItR W (Itr lo n) (iRng lo 1 n) M H := fun i M' S' H' ex sim => by
  unfold iRng
  by_cases hc : i < n
  · rw [if_pos hc]
    exact ⟨hc, fun x H2 y => by
      obtain ⟨e1, e2⟩ := y
      subst e1 e2
      exact ⟨M', Ext.refl, sim, by rw [Int.mul_one]; exact r_int⟩⟩
  · rw [if_neg hc]
    exact Nat.le_of_not_lt hc
theorem ei_tup {e : Expr} {d : DE} (hK : X.K = W.K) (h : EE X W cells wx e d) : EI X W cells wx tg e (dItT d) := pi_weak (pi_tup h) fun σ H Rr ⟨M, S, env, sim, er, post⟩ =>
  stepI sim er post fun M1 S1 H1 t v ex sim1 r post1 => by
    cases t with
    | tup ts =>
      obtain ⟨a, vs, rfl, h1, r1⟩ := rep_tup r
      exact ⟨a, rfl, ⟨vs, hK ▸ h1⟩, post1 M1 H1 _ Ext.refl sim1 (hK ▸ itr_tup h1 r1)⟩
    | _ => exact post1.elim
theorem ei_lst {e : Expr} {d : DE} (hK : X.K = W.K) (h : EE X W cells wx e d) : EI X W cells wx tg e (dItL d) := pi_weak (pi_list h) fun σ H Rr ⟨M, S, env, sim, er, post⟩ =>
  stepI sim er post fun M1 S1 H1 t v ex sim1 r post1 => by
    cases t with
    | ref n =>
      obtain ⟨a, h1, rfl⟩ := rep_ref r
      by_cases hc : (lstAt S1 n).isSome = true
      · simp only [if_pos hc] at post1
        obtain ⟨ts, e0⟩ := Option.isSome_iff_exists.mp hc
        obtain ⟨vs, h', r'⟩ := lstAt_ok sim1 h1 e0
        exact ⟨a, rfl, ⟨vs, hK ▸ h'⟩, post1 M1 H1 _ Ext.refl sim1 (hK ▸ itr_lst h1)⟩
      · simp only [if_neg hc] at post1
        exact post1.elim
    | _ => exact post1.elim
theorem ei_rng1 {a : Expr} {da : DA} (hg : Gl X "range") (hm : X.mg "range" = none) (ha : EL X W cells wx [a] da) (hs : starEach [a] X.env = [(false, eval a X.env)] := by rfl) :
    EI X W cells wx tg (.Call (.Name "range" p) [a] [] pos) (dRng1 da) := pi_weak (pi_range1 hg hm ha hs) fun σ H Rr ⟨M, S, env, sim, er, post⟩ =>
  stepIA sim er post fun M1 S1 H1 ts vs ex sim1 r post1 => by
    split at post1
    · split at post1
      · rename_i hb
        obtain ⟨v, rfl, r1⟩ := paired1 r
        rw [rep_int r1]
        exact ⟨_, rfl, (inB_ok hb).1, (inB_ok hb).2, post1 M1 H1 _ Ext.refl sim1 itr_rng⟩
      · exact post1.elim
    · exact post1.elim
theorem ei_rng2 {a b : Expr} {da : DA} (hg : Gl X "range") (hm : X.mg "range" = none) (ha : EL X W cells wx [a, b] da) (hs : starEach [a, b] X.env = [(false, eval a X.env), (false, eval b X.env)] := by rfl) (hs' : starEach [b] X.env = [(false, eval b X.env)] := by rfl) :
    EI X W cells wx tg (.Call (.Name "range" p) [a, b] [] pos) (dRng2 da) := pi_weak (pi_range2 hg hm ha hs hs') fun σ H Rr ⟨M, S, env, sim, er, post⟩ =>
  stepIA sim er post fun M1 S1 H1 ts vs ex sim1 r post1 => by
    split at post1
    · split at post1
      · rename_i hb
        simp only [Bool.and_eq_true] at hb
        obtain ⟨v, w, rfl, r1, r2⟩ := paired2 r
        rw [rep_int r1, rep_int r2]
        exact ⟨_, _, rfl, ⟨(inB_ok hb.1).1, (inB_ok hb.1).2, (inB_ok hb.2).1, (inB_ok hb.2).2⟩, post1 M1 H1 _ Ext.refl sim1 itr_rng⟩
      · exact post1.elim
    · exact post1.elim

/-! ### comprehensions -/
variable {elt iter : Expr} {ifs : List Expr} {scope : Scope} {own : List (Str × Nat)} {di : DI} {g : DG} {tt te : DE}
theorem ee_lc (hc : X.calm = true) (hN : X.N.Nodup) (hi : EI X W cells wx tg iter di) (ok : BlkOk X.N X.env.scope scope own)
    (hg : ∀ (s : Shared) (H : Hp) (C : Addr) (cl : List (Str × Addr)) (fp : List Addr), PG (X.blk s H scope (compEnvC scope cl C X.env) fp) tg (tGo W (own.map (·.2)) g))
    (ht : ∀ (s : Shared) (H : Hp) (C : Addr) (cl : List (Str × Addr)) (fp : List Addr), PTs (X.blk s H scope (compEnvC scope cl C X.env) fp) ifs (tQ W [] wF tt))
    (he : ∀ (s : Shared) (H : Hp) (C : Addr) (cl : List (Str × Addr)) (fp : List Addr), EE (X.blk s H scope (compEnvC scope cl C X.env) fp) W [] wF elt te) (hs : ∀ x, foldedSetIterable iter X.env x = pure x := by intro _; rfl) :
    EE X W cells wx (.ListComp elt [⟨tg, iter, ifs, 0⟩] scope pos) (dLC (own.map (·.2)) di g tt te) := pe_weak (pe_lc hc hN hi ok hg ht he hs) fun σ H Q h => lc_w h
theorem es_setLc {i : Nat} {y : Str} {py spos : Pos} (hc : X.calm = true) (hN : X.N.Nodup) (hy : X.N[i]? = some y) (hyl : X.env.scope.names.lookup y = some .local) (hsw : swapsWith (.ListComp elt [⟨tg, iter, ifs, 0⟩] scope pos) (some (.Name y py)) spos.line X.env = pure true)
    (hi : EI X W cells wx tg iter di) (ok : BlkOk X.N X.env.scope scope own)
    (hg : ∀ (s : Shared) (H : Hp) (C : Addr) (cl : List (Str × Addr)) (fp : List Addr), PG (X.blk s H scope (compEnvC scope cl C X.env) fp) tg (tGo W (own.map (·.2)) g))
    (ht : ∀ (s : Shared) (H : Hp) (C : Addr) (cl : List (Str × Addr)) (fp : List Addr), PTs (X.blk s H scope (compEnvC scope cl C X.env) fp) ifs (tQ W [] wF tt))
    (he : ∀ (s : Shared) (H : Hp) (C : Addr) (cl : List (Str × Addr)) (fp : List Addr), EE (X.blk s H scope (compEnvC scope cl C X.env) fp) W [] wF elt te) (hs : ∀ x, foldedSetIterable iter X.env x = pure x := by intro _; rfl) :
    ES X W cells wx (.Assign [.Name y py] (.ListComp elt [⟨tg, iter, ifs, 0⟩] scope pos) spos) (dAsg (dLC (own.map (·.2)) di g tt te) (gNam i)) :=
  ps_weak (ps_setLc hc hN hy hyl hsw hi ok hg ht he hs) fun D σ H ⟨M, S, env, sim, er, post⟩ => lc_w (stepS sim er post fun M' S' H' t v ex sim' er' r post' => by
    by_cases hc : i < env.length
    · simp only [gNam, if_pos hc] at post'
      exact post' M' H' _ Ext.refl sim' (er'.set r)
    · simp only [gNam, if_neg hc] at post'
      exact post'.elim)
theorem ee_glob {x : Str} {t : T} {u : Value} (hg : Gl X x) (hm : X.mg x = some u) (hr : ∃ v, RelV v u ∧ ∀ M H, RepX W cells M H t v) (hdb : (x == ("__debug__" : Str)) = false := by decide) : EE X W cells wx (.Name x pos) (dLit t) := by
  obtain ⟨v, h1, h2⟩ := hr
  exact pe_weak (pe_glob hg hm h1 hdb) fun σ H Q ⟨M, S, env, sim, er, post⟩ => PostE.here post sim (h2 M H)
end
end DD
set_option Elab.async false
set_option linter.all false
set_option maxRecDepth 100000
set_option maxHeartbeats 4000000
/-! The Den layer, part 11: x(lambda: ..) where x tells how the call ended. -/
namespace DD
open PySem PySem.Spec PyProof.Rows L2

/-! ### name = [.. for .. in range(n) ..] within an except suite -/
section
variable {X : Cx} {W : Wd} {cells : List (Str × Addr)} {wx : WX} {elt tg : Expr} {ifs : List Expr} {scope : Scope} {own : List (Str × Nat)} {g : DG} {tt te : DE} {n j : Nat} {pos ipos npos cpos py spos : Pos}
theorem es_setLcH {i : Nat} {y : Str} (hot : L2H.HotC X) (hN : X.N.Nodup) (hR : Gl X "range") (hm : X.mg "range" = none) (hn : n < 1000) (hy : X.N[i]? = some y) (hyl : X.env.scope.names.lookup y = some .local)
    (hsw : swapsWith (.ListComp elt [⟨tg, rngE n j ipos npos cpos, ifs, 0⟩] scope pos) (some (.Name y py)) spos.line X.env = pure true) (ok : BlkOk X.N X.env.scope scope own)
    (hg : ∀ (s : Shared) (H : Hp) (C : Addr) (cl : List (Str × Addr)) (fp : List Addr), PG (X.blk s H scope (compEnvC scope cl C X.env) fp) tg (tGo W (own.map (·.2)) g))
    (ht : ∀ (s : Shared) (H : Hp) (C : Addr) (cl : List (Str × Addr)) (fp : List Addr), PTs (X.blk s H scope (compEnvC scope cl C X.env) fp) ifs (tQ W [] wF tt))
    (he : ∀ (s : Shared) (H : Hp) (C : Addr) (cl : List (Str × Addr)) (fp : List Addr), EE (X.blk s H scope (compEnvC scope cl C X.env) fp) W [] wF elt te) :
    ES X W cells wx (.Assign [.Name y py] (.ListComp elt [⟨tg, rngE n j ipos npos cpos, ifs, 0⟩] scope pos) spos) (dAsg (dLC (own.map (·.2)) (fun _ S => .ok (iRng 0 1 n) S) g tt te) (gNam i)) := by
  refine ⟨fun pins s σ H D I h => ?_⟩
  obtain ⟨M, S, env, sim, er, post⟩ := h
  have h := lc_w (own := own) (di := fun _ S => .ok (iRng 0 1 n) S) (g := g) (tt := tt) (te := te) (Q := fun v H' => D.nx (σ.set i (some v)) H') (stepS sim er post fun M' S' H' t v ex sim' er' r post' => by
    by_cases hc : i < env.length
    · simp only [gNam, if_pos hc] at post'
      exact post' M' H' _ Ext.refl sim' (er'.set r)
    · simp only [gNam, if_neg hc] at post'
      exact post'.elim)
  have h : tLcH n (tGo W (own.map (·.2)) g) (tQ W [] wF tt) (tE W [] wF te) (own.map (·.2)) σ H (fun v H' => D.nx (σ.set i (some v)) H') := by
    obtain ⟨M, S, env, sim, er, pI⟩ := h
    exact pI M H _ Ext.refl sim itr_rng
  rw [exec_Assign_Name_used _ _ _ _ hsw]
  refine wpAny_bind (wpAny_standAt (wpAny_bind ?_))
  show wpAny _ X.A (do let _ ← comprehension (.ListComp elt [⟨tg, rngE n j ipos npos cpos, ifs, 0⟩] scope pos) scope X.env (firstIterPos [⟨tg, rngE n j ipos npos cpos, ifs, 0⟩] pos) (newList []) false (eval (rngE n j ipos npos cpos) X.env) (some (assign (.Name y py) X.env))) _ _ s
  refine wpAny_bind (thn (lcH_core (Qf := fun _ s' => SP X pins D .next s') hot hN I hR hm hn ok hg ht he h fun L C s' m H' I' q hn f => ?_) fun _ s' hq => wpAny_pure (wpAny_pure hq))
  show wpAny _ _ (assign (.Name y py) X.env (.ref L)) _ _ _
  refine wpAny_assign_Name (store_ok2 (v := V.ref L) I' hN hy (.inl hyl) rfl (fun s2 I2 ⟨a, sb, ha⟩ => ?_) (.inr hyl))
  obtain ⟨f0, f1, f2, f3, f4, f5⟩ := f
  have haC : C ≠ a := by
    rcases ha with z | z
    · rw [z]; exact f1
    · exact fun e => f4 y a z e.symm
  refine ⟨m, hn.sameBut sb haC, fun h3 sb3 => ?_⟩
  exact ⟨_, H', I2.turned (t' := s2.toks) (fun b o hb e => (sb3.2 b hb).trans e) f0 f1 f3 f4 f5, q⟩
end

/-! ### the lambda's body, called by the def that got it -/
abbrev lamEnv (X : Cx) (scope : Scope) (L f c' : Addr) : Env := LamX.lamEnv X scope L f c'
def lamN (X : Cx) (A : Around) (outer : List Env) (s : Shared) (H : Hp) (E : XK) (scope : Scope) (f c' : Addr) : Cx :=
  { LamX.lamCx X A outer s H E scope f c' with xe := fun e s' => wpAny (model X.prog X.w) (A.deeper (lamEnv X scope s.heap.objs.size f c')) (leaving (lamEnv X scope s.heap.objs.size f c') e) (fun _ s'' => L2N.CX X.prog X.w outer H s E e s'') (fun e' s'' => L2N.CX X.prog X.w outer H s E e' s'') s' }
/-- the context of the def that got it, entered at s -/
abbrev cxG (X : Cx) (Ng : List Str) (qg : Str) (sg : Scope) (g : Addr) (cdg : Value) (s : Shared) (H : Hp) (Eg : XK) : Cx := cxOf (L2N.CX X.prog X.w) X.prog X.w X.K X.mg X.base Ng qg sg g cdg X.A X.stack s H Eg
section
variable {X : Cx} {pins : List (Addr × Obj)} {σ : L2.St} {H : Hp} {s : Shared}
theorem pe_actN {Eg : XK} {Ng : List Str} {qg : Str} {sg : Scope} {g f c' : Addr} {cdg pm ctv : Value} {params : Arguments} {body : Expr} {scope : Scope} {k i : Nat} {a : Str} {pn : List (Addr × Obj)} {xe : Value → Shared → Prop} {Wz : WX} {tb : XK → TE} {p1 p2 : Pos}
    (I : Inv X pins σ H s) (L : LamX.LamS X.env.scope scope) (hf : s.heap.get? f = some (PySem.W.kla_obj "<lambda>" (X.env.qual ++ "<lambda>") params body scope (cloFrom X.env.cells scope.names []) pm c' ctv)) (hfn : H f = none) (hfr : f ∉ frs X.stack)
    (hbind : bindArgs (PySem.W.kla_fn "<lambda>" (X.env.qual ++ "<lambda>") params body scope (cloFrom X.env.cells scope.names []) pm (.ref c') ctv) ⟨[], []⟩ = pure [])
    (tk : L2N.Takes ((cxG X Ng qg sg g cdg s H Eg).tr pn xe) Wz) (hr : Room (k + 1) (X.A.deeper (envOfC qg sg s.heap.objs.size g cdg)))
    (hbody : ∀ (A : Around) (outer : List Env) (s : Shared) (H : Hp) (E : XK), Room k (A.deeper (lamEnv X scope s.heap.objs.size f c')) → A.guards = X.A.guards → PE (lamN X A outer s H E scope f c') body (tb E))
    (hN : Ng[i]? = some a) (hv : Vis sg a) (hd : (a == ("__debug__" : Str)) = false := by decide) (hcd : (a == ("__classdict__" : Str)) = false := by decide) :
    PE ((cxG X Ng qg sg g cdg s H Eg).tr pn xe) (.Call (.Name a p1) [] [] p2)
      (fun σZ HZ Q => σZ[i]? = some (some (.ref f)) ∧ HZ c' = some (LamX.CodeO c' (X.env.qual ++ "<lambda>")) ∧ tb (fun cls d H' => Wz cls d σZ H') σ HZ Q) := by
  refine ⟨fun pinsZ sZ σZ HZ Q IZ ⟨hs, hc, ht⟩ => ?_⟩
  refine wpAny_Call_Name_kw (thn ((pe_var (pos := p1) (i := i) hN hv hd hcd).run pinsZ sZ σZ HZ (fun v H1 => v = .ref f ∧ H1 = HZ) IZ ⟨.ref f, hs, rfl, rfl⟩) fun u s1 ⟨v, H1, I1, r1, e1, e2⟩ => ?_)
  subst e1 e2
  obtain rfl : u = Value.ref f := r1
  have of1 := I1.base.keep f _ hf hfn hfr (fun z => nomatch (show f ∈ ([] : List Addr) from z))
  refine PySem.W.callWith_F0 ⟨_, _, _, _, of1⟩ ?_
  have un : Un (frs X.stack) [] H H1 s.heap s1.heap := I1.base
  obtain ⟨⟨oc, vs, t, hoc, hdc, hvc⟩, _, _⟩ := I1.hok c' _ hc
  have rc : codeAny (model X.prog X.w) (X.A.deeper (envOfC qg sg s.heap.objs.size g cdg)) (.call (.ref f) ⟨[], []⟩) (CR (L2N.CX X.prog X.w) (envOfC qg sg s.heap.objs.size g cdg :: X.stack) X.prog X.w H1 s1 Q (fun cls d H' => Wz cls d σZ H')) s1 := by
    refine PySem.W.kla_callFunE hr.depth of1 rfl L.co L.gen rfl ⟨c', oc, vs, t, rfl, hoc, hdc, hvc⟩ ?_
    rw [hbind]
    refine wpAny_pure (wpAny_newFunctionEnv (fun y hy => (L.own y hy).2) (fun y hy => absurd hy (by simp)) (fun h₁ hns hsb => ⟨I1.nolimit.fresh _ hsb, ?_⟩) L.kind)
    have kp : ∀ b o, s1.heap.get? b = some o → h₁.get? b = some o := fun b o e => hsb.extBut b o (Nat.ne_of_lt (Heap.lt_size e)) (Heap.get?_push_of_some _ e)
    have J0 := LamX.lam_start2 (E := fun cls d H' => Wz cls d σZ H') (f := f) (c' := c') (tk := s1.toks + ([] : List (Str × Value)).length) I L I1.env0 hr.hd un hns kp
    have J : Inv (lamN X (X.A.deeper (envOfC qg sg s.heap.objs.size g cdg)) (envOfC qg sg s.heap.objs.size g cdg :: X.stack) s1 H1 (fun cls d H' => Wz cls d σZ H') scope f c') [] σ H1 { s1 with heap := h₁, toks := s1.toks + ([] : List (Str × Value)).length } := Inv.unwish (X := lamN X (X.A.deeper (envOfC qg sg s.heap.objs.size g cdg)) (envOfC qg sg s.heap.objs.size g cdg :: X.stack) s1 H1 (fun cls d H' => Wz cls d σZ H') scope f c') J0
    show codeAny _ _ (.expr body (lamEnv X scope s1.heap.objs.size f c')) _ _
    refine PySem.W.kla_codeExpr (wpAny_mono ((hbody (X.A.deeper (envOfC qg sg s.heap.objs.size g cdg)) _ s1 H1 _ (hr.deeper _) rfl).run [] _ _ H1 Q J ht) (fun v s' hq => ?_) fun e s' hq => hq)
    obtain ⟨w', H', J', rv, q⟩ := hq
    exact ⟨w', H', J'.os, J'.bare, J'.base, J'.hok, rv, q⟩
  refine wpAny_call (codeAny_mono rc fun r s' hq => ?_)
  match r, hq with
  | .error e, hq => exact tk e s' (L2N.XE.of_call I1 (fun _ _ _ h => h) hq)
  | .ok (.ret u), hq => exact I1.after hq
  | .ok .next, hq => exact False.elim hq
  | .ok .brk, hq => exact False.elim hq
  | .ok .cont, hq => exact False.elim hq
end
end DD
set_option Elab.async false
set_option linter.all false
set_option maxRecDepth 100000
set_option maxHeartbeats 4000000
/-! The Den layer, part 12: what the suite of the telling def computes. -/
namespace DD
open PySem PySem.Spec PyProof.Rows L2

def toldName : Nat → Option Str
  | 1 => some "refused"
  | 2 => some "large"
  | 3 => some "missing"
  | 4 => some "paper"
  | 5 => some "form"
  | 6 => some "broken"
  | _ => none
def kindsT (c : Nat) : List T := [.bl (decide (c = 1)), .bl (decide (c = 2)), .bl (decide (c = 3)), .bl (decide (c = 4)), .bl (decide (c = 5)), .bl (decide (c = 6))]
def namesT : List T := [.str "refused", .str "large", .str "missing", .str "paper", .str "form", .str "broken"]
def dLits : List T → DA
  | [] => dNil
  | t :: ts => dCons (dLit t) (dLits ts)
def dTt : DE := dBin nIdx (dVar 2) (dVar 4)
def dTe : DE := dBin nIdx (dLst (dLits namesT)) (dVar 4)
def dNames : DS := dAsg (dLC [4] (fun _ S => .ok (iRng 0 1 6) S) (gNam 4) dTt dTe) (gNam 3)
def dLast : DS := dRet (dTup (dCons (dBin nIdx (dLst (dCons (dLit (.str "odd")) (dCons (dBin nIdx (dBin nAdd (dVar 3) (dLst (dLits [.str ""]))) (dLit (.int 0))) dNil))) (dCallF nInt (dCons (dBin nEq (dCallF nLen (dCons (dVar 3) dNil)) (dLit (.int 1))) dNil))) dNil))

theorem dLits_eq (ts : List T) (e : EnvT) (S : Store) : dLits ts e S = .ok ts S := by
  induction ts with
  | nil => rfl
  | cons t ts ih => simp [dLits, dCons, dLit, R.bind, ih]
theorem at_mid {α : Type} {a b : List α} {x : α} {n : Nat} (h : n = a.length) : (a ++ x :: b)[n]? = some x := by
  subst h; simp
theorem lstAt_mid {a b : Store} {xs : List T} {n : Nat} (h : n = a.length) : lstAt (a ++ .lst xs :: b) n = some xs := by
  unfold lstAt; rw [at_mid h]
theorem set_mid {α : Type} {a b : List α} {x y : α} {n : Nat} (h : n = a.length) : (a ++ x :: b).set n y = a ++ y :: b := by
  subst h; simp
theorem fin_mid {a b : Store} {xs : List T} {n : Nat} (h : n = a.length) (hl : T.lows n xs = true) : ∃ junk, fin n (.ref n) (a ++ .lst xs :: b) = .ok (.ref n) (a ++ .lst xs :: junk) := by
  unfold fin
  split
  · refine ⟨[], ?_⟩
    have h1 : (a ++ O.lst xs :: b).take n = a := by subst h; simp
    rw [h1]
    have h2 : T.low n (.ref n) = false := by simp [T.low]
    rw [h2]
    simp only [finAt, at_mid h, hl, h1]
    rfl
  · exact ⟨b, rfl⟩
section
variable {S' junk : Store} {acc : List T} {c n : Nat}
theorem told_turn (i : Nat) (hi : i < 6) (ha : acc.length < 1000) :
    lcL (iRng 0 1 6) (gNam 4) dTt dTe (S'.length + 1) [.hole, .hole, .ref S'.length, .hole, .hole] (n + 1) i (S' ++ .lst (kindsT c) :: .lst acc :: junk) =
      if c = i + 1 then lcL (iRng 0 1 6) (gNam 4) dTt dTe (S'.length + 1) [.hole, .hole, .ref S'.length, .hole, .hole] n (i + 1) (S' ++ .lst (kindsT c) :: .lst (acc ++ [namesT.getD i .non]) :: (junk ++ [.lst namesT]))
      else lcL (iRng 0 1 6) (gNam 4) dTt dTe (S'.length + 1) [.hole, .hole, .ref S'.length, .hole, .hole] n (i + 1) (S' ++ .lst (kindsT c) :: .lst acc :: junk) := by
  have hg : gNam 4 (.int (0 + (i : Int) * 1)) [.hole, .hole, .ref S'.length, .hole, .hole] (S' ++ .lst (kindsT c) :: .lst acc :: junk) = .ok [.hole, .hole, .ref S'.length, .hole, .int i] (S' ++ .lst (kindsT c) :: .lst acc :: junk) := by
    simp [gNam]
  have hk : atI (kindsT c) (i : Int) = some (.bl (decide (c = i + 1))) := by
    rcases i with _ | _ | _ | _ | _ | _ | i
    all_goals first | rfl | omega
  have ht : dTt [.hole, .hole, .ref S'.length, .hole, .int i] (S' ++ .lst (kindsT c) :: .lst acc :: junk) = .ok (.bl (decide (c = i + 1))) (S' ++ .lst (kindsT c) :: .lst acc :: junk) := by
    simp only [dTt, dBin, dVar, R.bind, List.getElem?_cons_succ, List.getElem?_cons_zero, nIdx, lstAt_mid rfl, hk]
  have hm : atI namesT (i : Int) = some (namesT.getD i .non) := by
    rcases i with _ | _ | _ | _ | _ | _ | i
    all_goals first | rfl | omega
  have hp : (namesT.getD i .non).plain = true := by
    rcases i with _ | _ | _ | _ | _ | _ | i
    all_goals first | rfl | omega
  have he : dTe [.hole, .hole, .ref S'.length, .hole, .int i] (S' ++ .lst (kindsT c) :: .lst acc :: junk) = .ok (namesT.getD i .non) (S' ++ .lst (kindsT c) :: .lst acc :: (junk ++ [.lst namesT])) := by
    have h1 : (namesT.all T.plain && decide (namesT.length ≤ LINE)) = true := by decide
    simp only [dTe, dBin, dVar, dLst, dLits_eq, R.bind, h1, if_true, newO, List.getElem?_cons_succ, List.getElem?_cons_zero, nIdx]
    have h2 : lstAt (S' ++ O.lst (kindsT c) :: O.lst acc :: junk ++ [O.lst namesT]) (S' ++ O.lst (kindsT c) :: O.lst acc :: junk).length = some namesT := lstAt_mid rfl
    rw [h2]
    simp only [hm]
    simp
  have hd : ∀ junk : Store, (S' ++ O.lst (kindsT c) :: O.lst acc :: junk)[S'.length + 1]? = some (.lst acc) := fun junk => by
    have : S' ++ O.lst (kindsT c) :: O.lst acc :: junk = (S' ++ [O.lst (kindsT c)]) ++ O.lst acc :: junk := by simp
    rw [this]
    exact at_mid (by simp)
  have hs : ∀ (junk : Store) y, (S' ++ O.lst (kindsT c) :: O.lst acc :: junk).set (S'.length + 1) y = S' ++ O.lst (kindsT c) :: y :: junk := fun junk y => by
    have : S' ++ O.lst (kindsT c) :: O.lst acc :: junk = (S' ++ [O.lst (kindsT c)]) ++ O.lst acc :: junk := by simp
    rw [this, set_mid (by simp)]
    simp
  have hL : acc.length < LINE := by unfold LINE; omega
  conv => lhs; unfold lcL
  simp only [iRng, if_pos hi, hg, ht, R.bind]
  by_cases hc : c = i + 1
  · rw [if_pos hc]
    simp only [decide_eq_true hc, pick, he, hd, hp, Bool.true_and, decide_eq_true hL, if_true, hs]
  · rw [if_neg hc]
    simp only [decide_eq_false hc, pick]
theorem told_end (ha : acc.length < 1000) : lcL (iRng 0 1 6) (gNam 4) dTt dTe (S'.length + 1) [.hole, .hole, .ref S'.length, .hole, .hole] (n + 1) 6 (S' ++ .lst (kindsT c) :: .lst acc :: junk) = .ok () (S' ++ .lst (kindsT c) :: .lst acc :: junk) := by
  unfold lcL
  simp [iRng]
theorem told_names {nm : Str} (h : toldName c = some nm) : ∃ junk, dNames [.hole, .hole, .ref S'.length, .hole, .hole] (S' ++ [.lst (kindsT c)]) = .nx [.hole, .hole, .ref S'.length, .ref (S'.length + 1), .hole] (S' ++ .lst (kindsT c) :: .lst [.str nm] :: junk) := by
  have hF : FUEL = 999999993 + 1 + 1 + 1 + 1 + 1 + 1 + 1 := by rfl
  have hb : blkEnv [4] [.hole, .hole, .ref S'.length, .hole, .hole] = [.hole, .hole, .ref S'.length, .hole, .hole] := rfl
  have key : ∃ junk, lcL (iRng 0 1 6) (gNam 4) dTt dTe (S'.length + 1) [.hole, .hole, .ref S'.length, .hole, .hole] FUEL 0 (S' ++ .lst (kindsT c) :: .lst [] :: []) = .ok () (S' ++ .lst (kindsT c) :: .lst [.str nm] :: junk) := by
    rw [hF]
    have hc : (c = 1 ∨ c = 2 ∨ c = 3) ∨ (c = 4 ∨ c = 5 ∨ c = 6) := by
      rcases c with _ | _ | _ | _ | _ | _ | _ | c <;> first | (simp; done) | (simp [toldName] at h)
    rcases hc with (rfl | rfl | rfl) | (rfl | rfl | rfl)
    all_goals
      cases h
      refine ⟨[.lst namesT], ?_⟩
      repeat first
        | rw [told_end (by decide)]
        | rw [told_turn _ (by decide) (by decide), if_pos (by decide)]
        | rw [told_turn _ (by decide) (by decide), if_neg (by decide)]
      rfl
  obtain ⟨junk, key⟩ := key
  obtain ⟨junk', hf⟩ := fin_mid (a := S' ++ [O.lst (kindsT c)]) (b := junk) (xs := [.str nm]) (n := S'.length + 1) (by simp) (by rfl)
  refine ⟨junk', ?_⟩
  have e1 : S' ++ [O.lst (kindsT c)] ++ O.lst [T.str nm] :: junk = S' ++ O.lst (kindsT c) :: O.lst [T.str nm] :: junk := by simp
  have e2 : S' ++ [O.lst (kindsT c)] ++ O.lst [T.str nm] :: junk' = S' ++ O.lst (kindsT c) :: O.lst [T.str nm] :: junk' := by simp
  rw [e1, e2] at hf
  have e3 : (S' ++ [O.lst (kindsT c)]).length = S'.length + 1 := by simp
  have e4 : S' ++ [O.lst (kindsT c)] ++ [O.lst []] = S' ++ O.lst (kindsT c) :: O.lst [] :: [] := by simp
  simp only [dNames, dAsg, dLC, R.bind, R.inS, hb, e3, e4, key, R.calm, hf, gNam, RG.toS]
  simp
theorem at_app {α : Type} {a b : List α} {x : α} {k : Nat} (h : a[k]? = some x) : (a ++ b)[k]? = some x := by
  rw [List.getElem?_append_left (List.getElem?_eq_some_iff.mp h).1]; exact h
theorem at_len {α : Type} {a : List α} {x : α} : (a ++ [x])[a.length]? = some x := by simp
theorem lst_one {t : T} (h : t.plain = true) (e : EnvT) (S : Store) : dLst (dLits [t]) e S = .ok (.ref S.length) (S ++ [.lst [t]]) := by
  have h1 : ([t].all T.plain && decide ([t].length ≤ LINE)) = true := by simp [h, LINE]
  simp only [dLst, dLits_eq, R.bind, h1, if_true, newO]
theorem ev_lit {t : T} {e : EnvT} {S : Store} : dLit t e S = .ok t S := rfl
theorem ev_nil {e : EnvT} {S : Store} : dNil e S = .ok [] S := rfl
theorem ev_bin {f : T → T → Store → R T} {a b : DE} {e : EnvT} {S S1 S2 : Store} {t u : T} (ha : a e S = .ok t S1) (hb : b e S1 = .ok u S2) : dBin f a b e S = f t u S2 := by
  simp only [dBin, ha, hb, R.bind]
theorem ev_cons {a : DE} {r : DA} {e : EnvT} {S S1 S2 : Store} {t : T} {ts : List T} (ha : a e S = .ok t S1) (hr : r e S1 = .ok ts S2) : dCons a r e S = .ok (t :: ts) S2 := by
  simp only [dCons, ha, hr, R.bind]
theorem ev_lst {a : DA} {e : EnvT} {S S1 : Store} {ts : List T} (h : a e S = .ok ts S1) (hc : (ts.all T.plain && decide (ts.length ≤ LINE)) = true) : dLst a e S = .ok (.ref S1.length) (S1 ++ [.lst ts]) := by
  simp only [dLst, h, R.bind, hc, if_true, newO]
theorem ev_tup {a : DA} {e : EnvT} {S S1 : Store} {ts : List T} (h : a e S = .ok ts S1) (hc : (ts.all T.plain && decide (ts.length ≤ LINE)) = true) : dTup a e S = .ok (.tup ts) S1 := by
  simp only [dTup, h, R.bind, hc, if_true]
theorem ev_call {f : List T → Store → R T} {a : DA} {e : EnvT} {S S1 : Store} {ts : List T} (h : a e S = .ok ts S1) : dCallF f a e S = f ts S1 := by
  simp only [dCallF, h, R.bind]
theorem ev_var {i : Nat} {e : EnvT} {S : Store} {t : T} (h : e[i]? = some t) (hp : t.plain = true) : dVar i e S = .ok t S := by
  unfold dVar; rw [h]; cases t <;> first | rfl | cases hp
theorem last_str {nm : Str} {k : Nat} {e : EnvT} {S : Store} (he : e[3]? = some (.ref k)) (hS : S[k]? = some (.lst [.str nm])) :
    dBin nIdx (dBin nAdd (dVar 3) (dLst (dLits [.str ""]))) (dLit (.int 0)) e S = .ok (.str nm) (S ++ [.lst [.str ""]] ++ [.lst [.str nm, .str ""]]) := by
  have h2 : dBin nAdd (dVar 3) (dLst (dLits [.str ""])) e S = .ok (.ref (S ++ [O.lst [T.str ""]]).length) (S ++ [.lst [.str ""]] ++ [.lst [.str nm, .str ""]]) := by
    refine (ev_bin (ev_var he rfl) (lst_one (show (T.str "").plain = true from rfl) e S)).trans ?_
    have h3 : ([T.str nm].length + [T.str ""].length ≤ LINE) := by simp [LINE]
    simp only [nAdd, at_app hS, at_len, if_pos h3, newO]
    rfl
  refine (ev_bin h2 ev_lit).trans ?_
  have h4 : lstAt (S ++ [O.lst [T.str ""]] ++ [O.lst [T.str nm, T.str ""]]) (S ++ [O.lst [T.str ""]]).length = some [T.str nm, T.str ""] := by unfold lstAt; rw [at_len]
  have h5 : atI [T.str nm, T.str ""] 0 = some (.str nm) := rfl
  simp only [nIdx, h4, h5]
theorem last_int {nm : Str} {k : Nat} {e : EnvT} {S : Store} (he : e[3]? = some (.ref k)) (hS : S[k]? = some (.lst [.str nm])) :
    dCallF nInt (dCons (dBin nEq (dCallF nLen (dCons (dVar 3) dNil)) (dLit (.int 1))) dNil) e S = .ok (.int 1) S := by
  have h2 : lstAt S k = some [.str nm] := by unfold lstAt; rw [hS]
  have h3 : dCallF nLen (dCons (dVar 3) dNil) e S = .ok (.int 1) S := by
    refine (ev_call (ev_cons (ev_var he rfl) ev_nil)).trans ?_
    simp only [nLen, h2, okI]; rfl
  have h4 : dBin nEq (dCallF nLen (dCons (dVar 3) dNil)) (dLit (.int 1)) e S = .ok (.bl true) S := (ev_bin h3 ev_lit).trans rfl
  exact (ev_call (ev_cons h4 ev_nil)).trans rfl
theorem told_last {nm : Str} {k : Nat} {e : EnvT} {S : Store} (he : e[3]? = some (.ref k)) (hS : S[k]? = some (.lst [.str nm])) : ∃ junk', dLast e S = .rt (.tup [.str nm]) (S ++ junk') := by
  refine ⟨[O.lst [T.str ""]] ++ [O.lst [T.str nm, T.str ""]] ++ [O.lst [T.str "odd", T.str nm]], ?_⟩
  have a1 : ([T.str "odd", T.str nm].all T.plain && decide ([T.str "odd", T.str nm].length ≤ LINE)) = true := by simp [T.plain, LINE]
  have a2 : ([T.str nm].all T.plain && decide ([T.str nm].length ≤ LINE)) = true := by simp [T.plain, LINE]
  have h1 := ev_lst (ev_cons (ev_lit (t := .str "odd")) (ev_cons (last_str he hS) ev_nil)) a1
  have h2 := last_int (S := S ++ [O.lst [T.str ""]] ++ [O.lst [T.str nm, T.str ""]] ++ [O.lst [T.str "odd", T.str nm]]) he (at_app (at_app (at_app hS)))
  have h3 : lstAt (S ++ [O.lst [T.str ""]] ++ [O.lst [T.str nm, T.str ""]] ++ [O.lst [T.str "odd", T.str nm]]) (S ++ [O.lst [T.str ""]] ++ [O.lst [T.str nm, T.str ""]]).length = some [T.str "odd", T.str nm] := by unfold lstAt; rw [at_len]
  have h4 : nIdx (.ref (S ++ [O.lst [T.str ""]] ++ [O.lst [T.str nm, T.str ""]]).length) (.int 1) (S ++ [O.lst [T.str ""]] ++ [O.lst [T.str nm, T.str ""]] ++ [O.lst [T.str "odd", T.str nm]]) = .ok (.str nm) (S ++ [O.lst [T.str ""]] ++ [O.lst [T.str nm, T.str ""]] ++ [O.lst [T.str "odd", T.str nm]]) := by
    simp only [nIdx, h3]
    rfl
  have h5 := ev_tup (ev_cons ((ev_bin h1 h2).trans h4) ev_nil) a2
  unfold dLast dRet
  rw [h5]
  simp only [R.inS, List.append_assoc]
end
end DD
set_option Elab.async false
set_option linter.all false
set_option maxRecDepth 100000
set_option maxHeartbeats 4000000
/-! The Den layer, part 13: told(lambda: ..). -/
namespace DD
open PySem PySem.Spec PyProof.Rows L2

/-- the facts of the own errors: 0 the base class, 1 .. 6 the others -/
structure ErrF (K : PySem.W.Frag) (mg : Str → Option Value) (W : Wd) : Prop where
  m0 : mg "DigitError" = some (.ref (W.ca 0))
  m1 : mg "NotAllowed" = some (.ref (W.ca 1))
  m2 : mg "TooLarge" = some (.ref (W.ca 2))
  m3 : mg "Missing" = some (.ref (W.ca 3))
  m4 : mg "BadPaper" = some (.ref (W.ca 4))
  m5 : mg "BadForm" = some (.ref (W.ca 5))
  m6 : mg "Broken" = some (.ref (W.ca 6))
  ex : ∀ c, (toldName c).isSome = true → ExcC K (W.ca c)
  kit : ∀ c j, (toldName c).isSome = true → (toldName j).isSome = true → PySem.W.kitOne K (.ref (W.ca c)) (.ref (W.ca j)) = some (decide (c = j))
  cat : ∀ c, (toldName c).isSome = true → PySem.W.exmOne K (.ref (W.ca c)) (.ref (W.ca 0)) = some true
  bi : mg "isinstance" = none
  br : mg "range" = none
  bn : mg "int" = none
  bl : mg "len" = none
def kindsV (c : Nat) : List V := [.bl (decide (c = 1)), .bl (decide (c = 2)), .bl (decide (c = 3)), .bl (decide (c = 4)), .bl (decide (c = 5)), .bl (decide (c = 6))]
theorem kinds_rep {W : Wd} {M H} (c : Nat) : Reps W M H (kindsT c) (kindsV c) := by
  have h : ∀ b : Bool, Rep W M H (.bl b) (.bl b) := fun b => by unfold Rep; rfl
  exact reps_cons (h _) (reps_cons (h _) (reps_cons (h _) (reps_cons (h _) (reps_cons (h _) (reps_cons (h _) reps_nil)))))
def toldN : List Str := ["call", "e", "kinds", "names", "k"]
/-- kinds = [isinstance(e, ..), ..] -/
def tIsi (a : Addr) (c : Nat) : TS := fun D σ H => σ[1]? = some (some (.ref a)) ∧ ∀ l, H l = none → D.nx (σ.set 2 (some (.ref l))) (upd H l (.lst (kindsV c)))
section
variable {X : Cx} {W : Wd} {a : Addr} {oe : Obj} {pn : List (Addr × Obj)} {c : Nat}
/-- the names of the telling def -/
def toldNames : List (Str × NameKind) := [("call", .local), ("e", .local), ("kinds", .cell), ("names", .local), ("DigitError", .globalImplicit), ("isinstance", .globalImplicit), ("NotAllowed", .globalImplicit), ("TooLarge", .globalImplicit), ("Missing", .globalImplicit), ("BadPaper", .globalImplicit),
  ("BadForm", .globalImplicit), ("Broken", .globalImplicit), ("range", .globalImplicit), ("int", .globalImplicit), ("len", .globalImplicit)]
structure ToldSc (sc : Scope) : Prop where
  kind : sc.kind = .function
  co : sc.isCoroutine = false
  gen : sc.isGenerator = false
  nm : sc.names = toldNames
theorem ToldSc.call {sc : Scope} (h : ToldSc sc) : sc.names.lookup ("call" : Str) = some .local := by rw [h.nm]; decide +kernel
theorem ToldSc.e {sc : Scope} (h : ToldSc sc) : sc.names.lookup ("e" : Str) = some .local := by rw [h.nm]; decide +kernel
theorem ToldSc.kinds {sc : Scope} (h : ToldSc sc) : sc.names.lookup ("kinds" : Str) = some .cell := by rw [h.nm]; decide +kernel
theorem ToldSc.names {sc : Scope} (h : ToldSc sc) : sc.names.lookup ("names" : Str) = some .local := by rw [h.nm]; decide +kernel
theorem ToldSc.gl {sc : Scope} (h : ToldSc sc) : ∀ x ∈ (["DigitError", "isinstance", "NotAllowed", "TooLarge", "Missing", "BadPaper", "BadForm", "Broken", "range", "int", "len"] : List Str), sc.names.lookup x = some .globalImplicit := by rw [h.nm]; decide +kernel
theorem ToldSc.fs {sc : Scope} (h : ToldSc sc) : FnScope toldN ["call"] sc := by
  refine ⟨h.kind, h.co, h.gen, by decide +kernel, rfl, fun x hx => ?_, by rw [h.nm]; decide +kernel⟩
  have : x = "call" := by simpa using hx
  subst this; exact .inl h.call
theorem told_isi {x : Str} {j : Nat} {q1 q2 q3 q4 : Pos} (F : ErrF X.K X.mg W) (sc : ToldSc X.env.scope) (hN : X.N = toldN) (hz : Zc (.ref (W.ca c)) none oe) (hf : ∃ vs, oe.data = .fields vs) (hc : (toldName c).isSome = true) (hj : (toldName j).isSome = true)
    (hx : X.mg x = some (.ref (W.ca j))) (hgx : x ∈ (["DigitError", "isinstance", "NotAllowed", "TooLarge", "Missing", "BadPaper", "BadForm", "Broken", "range", "int", "len"] : List Str)) (hdb : (x == ("__debug__" : Str)) = false) :
    PE (X.suite a ((a, oe) :: pn)) (.Call (.Name "isinstance" q1) [.Name "e" q2, .Name x q3] [] q4) (fun σ H Q => σ[1]? = some (some (.ref a)) ∧ Q (.bl (decide (c = j))) H) := by
  have hN1 : (X.suite a ((a, oe) :: pn)).N[1]? = some ("e" : Str) := by rw [hN]; rfl
  have hv : Vis (X.suite a ((a, oe) :: pn)).env.scope "e" := .inl sc.e
  have hg1 : Gl (X.suite a ((a, oe) :: pn)) "isinstance" := sc.gl _ (by decide +kernel)
  have hg2 : Gl (X.suite a ((a, oe) :: pn)) x := sc.gl _ hgx
  refine pe_weak (pe_callB (call_isE (F.ex c hc) hz hf) hg1 F.bi (by decide +kernel) (pa_cons (pe_var hN1 hv rfl rfl) (pa_cons (pe_glob hg2 hx (v := .ref (W.ca j)) rfl hdb) pa_nil))) fun σ H Q ⟨h1, h2⟩ => ?_
  exact ⟨.ref a, h1, ⟨.ref (W.ca j), .ref (W.ca j), decide (c = j), rfl, fun u hu => hu, F.kit c j hc hj, h2⟩⟩
theorem told_s1 {p1 p2 p3 a1 b1 c1 d1 a2 b2 c2 d2 a3 b3 c3 d3 a4 b4 c4 d4 a5 b5 c5 d5 a6 b6 c6 d6 : Pos} (F : ErrF X.K X.mg W) (sc : ToldSc X.env.scope) (hN : X.N = toldN) (hz : Zc (.ref (W.ca c)) none oe) (hf : ∃ vs, oe.data = .fields vs) (hc : (toldName c).isSome = true) (hfn : X.fn "kinds" = true) :
    PS (X.suite a ((a, oe) :: pn)) (.Assign [.Name "kinds" p1] (.List [.Call (.Name "isinstance" a1) [.Name "e" b1, .Name "NotAllowed" c1] [] d1, .Call (.Name "isinstance" a2) [.Name "e" b2, .Name "TooLarge" c2] [] d2, .Call (.Name "isinstance" a3) [.Name "e" b3, .Name "Missing" c3] [] d3, .Call (.Name "isinstance" a4) [.Name "e" b4, .Name "BadPaper" c4] [] d4, .Call (.Name "isinstance" a5) [.Name "e" b5, .Name "BadForm" c5] [] d5, .Call (.Name "isinstance" a6) [.Name "e" b6, .Name "Broken" c6] [] d6] p2) p3) (tIsi a c) := by
  have hNd : (X.suite a ((a, oe) :: pn)).N.Nodup := by show X.N.Nodup; rw [hN]; exact sc.fs.nd
  have hN2 : (X.suite a ((a, oe) :: pn)).N[2]? = some ("kinds" : Str) := by rw [hN]; rfl
  refine ps_weak (ps_set hNd hN2 (.inr sc.kinds) (pe_lst (pa_cons (told_isi F sc hN hz hf hc (j := 1) rfl F.m1 (by decide +kernel) rfl) (pa_cons (told_isi F sc hN hz hf hc (j := 2) rfl F.m2 (by decide +kernel) rfl) (pa_cons (told_isi F sc hN hz hf hc (j := 3) rfl F.m3 (by decide +kernel) rfl) (pa_cons (told_isi F sc hN hz hf hc (j := 4) rfl F.m4 (by decide +kernel) rfl) (pa_cons (told_isi F sc hN hz hf hc (j := 5) rfl F.m5 (by decide +kernel) rfl) (pa_cons (told_isi F sc hN hz hf hc (j := 6) rfl F.m6 (by decide +kernel) rfl) pa_nil))))))) rfl (.inl hfn)) fun D σ H ⟨h1, h2⟩ => ?_
  exact ⟨h1, h1, h1, h1, h1, h1, by show 6 ≤ sizeLine; decide, fun l hl => h2 l hl⟩
def toldCs : Scope := { kind := .function, names := [(".0", .local), ("k", .local), ("kinds", .free)], isGenerator := false, isCoroutine := false, more := [] }
/-- what the suite's context gives -/
structure ToldX (Y : Cx) (W : Wd) : Prop where
  hN : Y.N = toldN
  sc : ToldSc Y.env.scope
  hK : Y.K = W.K
  hot : L2H.HotC Y
  br : Y.mg "range" = none
  bn : Y.mg "int" = none
  bl : Y.mg "len" = none
  un : Y.A.units + 65 < cLine
  fn : Y.fn "kinds" = true
variable {Y : Cx} {cells : List (Str × Addr)} {wx : WX}
theorem ToldX.nd (h : ToldX Y W) : Y.N.Nodup := by rw [h.hN]; decide +kernel
theorem ToldX.at (h : ToldX Y W) {i : Nat} {x : Str} (e : toldN[i]? = some x) : Y.N[i]? = some x := by rw [h.hN]; exact e
theorem toldCs_vis (h : ToldX Y W) {x : Str} (hx : x = "k" ∨ x = "kinds") : Vis (compEnvC toldCs [] 0 Y.env).scope x := by
  show Vis (relabel toldCs Y.env) x
  unfold relabel Env.kindOf
  rw [h.sc.kind, h.sc.nm]
  rcases hx with rfl | rfl
  · exact .inl (by decide +kernel)
  · exact .inr (.inl (by decide +kernel))
theorem told_s2 {p1 p2 p3 q1 q2 q3 q4 q5 q6 q7 q8 q9 q10 h1 h2 h3 h4 h5 h6 : Pos} {g1 g2 g3 g4 g5 g6 j : Nat} (h : ToldX Y W) (hl : (p1.line == q10.line) = true) :
    ES Y W cells wx (.Assign [.Name "names" p1] (.ListComp (.Subscript (.List [.Constant (.str "refused") g1 h1, .Constant (.str "large") g2 h2, .Constant (.str "missing") g3 h3, .Constant (.str "paper") g4 h4, .Constant (.str "form") g5 h5, .Constant (.str "broken") g6 h6] q1) (.Name "k" q2) q3)
      [⟨.Name "k" q4, rngE 6 j q5 q6 q7, [.Subscript (.Name "kinds" q8) (.Name "k" q9) p2], 0⟩] toldCs q10) p3) dNames := by
  have hv1 := fun cl C (x : Str) hx => (show Vis (compEnvC toldCs cl C Y.env).scope x from toldCs_vis h hx)
  refine es_setLcH (own := [("k", 4)]) (g := gNam 4) (tt := dTt) (te := dTe) h.hot h.nd (h.sc.gl _ (by decide +kernel)) h.br (by decide) (h.at rfl) h.sc.names (sw_true h.sc.kind h.sc.names hl (by decide +kernel)) (blkOk_by ?_) (fun s H C cl fp => ?_) (fun s H C cl fp => ?_) (fun s H C cl fp => ?_)
  · rw [h.hN]
    unfold blkC
    rw [h.sc.nm]
    decide +kernel
  · exact ego_name (i := 4) h.nd (h.at rfl) (.inl (by
      show (relabel toldCs Y.env).names.lookup _ = _
      unfold relabel Env.kindOf
      rw [h.sc.kind, h.sc.nm]
      decide +kernel)) (by simp) (.inr (by
      show (relabel toldCs Y.env).names.lookup _ = _
      unfold relabel Env.kindOf
      rw [h.sc.kind, h.sc.nm]
      decide +kernel))
  · exact ets_one (eb_val (ee_sub ix_seq (idx_w h.hK) (fun _ _ => rfl) (ee_var (i := 2) (h.at rfl) (hv1 _ _ _ (.inr rfl)) rfl rfl) (ee_var (i := 4) (h.at rfl) (hv1 _ _ _ (.inl rfl)) rfl rfl)))
  · exact ee_sub ix_seq (idx_w h.hK) (fun _ _ => rfl) (ee_lst (el_cons ee_str (el_cons ee_str (el_cons ee_str (el_cons ee_str (el_cons ee_str (el_cons ee_str el_nil))))))) (ee_var (i := 4) (h.at rfl) (hv1 _ _ _ (.inl rfl)) rfl rfl)
theorem told_s3 {p1 p2 p3 p4 p5 p6 p7 p8 p9 p10 p11 p12 p13 p14 p15 p16 p17 p18 p19 p20 p21 : Pos} {j1 j2 j3 j4 k0 : Nat} (h : ToldX Y W) :
    ES Y W cells wx (.Return (some (.Tuple [.Subscript (.List [.Constant (.str "odd") j1 p1, .Subscript (.BinOp (.Name "names" p2) .Add (.List [.Constant (.str "") j2 p3] p4) p5) (.Constant (.int 0) j3 p6) p7] p8)
      (.Call (.Name "int" p9) [.Compare (.Call (.Name "len" p10) [.Name "names" p11] [] p12) [.Eq] [.Constant (.int 1) j4 p13] p14] [] p15) p16] k0 p17)) p18) dLast := by
  have hv : EE Y W cells wx (.Name "names" p2) (dVar 3) := ee_var (i := 3) (h.at rfl) (.inl h.sc.names) rfl rfl
  have hv' : EE Y W cells wx (.Name "names" p11) (dVar 3) := ee_var (i := 3) (h.at rfl) (.inl h.sc.names) rfl rfl
  exact es_ret (ee_tup (el_cons (ee_sub ix_seq (idx_w h.hK) (fun _ _ => rfl) (ee_lst (el_cons ee_str (el_cons (ee_sub ix_seq (idx_w h.hK) (fun _ _ => rfl) (ee_bin o_add (add_w h.hK) hv (ee_lst (el_cons ee_str el_nil))) ee_int) el_nil)))
    (ee_callT call_int1 int_w (h.sc.gl _ (by decide +kernel)) h.bn (by decide +kernel) (el_cons (ee_cmp (op_eqD (by have := h.un; omega)) (eq_w h.hK) (nomark _) (ee_callB call_len (len_w h.hK) (h.sc.gl _ (by decide +kernel)) h.bl (by decide +kernel) (el_cons hv' el_nil)) ee_int) el_nil))) el_nil))
end
end DD
set_option Elab.async false
set_option linter.all false
set_option maxRecDepth 100000
set_option maxHeartbeats 4000000
/-! The Den layer, part 14: the rule for told(lambda: ..). -/
namespace DD
open PySem PySem.Spec PyProof.Rows L2

def ToldS1 (s1 : Stmt) : Prop := ∀ (X : Cx) (W : Wd) (a : Addr) (oe : Obj) (pn : List (Addr × Obj)) (c : Nat), ErrF X.K X.mg W → ToldSc X.env.scope → X.N = toldN → Zc (.ref (W.ca c)) none oe → (∃ vs, oe.data = .fields vs) → (toldName c).isSome = true → X.fn "kinds" = true → PS (X.suite a ((a, oe) :: pn)) s1 (tIsi a c)
def ToldS2 (s2 : Stmt) : Prop := ∀ (Y : Cx) (W : Wd) (cells : List (Str × Addr)) (wx : WX), ToldX Y W → ES Y W cells wx s2 dNames
def ToldS3 (s3 : Stmt) : Prop := ∀ (Y : Cx) (W : Wd) (cells : List (Str × Addr)) (wx : WX), ToldX Y W → ES Y W cells wx s3 dLast
abbrev toldBody (s1 s2 s3 : Stmt) (j0 k0 : Nat) (q0 q1 q2 q3 q4 q5 q6 q7 : Pos) : List Stmt :=
  [.Try [.Return (some (.Tuple [.Constant (.str "told") j0 q0, .Call (.Name "call" q1) [] [] q2] k0 q3)) q4] [.ExceptHandler (some (.Name "DigitError" q5)) (some "e") [s1, s2, s3] q6] [] [] q7]
/-- the telling def, as it stands in the module -/
inductive ToldW (K : PySem.W.Frag) (mg : Str → Option Value) (W : Wd) : Prop
  | mk {g : Addr} {oc dV kV doc pm cdv ct : Value} {od an : Option Addr} {osl : Array (Option Value)} {pg : Arguments} {sg : Scope} {s1 s2 s3 : Stmt} {j0 k0 : Nat} {q0 q1 q2 q3 q4 q5 q6 q7 : Pos} (F : ErrF K mg W) (hm : mg "_law_told" = some (.ref g)) (hk : PySem.W.keepIn K (.ref g) = true)
      (lk : K.lookup g = some ⟨oc, od, .func (PySem.W.fnOf "_law_told" "_law_told" pg (toldBody s1 s2 s3 j0 k0 q0 q1 q2 q3 q4 q5 q6 q7) sg dV kV doc pm an cdv ct), osl⟩) (hcg : PySem.W.codeIn K cdv "_law_told" = true)
      (hb : L2.Binds K (PySem.W.fnOf "_law_told" "_law_told" pg (toldBody s1 s2 s3 j0 k0 q0 q1 q2 q3 q4 q5 q6 q7) sg dV kV doc pm an cdv ct) ["call"] []) (sc : ToldSc sg) (h1 : ToldS1 s1) (h2 : ToldS2 s2) (h3 : ToldS3 s3)

/-- behind the call: what comes out is put into a pair -/
def Q0 (Q : VK) : VK := fun v H' => ∀ z, H' z = none → Q (.ref z) (upd H' z (.tup [.str "told", v]))
/-- behind the call: an error's name is told -/
def E0 (W : Wd) (Q : VK) : XK := fun cls d H' => ∃ c x M S', cls = .ref (W.ca c) ∧ d = none ∧ toldName c = some x ∧ Sim W M S' H' ∧ ∀ junk M2 H2 v, Ext M H' M2 H2 → Sim W M2 (S' ++ junk) H2 → RepX W [] M2 H2 (.tup [.str x]) v → Q v H2
section
variable {X : Cx} {W : Wd} {cells : List (Str × Addr)} {wx : WX} {s1 s2 s3 : Stmt} {j0 k0 : Nat} {q0 q1 q2 q3 q4 q5 q6 q7 : Pos} {sg : Scope} {g : Addr} {cdg : Value}
theorem told_run {s : Shared} {H : Hp} {f c' : Addr} {q : Str} {Q : VK} {tl : XK → Hp → VK → Prop} (hK : X.K = W.K) (F : ErrF X.K X.mg W) (sc : ToldSc sg) (h1 : ToldS1 s1) (h2 : ToldS2 s2) (h3 : ToldS3 s3) (hu : X.A.units + 200 < cLine)
    (act : ∀ (Wz : WX) (pn : List (Addr × Obj)) (xe : Value → Shared → Prop) (p1 p2 : Pos), L2N.Takes ((cxG X toldN "_law_told" sg g cdg s H fun _ _ _ => False).tr pn xe) Wz →
      PE ((cxG X toldN "_law_told" sg g cdg s H fun _ _ _ => False).tr pn xe) (.Call (.Name "call" p1) [] [] p2) (fun σZ HZ Q => σZ[0]? = some (some (.ref f)) ∧ HZ c' = some (LamX.CodeO c' q) ∧ tl (fun cls d H' => Wz cls d σZ H') HZ Q))
    (hc : H c' = some (LamX.CodeO c' q)) (h : ∀ E : XK, (∀ cls d H', E0 W Q cls d H' → E cls d H') → tl E H (Q0 Q)) :
    ∃ t, PSs (cxG X toldN "_law_told" sg g cdg s H fun _ _ _ => False) (toldBody s1 s2 s3 j0 k0 q0 q1 q2 q3 q4 q5 q6 q7) t ∧ t { nx := fun _ H' => Q .non H', rt := Q } (L2.start toldN [.ref f]) H := by
  generalize hZ : cxG X toldN "_law_told" sg g cdg s H (fun _ _ _ => False) = Z at act
  have zK : Z.K = X.K := by rw [← hZ]; rfl
  have zm : Z.mg = X.mg := by rw [← hZ]; rfl
  have zN : Z.N = toldN := by rw [← hZ]; rfl
  have zsc : Z.env.scope = sg := by rw [← hZ]; rfl
  have zf : Z.fn "kinds" = true := by rw [← hZ]; rfl
  have zu : Z.A.units + 65 < cLine := by
    rw [← hZ]
    show X.A.units + 3 + 65 < cLine
    omega
  have tk : L2N.Takes Z (fun cls d _ H => False) := by
    rw [← hZ]
    exact L2N.takes_of (X := cxG X toldN "_law_told" sg g cdg s H fun _ _ _ => False) (E := fun _ _ _ => False) rfl rfl rfl rfl
  have hs : Z.stack = Z.env :: Z.outer := by rw [← hZ]; rfl
  have hfr : Z.env.frame = some Z.env.locals := by rw [← hZ]; rfl
  have FZ : ErrF Z.K Z.mg W := by rw [zK, zm]; exact F
  have scZ : ToldSc Z.env.scope := by rw [zsc]; exact sc
  have hgl : Gl Z "DigitError" := scZ.gl _ (by decide +kernel)
  refine ⟨_, pss_one (L2N.ps_try_as (X := Z) (i := 1) (c := .ref (W.ca 0)) (n := "e") (Wout := fun _ _ _ _ => False)
    (tb := fun Wz D σ H => σ[0]? = some (some (.ref f)) ∧ H c' = some (LamX.CodeO c' q) ∧ tl (fun cls d H' => Wz cls d σ H') H (Q0 D.rt))
    (ts := fun a cls d D σ H => ∃ c x, cls = .ref (W.ca c) ∧ d = none ∧ toldName c = some x ∧ tSeq (tIsi a c) (tS W [] wF (dSeq dNames dLast)) D σ H)
    hs hfr (by rw [zN]; exact sc.fs.nd) (by rw [zN]; rfl) scZ.e ⟨hgl, rfl, .inl FZ.m0⟩ tk (fun Wz pn xe tkz _ => ?_) (fun a oe cls d pn hz hf => ?_)), ?_⟩
  · have hp := act Wz pn xe q1 q2 tkz
    refine pss_one (ps_weak (ps_ret (pe_tup (pa_cons pe_str (pa_cons hp pa_nil)))) fun D σ H ⟨a1, a2, a3⟩ => ?_)
    refine ⟨a1, a2, ?_⟩
    have e : (fun v H1 => (2 : Nat) ≤ sizeLine ∧ ∀ z, H1 z = none → D.rt (.ref z) (upd H1 z (.tup [.str "told", v]))) = Q0 D.rt := by
      funext v H1
      exact propext ⟨fun h => h.2, fun h => ⟨by decide, h⟩⟩
    show tl _ H (fun v H1 => (2 : Nat) ≤ sizeLine ∧ ∀ z, H1 z = none → D.rt (.ref z) (upd H1 z (.tup [.str "told", v])))
    rw [e]
    exact a3
  · refine ⟨fun pins s' σ H' D I ⟨c, x, e1, e2, e3, hh⟩ => ?_⟩
    subst e1 e2
    have isn : (toldName c).isSome = true := by rw [e3]; rfl
    have TX : ToldX (Z.suite a ((a, oe) :: pn)) W := ⟨zN, scZ, zK.trans hK, ⟨(a, oe), ⟨rfl, by
      obtain ⟨vs, hv⟩ := hf
      exact ⟨vs, hv, hz.2.2 vs hv⟩⟩, List.mem_cons_self⟩, FZ.br, FZ.bn, FZ.bl, zu, zf⟩
    exact (pss_cons (h1 Z W a oe pn c FZ scZ zN hz.zc hf isn zf) (ebk_cons (h2 _ W [] wF TX) (ebk_one (h3 _ W [] wF TX)))).run pins s' σ H' D I hh
  · refine ⟨rfl, hc, ?_⟩
    refine h _ fun cls d H' ⟨c, x, M, S', e1, e2, e3, sim, fin⟩ => ?_
    subst e1 e2
    have isn : (toldName c).isSome = true := by rw [e3]; rfl
    refine ⟨true, FZ.cat c isn, fun _ a na => ⟨c, x, rfl, rfl, e3, rfl, fun l hl => ?_⟩, fun z => nomatch z⟩
    have sim2 : Sim W (M ++ [l]) (S' ++ [.lst (kindsT c)]) (upd H' l (.lst (kindsV c))) := sim.alloc hl ⟨_, upd_same, kinds_rep c⟩
    have ex2 : Ext M H' (M ++ [l]) (upd H' l (.lst (kindsV c))) := ext_alloc hl
    refine ⟨M ++ [l], S' ++ [.lst (kindsT c)], [.hole, .hole, .ref S'.length, .hole, .hole], sim2, ⟨rfl, fun i t a1 a2 => ?_⟩, ?_⟩
    · rcases i with _ | _ | _ | _ | _ | i
      · cases a1; exact (a2 rfl).elim
      · cases a1; exact (a2 rfl).elim
      · cases a1
        refine ⟨.ref l, rfl, ?_⟩
        show Rep ..
        exact Rep.ref_of (by rw [← sim.len]; exact snoc_get)
      · cases a1; exact (a2 rfl).elim
      · cases a1; exact (a2 rfl).elim
      · simp at a1
    · obtain ⟨junk, hn⟩ := told_names (S' := S') e3
      have hk : (S' ++ O.lst (kindsT c) :: O.lst [T.str x] :: junk)[S'.length + 1]? = some (.lst [.str x]) := by
        have : S' ++ O.lst (kindsT c) :: O.lst [T.str x] :: junk = (S' ++ [O.lst (kindsT c)]) ++ O.lst [T.str x] :: junk := by simp
        rw [this]
        exact at_mid (by simp)
      obtain ⟨junk', hl'⟩ := told_last (e := [.hole, .hole, .ref S'.length, .ref (S'.length + 1), .hole]) (S := S' ++ O.lst (kindsT c) :: O.lst [T.str x] :: junk) rfl hk
      have hr : dSeq dNames dLast [.hole, .hole, .ref S'.length, .hole, .hole] (S' ++ [.lst (kindsT c)]) = .rt (.tup [.str x]) (S' ++ (O.lst (kindsT c) :: O.lst [T.str x] :: junk ++ junk')) := by
        unfold dSeq
        rw [hn]
        show dLast _ _ = _
        rw [hl']
        simp
      rw [hr]
      exact fun M3 H3 v ex3 sim3 r3 => fin _ M3 H3 v (ex2.trans ex3) sim3 r3
def dTold (d : DE) : DE := fun env S => match d (env.map T.noLam) S with
  | .ok t S' => if t.plain then fin S.length (.tup [.str "told", t]) S' else .bad
  | .exc c _ S' => match toldName c with
    | some x => if (S'.take S.length).all (O.low S.length) && decide (S.length ≤ S'.length) then .ok (.tup [.str x]) (S'.take S.length) else .bad
    | none => .bad
  | .bad => .bad
theorem ext_of_extN {M : List Addr} {H H1 : Hp} (e : LamX.ExtN H H1) : Ext M H M H1 := ⟨fun _ _ h => h, fun a o h f => e a o h fun ps z => by subst z; cases f⟩
theorem Sim.extN {M : List Addr} {S : Store} {H H1 : Hp} (sim : Sim W M S H) (e : LamX.ExtN H H1) (t : LamX.Tabs W.tabs H1) : Sim W M S H1 :=
  ⟨sim.len, sim.inj, fun n o a h1 h2 => (sim.obj n o a h1 h2).mono (ext_of_extN e) (fun m u hu => by
    refine e a u hu fun ps z => ?_
    subst z
    have r := sim.obj n o a h1 h2
    cases o with
    | lst xs => obtain ⟨vs, h, _⟩ := r; rw [hu] at h; cases h
    | frl xs => cases m
    | dct kvs => obtain ⟨vs, h, _⟩ := r; rw [hu] at h; cases h
    | dtp kvs => obtain ⟨es, h, _⟩ := r; rw [hu] at h; have := Option.some.inj h; unfold DctN at this; cases this
    | set xs => exact r.elim
    | ins c fs => obtain ⟨dx, vs, h, _⟩ := r; rw [hu] at h; cases h), t⟩
theorem EnvR.noLam {M : List Addr} {H : Hp} {env : EnvT} {σ : L2.St} (er : EnvR W cells M H env σ) : EnvR W [] M H (env.map T.noLam) σ := by
  have := EnvR.blk er []
  exact this
theorem ee_told {params : Arguments} {body : Expr} {scope : Scope} {p lpos pos : Pos} {c P : Addr} {k : Nat} {d : DE} (TW : ToldW X.K X.mg W) (hK : X.K = W.K) (hg : Gl X "_law_told") (TB : LamX.TabB X.base X.mg c P) (hcode : X.env.code = .ref c)
    (hmT : (P, X.env.qual ++ "<lambda>") ∈ W.tabs) (hu : ∀ p ∈ W.tabs, p.1 = P → p.2 = X.env.qual ++ "<lambda>") (hr : Room (k + 2) X.A) (hgd : X.A.guards = some []) (L : LamX.LamS X.env.scope scope) (hdef : defaultsOf params X.env = ([], []) := by rfl)
    (hbind : ∀ (q : Str) (cl : List (Str × Addr)) (pm cv ctv : Value), bindArgs (PySem.W.kla_fn "<lambda>" q params body scope cl pm cv ctv) ⟨[], []⟩ = pure [] := by intros; rfl)
    (hbody : ∀ (A : Around) (outer : List Env) (s : Shared) (H : Hp) (E : XK) (f c' : Addr), Room k (A.deeper (lamEnv X scope s.heap.objs.size f c')) → A.guards = some [] → EE (lamN X A outer s H E scope f c') W [] (wxD E) body d) :
    EE X W cells wx (.Call (.Name "_law_told" p) [.Lambda params body scope lpos] [] pos) (dTold d) := by
  obtain ⟨F, hm, hk, lk, hcg, hb, sc, h1, h2, h3⟩ := TW
  rename_i g oc dV kV doc pm cdv ct od an osl pg sg s1 s2 s3 j0 k0 q0 q1 q2 q3 q4 q5 q6 q7
  refine ⟨fun pins s σ H Q I ⟨M, S, env, sim, er, post⟩ => ?_⟩
  refine wpAny_Call_Name_kw (ld_glob I hg hm ?_ (by decide))
  refine PySem.W.callWith_K (h₀ := X.base) I.ok.mod.kin hk ?_ (by rfl) (by rfl)
  show wpAny _ _ (spliced ((false, eval (.Lambda params body scope lpos) X.env) :: backTo pos (starEach [] X.env))) _ _ s
  refine Calls.spliced_cons (LamX.lam_make2 I TB hcode hmT hu sim.tabs hdef (L.has I.ok) fun f c' pm' ctv H1 s' I1 eN T1 hf hfn hfr hco => ?_)
  refine Calls.spliced_nil ⟨I1.kIn, ?_⟩
  have ex1 : Ext M H M H1 := ext_of_extN eN
  have sim1 : Sim W M S H1 := sim.extN eN T1
  have er1 : EnvR W [] M H1 (env.map T.noLam) σ := (er.mono ex1).noLam
  have post1 : PostE W cells wx σ M H1 Q (dTold d env S) := PostE.mono ex1 post
  have rc : codeAny (model X.prog X.w) X.A (.call (.ref g) ⟨[.ref f], []⟩) (CR (L2N.CX X.prog X.w) X.stack X.prog X.w H1 s' Q (fun _ _ _ => False)) s' := by
    refine LamX.run_ofS (N := toldN) (ps := ["call"]) (us := [.ref f]) (vs := [.ref f]) lk hcg sc.fs hr I1.env0 (hb s' [.ref f] I1.kIn rfl) (.cons rfl .nil) rfl fun hr' => ?_
    refine told_run (tl := fun E H' Q' => tE W [] (wxD E) d σ H' Q') hK F sc h1 h2 h3 (by have := hr.un; omega) (fun Wz pn xe p1 p2 tk => ?_) hco fun E hE => ?_
    · exact pe_actN (i := 0) (tb := fun E => tE W [] (wxD E) d) I1 L hf hfn hfr (hbind _ _ _ _ _) tk hr' (fun A outer s H E hr2 hg2 => hbody A outer s H E f c' hr2 (hg2.trans hgd)) rfl (.inl sc.call)
    · refine ⟨M, S, env.map T.noLam, sim1, er1, ?_⟩
      unfold dTold at post1
      cases e : d (env.map T.noLam) S with
      | bad => rw [e] at post1; exact post1
      | ok t S' =>
        rw [e] at post1
        intro M2 H2 v ex2 sim2 r2 z hz
        by_cases hp : t.plain = true
        · simp only [if_pos hp] at post1
          have ex3 : Ext M2 H2 M2 (upd H2 z (.tup [.str "told", v])) := ext_new hz
          refine fin_ok (cells := cells) (wx := wx) (σ := σ) (t := .tup [.str "told", t]) sim1.len (ex2.trans ex3) (sim2.new hz) ?_ post1
          · show Rep ..
            unfold Rep
            exact ⟨z, [.str "told", v], rfl, SqT.of upd_same, reps_cons (by unfold Rep; rfl) (reps_cons ((r2.rep hp).mono ex3) reps_nil)⟩
        · simp only [if_neg hp] at post1
          exact post1.elim
      | exc c0 p0 S' =>
        rw [e] at post1
        intro M2 H2 cls dd ex2 sim2 ⟨x1, x2, x3⟩
        subst x1 x2 x3
        refine hE _ _ _ ?_
        cases et : toldName c0 with
        | none => simp only [et] at post1; exact post1.elim
        | some x =>
          simp only [et] at post1
          by_cases hc : ((S'.take S.length).all (O.low S.length) && decide (S.length ≤ S'.length)) = true
          · simp only [if_pos hc] at post1
            simp only [Bool.and_eq_true, decide_eq_true_eq] at hc
            refine ⟨c0, x, M2, S', rfl, rfl, et, sim2, fun junk M3 H3 v ex3 sim3 r3 => ?_⟩
            refine fin_ok (cells := cells) (wx := wx) (σ := σ) (t := .tup [.str x]) (S := S' ++ junk) sim1.len (ex2.trans ex3) sim3 r3 ?_
            have e1 : (S' ++ junk).take S.length = S'.take S.length := List.take_append_of_le_length hc.2
            have e2 : T.low S.length (.tup [.str x]) = true := by simp [T.low, T.lows]
            unfold fin
            rw [e1, if_pos hc.1, e2, if_pos rfl]
            exact post1
          · simp only [if_neg hc] at post1
            exact post1.elim
  refine wpAny_call (codeAny_mono rc fun r s2 hq => ?_)
  match r, hq with
  | .error e, hq => 
    obtain ⟨_, _, _, _, _, _, _, _, _, _, _, _, z⟩ := hq
    exact z.elim
  | .ok (.ret u), hq => exact I1.after hq
  | .ok .next, hq => exact False.elim hq
  | .ok .brk, hq => exact False.elim hq
  | .ok .cont, hq => exact False.elim hq
end
end DD
set_option Elab.async false
set_option linter.all false
set_option maxRecDepth 100000
set_option maxHeartbeats 4000000
/-! The Den layer, part 15: the end of the row: the law is called where nothing is being shown. -/
namespace DD
open PySem PySem.Spec PyProof.Rows L2

/-- the abstract heap at the head: the tables, empty; the script's list, locked (own), or the module's -/
def hdH (ts : List Addr) (a : Addr) (own : Option HO) : Hp := fun b => if b ∈ ts then some (.tbl #[]) else if b = a then own else none
section
variable {ts : List Addr} {a : Addr} {own : Option HO}
theorem hdH_t {b : Addr} (h : b ∈ ts) : hdH ts a own b = some (.tbl #[]) := if_pos h
theorem hdH_a (h : a ∉ ts) : hdH ts a own a = own := (if_neg h).trans (if_pos rfl)
theorem hdH_o {b : Addr} (h : b ∉ ts) (h' : b ≠ a) : hdH ts a own b = none := (if_neg h).trans (if_neg h')
end
section
variable {P : Program} {w : World} {K : PySem.W.Frag} {mg mb : Str → Option Value} {k : Nat} {fa a : Addr} {cs : List (Addr × Addr)} {fd : FuncData} {x : Str} {sp : Sp} {s₁ : Shared} {vs : List Value} {ns : List Int}
theorem law_callG (KX : K.In s₁.heap) (hns : s₁.heap.Ns mainGlobals mg) (hb : s₁.heap.Ns builtinsNs mb) (hbb : ∀ x : Str, x ≠ "__name__" → mb x = bootBuiltins x) (hlim : s₁.heap.NoLimit) (hg : s₁.gens = #[])
    (hT : ∀ p ∈ cs, s₁.heap.get? p.2 = some { cls := .none, data := .fields #[] }) (nT : ∀ p ∈ cs, K.lookup p.2 = none) (C : ∀ p ∈ cs, PySem.W.CodeHd s₁.heap p.1 p.2)
    (hbm : ∃ (bm : Addr) (ob : Obj), mg "__builtins__" = some (.ref bm) ∧ bm ≠ builtinsNs ∧ s₁.heap.get? bm = some ob ∧ ob.cls = .type "module" ∧ ob.dict = some builtinsNs ∧ ob.data = .plain)
    (ha : s₁.heap.get? a = some { cls := .type "list", data := .seq vs.toArray }) (hi : IntsAre vs ns) (hl : ns.length ≤ sizeLine) (hr : Room k callerA)
    (F : ∀ base : Heap, K.In base → base.Ns mainGlobals mg → (∀ p ∈ cs, LamX.TabB base mg p.1 p.2) → FnG P w K mg base k fa fd [x] sp) (hbind : ∀ (s : Shared) (u : Value), BindsTo s fd ⟨[u], []⟩ [(x, u)])
    (hsp : ∀ H : Hp, (∀ p ∈ cs, H p.2 = some (.tbl #[])) → FrL K H a (ns.map V.int) → sp [.ref a] H (fun v _ => v = .bl true) fun _ _ _ => False) :
    codeAny (model P w) callerA (.call (.ref fa) ⟨[.ref a], []⟩) (fun r s' => r = .ok (.ret (.bool true)) ∧ OldK s₁.heap s'.heap ∧ s'.os = s₁.os ∧ AllBare s'.gens) s₁ := by
  have rv := vals_ints hi
  have lenV := hi.length
  generalize hts : cs.map (·.2) = ts
  have memT : ∀ p ∈ cs, p.2 ∈ ts := fun p hp => by rw [← hts]; exact List.mem_map.mpr ⟨p, hp, rfl⟩
  have backT : ∀ b ∈ ts, ∃ p ∈ cs, p.2 = b := fun b hb => by rw [← hts] at hb; exact List.mem_map.mp hb
  have isT : ∀ b ∈ ts, s₁.heap.get? b = some { cls := .none, data := .fields #[] } := fun b hb => by
    obtain ⟨p, hp, rfl⟩ := backT b hb
    exact hT p hp
  have aT : a ∉ ts := fun z => by
    have q := isT a z
    rw [ha] at q
    cases congrArg Obj.data (Option.some.inj q)
  -- the script's own object, or none where the module holds it
  obtain ⟨own, hown, hfr, hob, hka⟩ : ∃ own : Option HO, (own = none ∨ own = some (.frz { cls := .type "list", data := .seq vs.toArray } (.lst (ns.map V.int)))) ∧ FrL K (hdH ts a own) a (ns.map V.int) ∧ (∀ u, own = some u → ∀ H : Hp, ObjOk P w H s₁.heap a u) ∧ (own ≠ none → K.lookup a = none) := by
    cases hk : K.lookup a with
    | some o =>
      have e := KX a o hk
      rw [ha] at e
      cases e
      exact ⟨none, .inl rfl, .inr ⟨_, vs.toArray, _, hk, rfl, rfl, rfl, by rw [List.size_toArray, lenV]; exact hl, by simpa using rv⟩, fun u z => (nomatch z), fun z => (z rfl).elim⟩
    | none =>
      refine ⟨some (.frz { cls := .type "list", data := .seq vs.toArray } (.lst (ns.map V.int))), .inr rfl, .inl ⟨_, hdH_a aT⟩, fun u z H => ?_, fun _ => rfl⟩
      cases z
      exact ⟨ha, by rw [List.length_map]; exact hl, vs, _, rv, ha⟩
  generalize hH : hdH ts a own = H at hfr
  have tH : ∀ b ∈ ts, H b = some (.tbl #[]) := fun b hb => by rw [← hH]; exact hdH_t hb
  have aH : H a = own := by rw [← hH]; exact hdH_a aT
  have oH : ∀ b, b ∉ ts → b ≠ a → H b = none := fun b h1 h2 => by rw [← hH]; exact hdH_o h1 h2
  have hok : HOk P w H s₁.heap := fun b u e => by
    by_cases h1 : b ∈ ts
    · rw [tH b h1] at e; cases e; exact isT b h1
    · by_cases h2 : b = a
      · subst h2
        rw [aH] at e
        exact hob u e H
      · rw [oH b h1 h2] at e; cases e
  -- an object that is neither a list's nor a table's is not tracked
  have free : ∀ {b : Addr} {o : Obj}, s₁.heap.get? b = some o → (∀ ws n, o.data ≠ .seq ws n) → o.data ≠ .fields #[] → H b = none := fun {b o} e h1 h2 => by
    refine oH b (fun z => ?_) fun z => ?_
    · rw [isT b z] at e; cases e; exact h2 rfl
    · rw [z, ha] at e; cases e; exact h1 _ _ rfl
  have nsK : ∀ {b : Addr} {m : Str → Option Value}, s₁.heap.Ns b m → (hidT s₁.heap H).Ns b m := fun {b m} ⟨o, es, ep, e, d, r⟩ => ⟨o, es, ep, hidT_get e (free e (fun ws n z => by rw [d] at z; cases z) fun z => by rw [d] at z; cases z), d, r⟩
  have hKb : K.In (hidT s₁.heap H) := fun b o e => hidT_get (KX b o e) (by
    by_cases h1 : b ∈ ts
    · obtain ⟨p, hp, rfl⟩ := backT b h1
      rw [nT p hp] at e; cases e
    · by_cases h2 : b = a
      · subst h2
        rw [aH]
        cases ho : own with
        | none => rfl
        | some u => rw [hka (by rw [ho]; simp)] at e; cases e
      · exact oH b h1 h2)
  have hM : L2.Mod K mg (hidT s₁.heap H) := ⟨hKb, nsK hns, ⟨mb, nsK hb, hbb⟩, let ⟨mc, h1, h2⟩ := hlim; ⟨mc, nsK h1, h2⟩⟩
  have TB : ∀ p ∈ cs, LamX.TabB (hidT s₁.heap H) mg p.1 p.2 := fun p hp => by
    have hTp := hT p hp
    refine ⟨?_, ?_, fun z => ?_⟩
    · obtain ⟨o, us, file, tf, flags, tg, inF, text, tt, e1, r1, r2, r3, rest⟩ := C p hp
      exact ⟨o, us, file, tf, flags, tg, inF, text, tt, hidT_get e1 (free e1 (fun ws n z => by rw [r2] at z; cases z) fun z => by rw [r2] at z; cases z; simp at r3), r1, r2, r3, rest⟩
    · obtain ⟨bm, ob, b1, b2, b3, b4, b5, b6⟩ := hbm
      have nG : bm ≠ mainGlobals := fun q => by
        obtain ⟨o, es, ep, e, hd, _⟩ := hns
        rw [q, e] at b3
        cases b3
        rw [hd] at b6; cases b6
      have nP : bm ≠ p.2 := fun q => by
        rw [q, hTp] at b3
        cases b3; cases b6
      exact ⟨bm, ob, b1, b2, nG, nP, hidT_get b3 (free b3 (fun ws n z => by rw [b6] at z; cases z) fun z => by rw [b6] at z; cases z), b4, b5, b6⟩
    · obtain ⟨o, es, ep, e, hd, _⟩ := hns
      rw [z, hTp] at e
      cases e; cases hd
  have e0 : Env0 P w K mg (hidT s₁.heap H) callerA [] s₁ H := ⟨rfl, hM, fun b o e => of_hidT e, Nat.le_of_eq (hidT_size _ _), trivial, fun b hb => absurd (show b ∈ ([] : List Addr) from hb) (by simp), hok, .of_eq hg⟩
  refine codeAny_mono ((F _ hKb (nsK hns) TB).run callerA [] s₁ H ⟨[.ref a], []⟩ [.ref a] [.ref a] _ _ hr rfl e0 (hbind s₁ (.ref a)) (.cons rfl .nil) (hsp H (fun p hp => tH _ (memT p hp)) hfr)) fun r s' h => ?_
  match r, h with
  | .error e, h =>
    obtain ⟨_, _, _, _, _, _, _, _, _, _, _, _, z⟩ := h
    exact z.elim
  | .ok .next, h => exact False.elim h
  | .ok .brk, h => exact False.elim h
  | .ok .cont, h => exact False.elim h
  | .ok (.ret u), h =>
    obtain ⟨v, H', os, bare, un, hok', r', q⟩ := h
    have q' : v = .bl true := q
    subst q'
    obtain rfl : u = Value.bool true := r'
    have key : ∀ b o, b ∉ ts → s₁.heap.get? b = some o → s'.heap.get? b = some o := fun b o nb e => by
      cases q : H b with
      | none => exact un.keep b o e q (by intro z; exact absurd (show b ∈ ([] : List Addr) from z) (by simp)) (by simp)
      | some u =>
        have hba : b = a := Classical.byContradiction fun z => by rw [oH b nb z] at q; cases q
        subst hba
        rw [aH] at q
        rcases hown with z | z
        · rw [z] at q; cases q
        · have z2 := un.frzs b _ _ (aH.trans z)
          obtain ⟨e2, _⟩ := hok' b _ z2
          rw [ha] at e; cases e
          exact e2
    have grown : ∀ p ∈ cs, ∃ more : Array Value, s'.heap.get? p.2 = some { cls := .none, data := .fields more } := fun p hp => by
      obtain ⟨more, z⟩ := un.tbls p.2 #[] (tH _ (memT p hp))
      exact ⟨_, hok' p.2 _ z⟩
    refine ⟨rfl, ⟨fun b o e => ?_, fun b o e => ?_⟩, os, bare⟩
    · by_cases hb : b ∈ ts
      · obtain ⟨p, hp, rfl⟩ := backT b hb
        obtain ⟨more, hm⟩ := grown p hp
        rw [hT p hp] at e
        cases e
        exact .inr (.inl ⟨((C p hp).tab (hT p hp)).isCodeTable, rfl, #[], more, rfl, by rw [Array.empty_append]; exact hm⟩)
      · exact .inl (key b o hb e)
    · by_cases hb : b ∈ ts
      · obtain ⟨p, hp, rfl⟩ := backT b hb
        obtain ⟨more, hm⟩ := grown p hp
        exact ⟨_, hm⟩
      · exact ⟨o, key b o hb e⟩
end
/-- what is known of the law's def at the head's heap h -/
def LawG (l : PySem.W.OpenLaw) (w : World) (K : PySem.W.Frag) (k n : Nat) (x : Str) (mg : Str → Option Value) (fa : Addr) (h : Heap) : Prop :=
  ∃ (fd : FuncData) (cs : List (Addr × Addr)) (sp : Sp), (∀ p ∈ cs, h.get? p.2 = some { cls := .none, data := .fields #[] }) ∧ (∀ p ∈ cs, K.lookup p.2 = none) ∧ (∀ p ∈ cs, PySem.W.CodeHd h p.1 p.2) ∧ (∀ (s : Shared) (u : Value), BindsTo s fd ⟨[u], []⟩ [(x, u)]) ∧
    (∀ (H : Hp) (a : Addr) (ns : List Int), ns.length ≤ n → (∀ z ∈ ns, Builtin.Int.intBits z ≤ 1048576) → (∀ p ∈ cs, H p.2 = some (.tbl #[])) → FrL K H a (ns.map V.int) → sp [.ref a] H (fun v _ => v = .bl true) fun _ _ _ => False) ∧
    ∀ base : Heap, K.In base → base.Ns mainGlobals mg → (∀ p ∈ cs, LamX.TabB base mg p.1 p.2) → FnG l.prog w K mg base k fa fd [x] sp
theorem walk_G {l : PySem.W.OpenLaw} {n k : Nat} {q : Program} {loose : List Str} {XP : (Str → Option Value) → Heap → Prop} {YP : World → Heap → Prop} {d : DefRec} {K : Params → PySem.W.Frag} {x : Str}
    (hn : l.most = some n) (hn2 : n ≤ sizeLine) (hdf : d.params.defaults = []) (hr : Room k callerA) (hY : ∀ (w : World) (h : Heap), YP w h → (K w.params).In h)
    (F : ∀ (w : World) (mg : Str → Option Value) (fa : Addr) (h : Heap), (K w.params).In h → h.Ns mainGlobals mg → mg d.name = some (.ref fa) →
      (∀ (y : Str) (dy : DefRec) (c P : Addr), (recsOf q).find? (fun e => e.name == y) = some dy → PySem.W.tabIn (K w.params) y = some (c, P) → PySem.W.CodeHd h c P ∧ h.get? P = some { cls := .none, data := .fields #[] }) → LawG l w (K w.params) k n x mg fa h) :
    PySem.W.WalkO q loose XP YP l.row.toRowW d [] (fun f vs => PySem.call f vs) := by
  refine Att.attach_callB hn hdf fun w s₀ s₁ mg mb fa o pm cd doc a vs ns G Y ho hd hcd hmg hobj hints hlen hbits hg => ?_
  obtain ⟨fd, cs, sp, hT, nT, C, hb, hsp, hF⟩ := F w mg fa _ (hY w _ Y) G.T.g hmg fun y dy c P hr ht => PySem.W.tab_of G.T (hY w _ Y) hr ht
  exact law_callG (hY w _ Y) G.T.g G.T.b G.T.builtins G.T.nolimit hg hT nT C G.T.bmain hobj hints (Nat.le_trans hlen hn2) hr hF hb fun H hH hS => hsp H a ns hlen hbits hH hS
end DD
set_option Elab.async false
set_option linter.all false
set_option maxRecDepth 100000
set_option maxHeartbeats 4000000
/-! The Den layer, part 16: dicts whose keys are tuples, at the library's level. -/
namespace DD
open PySem PySem.Spec PyProof.Rows L2

mutual
/-- the value v is the key k, by what is tracked -/
def KeyV (K : PySem.W.Frag) (H : Hp) : NestedKey → V → Prop
  | .none, v => v = .non
  | .num i, v => v = .int i ∨ ∃ b : Bool, v = .bl b ∧ i = (if b then 1 else 0)
  | .text x, v => v = .str x
  | .tup ks, v => ∃ a vs, v = .ref a ∧ SqT K H a vs ∧ KeyVs K H ks vs
def KeyVs (K : PySem.W.Frag) (H : Hp) : List NestedKey → List V → Prop
  | [], vs => vs = []
  | k :: ks, vs => ∃ v r, vs = v :: r ∧ KeyV K H k v ∧ KeyVs K H ks r
end
section
variable {W : Wd} {M : List Addr} {H : Hp}
mutual
theorem keyV_of : ∀ (t : T) (v : V) (k : NestedKey), keyN t = some k → Rep W M H t v → KeyV W.K H k v
  | .non, v, k, e, r => by unfold Rep at r; subst r; cases e; unfold KeyV; rfl
  | .bl b, v, k, e, r => by unfold Rep at r; subst r; cases e; unfold KeyV; exact .inr ⟨b, rfl, rfl⟩
  | .int i, v, k, e, r => by unfold Rep at r; subst r; cases e; unfold KeyV; exact .inl rfl
  | .str x, v, k, e, r => by unfold Rep at r; subst r; cases e; unfold KeyV; rfl
  | .tup ts, v, k, e, r => by
    unfold Rep at r
    obtain ⟨a, vs, rfl, h2, h3⟩ := r
    unfold keyN at e
    cases e2 : keyNs ts with
    | none => rw [e2] at e; cases e
    | some ks => rw [e2] at e; cases e; unfold KeyV; exact ⟨a, vs, rfl, h2, keyVs_of ts vs ks e2 h3⟩
  | .ref _, _, _, e, _ => by cases e
  | .fn _, _, _, e, _ => by cases e
  | .lam _, _, _, e, _ => by cases e
  | .clo _ _, _, _, e, _ => by cases e
  | .hole, _, _, e, _ => by cases e
theorem keyVs_of : ∀ (ts : List T) (vs : List V) (ks : List NestedKey), keyNs ts = some ks → Reps W M H ts vs → KeyVs W.K H ks vs
  | [], vs, ks, e, r => by unfold Reps at r; subst r; cases e; unfold KeyVs; rfl
  | t :: ts, vs, ks, e, r => by
    unfold Reps at r
    obtain ⟨v, rr, rfl, h2, h3⟩ := r
    unfold keyNs at e
    cases e1 : keyN t with
    | none => rw [e1] at e; cases e
    | some k =>
      rw [e1] at e
      cases e2 : keyNs ts with
      | none => rw [e2] at e; cases e
      | some ks' =>
        rw [e2] at e
        cases e
        unfold KeyVs
        exact ⟨v, rr, rfl, keyV_of t v k e1 h2, keyVs_of ts rr ks' e2 h3⟩
end
end
section
variable {X : Cx} {pins : List (Addr × Obj)} {σ : L2.St} {H : Hp} {s : Shared}
mutual
theorem nested_of (I : Inv X pins σ H s) : ∀ (k : NestedKey) (v : V) (u : Value), KeyV X.K H k v → RelV v u → NestedIs s.heap k u
  | .none, v, u, h, r => by
    unfold KeyV at h; subst h
    obtain rfl : u = .none := r
    exact .none
  | .num i, v, u, h, r => by
    unfold KeyV at h
    rcases h with rfl | ⟨b, rfl, e⟩
    · obtain ⟨t, rfl⟩ := r; exact .int _ _
    · obtain rfl : u = .bool b := r; exact .bool e
  | .text x, v, u, h, r => by
    unfold KeyV at h; subst h
    obtain ⟨t, rfl⟩ := r; exact .text _ _
  | .tup ks, v, u, h, r => by
    unfold KeyV at h
    obtain ⟨a, vs, rfl, h1, h2⟩ := h
    obtain rfl : u = .ref a := r
    obtain ⟨its, rv, ⟨o, ho, hc, n, hd⟩, _⟩ := I.tuple h1
    exact .tup ho hc hd (by simpa using nesteds_of I ks vs its h2 rv)
theorem nesteds_of (I : Inv X pins σ H s) : ∀ (ks : List NestedKey) (vs : List V) (us : List Value), KeyVs X.K H ks vs → Vals vs us → NestedAll s.heap ks us
  | [], vs, us, h, r => by
    unfold KeyVs at h; subst h
    cases r; exact .nil
  | k :: ks, vs, us, h, r => by
    unfold KeyVs at h
    obtain ⟨v, rr, rfl, h1, h2⟩ := h
    cases r with
    | cons r1 r2 => exact .cons (nested_of I k v _ h1 r1) (nesteds_of I ks rr _ h2 r2)
end
end

/-! ### look-up, store, in lists of entries -/
def atE (es : List EntN) (k : NestedKey) : Option V := (es.find? fun e => decide (e.1 = k)).map (·.2.2)
def putE (es : List EntN) (k : NestedKey) (b : Addr) (v : V) : List EntN := if (atE es k).isSome then es.map (fun e => if e.1 = k then (e.1, e.2.1, v) else e) else es ++ [(k, b, v)]
theorem at_rel {es : List EntN} {us : List (NestedKey × Addr × Value)} (h : Paired EntR es us) (k : NestedKey) : (atE es k = none ∧ atKey us k = none) ∨ ∃ v p, atE es k = some v ∧ atKey us k = some p ∧ RelV v p.2 := by
  induction h with
  | nil => exact .inl ⟨rfl, rfl⟩
  | @cons e u es us r _ ih =>
    obtain ⟨r1, r2, r3⟩ := r
    by_cases hk : e.1 = k
    · refine .inr ⟨e.2.2, u.2, ?_, ?_, r3⟩
      · simp [atE, hk]
      · simp [atKey, ← r1, hk]
    · have h1 : atE (e :: es) k = atE es k := by simp [atE, hk]
      have h2 : atKey (u :: us) k = atKey us k := by simp [atKey, ← r1, hk]
      rw [h1, h2]; exact ih
theorem put_map {es : List EntN} {us : List (NestedKey × Addr × Value)} (h : Paired EntR es us) (k : NestedKey) {v : V} {u : Value} (r : RelV v u) : Paired EntR (es.map (fun e => if e.1 = k then (e.1, e.2.1, v) else e)) (us.map (putAt k u)) := by
  induction h with
  | nil => exact .nil
  | @cons e x es us q _ ih =>
    refine .cons ?_ ih
    obtain ⟨q1, q2, q3⟩ := q
    show EntR (if e.1 = k then (e.1, e.2.1, v) else e) (if x.1 = k then (x.1, x.2.1, u) else x)
    by_cases hk : e.1 = k
    · rw [if_pos hk, if_pos (q1 ▸ hk)]; exact ⟨q1, q2, r⟩
    · rw [if_neg hk, if_neg (q1 ▸ hk)]; exact ⟨q1, q2, q3⟩
theorem paired_snoc {α β : Type} {R : α → β → Prop} {as : List α} {bs : List β} {a : α} {b : β} (h : Paired R as bs) (r : R a b) : Paired R (as ++ [a]) (bs ++ [b]) := by
  induction h with
  | nil => exact .cons r .nil
  | cons q _ ih => exact .cons q ih
theorem put_rel {es : List EntN} {us : List (NestedKey × Addr × Value)} (h : Paired EntR es us) (k : NestedKey) (b : Addr) {v : V} {u : Value} (r : RelV v u) : Paired EntR (putE es k b v) (storedH us k b u) := by
  unfold putE storedH
  rcases at_rel h k with ⟨h1, h2⟩ | ⟨x, p, h1, h2, _⟩
  · rw [h1, h2]; exact paired_snoc h ⟨rfl, rfl, r⟩
  · rw [h1, h2]; exact put_map h k r
theorem put_len (es : List EntN) (k : NestedKey) (b : Addr) (v : V) : (putE es k b v).length ≤ es.length + 1 := by
  unfold putE; split <;> simp
theorem at_none {es : List EntN} {k : NestedKey} (h : atE es k = none) : k ∉ es.map (·.1) := fun hm => by
  obtain ⟨e, he, rfl⟩ := List.mem_map.mp hm
  unfold atE at h
  rw [Option.map_eq_none_iff, List.find?_eq_none] at h
  exact h e he (by simp)
theorem map_keys (es : List EntN) (k : NestedKey) (v : V) : (es.map (fun e => if e.1 = k then (e.1, e.2.1, v) else e)).map (·.1) = es.map (·.1) := by
  rw [List.map_map]
  refine List.map_congr_left fun e _ => ?_
  simp only [Function.comp]
  split <;> rfl
theorem put_nodup {es : List EntN} {k : NestedKey} {b : Addr} {v : V} (h : (es.map (·.1)).Nodup) : ((putE es k b v).map (·.1)).Nodup := by
  unfold putE
  split
  · rw [map_keys]; exact h
  · rename_i hn
    have h1 : atE es k = none := by simpa using hn
    rw [List.map_append]
    refine List.nodup_append.mpr ⟨h, by simp, fun x hx y hy z => ?_⟩
    have e : y = k := by simpa using hy
    subst e z
    exact at_none h1 hx

/-! ### the dict in the heap -/
/-- the dict at a: its entries, whose keys are what they should be -/
def DN (K : PySem.W.Frag) (w : World) (H : Hp) (a : Addr) (es : List EntN) : Prop := H a = some (DctN w a es) ∧ ∀ e ∈ es, KeyV K H e.1 (.ref e.2.1) ∧ e.1.depth ≤ 8
section
variable {X : Cx} {pins : List (Addr × Obj)} {σ : L2.St} {H : Hp} {s : Shared} {a b : Addr} {es : List EntN} {nk : NestedKey} {A : Around} {E : Value → Shared → Prop}
theorem paired_keys {us : List (NestedKey × Addr × Value)} (h : Paired EntR es us) : us.map (·.1) = es.map (·.1) := by
  induction h with
  | nil => rfl
  | cons r _ ih => simp [ih, r.1]
theorem paired_mem {us : List (NestedKey × Addr × Value)} (h : Paired EntR es us) : ∀ u ∈ us, ∃ e ∈ es, EntR e u := by
  induction h with
  | nil => exact fun u hu => nomatch hu
  | cons r _ ih =>
    intro u hu
    rcases List.mem_cons.mp hu with rfl | hu
    · exact ⟨_, List.mem_cons_self, r⟩
    · obtain ⟨e, he, q⟩ := ih u hu
      exact ⟨e, List.mem_cons_of_mem _ he, q⟩
theorem dn_of (I : Inv X pins σ H s) (d : DN X.K X.w H a es) : ∃ us, Paired EntR es us ∧ s.heap.DictOfH (nestedKind X.prog X.w) a us ∧ (a == sysModules) = false ∧ es.length ≤ sizeLine ∧ (es.map (·.1)).Nodup := by
  obtain ⟨⟨o, ds, ep, h1, h2, h3, ⟨us, h4, h5⟩, h6, h7, h8⟩, _, _⟩ := I.hok a _ d.1
  refine ⟨us, h4, ⟨o, ds, ep, h1, h2, h3, h5, fun u hu => ?_, by rw [paired_keys h4]; exact h6⟩, h8, h7, h6⟩
  obtain ⟨e, he, e1, e2, _⟩ := paired_mem h4 u hu
  obtain ⟨k1, k2⟩ := d.2 e he
  rw [← e1, ← e2]
  exact ⟨nested_of I _ _ _ k1 rfl, k2⟩
theorem dn_ext {h : Heap} {us : List (NestedKey × Addr × Value)} {H' : Hp} {P : Program} {w : World} (hp : Paired EntR es us) (hd : h.DictOfH (nestedKind P w) a us) (h8 : (a == sysModules) = false) (h7 : es.length ≤ sizeLine) (h6 : (es.map (·.1)).Nodup) : ObjOk P w H' h a (DctN w a es) := by
  obtain ⟨o, ds, ep, h1, h2, h3, h5, _⟩ := hd
  exact ⟨⟨o, ds, ep, h1, h2, h3, ⟨us, hp, h5⟩, h6, h7, h8⟩, ⟨o, h1⟩, fun h1' h2' ⟨o, ds, ep, k1, k2, k3, k4⟩ st => ⟨o, ds, ep, st _ k1, k2, k3, k4⟩⟩
theorem roomN (hu : A.units + 9 < cLine) : (nestedKind X.prog X.w).room A.in1 := by
  show A.in1.units + 8 < cLine
  simp only [Around.in1_units]
  omega
theorem dn_get {v : V} {Q : Value → Shared → Prop} (hu : A.units + 9 < cLine) (I : Inv X pins σ H s) (d : DN X.K X.w H a es) (hk : KeyV X.K H nk (.ref b)) (hd : nk.depth ≤ 8) (hv : atE es nk = some v) (h : ∀ w' s', Inv X pins σ H s' → RelV v w' → Q w' s') :
    wpAny (model X.prog X.w) A (getItem (.ref a) (.ref b)) Q E s := by
  obtain ⟨us, h1, h2, h3, h4, h5⟩ := dn_of I d
  rcases at_rel h1 nk with ⟨q1, _⟩ | ⟨x, p, q1, q2, q3⟩
  · rw [hv] at q1; cases q1
  · rw [hv] at q1; cases q1
    exact wpAny_getItem_heap (knd := nestedKind X.prog X.w) (roomN hu) ⟨nested_of I _ _ _ hk rfl, hd⟩ h2 q2 (h _ _ (I.kept fun _ _ z => z) q3)
theorem dn_in {Q : Value → Shared → Prop} (hu : A.units + 9 < cLine) (I : Inv X pins σ H s) (d : DN X.K X.w H a es) (hk : KeyV X.K H nk (.ref b)) (hd : nk.depth ≤ 8) (h : ∀ s', Inv X pins σ H s' → Q (.bool (atE es nk).isSome) s') :
    wpAny (model X.prog X.w) A (compareOp .In (.ref b) (.ref a)) Q E s := by
  obtain ⟨us, h1, h2, h3, h4, h5⟩ := dn_of I d
  refine wpAny_in_heap (knd := nestedKind X.prog X.w) (roomN hu) ⟨nested_of I _ _ _ hk rfl, hd⟩ h3 h2 ?_
  have e : (atKey us nk).isSome = (atE es nk).isSome := by
    rcases at_rel h1 nk with ⟨q1, q2⟩ | ⟨x, p, q1, q2, q3⟩ <;> rw [q1, q2] <;> rfl
  rw [e]
  exact h _ (I.kept fun _ _ z => z)
theorem dn_notIn {Q : Value → Shared → Prop} (hu : A.units + 9 < cLine) (I : Inv X pins σ H s) (d : DN X.K X.w H a es) (hk : KeyV X.K H nk (.ref b)) (hd : nk.depth ≤ 8) (h : ∀ s', Inv X pins σ H s' → Q (.bool (!(atE es nk).isSome)) s') :
    wpAny (model X.prog X.w) A (compareOp .NotIn (.ref b) (.ref a)) Q E s := by
  obtain ⟨us, h1, h2, h3, h4, h5⟩ := dn_of I d
  show wpAny _ _ (do return .bool (!(← contains (.ref a) (.ref b)))) Q E s
  refine wpAny_bind (wpAny_contains_heap (knd := nestedKind X.prog X.w) (roomN hu) ⟨nested_of I _ _ _ hk rfl, hd⟩ h3 h2 (wpAny_pure ?_))
  have e : (atKey us nk).isSome = (atE es nk).isSome := by
    rcases at_rel h1 nk with ⟨q1, q2⟩ | ⟨x, p, q1, q2, q3⟩ <;> rw [q1, q2] <;> rfl
  rw [e]
  exact h _ (I.kept fun _ _ z => z)
theorem dn_put {v : V} {u : Value} {Q : Unit → Shared → Prop} (hu : A.units + 9 < cLine) (I : Inv X pins σ H s) (d : DN X.K X.w H a es) (hk : KeyV X.K H nk (.ref b)) (hd : nk.depth ≤ 8) (hl : es.length < sizeLine) (r : RelV v u)
    (h : ∀ s', Inv X pins σ (upd H a (DctN X.w a (putE es nk b v))) s' → Q () s') : wpAny (model X.prog X.w) A (setItem (.ref a) (.ref b) u) Q E s := by
  obtain ⟨us, h1, h2, h3, h4, h5⟩ := dn_of I d
  have hz : us.length ≤ sizeLine := by rw [← paired_lenT h1]; exact h4
  refine wpAny_setItem_heap (hsz := hz) (knd := nestedKind X.prog X.w) (roomN hu) ⟨nested_of I _ _ _ hk rfl, hd⟩ h2 fun h' dd' hs => h _ ?_
  refine d_write I (by rw [d.1]; exact True.intro) hs (let ⟨q, _, _, hq, _⟩ := dd'; ⟨q, hq⟩) (dn_ext (put_rel h1 nk b r) dd' h3 ?_ (put_nodup h5))
  have := put_len es nk b v
  omega
theorem dn_len {Q : Value → Shared → Prop} (I : Inv X pins σ H s) (d : H a = some (DctN X.w a es)) (h : ∀ t s', Inv X pins σ H s' → Q (.int es.length t) s') : wpAny (model X.prog X.w) A (call (.builtin "dict.__len__") [.ref a]) Q E s := by
  obtain ⟨⟨o, ds, ep, h1, h2, h3, ⟨us, h4, h5⟩, h6, h7, h8⟩, _, _⟩ := I.hok a _ d
  refine call_len_raw h8 ⟨o, h1, h2, h3⟩ ?_
  have e : ds.size = es.length := by
    rw [← Array.length_toList, h5, List.length_map, paired_lenT h4]
  rw [e]
  exact h _ _ (I.kept fun _ _ z => z)
theorem dn_empty {H' : Hp} {P : Program} {w : World} {h : Heap} (hb : sysModules < h.objs.size) : ObjOk P w H' (h.push { cls := .type "dict", data := .dict #[] }) h.objs.size (DctN w h.objs.size []) :=
  dn_ext (us := []) .nil (Heap.DictOfH.new h) (by
    rw [beq_eq_false_iff_ne]
    exact Nat.ne_of_gt hb) (Nat.zero_le _) List.nodup_nil
end
end DD
set_option Elab.async false
set_option linter.all false
set_option maxRecDepth 100000
set_option maxHeartbeats 4000000
/-! The Den layer, part 17: dicts, membership. -/
namespace DD
open PySem PySem.Spec PyProof.Rows L2

/-! ### the functions -/
def keyK : T → Option Key
  | .int i => some (.inl i)
  | .str x => some (.inr x)
  | _ => none
def getK (kvs : List (Key × T)) (k : Key) : Option T := (kvs.find? fun p => decide (p.1 = k)).map (·.2)
def putT (kvs : List (Key × T)) (k : Key) (v : T) : List (Key × T) := if (getK kvs k).isSome then kvs.map (fun p => if p.1 = k then (p.1, v) else p) else kvs ++ [(k, v)]
def getN (kvs : List (T × T)) (k : NestedKey) : Option T := (kvs.find? fun p => decide (keyN p.1 = some k)).map (·.2)
def putN (kvs : List (T × T)) (t : T) (k : NestedKey) (v : T) : List (T × T) := if (getN kvs k).isSome then kvs.map (fun p => if keyN p.1 = some k then (p.1, v) else p) else kvs ++ [(t, v)]
/-- a tuple as a key -/
def keyT : T → Option NestedKey
  | .tup ts => (keyN (.tup ts)).bind fun k => if k.depth ≤ 8 then some k else none
  | _ => none
/-- d[k] -/
def nGet : T → T → Store → R T
  | .ref n, t, S => match S[n]? with
    | some (.dct kvs) => (match (keyK t).bind (getK kvs) with
      | some v => .ok v S
      | none => .bad)
    | some (.dtp kvs) => (match (keyT t).bind (getN kvs) with
      | some v => .ok v S
      | none => .bad)
    | _ => .bad
  | _, _, _ => .bad
def nIx : T → T → Store → R T
  | .ref n, t, S => match S[n]? with
    | some (.dct kvs) => nGet (.ref n) t S
    | some (.dtp kvs) => nGet (.ref n) t S
    | _ => nIdx (.ref n) t S
  | u, t, S => nIdx u t S
def memD (d : PyData) (ds : List PyData) : Bool := ds.any fun z => PyData.eqv z d
def nMem (neg : Bool) (t : T) (ts : List T) (S : Store) : R T := match dat S t, datsW (datR 8 S) ts with
  | some d, some ds => if shp d && shp (.tuple ds) && shp (.list ds) then okB (memD d ds ^^ neg) S else .bad
  | _, _ => .bad
def nIn (neg : Bool) : T → T → Store → R T
  | t, .tup ts, S => nMem neg t ts S
  | t, .ref n, S => match S[n]? with
    | some (.dct kvs) => (match keyK t with
      | some k => okB ((getK kvs k).isSome ^^ neg) S
      | none => .bad)
    | some (.dtp kvs) => (match keyT t with
      | some k => okB ((getN kvs k).isSome ^^ neg) S
      | none => .bad)
    | some (.lst xs) => nMem neg t xs S
    | some (.frl xs) => nMem neg t xs S
    | _ => .bad
  | _, _, _ => .bad
def nPut : T → T → T → Store → R Unit
  | .ref n, t, v, S => match S[n]? with
    | some (.dct kvs) => (match keyK t with
      | some k => if v.plain && decide (kvs.length < LINE) then .ok () (S.set n (.dct (putT kvs k v))) else .bad
      | none => .bad)
    | some (.dtp kvs) => (match keyT t with
      | some k => if v.plain && decide (kvs.length < LINE) then .ok () (S.set n (.dtp (putN kvs t k v))) else .bad
      | none => .bad)
    | _ => .bad
  | _, _, _, _ => .bad
def nSetA : T → T → T → Store → R Unit
  | .ref n, t, v, S => match S[n]? with
    | some (.dct _) => nPut (.ref n) t v S
    | some (.dtp _) => nPut (.ref n) t v S
    | _ => nSet (.ref n) t v S
  | _, _, _, _ => .bad
def nLenA : List T → Store → R T
  | [.ref n], S => match S[n]? with
    | some (.dct kvs) => okI kvs.length S
    | some (.dtp kvs) => okI kvs.length S
    | _ => nLen [.ref n] S
  | ts, S => nLen ts S

/-! ### atomic keys -/
section
variable {W : Wd} {cells : List (Str × Addr)} {wx : WX} {σ : L2.St} {M : List Addr} {S : Store} {H : Hp} {Q : VK}
theorem keyK_rep {t : T} {v : V} {k : Key} (e : keyK t = some k) (r : RepX W cells M H t v) : v = kV k := by
  unfold keyK at e
  split at e
  · cases e; rw [rep_int r]; rfl
  · cases e; rw [rep_str r]; rfl
  · cases e
theorem dct_at {n : Nat} {a : Addr} {kvs : List (Key × T)} (sim : Sim W M S H) (hn : M[n]? = some a) (e : S[n]? = some (.dct kvs)) : ∃ vs, H a = some (.dK ((kvs.map (·.1)).zip vs)) ∧ Reps W M H (kvs.map (·.2)) vs := sim.obj n _ a e hn
theorem getK_rel : ∀ (kvs : List (Key × T)) (vs : List V) (k : Key), Reps W M H (kvs.map (·.2)) vs → (getK kvs k = none ∧ valV ((kvs.map (·.1)).zip vs) k = none) ∨ ∃ t v, getK kvs k = some t ∧ valV ((kvs.map (·.1)).zip vs) k = some v ∧ Rep W M H t v
  | [], vs, k, r => .inl ⟨rfl, rfl⟩
  | p :: kvs, vs, k, r => by
    rw [List.map_cons] at r
    unfold Reps at r
    obtain ⟨v, rr, rfl, h1, h2⟩ := r
    rw [List.map_cons, List.zip_cons_cons]
    by_cases hk : p.1 = k
    · exact .inr ⟨p.2, v, by simp [getK, hk], valV_pos hk, h1⟩
    · rw [valV_neg (p := (p.1, v)) hk]
      have e : getK (p :: kvs) k = getK kvs k := by simp [getK, hk]
      rw [e]
      exact getK_rel kvs rr k h2
theorem map_rel (k : Key) {t : T} {v : V} (rt : Rep W M H t v) : ∀ (kvs : List (Key × T)) (vs : List V), Reps W M H (kvs.map (·.2)) vs →
    ∃ vs', ((kvs.map (·.1)).zip vs).map (fun kv => if kv.1 = k then (kv.1, v) else kv) = ((kvs.map (fun p => if p.1 = k then (p.1, t) else p)).map (·.1)).zip vs' ∧ Reps W M H ((kvs.map (fun p => if p.1 = k then (p.1, t) else p)).map (·.2)) vs'
  | [], vs, r => ⟨[], rfl, reps_nil⟩
  | p :: kvs, vs, r => by
    rw [List.map_cons] at r
    unfold Reps at r
    obtain ⟨x, rr, rfl, h1, h2⟩ := r
    obtain ⟨vs', e1, e2⟩ := map_rel k rt kvs rr h2
    by_cases hk : p.1 = k
    · refine ⟨v :: vs', ?_, ?_⟩
      · simp only [List.map_cons, List.zip_cons_cons, if_pos hk]
        rw [e1]
      · simp only [List.map_cons, if_pos hk]
        exact reps_cons rt e2
    · refine ⟨x :: vs', ?_, ?_⟩
      · simp only [List.map_cons, List.zip_cons_cons, if_neg hk]
        rw [e1]
      · simp only [List.map_cons, if_neg hk]
        exact reps_cons h1 e2
theorem putT_rel (kvs : List (Key × T)) (vs : List V) (k : Key) {t : T} {v : V} (r : Reps W M H (kvs.map (·.2)) vs) (rt : Rep W M H t v) : ∃ vs', putK ((kvs.map (·.1)).zip vs) k v = ((putT kvs k t).map (·.1)).zip vs' ∧ Reps W M H ((putT kvs k t).map (·.2)) vs' := by
  have hl : (kvs.map (·.1)).length = vs.length := by rw [reps_len r]; simp
  unfold putT
  rcases getK_rel kvs vs k r with ⟨h1, h2⟩ | ⟨t', v', h1, h2, _⟩
  · refine ⟨vs ++ [v], ?_, ?_⟩
    · rw [putK_new _ h2, h1]
      simp only [Option.isSome_none, Bool.false_eq_true, if_false, List.map_append, List.map_cons, List.map_nil]
      rw [List.zip_append hl]
      rfl
    · rw [h1]
      simp only [Option.isSome_none, Bool.false_eq_true, if_false, List.map_append, List.map_cons, List.map_nil]
      exact reps_app r (reps_cons rt reps_nil)
  · have e : putK ((kvs.map (·.1)).zip vs) k v = ((kvs.map (·.1)).zip vs).map (fun kv => if kv.1 = k then (kv.1, v) else kv) := by
      unfold putK
      rw [valV_any, h2]
      simp
    rw [e, h1]
    simp only [Option.isSome_some, if_true]
    exact map_rel k rt kvs vs r

/-! ### tuple keys -/
theorem keyT_ok {t : T} {v : V} {k : NestedKey} (e : keyT t = some k) (r : RepX W cells M H t v) : ∃ b, v = .ref b ∧ KeyV W.K H k (.ref b) ∧ k.depth ≤ 8 ∧ keyN t = some k ∧ Rep W M H t (.ref b) := by
  unfold keyT at e
  split at e
  · rename_i ts
    cases e1 : keyN (.tup ts) with
    | none => rw [e1] at e; cases e
    | some k' =>
      rw [e1] at e
      simp only [Option.bind_some] at e
      split at e
      · rename_i hd
        cases e
        obtain ⟨b, vs, rfl, _⟩ := rep_tup r
        exact ⟨b, rfl, keyV_of _ _ _ e1 (show Rep W M H (.tup ts) (.ref b) from r), hd, rfl, r⟩
      · cases e
  · cases e
theorem dtp_at {n : Nat} {a : Addr} {kvs : List (T × T)} (sim : Sim W M S H) (hn : M[n]? = some a) (e : S[n]? = some (.dtp kvs)) :
    ∃ es, DN W.K W.w H a es ∧ Reps W M H (kvs.map (·.1)) (es.map EntN.kv) ∧ Reps W M H (kvs.map (·.2)) (es.map EntN.vv) ∧ Paired KeyR kvs es := by
  obtain ⟨es, h1, h2, h3, h4⟩ := sim.obj n _ a e hn
  refine ⟨es, ⟨h1, ?_⟩, h2, h3, h4⟩
  clear e
  revert h2
  clear h1 h3
  induction h4 with
  | nil => exact fun _ e he => nomatch he
  | @cons p x kvs es q _ ih =>
    intro h2 e he
    rw [List.map_cons, List.map_cons] at h2
    unfold Reps at h2
    obtain ⟨v, rr, e1, r1, r2⟩ := h2
    cases e1
    rcases List.mem_cons.mp he with rfl | he
    · exact ⟨keyV_of _ _ _ q.1 r1, q.2⟩
    · exact ih r2 e he
theorem getN_rel {kvs : List (T × T)} {es : List EntN} (k : NestedKey) (h : Paired KeyR kvs es) : Reps W M H (kvs.map (·.2)) (es.map EntN.vv) → (getN kvs k = none ∧ atE es k = none) ∨ ∃ t v, getN kvs k = some t ∧ atE es k = some v ∧ Rep W M H t v := by
  induction h with
  | nil => exact fun _ => .inl ⟨rfl, rfl⟩
  | @cons p x kvs es q _ ih =>
    intro r
    rw [List.map_cons, List.map_cons] at r
    unfold Reps at r
    obtain ⟨v, rr, e1, r1, r2⟩ := r
    cases e1
    by_cases hk : x.1 = k
    · exact .inr ⟨p.2, x.2.2, by simp [getN, q.1, hk], by simp [atE, hk], r1⟩
    · have e1 : getN (p :: kvs) k = getN kvs k := by simp [getN, q.1, hk]
      have e2 : atE (x :: es) k = atE es k := by simp [atE, hk]
      rw [e1, e2]
      exact ih r2
theorem mapN_rel {kvs : List (T × T)} {es : List EntN} (k : NestedKey) {t : T} {v : V} (rt : Rep W M H t v) (h : Paired KeyR kvs es) : Reps W M H (kvs.map (·.1)) (es.map EntN.kv) → Reps W M H (kvs.map (·.2)) (es.map EntN.vv) →
    Reps W M H ((kvs.map fun p => if keyN p.1 = some k then (p.1, t) else p).map (·.1)) ((es.map fun e => if e.1 = k then (e.1, e.2.1, v) else e).map EntN.kv) ∧
    Reps W M H ((kvs.map fun p => if keyN p.1 = some k then (p.1, t) else p).map (·.2)) ((es.map fun e => if e.1 = k then (e.1, e.2.1, v) else e).map EntN.vv) ∧
    Paired KeyR (kvs.map fun p => if keyN p.1 = some k then (p.1, t) else p) (es.map fun e => if e.1 = k then (e.1, e.2.1, v) else e) := by
  induction h with
  | nil => exact fun a b => ⟨a, b, .nil⟩
  | @cons p x kvs es q _ ih =>
    intro r r'
    rw [List.map_cons, List.map_cons] at r r'
    unfold Reps at r r'
    obtain ⟨z, rr, e1, r1, r2⟩ := r
    cases e1
    obtain ⟨z, rr, e1, r1', r2'⟩ := r'
    cases e1
    obtain ⟨i1, i2, i3⟩ := ih r2 r2'
    simp only [List.map_cons]
    by_cases hk : x.1 = k
    · have hp : keyN p.1 = some k := by rw [q.1, hk]
      rw [if_pos hk, if_pos hp]
      exact ⟨reps_cons r1 i1, reps_cons rt i2, .cons q i3⟩
    · have hp : ¬ keyN p.1 = some k := by rw [q.1]; exact fun z => hk (Option.some.inj z)
      rw [if_neg hk, if_neg hp]
      exact ⟨reps_cons r1 i1, reps_cons r1' i2, .cons q i3⟩
theorem putN_rel {kvs : List (T × T)} {es : List EntN} {tk t : T} {k : NestedKey} {b : Addr} {v : V} (h : Paired KeyR kvs es) (h1 : Reps W M H (kvs.map (·.1)) (es.map EntN.kv)) (h2 : Reps W M H (kvs.map (·.2)) (es.map EntN.vv))
    (rk : Rep W M H tk (.ref b)) (ek : keyN tk = some k) (hd : k.depth ≤ 8) (rt : Rep W M H t v) :
    Reps W M H ((putN kvs tk k t).map (·.1)) ((putE es k b v).map EntN.kv) ∧ Reps W M H ((putN kvs tk k t).map (·.2)) ((putE es k b v).map EntN.vv) ∧ Paired KeyR (putN kvs tk k t) (putE es k b v) := by
  unfold putN putE
  rcases getN_rel k h h2 with ⟨g1, g2⟩ | ⟨t', v', g1, g2, _⟩
  · rw [g1, g2]
    simp only [Option.isSome_none, Bool.false_eq_true, if_false, List.map_append, List.map_cons, List.map_nil]
    exact ⟨reps_app h1 (reps_cons rk reps_nil), reps_app h2 (reps_cons rt reps_nil), paired_snoc h ⟨ek, hd⟩⟩
  · rw [g1, g2]
    simp only [Option.isSome_some, if_true]
    exact mapN_rel k rt h h1 h2
end
end DD
set_option Elab.async false
set_option linter.all false
set_option maxRecDepth 100000
set_option maxHeartbeats 4000000
/-! The Den layer, part 18: the rules for dicts and membership. -/
namespace DD
open PySem PySem.Spec PyProof.Rows L2

section
variable {X : Cx}
def rInT (K : PySem.W.Frag) (neg : Bool) : R2 := fun x y H Q => ∃ d ds, Dp K H x d ∧ Dp K H y (.tuple ds) ∧ SeqAt.shaped d = true ∧ SeqAt.shaped (.tuple ds) = true ∧ Q (.bl (if neg then !ds.any fun z => PyData.eqv z d else ds.any fun z => PyData.eqv z d)) H
theorem op_inT (hu : X.A.units + 65 < cLine) : OpR X (compareOp .In) (rInT X.K false) := by
  intro pins s σ H x y v u Q I rx ry ⟨d, ds, hd, he, sd, se, q⟩
  obtain ⟨as, r1⟩ := Dp.reads I d x v hd rx
  obtain ⟨bs, r2⟩ := Dp.reads I (.tuple ds) y u he ry
  exact SeqAt.in_tuple_reads r2 r1 (SeqAt.canLay_of_shaped se) (SeqAt.canLay_of_shaped sd) (room_in_shaped sd hu) ⟨.bl _, H, I, rfl, q⟩
theorem op_notInT (hu : X.A.units + 65 < cLine) : OpR X (compareOp .NotIn) (rInT X.K true) := by
  intro pins s σ H x y v u Q I rx ry ⟨d, ds, hd, he, sd, se, q⟩
  obtain ⟨as, r1⟩ := Dp.reads I d x v hd rx
  obtain ⟨bs, r2⟩ := Dp.reads I (.tuple ds) y u he ry
  exact SeqAt.notIn_tuple_reads r2 r1 (SeqAt.canLay_of_shaped se) (SeqAt.canLay_of_shaped sd) (room_in_shaped sd hu) ⟨.bl _, H, I, rfl, q⟩
def rInDct (neg : Bool) : R2 := fun x y H Q => ∃ a kvs k, y = .ref a ∧ H a = some (.dK kvs) ∧ x = kV k ∧ Q (.bl ((valV kvs k).isSome ^^ neg)) H
def rInDtp (K : PySem.W.Frag) (w : World) (neg : Bool) : R2 := fun x y H Q => ∃ a b es k, y = .ref a ∧ x = .ref b ∧ DN K w H a es ∧ KeyV K H k (.ref b) ∧ k.depth ≤ 8 ∧ Q (.bl ((atE es k).isSome ^^ neg)) H
theorem op_inDct (hu : X.A.units + 65 < cLine) : OpR X (compareOp .In) (rInDct false) := by
  intro pins s σ H x y v u Q I rx ry ⟨a, kvs, k, ey, ha, ex, q⟩
  subst ey ex
  obtain rfl : u = Value.ref a := ry
  exact d_in (by omega) I (DGet.k ha) rx fun s' I' => ⟨.bl _, H, I', rfl, by simpa using q⟩
theorem op_notInDct (hu : X.A.units + 65 < cLine) : OpR X (compareOp .NotIn) (rInDct true) := by
  intro pins s σ H x y v u Q I rx ry ⟨a, kvs, k, ey, ha, ex, q⟩
  subst ey ex
  obtain rfl : u = Value.ref a := ry
  exact d_notIn (by omega) I (DGet.k ha) rx fun s' I' => ⟨.bl _, H, I', rfl, by simpa using q⟩
theorem op_inDtp (hu : X.A.units + 65 < cLine) : OpR X (compareOp .In) (rInDtp X.K X.w false) := by
  intro pins s σ H x y v u Q I rx ry ⟨a, b, es, k, ey, ex, d, hk, hd, q⟩
  subst ey ex
  obtain rfl : u = Value.ref a := ry
  obtain rfl : v = Value.ref b := rx
  exact dn_in (by omega) I d hk hd fun s' I' => ⟨.bl _, H, I', rfl, by simpa using q⟩
theorem op_notInDtp (hu : X.A.units + 65 < cLine) : OpR X (compareOp .NotIn) (rInDtp X.K X.w true) := by
  intro pins s σ H x y v u Q I rx ry ⟨a, b, es, k, ey, ex, d, hk, hd, q⟩
  subst ey ex
  obtain rfl : u = Value.ref a := ry
  obtain rfl : v = Value.ref b := rx
  exact dn_notIn (by omega) I d hk hd fun s' I' => ⟨.bl _, H, I', rfl, by simpa using q⟩
def rInA (K : PySem.W.Frag) (w : World) : R2 := fun x y H Q => rInD K x y H Q ∨ (rInT K false x y H Q ∨ (rInDct false x y H Q ∨ rInDtp K w false x y H Q))
def rNotInA (K : PySem.W.Frag) (w : World) : R2 := fun x y H Q => rNotInD K x y H Q ∨ (rInT K true x y H Q ∨ (rInDct true x y H Q ∨ rInDtp K w true x y H Q))
theorem o_in (hu : X.A.units + 65 < cLine) : OpR X (compareOp .In) (rInA X.K X.w) := OpR.either (op_inD hu) (OpR.either (op_inT hu) (OpR.either (op_inDct hu) (op_inDtp hu)))
theorem o_notIn (hu : X.A.units + 65 < cLine) : OpR X (compareOp .NotIn) (rNotInA X.K X.w) := OpR.either (op_notInD hu) (OpR.either (op_notInT hu) (OpR.either (op_notInDct hu) (op_notInDtp hu)))
end
section
variable {X : Cx} {W : Wd} {cells : List (Str × Addr)} {wx : WX}
theorem mem_ok {σ : L2.St} {M : List Addr} {S : Store} {H : Hp} {Q : VK} {t : T} {ts : List T} {v : V} {vs : List V} {neg : Bool} (sim : Sim W M S H) (rt : RepX W cells M H t v) (r : Reps W M H ts vs) (post : PostE W cells wx σ M H Q (nMem neg t ts S)) :
    ∃ d ds, Dp W.K H v d ∧ DpAll W.K H vs ds ∧ SeqAt.shaped d = true ∧ SeqAt.shaped (.tuple ds) = true ∧ SeqAt.shaped (.list ds) = true ∧ Q (.bl (memD d ds ^^ neg)) H := by
  unfold nMem at post
  split at post
  · rename_i d ds e1 e2
    split at post
    · rename_i hs
      simp only [Bool.and_eq_true, shp] at hs
      exact ⟨d, ds, dat_dp sim e1 rt, datsW_dp (datR_dp sim 8) ts vs ds e2 r, hs.1.1, hs.1.2, hs.2, here_bl sim post⟩
    · exact post.elim
  · exact post.elim
theorem in_w (hK : X.K = W.K) (hw : X.w = W.w) : OpD W cells wx (rInA X.K X.w) (nIn false) := fun σ M S H Q t u v w sim rt ru post => by
  rw [hK, hw]
  unfold nIn at post
  split at post
  · obtain ⟨p, vs, rfl, h1, r1⟩ := rep_tup ru
    obtain ⟨d, ds, a1, a2, a3, a4, a5, q⟩ := mem_ok sim rt r1 post
    exact .inr (.inl ⟨d, ds, a1, .tup h1 a2, a3, a4, by simpa [memD] using q⟩)
  · rename_i n
    split at post
    · rename_i kvs e
      split at post
      · rename_i k ek
        obtain ⟨p, h1, rfl⟩ := rep_ref ru
        obtain ⟨vs, h2, r2⟩ := dct_at sim h1 e
        refine .inr (.inr (.inl ⟨p, _, k, rfl, h2, keyK_rep ek rt, ?_⟩))
        have : (valV ((kvs.map (·.1)).zip vs) k).isSome = (getK kvs k).isSome := by rcases getK_rel kvs vs k r2 with ⟨g1, g2⟩ | ⟨_, _, g1, g2, _⟩ <;> rw [g1, g2] <;> rfl
        rw [this]
        exact here_bl sim post
      · exact post.elim
    · rename_i kvs e
      split at post
      · rename_i k ek
        obtain ⟨p, h1, rfl⟩ := rep_ref ru
        obtain ⟨es, d, r1, r2, pr⟩ := dtp_at sim h1 e
        obtain ⟨b, rfl, k1, k2, _, _⟩ := keyT_ok ek rt
        refine .inr (.inr (.inr ⟨p, b, es, k, rfl, rfl, d, k1, k2, ?_⟩))
        have : (atE es k).isSome = (getN kvs k).isSome := by rcases getN_rel k pr r2 with ⟨g1, g2⟩ | ⟨_, _, g1, g2, _⟩ <;> rw [g1, g2] <;> rfl
        rw [this]
        exact here_bl sim post
      · exact post.elim
    · rename_i xs e
      obtain ⟨p, h1, rfl⟩ := rep_ref ru
      obtain ⟨vs, h2, r1⟩ := lstAt_ok sim h1 (show lstAt S n = some xs by unfold lstAt; rw [e])
      obtain ⟨d, ds, a1, a2, a3, a4, a5, q⟩ := mem_ok sim rt r1 post
      exact .inl ⟨d, ds, a1, .lst h2 a2, a3, a5, by simpa [memD] using q⟩
    · rename_i xs e
      obtain ⟨p, h1, rfl⟩ := rep_ref ru
      obtain ⟨vs, h2, r1⟩ := lstAt_ok sim h1 (show lstAt S n = some xs by unfold lstAt; rw [e])
      obtain ⟨d, ds, a1, a2, a3, a4, a5, q⟩ := mem_ok sim rt r1 post
      exact .inl ⟨d, ds, a1, .lst h2 a2, a3, a5, by simpa [memD] using q⟩
    · exact post.elim
  · exact post.elim
theorem notIn_w (hK : X.K = W.K) (hw : X.w = W.w) : OpD W cells wx (rNotInA X.K X.w) (nIn true) := fun σ M S H Q t u v w sim rt ru post => by
  rw [hK, hw]
  unfold nIn at post
  split at post
  · obtain ⟨p, vs, rfl, h1, r1⟩ := rep_tup ru
    obtain ⟨d, ds, a1, a2, a3, a4, a5, q⟩ := mem_ok sim rt r1 post
    exact .inr (.inl ⟨d, ds, a1, .tup h1 a2, a3, a4, by simpa [memD] using q⟩)
  · rename_i n
    split at post
    · rename_i kvs e
      split at post
      · rename_i k ek
        obtain ⟨p, h1, rfl⟩ := rep_ref ru
        obtain ⟨vs, h2, r2⟩ := dct_at sim h1 e
        refine .inr (.inr (.inl ⟨p, _, k, rfl, h2, keyK_rep ek rt, ?_⟩))
        have : (valV ((kvs.map (·.1)).zip vs) k).isSome = (getK kvs k).isSome := by rcases getK_rel kvs vs k r2 with ⟨g1, g2⟩ | ⟨_, _, g1, g2, _⟩ <;> rw [g1, g2] <;> rfl
        rw [this]
        exact here_bl sim post
      · exact post.elim
    · rename_i kvs e
      split at post
      · rename_i k ek
        obtain ⟨p, h1, rfl⟩ := rep_ref ru
        obtain ⟨es, d, r1, r2, pr⟩ := dtp_at sim h1 e
        obtain ⟨b, rfl, k1, k2, _, _⟩ := keyT_ok ek rt
        refine .inr (.inr (.inr ⟨p, b, es, k, rfl, rfl, d, k1, k2, ?_⟩))
        have : (atE es k).isSome = (getN kvs k).isSome := by rcases getN_rel k pr r2 with ⟨g1, g2⟩ | ⟨_, _, g1, g2, _⟩ <;> rw [g1, g2] <;> rfl
        rw [this]
        exact here_bl sim post
      · exact post.elim
    · rename_i xs e
      obtain ⟨p, h1, rfl⟩ := rep_ref ru
      obtain ⟨vs, h2, r1⟩ := lstAt_ok sim h1 (show lstAt S n = some xs by unfold lstAt; rw [e])
      obtain ⟨d, ds, a1, a2, a3, a4, a5, q⟩ := mem_ok sim rt r1 post
      exact .inl ⟨d, ds, a1, .lst h2 a2, a3, a5, by simpa [memD] using q⟩
    · rename_i xs e
      obtain ⟨p, h1, rfl⟩ := rep_ref ru
      obtain ⟨vs, h2, r1⟩ := lstAt_ok sim h1 (show lstAt S n = some xs by unfold lstAt; rw [e])
      obtain ⟨d, ds, a1, a2, a3, a4, a5, q⟩ := mem_ok sim rt r1 post
      exact .inl ⟨d, ds, a1, .lst h2 a2, a3, a5, by simpa [memD] using q⟩
    · exact post.elim
  · exact post.elim

/-! ### d[k] -/
def rIxDct : R2 := fun x y H Q => ∃ a kvs k v, x = .ref a ∧ H a = some (.dK kvs) ∧ y = kV k ∧ valV kvs k = some v ∧ Q v H
def rIxDtp (K : PySem.W.Frag) (w : World) : R2 := fun x y H Q => ∃ a b es k v, x = .ref a ∧ y = .ref b ∧ DN K w H a es ∧ KeyV K H k (.ref b) ∧ k.depth ≤ 8 ∧ atE es k = some v ∧ Q v H
theorem sub_dict {prog : Program} {w : World} {A : Around} {E : Value → Shared → Prop} {s : Shared} {value slice : Expr} {o i : Value} {Q : Value → Shared → Prop} (hT : s.TypeIs o "dict") (hs : subscripted slice false o i = operate [o, i] (getItem o i))
    (h : wpAny (model prog w) A (getItem o i) Q E s) : wpAny (model prog w) A (subscriptTail value slice o i) Q E s := by
  unfold subscriptTail
  refine wpAny_bind ?_
  rw [getitemInPython_of_ne hT.not_modules]
  refine wpAny_bind (wpAny_specialOf hT PySem.F.slot_dict_getitem.lookup ?_)
  have fin : wpAny (model prog w) A (subscripted slice false o i) (fun r s₃ => wpAny (model prog w) A (letTemporaryGo value o r >>= fun _ => pure r) Q E s₃) E s := by
    rw [hs]
    exact wpAny_operating (wpAny_mono h (fun r s₃ h₃ => wpAny_bind (wpAny_letTemporaryGo (wpAny_pure h₃))) fun _ _ x => x)
  first
    | exact wpAny_pure (wpAny_bind fin)
    | exact wpAny_bind (wpAny_pure (wpAny_bind fin))
    | exact wpAny_bind fin
theorem ix_dct (hu : X.A.units + 65 < cLine) : IxR X rIxDct := by
  intro value slice pins s σ H x y v u Q I rx ry ⟨a, kvs, k, z, ex, ha, ey, hv, q⟩ hs
  subst ex ey
  obtain rfl : v = Value.ref a := rx
  have g : DGet H a (kV k) (some z) := hv ▸ DGet.k ha
  exact sub_dict (dict_typeIs I g) hs (d_getItem (by omega) I g ry fun w' s' I' r' => ⟨z, H, I', r', q⟩)
theorem ix_dtp (hu : X.A.units + 65 < cLine) : IxR X (rIxDtp X.K X.w) := by
  intro value slice pins s σ H x y v u Q I rx ry ⟨a, b, es, k, z, ex, ey, d, hk, hd, hv, q⟩ hs
  subst ex ey
  obtain rfl : v = Value.ref a := rx
  obtain rfl : u = Value.ref b := ry
  have hT : s.TypeIs (.ref a) "dict" := by
    obtain ⟨⟨o, ds, ep, h1, h2, _⟩, _⟩ := I.hok a _ d.1
    exact ⟨o, h1, h2.1⟩
  exact sub_dict hT hs (dn_get (by omega) I d hk hd hv fun w' s' I' r' => ⟨z, H, I', r', q⟩)
def rIxA (K : PySem.W.Frag) (w : World) : R2 := fun x y H Q => rIx K x y H Q ∨ (rIxDct x y H Q ∨ rIxDtp K w x y H Q)
theorem ixA (hu : X.A.units + 65 < cLine) : IxR X (rIxA X.K X.w) := IxR.or ix_seq (IxR.or (ix_dct hu) (ix_dtp hu))
theorem get_w (hK : X.K = W.K) (hw : X.w = W.w) : OpD W cells wx (fun x y H Q => rIxDct x y H Q ∨ rIxDtp X.K X.w x y H Q) nGet := fun σ M S H Q t u v w sim rt ru post => by
  rw [hK, hw]
  unfold nGet at post
  split at post
  · rename_i n
    obtain ⟨p, h1, rfl⟩ := rep_ref rt
    split at post
    · rename_i kvs e
      split at post
      · rename_i z ez
        obtain ⟨k, ek, gk⟩ := Option.bind_eq_some_iff.mp ez
        obtain ⟨vs, h2, r2⟩ := dct_at sim h1 e
        rcases getK_rel kvs vs k r2 with ⟨g1, g2⟩ | ⟨t', v', g1, g2, g3⟩
        · rw [gk] at g1; cases g1
        · rw [gk] at g1; cases g1
          exact .inl ⟨p, _, k, v', rfl, h2, keyK_rep ek ru, g2, PostE.here post sim g3.x⟩
      · exact post.elim
    · rename_i kvs e
      split at post
      · rename_i z ez
        obtain ⟨k, ek, gk⟩ := Option.bind_eq_some_iff.mp ez
        obtain ⟨es, d, r1, r2, pr⟩ := dtp_at sim h1 e
        obtain ⟨b, rfl, k1, k2, _, _⟩ := keyT_ok ek ru
        rcases getN_rel k pr r2 with ⟨g1, g2⟩ | ⟨t', v', g1, g2, g3⟩
        · rw [gk] at g1; cases g1
        · rw [gk] at g1; cases g1
          exact .inr ⟨p, b, es, k, v', rfl, rfl, d, k1, k2, g2, PostE.here post sim g3.x⟩
      · exact post.elim
    · exact post.elim
  · exact post.elim
theorem ix_w (hK : X.K = W.K) (hw : X.w = W.w) : OpD W cells wx (rIxA X.K X.w) nIx := fun σ M S H Q t u v w sim rt ru post => by
  unfold nIx at post
  split at post
  · split at post
    · exact .inr (get_w hK hw σ M S H Q _ _ v w sim rt ru post)
    · exact .inr (get_w hK hw σ M S H Q _ _ v w sim rt ru post)
    · exact .inl (idx_w hK σ M S H Q _ _ v w sim rt ru post)
  · exact .inl (idx_w hK σ M S H Q _ _ v w sim rt ru post)

/-! ### d[k] = v -/
def rPutDtp (K : PySem.W.Frag) (w : World) : TSet := fun o i v H Q => ∃ a b es k, o = .ref a ∧ i = .ref b ∧ DN K w H a es ∧ KeyV K H k (.ref b) ∧ k.depth ≤ 8 ∧ es.length < sizeLine ∧ Q (upd H a (DctN w a (putE es k b v)))
theorem set_dtp (hu : X.A.units + 65 < cLine) : PSet X (rPutDtp X.K X.w) := by
  intro pins s σ H o i v ov iv u Q I ro ri rv ⟨a, b, es, k, eo, ei, d, hk, hd, hl, q⟩
  subst eo ei
  obtain rfl : ov = Value.ref a := ro
  obtain rfl : iv = Value.ref b := ri
  exact dn_put (by omega) I d hk hd hl rv fun s' I' => ⟨_, I', q⟩
theorem PSet.either {r r' : TSet} (h : PSet X r) (h' : PSet X r') : PSet X (fun o i v H Q => r o i v H Q ∨ r' o i v H Q) := fun pins s σ H o i v ov iv u Q I ro ri rv q =>
  q.elim (h pins s σ H o i v ov iv u Q I ro ri rv) (h' pins s σ H o i v ov iv u Q I ro ri rv)
def rSetA (K : PySem.W.Frag) (w : World) : TSet := fun o i v H Q => rSetL o i v H Q ∨ (rSetD o i v H Q ∨ rPutDtp K w o i v H Q)
theorem setA (hu : X.A.units + 65 < cLine) : PSet X (rSetA X.K X.w) := PSet.either set_list (PSet.either (set_dict (by omega)) (set_dtp hu))
theorem put_w (hK : X.K = W.K) (hw : X.w = W.w) : SetD W cells wx (fun o i v H Q => rSetD o i v H Q ∨ rPutDtp X.K X.w o i v H Q) nPut := fun σ M S H Q t u w x y z sim rt ru rw' post => by
  rw [hK, hw]
  unfold nPut at post
  split at post
  · rename_i n
    obtain ⟨p, h1, rfl⟩ := rep_ref rt
    split at post
    · rename_i kvs e
      split at post
      · rename_i k ek
        split at post
        · rename_i hc
          simp only [Bool.and_eq_true, decide_eq_true_eq] at hc
          obtain ⟨vs, h2, r2⟩ := dct_at sim h1 e
          have hlen : ((kvs.map (·.1)).zip vs).length < sizeLine := by
            rw [List.length_zip, reps_len r2, line_eq]; simp; exact hc.2
          refine .inl ⟨p, _, rfl, by rw [keyK_rep ek ru]; exact DPut.k h2 hlen, ?_⟩
          have ex : Ext M H M (upd H p (.dK (putK ((kvs.map (·.1)).zip vs) k z))) := ext_write h2 not_fix_dk
          obtain ⟨vs', e1, e2⟩ := putT_rel kvs vs k r2 (rw'.rep hc.1)
          exact post M _ ex (sim.write (ob' := .dct (putT kvs k w)) e h1 h2 not_fix_dk rfl rfl ⟨vs', by rw [upd_same, e1], e2.mono ex⟩)
        · exact post.elim
      · exact post.elim
    · rename_i kvs e
      split at post
      · rename_i k ek
        split at post
        · rename_i hc
          simp only [Bool.and_eq_true, decide_eq_true_eq] at hc
          obtain ⟨es, d, r1, r2, pr⟩ := dtp_at sim h1 e
          obtain ⟨b, rfl, k1, k2, k3, k4⟩ := keyT_ok ek ru
          have hlen : es.length < sizeLine := by rw [← paired_lenT pr, line_eq]; exact hc.2
          refine .inr ⟨p, b, es, k, rfl, rfl, d, k1, k2, hlen, ?_⟩
          have ex : Ext M H M (upd H p (DctN W.w p (putE es k b z))) := ext_write d.1 not_fix_dct
          obtain ⟨a1, a2, a3⟩ := putN_rel pr r1 r2 k4 k3 k2 (rw'.rep hc.1)
          exact post M _ ex (sim.write (ob' := .dtp (putN kvs u k w)) e h1 d.1 not_fix_dct rfl rfl ⟨_, upd_same, a1.mono ex, a2.mono ex, a3⟩ (fun ps zz => by unfold DctN at zz; cases zz))
        · exact post.elim
      · exact post.elim
    · exact post.elim
  · exact post.elim
theorem setA_w (hK : X.K = W.K) (hw : X.w = W.w) : SetD W cells wx (rSetA X.K X.w) nSetA := fun σ M S H Q t u w x y z sim rt ru rw' post => by
  unfold nSetA at post
  split at post
  · split at post
    · exact .inr (put_w hK hw σ M S H Q _ _ _ x y z sim rt ru rw' post)
    · exact .inr (put_w hK hw σ M S H Q _ _ _ x y z sim rt ru rw' post)
    · exact .inl (set_w σ M S H Q _ _ _ x y z sim rt ru rw' post)
  · exact post.elim

/-! ### len(d), {} -/
theorem lenN_body {prog : Program} {w : World} {A : Around} {E : Value → Shared → Prop} {s : Shared} {d : Addr} {es : Array DictEntry} {ep : Nat} {Q : Value → Shared → Prop} (hd : (d == sysModules) = false) (hm : s.heap.DictRaw d es ep) (hfit : (es.size : Int) < 2 ^ 63)
    (h : Q (.int es.size (s.toks + 1)) { s with toks := s.toks + 1 + 1 }) : wpAny (model prog w) A (Builtin.«len» ⟨[.ref d], []⟩) (fun fin s' => ∃ r, fin = .done (.ret r) ∧ Q r s') E s := by
  unfold Builtin.«len»
  refine wpAny_bind (m := oneArg "len" _) (wpAny_pure ?_)
  refine wpAny_bind (m := callSpecial? (.ref d) (Str.ofString "__len__")) (wpAny_callSpecial?_slot (name := Str.ofString "__len__") hm.typeIs PySem.F.slot_dict_len (call_len_raw hd hm ?_))
  refine wpAny_bind (wpAny_holding (wpAny_pure ?_))
  refine wpAny_bind (wpAny_letGo ?_)
  show wpAny _ _ (if ((es.size : Nat) : Int) < 0 then _ else _) _ _ _
  rw [if_neg (by omega)]
  show wpAny _ _ (if ((es.size : Nat) : Int) ≥ 2 ^ 63 then _ else _) _ _ _
  rw [if_neg (by omega)]
  exact wpAny_bind (wpAny_mkInt (wpAny_pure ⟨_, rfl, h⟩))
def rLenDtp (w : World) : List V → Hp → VK → Prop := fun xs H Q => ∃ a es, xs = [V.ref a] ∧ H a = some (DctN w a es) ∧ Q (.int (es.length : Nat)) H
theorem call_lenN : CallR X (.builtin "len") (rLenDtp X.w) := by
  intro pins s σ H xs us Q I r ⟨a, es, e, ha, q⟩
  subst e
  cases r with
  | cons r1 r2 =>
    cases r2
    rename_i u
    obtain rfl : u = Value.ref a := r1
    obtain ⟨⟨o, ds, ep, h1, h2, h3, ⟨us, h4, h5⟩, h6, h7, h8⟩, _, _⟩ := I.hok a _ ha
    have e : ds.size = es.length := by rw [← Array.length_toList, h5, List.length_map, paired_lenT h4]
    refine Calls.call_function_entry kind_len plain_len entry_len (args_len1 _) (lenN_body h8 ⟨o, h1, h2, h3⟩ (by rw [e]; rw [sizeLine_eq] at h7; omega) ?_)
    rw [e]
    exact ⟨.int es.length, H, I.kept fun _ _ z => z, ⟨_, rfl⟩, q⟩
def rLenA (K : PySem.W.Frag) (w : World) : List V → Hp → VK → Prop := fun xs H Q => (∃ x n, xs = [x] ∧ LenV K x H n ∧ Q (.int (n : Nat)) H) ∨ ((∃ a kvs, xs = [V.ref a] ∧ H a = some (.dK kvs) ∧ Q (.int (kvs.length : Nat)) H) ∨ rLenDtp w xs H Q)
theorem call_lenA : CallR X (.builtin "len") (rLenA X.K X.w) := CallR.either call_len (CallR.either call_lenD call_lenN)
theorem lenA_w (hK : X.K = W.K) (hw : X.w = W.w) : CallD W cells wx (rLenA X.K X.w) nLenA := fun σ M S H Q ts vs sim pr post => by
  unfold nLenA at post
  split at post
  · rename_i n
    split at post
    · rename_i kvs e
      obtain ⟨v, rfl, r⟩ := paired1 pr
      obtain ⟨p, h1, rfl⟩ := rep_ref r
      obtain ⟨ws, h2, r2⟩ := dct_at sim h1 e
      refine .inr (.inl ⟨p, _, rfl, h2, ?_⟩)
      have : ((kvs.map (·.1)).zip ws).length = kvs.length := by rw [List.length_zip, reps_len r2]; simp
      rw [this]
      exact here_int sim post
    · rename_i kvs e
      obtain ⟨v, rfl, r⟩ := paired1 pr
      obtain ⟨p, h1, rfl⟩ := rep_ref r
      obtain ⟨es, d, r1, r2, pr'⟩ := dtp_at sim h1 e
      refine .inr (.inr ⟨p, es, rfl, by rw [hw]; exact d.1, ?_⟩)
      rw [← paired_lenT pr']
      exact here_int sim post
    · exact .inl (len_w hK σ M S H Q _ vs sim pr post)
  · exact .inl (len_w hK σ M S H Q _ vs sim pr post)
theorem ee_dnewK {pos : Pos} : EE X W cells wx (.Dict [] [] pos) (fun _ S => newO (.dct []) S) := pe_weak pe_dnewK fun σ H Q ⟨M, S, env, sim, er, post⟩ p hp => newO_ok sim post hp ⟨[], upd_same, reps_nil⟩
def tDNewN (w : World) : TE := fun _ H Q => ∀ p, H p = none → Q (.ref p) (upd H p (DctN w p []))
theorem pe_dnewN {pos : Pos} : PE X (.Dict [] [] pos) (tDNewN X.w) := ⟨fun pins s σ H Q I h =>
  wpAny_Dict_empty ⟨.ref s.heap.objs.size, _, I.laid (a := s.heap.objs.size) (o := DctN X.w s.heap.objs.size []) (t' := s.toks) (fun _ _ q => Heap.get?_push_of_some _ q) (Nat.le_refl _) (dn_empty I.big), rfl, h _ (I.hok.fresh (Nat.le_refl _))⟩⟩
theorem ee_dnewN {pos : Pos} (hw : X.w = W.w) : EE X W cells wx (.Dict [] [] pos) (fun _ S => newO (.dtp []) S) := pe_weak pe_dnewN fun σ H Q ⟨M, S, env, sim, er, post⟩ p hp => newO_ok sim post hp ⟨[], by rw [upd_same, hw], reps_nil, reps_nil, .nil⟩
end
end DD
set_option Elab.async false
set_option linter.all false
set_option maxRecDepth 100000
set_option maxHeartbeats 4000000
/-! The Den layer, part 19: zip of lists and tuples, any target. -/
namespace DD
open PySem PySem.Spec PyProof.Rows L2

/-- a list (k) or a tuple -/
def SqA (k : Bool) (h : Heap) (l : Addr) (xs : Array Value) : Prop := if k then h.IsList l xs else h.IsTuple l xs
def ItA (k : Bool) (h : Heap) (it l : Addr) (i : Nat) : Prop := if k then h.IsListIter it l i else h.IsTupleIter it l i
section
variable {k : Bool} {h h' : Heap} {l it b : Addr} {xs : Array Value} {i : Nat}
theorem SqA.ext (x : SqA k h l xs) (hs : Heap.ExtBut b h h') (hb : l ≠ b) : SqA k h' l xs := by
  cases k
  · obtain ⟨o, ho, r⟩ := (show h.IsTuple l xs from x)
    exact (show h'.IsTuple l xs from ⟨o, hs l o hb ho, r⟩)
  · obtain ⟨o, ho, r⟩ := (show h.IsList l xs from x)
    exact (show h'.IsList l xs from ⟨o, hs l o hb ho, r⟩)
theorem ItA.ext (x : ItA k h it l i) (hs : Heap.ExtBut b h h') (hb : it ≠ b) : ItA k h' it l i := by
  cases k
  · obtain ⟨o, ho, r⟩ := (show h.IsTupleIter it l i from x)
    exact (show h'.IsTupleIter it l i from ⟨o, hs it o hb ho, r⟩)
  · obtain ⟨o, ho, r⟩ := (show h.IsListIter it l i from x)
    exact (show h'.IsListIter it l i from ⟨o, hs it o hb ho, r⟩)
theorem ItA.at (x : ItA k h it l i) (hs : ∀ o, h.get? it = some o → h'.get? it = some o) : ItA k h' it l i := by
  cases k
  · obtain ⟨o, ho, r⟩ := (show h.IsTupleIter it l i from x)
    exact (show h'.IsTupleIter it l i from ⟨o, hs o ho, r⟩)
  · obtain ⟨o, ho, r⟩ := (show h.IsListIter it l i from x)
    exact (show h'.IsListIter it l i from ⟨o, hs o ho, r⟩)
theorem ItA.obj (x : ItA k h it l i) : ∃ o, h.get? it = some o ∧ o.data = .fields #[.ref l, .int i 0] := by
  cases k
  · obtain ⟨o, ho, _, hd⟩ := (show h.IsTupleIter it l i from x); exact ⟨o, ho, hd⟩
  · obtain ⟨o, ho, _, hd⟩ := (show h.IsListIter it l i from x); exact ⟨o, ho, hd⟩
end
section
variable {prog : Program} {w : World} {A : Around} {E : Value → Shared → Prop} {s : Shared} {k : Bool} {it l : Addr} {i : Nat} {items : Array Value}
theorem next_itemA {x : Value} {Q : Value → Shared → Prop} (hit : ItA k s.heap it l i) (hl : SqA k s.heap l items) (hx : items[i]? = some x) (hQ : ∀ h', ItA k h' it l (i + 1) → Heap.SameBut it s.heap h' → Q x { s with heap := h' }) :
    wpAny (model prog w) A (Builtin.SmallTypes.nextOf (.ref it)) Q E s := by
  cases k
  · exact RZ.nextOf_tuple_item hit hl hx hQ
  · exact wpAny_nextOf_list_item hit hl hx hQ
theorem next_endA {Q : Value → Shared → Prop} (hh : A.handled = none) (hit : ItA k s.heap it l i) (hl : SqA k s.heap l items) (hx : items[i]? = none)
    (hE : ∀ h' e, Heap.ExtBut it s.heap h' → (∃ o, h'.get? e = some o ∧ o.cls = .type "StopIteration") → E (.ref e) { s with heap := h' }) : wpAny (model prog w) A (Builtin.SmallTypes.nextOf (.ref it)) Q E s := by
  cases k
  · exact RZ.nextOf_tuple_end hh hit hl hx hE
  · exact wpAny_nextOf_list_end hh hit hl hx hE
theorem wpAny_alive {a : Addr} {Q : Option Obj → Shared → Prop} (h : Q (s.heap.get? a) s) : wpAny (model prog w) A (loadIfAlive a) Q E s := fun Γ p _ => by
  show Sem.wp _ Γ (.loadIfAlive a .pure) _ _ p s
  rw [Sem.wp_loadIfAlive]
  simpa using h
abbrev IsZ (h : Heap) (z TI TO : Addr) (f0 : Value) (b : Bool) : Prop := h.get? z = some { cls := .type "zip", dict := none, data := .fields #[f0, .bool b, .bool false, .ref TI, .ref TO], slots := #[] }
def Free0 (f0 : Value) : Prop := f0 = .none ∨ ∃ a : Nat, f0 = rawInt a
theorem free_asks {z TI TO : Addr} {f0 : Value} {b : Bool} {Q : Bool → Shared → Prop} (hz : IsZ s.heap z TI TO f0 b) (hf : Free0 f0) (h1 : Q true s) (h2 : ∀ h', IsZ h' z TI TO f0 true → Heap.SameBut z s.heap h' → Q false { s with heap := h' }) :
    wpAny (model prog w) A (Builtin.SmallTypes.ownedTupleIsFree (.ref z)) Q E s := by
  unfold Builtin.SmallTypes.ownedTupleIsFree
  rcases hf with rfl | ⟨a, rfl⟩
  · exact wpAny_bind (wpAny_field hz rfl (x := .none) rfl (wpAny_pure h1))
  · refine wpAny_bind (wpAny_field hz rfl (x := rawInt a) rfl ?_)
    simp only [rawInt]
    refine wpAny_bind (wpAny_alive ?_)
    cases ha : s.heap.get? (a : Int).toNat with
    | none => exact wpAny_pure h1
    | some o =>
      simp only [Option.isNone_some, Bool.false_eq_true, if_false]
      refine wpAny_bind (wpAny_field hz rfl (x := .bool b) rfl ?_)
      cases b with
      | true => exact wpAny_pure (h2 s.heap hz ⟨rfl, fun _ _ => rfl⟩)
      | false =>
        rw [if_pos (by decide)]
        refine wpAny_bind (wpAny_setField_rec hz (by simp) fun h' hz' hs' => wpAny_pure (h2 h' hz' hs'))
section
variable {z TI TO i1 i2 l1 l2 : Addr} {k1 k2 : Bool} {n1 n2 : Nat} {xs ys : Array Value} {x y a b f0 : Value} {fb : Bool}
theorem zipA_item {Q : Value → Shared → Prop} (D : ZipApart z TI TO i1 i2 l1 l2) (hz : IsZ s.heap z TI TO f0 fb) (hf : Free0 f0) (hTI : IsPair s.heap TI (.ref i1) (.ref i2)) (hTO : IsPair s.heap TO a b)
    (h1 : ItA k1 s.heap i1 l1 n1) (h2 : ItA k2 s.heap i2 l2 n2) (hl1 : SqA k1 s.heap l1 xs) (hl2 : SqA k2 s.heap l2 ys) (hx : xs[n1]? = some x) (hy : ys[n2]? = some y)
    (hQ : ∀ h' f1 b1, IsZ h' z TI TO f1 b1 → Free0 f1 → (∃ a b, IsPair h' TO a b) → ItA k1 h' i1 l1 (n1 + 1) → ItA k2 h' i2 l2 (n2 + 1) → IsPair h' s.heap.objs.size x y → h'.objs.size = s.heap.objs.size + 1 →
      (∀ c o, c ≠ z → c ≠ TO → c ≠ i1 → c ≠ i2 → s.heap.get? c = some o → h'.get? c = some o) → Q (.ref s.heap.objs.size) { s with heap := h' }) :
    wpAny (model prog w) A (Builtin.«zip.__next__» ⟨[.ref z], []⟩) (fun fin s' => ∃ v, fin = .done (.ret v) ∧ Q v s') E s := by
  show wpAny _ _ (field (.ref z) 2 >>= _) _ _ _
  refine wpAny_bind (wpAny_field hz rfl (x := .bool false) rfl ?_)
  show wpAny _ _ (field (.ref z) 3 >>= _) _ _ _
  refine wpAny_bind (wpAny_field hz rfl (x := .ref TI) rfl ?_)
  refine wpAny_bind (wpAny_seqItems hTI rfl ?_)
  show wpAny _ _ (Builtin.SmallTypes.ownedTupleIsFree (.ref z) >>= _) _ _ _
  refine wpAny_bind (free_asks hz hf ?_ fun h₀ hz₀ hs₀ => ?_)
  · simp only [if_true]
    refine wpAny_bind (wpAny_rule ?_)
    refine wpAny_bind (wpAny_field hz rfl (x := .ref TO) rfl ?_)
    refine wpAny_bind (wpAny_setField_rec hz (by simp) fun h₁ hz₁ hs₁ => ?_)
    replace hz₁ : IsZ h₁ z TI TO .ellipsis fb := hz₁
    refine wpAny_bind ?_
    simp only [List.zipIdx_cons, List.zipIdx_nil, List.forIn_cons, List.forIn_nil]
    refine wpAny_bind (wpAny_bind (wpAny_onRaise ?_))
    show wpAny _ _ (Builtin.SmallTypes.nextOf (.ref i1) >>= _) _ _ _
    refine wpAny_bind (next_itemA (h1.ext hs₁.extBut D.i1z) (hl1.ext hs₁.extBut D.l1z) hx fun h₂ h1₂ hs₂ => wpAny_pure ?_)
    have hTO₂ : IsPair h₂ TO a b := hs₂.extBut _ _ D.TOi1 (hs₁.extBut _ _ D.TOz hTO)
    refine wpAny_bind (wpAny_seqItems hTO₂ rfl ?_)
    refine wpAny_bind (wpAny_updateSeq_pair hTO₂ fun h₃ hTO₃ hs₃ => ?_)
    replace hTO₃ : IsPair h₃ TO x b := hTO₃
    refine wpAny_bind (wpAny_letGo (wpAny_pure ?_))
    refine wpAny_bind (wpAny_bind (wpAny_onRaise ?_))
    show wpAny _ _ (Builtin.SmallTypes.nextOf (.ref i2) >>= _) _ _ _
    refine wpAny_bind (next_itemA (((h2.ext hs₁.extBut D.i2z).ext hs₂.extBut D.i12.symm).ext hs₃.extBut D.TOi2.symm) (((hl2.ext hs₁.extBut D.l2z).ext hs₂.extBut D.l2i1).ext hs₃.extBut D.l2TO) hy fun h₄ h2₄ hs₄ => wpAny_pure ?_)
    have hTO₄ : IsPair h₄ TO x b := hs₄.extBut _ _ D.TOi2 hTO₃
    refine wpAny_bind (wpAny_seqItems hTO₄ rfl ?_)
    refine wpAny_bind (wpAny_updateSeq_pair hTO₄ fun h₅ hTO₅ hs₅ => ?_)
    replace hTO₅ : IsPair h₅ TO x y := hTO₅
    refine wpAny_bind (wpAny_letGo (wpAny_pure (wpAny_pure ?_)))
    refine wpAny_bind (wpAny_seqItems hTO₅ rfl ?_)
    refine wpAny_bind (wpAny_newTuple ?_)
    have hsz : h₅.objs.size = s.heap.objs.size := by rw [hs₅.1, hs₄.1, hs₃.1, hs₂.1, hs₁.1]
    have hz₅ : IsZ h₅ z TI TO .ellipsis fb := hs₅.extBut _ _ D.TOz.symm (hs₄.extBut _ _ D.i2z.symm (hs₃.extBut _ _ D.TOz.symm (hs₂.extBut _ _ D.i1z.symm hz₁)))
    have hk₅ : ∀ c o, c ≠ z → c ≠ TO → c ≠ i1 → c ≠ i2 → s.heap.get? c = some o → h₅.get? c = some o := fun c o c1 c2 c3 c4 e =>
      hs₅.extBut _ _ c2 (hs₄.extBut _ _ c4 (hs₃.extBut _ _ c2 (hs₂.extBut _ _ c3 (hs₁.extBut _ _ c1 e))))
    have h1₅ : ItA k1 h₅ i1 l1 (n1 + 1) := ((h1₂.ext hs₃.extBut D.TOi1.symm).ext hs₄.extBut D.i12).ext hs₅.extBut D.TOi1.symm
    have h2₅ : ItA k2 h₅ i2 l2 (n2 + 1) := h2₄.ext hs₅.extBut D.TOi2.symm
    have hzlt : z < h₅.objs.size := Heap.lt_size hz₅
    show wpAny _ _ (Builtin.SmallTypes.ownedTupleHandOut (.ref z) (.ref h₅.objs.size) >>= _) _ _ _
    refine wpAny_bind ?_
    unfold Builtin.SmallTypes.ownedTupleHandOut
    have hz₆ : IsZ (h₅.push { cls := .type "tuple", data := .seq #[x, y] }) z TI TO .ellipsis fb := Heap.get?_push_of_some _ hz₅
    refine wpAny_bind (wpAny_setField_rec hz₆ (by simp) fun h₇ hz₇ hs₇ => ?_)
    replace hz₇ : IsZ h₇ z TI TO (rawInt h₅.objs.size) fb := hz₇
    refine wpAny_setField_rec hz₇ (by simp) fun h₈ hz₈ hs₈ => ?_
    replace hz₈ : IsZ h₈ z TI TO (rawInt h₅.objs.size) false := hz₈
    have up : ∀ c o, c ≠ z → h₅.get? c = some o → h₈.get? c = some o := fun c o c1 e => hs₈.extBut _ _ c1 (hs₇.extBut _ _ c1 (Heap.get?_push_of_some _ e))
    have hT₈ : IsPair h₈ h₅.objs.size x y := hs₈.extBut _ _ (Nat.ne_of_gt hzlt) (hs₇.extBut _ _ (Nat.ne_of_gt hzlt) (Heap.get?_push_size _ rfl))
    have hz8 : h₈.objs.size = h₅.objs.size + 1 := by rw [hs₈.1, hs₇.1, Heap.size_push]
    rw [hsz] at hz₈ hT₈ hz8
    refine wpAny_pure ⟨_, rfl, ?_⟩
    show Q (.ref h₅.objs.size) _
    rw [hsz]
    exact hQ h₈ _ _ hz₈ (.inr ⟨_, rfl⟩) ⟨_, _, up _ _ D.TOz hTO₅⟩ (h1₅.at fun o e => up _ o D.i1z e) (h2₅.at fun o e => up _ o D.i2z e) hT₈ hz8 fun c o c1 c2 c3 c4 e => up c o c1 (hk₅ c o c1 c2 c3 c4 e)
  · simp only [Bool.false_eq_true, if_false]
    refine wpAny_bind ?_
    show wpAny _ _ (forIn (#[.ref i1, .ref i2] : Array Value) _ _) _ _ _
    rw [← Array.forIn_toList]
    simp only [List.forIn_cons, List.forIn_nil]
    refine wpAny_bind (wpAny_bind (wpAny_holding ?_))
    show wpAny _ _ (Builtin.SmallTypes.nextOf (.ref i1) >>= _) _ _ _
    refine wpAny_bind (next_itemA (h1.ext hs₀.extBut D.i1z) (hl1.ext hs₀.extBut D.l1z) hx fun h₂ h1₂ hs₂ => wpAny_pure (wpAny_pure ?_))
    refine wpAny_bind (wpAny_bind (wpAny_holding ?_))
    show wpAny _ _ (Builtin.SmallTypes.nextOf (.ref i2) >>= _) _ _ _
    refine wpAny_bind (next_itemA ((h2.ext hs₀.extBut D.i2z).ext hs₂.extBut D.i12.symm) ((hl2.ext hs₀.extBut D.l2z).ext hs₂.extBut D.l2i1) hy fun h₄ h2₄ hs₄ => wpAny_pure (wpAny_pure (wpAny_pure ?_)))
    have hsz : h₄.objs.size = s.heap.objs.size := by rw [hs₄.1, hs₂.1, hs₀.1]
    have hz₄ : IsZ h₄ z TI TO f0 true := hs₄.extBut _ _ D.i2z.symm (hs₂.extBut _ _ D.i1z.symm hz₀)
    have hTO₄ : IsPair h₄ TO a b := hs₄.extBut _ _ D.TOi2 (hs₂.extBut _ _ D.TOi1 (hs₀.extBut _ _ D.TOz hTO))
    have h1₄ : ItA k1 h₄ i1 l1 (n1 + 1) := h1₂.ext hs₄.extBut D.i12
    have hk₄ : ∀ c o, c ≠ z → c ≠ TO → c ≠ i1 → c ≠ i2 → s.heap.get? c = some o → h₄.get? c = some o := fun c o c1 c2 c3 c4 e => hs₄.extBut _ _ c4 (hs₂.extBut _ _ c3 (hs₀.extBut _ _ c1 e))
    refine wpAny_bind (wpAny_newTuple (hsz := by show 2 ≤ sizeLine; decide) (wpAny_pure ⟨_, rfl, ?_⟩))
    show Q (.ref h₄.objs.size) _
    have hT : IsPair (h₄.push { cls := .type "tuple", data := .seq #[x, y] }) h₄.objs.size x y := Heap.get?_push_size _ rfl
    rw [hsz] at hT ⊢
    exact hQ _ _ _ (Heap.get?_push_of_some _ hz₄) hf ⟨_, _, Heap.get?_push_of_some _ hTO₄⟩ (h1₄.at fun o e => Heap.get?_push_of_some _ e) (h2₄.at fun o e => Heap.get?_push_of_some _ e) hT (by rw [Heap.size_push, hsz]) fun c o c1 c2 c3 c4 e => Heap.get?_push_of_some _ (hk₄ c o c1 c2 c3 c4 e)
theorem zipA_end {Q : Fin → Shared → Prop} (hh : A.handled = none) (D : ZipApart z TI TO i1 i2 l1 l2) (hz : IsZ s.heap z TI TO f0 fb) (hf : Free0 f0) (hTI : IsPair s.heap TI (.ref i1) (.ref i2)) (hTO : IsPair s.heap TO a b)
    (h1 : ItA k1 s.heap i1 l1 n1) (h2 : ItA k2 s.heap i2 l2 n2) (hl1 : SqA k1 s.heap l1 xs) (hl2 : SqA k2 s.heap l2 ys) (hend : xs[n1]? = none ∨ ys[n2]? = none)
    (hE : ∀ h' e, (∀ c o, c ≠ z → c ≠ TO → c ≠ i1 → c ≠ i2 → s.heap.get? c = some o → h'.get? c = some o) → (∃ o, h'.get? e = some o ∧ o.cls = .type "StopIteration") → E (.ref e) { s with heap := h' }) :
    wpAny (model prog w) A (Builtin.«zip.__next__» ⟨[.ref z], []⟩) Q E s := by
  show wpAny _ _ (field (.ref z) 2 >>= _) _ _ _
  refine wpAny_bind (wpAny_field hz rfl (x := .bool false) rfl ?_)
  show wpAny _ _ (field (.ref z) 3 >>= _) _ _ _
  refine wpAny_bind (wpAny_field hz rfl (x := .ref TI) rfl ?_)
  refine wpAny_bind (wpAny_seqItems hTI rfl ?_)
  show wpAny _ _ (Builtin.SmallTypes.ownedTupleIsFree (.ref z) >>= _) _ _ _
  refine wpAny_bind (free_asks hz hf ?_ fun h₀ hz₀ hs₀ => ?_)
  · simp only [if_true]
    refine wpAny_bind (wpAny_rule ?_)
    refine wpAny_bind (wpAny_field hz rfl (x := .ref TO) rfl ?_)
    refine wpAny_bind (wpAny_setField_rec hz (by simp) fun h₁ hz₁ hs₁ => ?_)
    replace hz₁ : IsZ h₁ z TI TO .ellipsis fb := hz₁
    refine wpAny_bind ?_
    simp only [List.zipIdx_cons, List.zipIdx_nil, List.forIn_cons, List.forIn_nil]
    refine wpAny_bind (wpAny_bind (wpAny_onRaise ?_))
    show wpAny _ _ (Builtin.SmallTypes.nextOf (.ref i1) >>= _) _ _ _
    cases hx : xs[n1]? with
    | none =>
      refine wpAny_bind (next_endA hh (h1.ext hs₁.extBut D.i1z) (hl1.ext hs₁.extBut D.l1z) hx fun h₂ e hs₂ he => ?_)
      obtain ⟨oe, hoe, hce⟩ := he
      have hz₂ : IsZ h₂ z TI TO .ellipsis fb := hs₂ _ _ D.i1z.symm hz₁
      have hez : e ≠ z := fun x => by subst x; rw [hz₂] at hoe; cases hoe; simp at hce
      exact wpAny_setField_rec hz₂ (by simp) fun h₃ _ hs₃ => hE h₃ e (fun c o c1 _ c3 _ x => hs₃.extBut _ _ c1 (hs₂ _ _ c3 (hs₁.extBut _ _ c1 x))) ⟨oe, hs₃.extBut _ _ hez hoe, hce⟩
    | some x =>
      have hy : ys[n2]? = none := by rcases hend with h | h; rw [hx] at h; cases h; exact h
      refine wpAny_bind (next_itemA (h1.ext hs₁.extBut D.i1z) (hl1.ext hs₁.extBut D.l1z) hx fun h₂ h1₂ hs₂ => wpAny_pure ?_)
      have hTO₂ : IsPair h₂ TO a b := hs₂.extBut _ _ D.TOi1 (hs₁.extBut _ _ D.TOz hTO)
      refine wpAny_bind (wpAny_seqItems hTO₂ rfl ?_)
      refine wpAny_bind (wpAny_updateSeq_pair hTO₂ fun h₃ hTO₃ hs₃ => ?_)
      refine wpAny_bind (wpAny_letGo (wpAny_pure ?_))
      refine wpAny_bind (wpAny_bind (wpAny_onRaise ?_))
      show wpAny _ _ (Builtin.SmallTypes.nextOf (.ref i2) >>= _) _ _ _
      refine wpAny_bind (next_endA hh (((h2.ext hs₁.extBut D.i2z).ext hs₂.extBut D.i12.symm).ext hs₃.extBut D.TOi2.symm) (((hl2.ext hs₁.extBut D.l2z).ext hs₂.extBut D.l2i1).ext hs₃.extBut D.l2TO) hy fun h₄ e hs₄ he => ?_)
      obtain ⟨oe, hoe, hce⟩ := he
      have hz₄ : IsZ h₄ z TI TO .ellipsis fb := hs₄ _ _ D.i2z.symm (hs₃.extBut _ _ D.TOz.symm (hs₂.extBut _ _ D.i1z.symm hz₁))
      have hez : e ≠ z := fun x => by subst x; rw [hz₄] at hoe; cases hoe; simp at hce
      exact wpAny_setField_rec hz₄ (by simp) fun h₅ _ hs₅ => hE h₅ e (fun c o c1 c2 c3 c4 x => hs₅.extBut _ _ c1 (hs₄ _ _ c4 (hs₃.extBut _ _ c2 (hs₂.extBut _ _ c3 (hs₁.extBut _ _ c1 x))))) ⟨oe, hs₅.extBut _ _ hez hoe, hce⟩
  · simp only [Bool.false_eq_true, if_false]
    refine wpAny_bind ?_
    show wpAny _ _ (forIn (#[.ref i1, .ref i2] : Array Value) _ _) _ _ _
    rw [← Array.forIn_toList]
    simp only [List.forIn_cons, List.forIn_nil]
    refine wpAny_bind (wpAny_bind (wpAny_holding ?_))
    show wpAny _ _ (Builtin.SmallTypes.nextOf (.ref i1) >>= _) _ _ _
    cases hx : xs[n1]? with
    | none =>
      exact wpAny_bind (next_endA hh (h1.ext hs₀.extBut D.i1z) (hl1.ext hs₀.extBut D.l1z) hx fun h₂ e hs₂ he => hE h₂ e (fun c o c1 _ c3 _ x => hs₂ _ _ c3 (hs₀.extBut _ _ c1 x)) he)
    | some x =>
      have hy : ys[n2]? = none := by rcases hend with h | h; rw [hx] at h; cases h; exact h
      refine wpAny_bind (next_itemA (h1.ext hs₀.extBut D.i1z) (hl1.ext hs₀.extBut D.l1z) hx fun h₂ h1₂ hs₂ => wpAny_pure (wpAny_pure ?_))
      refine wpAny_bind (wpAny_bind (wpAny_holding ?_))
      show wpAny _ _ (Builtin.SmallTypes.nextOf (.ref i2) >>= _) _ _ _
      exact wpAny_bind (next_endA hh ((h2.ext hs₀.extBut D.i2z).ext hs₂.extBut D.i12.symm) ((hl2.ext hs₀.extBut D.l2z).ext hs₂.extBut D.l2i1) hy fun h₄ e hs₄ he =>
        hE h₄ e (fun c o c1 c2 c3 c4 x => hs₄ _ _ c4 (hs₂.extBut _ _ c3 (hs₀.extBut _ _ c1 x))) he)
theorem pyNext_zipA {Q : Option Value → Shared → Prop} (D : ZipApart z TI TO i1 i2 l1 l2) (hz : IsZ s.heap z TI TO f0 fb) (hf : Free0 f0) (hTI : IsPair s.heap TI (.ref i1) (.ref i2)) (hTO : IsPair s.heap TO a b)
    (h1 : ItA k1 s.heap i1 l1 n1) (h2 : ItA k2 s.heap i2 l2 n2) (hl1 : SqA k1 s.heap l1 xs) (hl2 : SqA k2 s.heap l2 ys) (hx : xs[n1]? = some x) (hy : ys[n2]? = some y)
    (hQ : ∀ h' f1 b1, IsZ h' z TI TO f1 b1 → Free0 f1 → (∃ a b, IsPair h' TO a b) → ItA k1 h' i1 l1 (n1 + 1) → ItA k2 h' i2 l2 (n2 + 1) → IsPair h' s.heap.objs.size x y → h'.objs.size = s.heap.objs.size + 1 →
      (∀ c o, c ≠ z → c ≠ TO → c ≠ i1 → c ≠ i2 → s.heap.get? c = some o → h'.get? c = some o) → Q (some (.ref s.heap.objs.size)) { s with heap := h' }) : wpAny (model prog w) A (pyNext (.ref z)) Q E s := by
  have hT : s.TypeIs (.ref z) "zip" := ⟨_, hz, rfl⟩
  unfold pyNext
  exact wpAny_bind (wpAny_attempt (wpAny_callSpecial?_slot (name := Str.ofString "__next__") hT PySem.F.slot_zip_next (wpAny_call_entry PySem.F.slot_zip_next hT PySem.F.entry_zip_next
    (zipA_item D hz hf hTI hTO h1 h2 hl1 hl2 hx hy fun h' f1 b1 a1 a2 a3 a4 a5 a6 a7 a8 => wpAny_pure (hQ h' f1 b1 a1 a2 a3 a4 a5 a6 a7 a8)) (PySem.F.args_zip_next_1 _))))
theorem pyNext_zipA_end {Q : Option Value → Shared → Prop} (hh : A.handled = none) (D : ZipApart z TI TO i1 i2 l1 l2) (hz : IsZ s.heap z TI TO f0 fb) (hf : Free0 f0) (hTI : IsPair s.heap TI (.ref i1) (.ref i2)) (hTO : IsPair s.heap TO a b)
    (h1 : ItA k1 s.heap i1 l1 n1) (h2 : ItA k2 s.heap i2 l2 n2) (hl1 : SqA k1 s.heap l1 xs) (hl2 : SqA k2 s.heap l2 ys) (hend : xs[n1]? = none ∨ ys[n2]? = none)
    (hQ : ∀ h', (∀ c o, c ≠ z → c ≠ TO → c ≠ i1 → c ≠ i2 → s.heap.get? c = some o → h'.get? c = some o) → Q none { s with heap := h' }) : wpAny (model prog w) A (pyNext (.ref z)) Q E s := by
  have hT : s.TypeIs (.ref z) "zip" := ⟨_, hz, rfl⟩
  unfold pyNext
  refine wpAny_bind (wpAny_attempt (wpAny_callSpecial?_slot (name := Str.ofString "__next__") hT PySem.F.slot_zip_next (wpAny_call_entry PySem.F.slot_zip_next hT PySem.F.entry_zip_next
    (zipA_end hh D hz hf hTI hTO h1 h2 hl1 hl2 hend fun h' e hk he => ?_) (PySem.F.args_zip_next_1 _))))
  obtain ⟨o, ho, hc⟩ := he
  refine wpAny_bind (wpAny_isInstance (T := "StopIteration") (b := true) ⟨o, ho, hc⟩ isSubtype_stop ?_)
  exact wpAny_pure (hQ _ hk)
/-- the step ahead of the store, any target -/
theorem go_zipA {tg : Expr} {T : Addr} {Q : Unit → Shared → Prop} (hz : IsZ s.heap z TI TO f0 fb) (hf : Free0 f0) (hQ : ∀ h' f1, IsZ h' z TI TO f1 fb → Free0 f1 → Heap.SameBut z s.heap h' → Q () { s with heap := h' }) :
    wpAny (model prog w) A (letOwnedTupleGo tg (.ref z) (.ref T)) Q E s := by
  have stay : Q () s := hQ s.heap f0 hz hf ⟨rfl, fun _ _ => rfl⟩
  have main : wpAny (model prog w) A (do
      let o ← load z
      match o.cls, o.data with
      | .type n, .fields vs => if ["enumerate", "zip", "dict_itemiterator", "dict_reverseitemiterator", "odict_iterator", "itertools.zip_longest", "itertools.pairwise"].contains n && vs[0]? == some (rawInt T) then
          rule "for.unpacks-the-owned-tuple"
          updateField z 0 .none
      | _, _ => pure ()) Q E s := by
    refine wpAny_bind (wpAny_load hz ?_)
    dsimp only
    split
    · refine wpAny_bind (wpAny_rule ?_)
      show wpAny _ _ (setField (.ref z) 0 .none) Q E s
      exact wpAny_setField_rec hz (by simp) fun h' hz' hs' => hQ h' _ hz' (.inl rfl) hs'
    · exact wpAny_pure stay
  unfold letOwnedTupleGo
  cases tg <;> first
    | exact wpAny_pure stay
    | exact main
end
end
end DD
set_option Elab.async false
set_option linter.all false
set_option maxRecDepth 100000
set_option maxHeartbeats 4000000
/-! The Den layer, part 20: zip as an iterator. -/
namespace DD
open PySem PySem.Spec PyProof.Rows L2

abbrev zLL1 (h : Heap) (l1 : Addr) : Heap := h.push { cls := .type "list_iterator", data := .fields #[.ref l1, .int 0 0] }
abbrev zLL2 (h : Heap) (l1 l2 : Addr) : Heap := (zLL1 h l1).push { cls := .type "list_iterator", data := .fields #[.ref l2, .int 0 0] }
abbrev zLL3 (h : Heap) (l1 l2 : Addr) : Heap := (zLL2 h l1 l2).push { cls := .type "tuple", data := .seq #[.ref h.objs.size, .ref (zLL1 h l1).objs.size] }
abbrev zLL4 (h : Heap) (l1 l2 : Addr) : Heap := (zLL3 h l1 l2).push { cls := .type "tuple", data := .seq #[.none, .none] }
abbrev zLL5 (h : Heap) (l1 l2 : Addr) : Heap := (zLL4 h l1 l2).push { cls := .type "zip", data := .fields #[.none, .bool false, .bool false, .ref (zLL2 h l1 l2).objs.size, .ref (zLL3 h l1 l2).objs.size] }
theorem meets_zLL (l1 l2 : Addr) (xs ys : Array Value) :
    Meets (Builtin.«zip.__new__» ⟨[.type "zip", .ref l1, .ref l2], []⟩) (fun _ R s => SqA true s.heap l1 xs ∧ SqA true s.heap l2 ys ∧ R (.ok (.ret (.ref (zLL4 s.heap l1 l2).objs.size))) { s with heap := zLL5 s.heap l1 l2 }) :=
  .of_wp fun prog w A R s h => by
    obtain ⟨hp, g, d, tk, os⟩ := s; obtain ⟨hl1, hl2, h⟩ := h
    have hsub := sub_zip
    have hL1 : Heap.IsList (Shared.heap ⟨hp, g, d, tk, os⟩) l1 xs := hl1
    have hL2 : Heap.IsList (Shared.heap ⟨hp.push { cls := .type "list_iterator", data := .fields #[.ref l1, .int 0 0] }, g, d, tk, os⟩) l2 ys := Heap.IsList.push hl2 _
    wp_walk using wpAny_pyIter_list hL1, wpAny_pyIter_list hL2
    exact ⟨_, rfl, h⟩
theorem call_zLL {prog : Program} {w : World} {A : Around} {E : Value → Shared → Prop} {s : Shared} {l1 l2 : Addr} {xs ys : Array Value} {Q : Value → Shared → Prop} (hl1 : SqA true s.heap l1 xs) (hl2 : SqA true s.heap l2 ys)
    (h : ∀ h', IsZ h' (s.heap.objs.size + 4) (s.heap.objs.size + 2) (s.heap.objs.size + 3) .none false → IsPair h' (s.heap.objs.size + 2) (.ref s.heap.objs.size) (.ref (s.heap.objs.size + 1)) →
      IsPair h' (s.heap.objs.size + 3) .none .none → ItA true h' s.heap.objs.size l1 0 → ItA true h' (s.heap.objs.size + 1) l2 0 → (∀ c o, s.heap.get? c = some o → h'.get? c = some o) → Q (.ref (s.heap.objs.size + 4)) { s with heap := h' }) :
    wpAny (model prog w) A (call (.type "zip") [.ref l1, .ref l2]) Q E s := by
  refine callType_new PySem.F.called_zip (by decide) (PySem.F.typeCall_zip_2 _ _) (PySem.F.newCall_zip_2 _ _) (fun obj => PySem.F.args_object_init_3 obj _ _) PySem.F.entry_zip_new (meets_zLL l1 l2 xs ys) ⟨hl1, hl2, ?_⟩
  have z1 : (zLL1 s.heap l1).objs.size = s.heap.objs.size + 1 := Heap.size_push ..
  have z2 : (zLL2 s.heap l1 l2).objs.size = s.heap.objs.size + 2 := by rw [Heap.size_push, z1]
  have z3 : (zLL3 s.heap l1 l2).objs.size = s.heap.objs.size + 3 := by rw [Heap.size_push, z2]
  have z4 : (zLL4 s.heap l1 l2).objs.size = s.heap.objs.size + 4 := by rw [Heap.size_push, z3]
  have g5 : (zLL5 s.heap l1 l2).get? (zLL4 s.heap l1 l2).objs.size = some _ := Heap.get?_push_size _ rfl
  have g4 : (zLL5 s.heap l1 l2).get? (zLL3 s.heap l1 l2).objs.size = some _ := Heap.get?_push_of_some _ (Heap.get?_push_size _ rfl)
  have g3 : (zLL5 s.heap l1 l2).get? (zLL2 s.heap l1 l2).objs.size = some _ := Heap.get?_push_of_some _ (Heap.get?_push_of_some _ (Heap.get?_push_size _ rfl))
  have g2 : (zLL5 s.heap l1 l2).get? (zLL1 s.heap l1).objs.size = some _ := Heap.get?_push_of_some _ (Heap.get?_push_of_some _ (Heap.get?_push_of_some _ (Heap.get?_push_size _ rfl)))
  have g1 : (zLL5 s.heap l1 l2).get? s.heap.objs.size = some _ := Heap.get?_push_of_some _ (Heap.get?_push_of_some _ (Heap.get?_push_of_some _ (Heap.get?_push_of_some _ (Heap.get?_push_size _ rfl))))
  show _ ∧ _
  rw [z2, z3, z4] at g5
  rw [z1, z2] at g3
  rw [z3] at g4
  rw [z1] at g2
  rw [z4]
  exact ⟨⟨_, g5, rfl⟩, h _ g5 g3 g4 ⟨_, g1, rfl, rfl⟩ ⟨_, g2, rfl, rfl⟩ fun c o x => Heap.get?_push_of_some _ (Heap.get?_push_of_some _ (Heap.get?_push_of_some _ (Heap.get?_push_of_some _ (Heap.get?_push_of_some _ x))))⟩
abbrev zLT1 (h : Heap) (l1 : Addr) : Heap := h.push { cls := .type "list_iterator", data := .fields #[.ref l1, .int 0 0] }
abbrev zLT2 (h : Heap) (l1 l2 : Addr) : Heap := (zLT1 h l1).push { cls := .type "tuple_iterator", data := .fields #[.ref l2, .int 0 0] }
abbrev zLT3 (h : Heap) (l1 l2 : Addr) : Heap := (zLT2 h l1 l2).push { cls := .type "tuple", data := .seq #[.ref h.objs.size, .ref (zLT1 h l1).objs.size] }
abbrev zLT4 (h : Heap) (l1 l2 : Addr) : Heap := (zLT3 h l1 l2).push { cls := .type "tuple", data := .seq #[.none, .none] }
abbrev zLT5 (h : Heap) (l1 l2 : Addr) : Heap := (zLT4 h l1 l2).push { cls := .type "zip", data := .fields #[.none, .bool false, .bool false, .ref (zLT2 h l1 l2).objs.size, .ref (zLT3 h l1 l2).objs.size] }
theorem meets_zLT (l1 l2 : Addr) (xs ys : Array Value) :
    Meets (Builtin.«zip.__new__» ⟨[.type "zip", .ref l1, .ref l2], []⟩) (fun _ R s => SqA true s.heap l1 xs ∧ SqA false s.heap l2 ys ∧ R (.ok (.ret (.ref (zLT4 s.heap l1 l2).objs.size))) { s with heap := zLT5 s.heap l1 l2 }) :=
  .of_wp fun prog w A R s h => by
    obtain ⟨hp, g, d, tk, os⟩ := s; obtain ⟨hl1, hl2, h⟩ := h
    have hsub := sub_zip
    have hL1 : Heap.IsList (Shared.heap ⟨hp, g, d, tk, os⟩) l1 xs := hl1
    have hL2 : Heap.IsTuple (Shared.heap ⟨hp.push { cls := .type "list_iterator", data := .fields #[.ref l1, .int 0 0] }, g, d, tk, os⟩) l2 ys := Heap.IsTuple.push hl2 _
    wp_walk using wpAny_pyIter_list hL1, wpAny_pyIter_tuple hL2
    exact ⟨_, rfl, h⟩
theorem call_zLT {prog : Program} {w : World} {A : Around} {E : Value → Shared → Prop} {s : Shared} {l1 l2 : Addr} {xs ys : Array Value} {Q : Value → Shared → Prop} (hl1 : SqA true s.heap l1 xs) (hl2 : SqA false s.heap l2 ys)
    (h : ∀ h', IsZ h' (s.heap.objs.size + 4) (s.heap.objs.size + 2) (s.heap.objs.size + 3) .none false → IsPair h' (s.heap.objs.size + 2) (.ref s.heap.objs.size) (.ref (s.heap.objs.size + 1)) →
      IsPair h' (s.heap.objs.size + 3) .none .none → ItA true h' s.heap.objs.size l1 0 → ItA false h' (s.heap.objs.size + 1) l2 0 → (∀ c o, s.heap.get? c = some o → h'.get? c = some o) → Q (.ref (s.heap.objs.size + 4)) { s with heap := h' }) :
    wpAny (model prog w) A (call (.type "zip") [.ref l1, .ref l2]) Q E s := by
  refine callType_new PySem.F.called_zip (by decide) (PySem.F.typeCall_zip_2 _ _) (PySem.F.newCall_zip_2 _ _) (fun obj => PySem.F.args_object_init_3 obj _ _) PySem.F.entry_zip_new (meets_zLT l1 l2 xs ys) ⟨hl1, hl2, ?_⟩
  have z1 : (zLT1 s.heap l1).objs.size = s.heap.objs.size + 1 := Heap.size_push ..
  have z2 : (zLT2 s.heap l1 l2).objs.size = s.heap.objs.size + 2 := by rw [Heap.size_push, z1]
  have z3 : (zLT3 s.heap l1 l2).objs.size = s.heap.objs.size + 3 := by rw [Heap.size_push, z2]
  have z4 : (zLT4 s.heap l1 l2).objs.size = s.heap.objs.size + 4 := by rw [Heap.size_push, z3]
  have g5 : (zLT5 s.heap l1 l2).get? (zLT4 s.heap l1 l2).objs.size = some _ := Heap.get?_push_size _ rfl
  have g4 : (zLT5 s.heap l1 l2).get? (zLT3 s.heap l1 l2).objs.size = some _ := Heap.get?_push_of_some _ (Heap.get?_push_size _ rfl)
  have g3 : (zLT5 s.heap l1 l2).get? (zLT2 s.heap l1 l2).objs.size = some _ := Heap.get?_push_of_some _ (Heap.get?_push_of_some _ (Heap.get?_push_size _ rfl))
  have g2 : (zLT5 s.heap l1 l2).get? (zLT1 s.heap l1).objs.size = some _ := Heap.get?_push_of_some _ (Heap.get?_push_of_some _ (Heap.get?_push_of_some _ (Heap.get?_push_size _ rfl)))
  have g1 : (zLT5 s.heap l1 l2).get? s.heap.objs.size = some _ := Heap.get?_push_of_some _ (Heap.get?_push_of_some _ (Heap.get?_push_of_some _ (Heap.get?_push_of_some _ (Heap.get?_push_size _ rfl))))
  show _ ∧ _
  rw [z2, z3, z4] at g5
  rw [z1, z2] at g3
  rw [z3] at g4
  rw [z1] at g2
  rw [z4]
  exact ⟨⟨_, g5, rfl⟩, h _ g5 g3 g4 ⟨_, g1, rfl, rfl⟩ ⟨_, g2, rfl, rfl⟩ fun c o x => Heap.get?_push_of_some _ (Heap.get?_push_of_some _ (Heap.get?_push_of_some _ (Heap.get?_push_of_some _ (Heap.get?_push_of_some _ x))))⟩
abbrev zTL1 (h : Heap) (l1 : Addr) : Heap := h.push { cls := .type "tuple_iterator", data := .fields #[.ref l1, .int 0 0] }
abbrev zTL2 (h : Heap) (l1 l2 : Addr) : Heap := (zTL1 h l1).push { cls := .type "list_iterator", data := .fields #[.ref l2, .int 0 0] }
abbrev zTL3 (h : Heap) (l1 l2 : Addr) : Heap := (zTL2 h l1 l2).push { cls := .type "tuple", data := .seq #[.ref h.objs.size, .ref (zTL1 h l1).objs.size] }
abbrev zTL4 (h : Heap) (l1 l2 : Addr) : Heap := (zTL3 h l1 l2).push { cls := .type "tuple", data := .seq #[.none, .none] }
abbrev zTL5 (h : Heap) (l1 l2 : Addr) : Heap := (zTL4 h l1 l2).push { cls := .type "zip", data := .fields #[.none, .bool false, .bool false, .ref (zTL2 h l1 l2).objs.size, .ref (zTL3 h l1 l2).objs.size] }
theorem meets_zTL (l1 l2 : Addr) (xs ys : Array Value) :
    Meets (Builtin.«zip.__new__» ⟨[.type "zip", .ref l1, .ref l2], []⟩) (fun _ R s => SqA false s.heap l1 xs ∧ SqA true s.heap l2 ys ∧ R (.ok (.ret (.ref (zTL4 s.heap l1 l2).objs.size))) { s with heap := zTL5 s.heap l1 l2 }) :=
  .of_wp fun prog w A R s h => by
    obtain ⟨hp, g, d, tk, os⟩ := s; obtain ⟨hl1, hl2, h⟩ := h
    have hsub := sub_zip
    have hL1 : Heap.IsTuple (Shared.heap ⟨hp, g, d, tk, os⟩) l1 xs := hl1
    have hL2 : Heap.IsList (Shared.heap ⟨hp.push { cls := .type "tuple_iterator", data := .fields #[.ref l1, .int 0 0] }, g, d, tk, os⟩) l2 ys := Heap.IsList.push hl2 _
    wp_walk using wpAny_pyIter_tuple hL1, wpAny_pyIter_list hL2
    exact ⟨_, rfl, h⟩
theorem call_zTL {prog : Program} {w : World} {A : Around} {E : Value → Shared → Prop} {s : Shared} {l1 l2 : Addr} {xs ys : Array Value} {Q : Value → Shared → Prop} (hl1 : SqA false s.heap l1 xs) (hl2 : SqA true s.heap l2 ys)
    (h : ∀ h', IsZ h' (s.heap.objs.size + 4) (s.heap.objs.size + 2) (s.heap.objs.size + 3) .none false → IsPair h' (s.heap.objs.size + 2) (.ref s.heap.objs.size) (.ref (s.heap.objs.size + 1)) →
      IsPair h' (s.heap.objs.size + 3) .none .none → ItA false h' s.heap.objs.size l1 0 → ItA true h' (s.heap.objs.size + 1) l2 0 → (∀ c o, s.heap.get? c = some o → h'.get? c = some o) → Q (.ref (s.heap.objs.size + 4)) { s with heap := h' }) :
    wpAny (model prog w) A (call (.type "zip") [.ref l1, .ref l2]) Q E s := by
  refine callType_new PySem.F.called_zip (by decide) (PySem.F.typeCall_zip_2 _ _) (PySem.F.newCall_zip_2 _ _) (fun obj => PySem.F.args_object_init_3 obj _ _) PySem.F.entry_zip_new (meets_zTL l1 l2 xs ys) ⟨hl1, hl2, ?_⟩
  have z1 : (zTL1 s.heap l1).objs.size = s.heap.objs.size + 1 := Heap.size_push ..
  have z2 : (zTL2 s.heap l1 l2).objs.size = s.heap.objs.size + 2 := by rw [Heap.size_push, z1]
  have z3 : (zTL3 s.heap l1 l2).objs.size = s.heap.objs.size + 3 := by rw [Heap.size_push, z2]
  have z4 : (zTL4 s.heap l1 l2).objs.size = s.heap.objs.size + 4 := by rw [Heap.size_push, z3]
  have g5 : (zTL5 s.heap l1 l2).get? (zTL4 s.heap l1 l2).objs.size = some _ := Heap.get?_push_size _ rfl
  have g4 : (zTL5 s.heap l1 l2).get? (zTL3 s.heap l1 l2).objs.size = some _ := Heap.get?_push_of_some _ (Heap.get?_push_size _ rfl)
  have g3 : (zTL5 s.heap l1 l2).get? (zTL2 s.heap l1 l2).objs.size = some _ := Heap.get?_push_of_some _ (Heap.get?_push_of_some _ (Heap.get?_push_size _ rfl))
  have g2 : (zTL5 s.heap l1 l2).get? (zTL1 s.heap l1).objs.size = some _ := Heap.get?_push_of_some _ (Heap.get?_push_of_some _ (Heap.get?_push_of_some _ (Heap.get?_push_size _ rfl)))
  have g1 : (zTL5 s.heap l1 l2).get? s.heap.objs.size = some _ := Heap.get?_push_of_some _ (Heap.get?_push_of_some _ (Heap.get?_push_of_some _ (Heap.get?_push_of_some _ (Heap.get?_push_size _ rfl))))
  show _ ∧ _
  rw [z2, z3, z4] at g5
  rw [z1, z2] at g3
  rw [z3] at g4
  rw [z1] at g2
  rw [z4]
  exact ⟨⟨_, g5, rfl⟩, h _ g5 g3 g4 ⟨_, g1, rfl, rfl⟩ ⟨_, g2, rfl, rfl⟩ fun c o x => Heap.get?_push_of_some _ (Heap.get?_push_of_some _ (Heap.get?_push_of_some _ (Heap.get?_push_of_some _ (Heap.get?_push_of_some _ x))))⟩
abbrev zTT1 (h : Heap) (l1 : Addr) : Heap := h.push { cls := .type "tuple_iterator", data := .fields #[.ref l1, .int 0 0] }
abbrev zTT2 (h : Heap) (l1 l2 : Addr) : Heap := (zTT1 h l1).push { cls := .type "tuple_iterator", data := .fields #[.ref l2, .int 0 0] }
abbrev zTT3 (h : Heap) (l1 l2 : Addr) : Heap := (zTT2 h l1 l2).push { cls := .type "tuple", data := .seq #[.ref h.objs.size, .ref (zTT1 h l1).objs.size] }
abbrev zTT4 (h : Heap) (l1 l2 : Addr) : Heap := (zTT3 h l1 l2).push { cls := .type "tuple", data := .seq #[.none, .none] }
abbrev zTT5 (h : Heap) (l1 l2 : Addr) : Heap := (zTT4 h l1 l2).push { cls := .type "zip", data := .fields #[.none, .bool false, .bool false, .ref (zTT2 h l1 l2).objs.size, .ref (zTT3 h l1 l2).objs.size] }
theorem meets_zTT (l1 l2 : Addr) (xs ys : Array Value) :
    Meets (Builtin.«zip.__new__» ⟨[.type "zip", .ref l1, .ref l2], []⟩) (fun _ R s => SqA false s.heap l1 xs ∧ SqA false s.heap l2 ys ∧ R (.ok (.ret (.ref (zTT4 s.heap l1 l2).objs.size))) { s with heap := zTT5 s.heap l1 l2 }) :=
  .of_wp fun prog w A R s h => by
    obtain ⟨hp, g, d, tk, os⟩ := s; obtain ⟨hl1, hl2, h⟩ := h
    have hsub := sub_zip
    have hL1 : Heap.IsTuple (Shared.heap ⟨hp, g, d, tk, os⟩) l1 xs := hl1
    have hL2 : Heap.IsTuple (Shared.heap ⟨hp.push { cls := .type "tuple_iterator", data := .fields #[.ref l1, .int 0 0] }, g, d, tk, os⟩) l2 ys := Heap.IsTuple.push hl2 _
    wp_walk using wpAny_pyIter_tuple hL1, wpAny_pyIter_tuple hL2
    exact ⟨_, rfl, h⟩
theorem call_zTT {prog : Program} {w : World} {A : Around} {E : Value → Shared → Prop} {s : Shared} {l1 l2 : Addr} {xs ys : Array Value} {Q : Value → Shared → Prop} (hl1 : SqA false s.heap l1 xs) (hl2 : SqA false s.heap l2 ys)
    (h : ∀ h', IsZ h' (s.heap.objs.size + 4) (s.heap.objs.size + 2) (s.heap.objs.size + 3) .none false → IsPair h' (s.heap.objs.size + 2) (.ref s.heap.objs.size) (.ref (s.heap.objs.size + 1)) →
      IsPair h' (s.heap.objs.size + 3) .none .none → ItA false h' s.heap.objs.size l1 0 → ItA false h' (s.heap.objs.size + 1) l2 0 → (∀ c o, s.heap.get? c = some o → h'.get? c = some o) → Q (.ref (s.heap.objs.size + 4)) { s with heap := h' }) :
    wpAny (model prog w) A (call (.type "zip") [.ref l1, .ref l2]) Q E s := by
  refine callType_new PySem.F.called_zip (by decide) (PySem.F.typeCall_zip_2 _ _) (PySem.F.newCall_zip_2 _ _) (fun obj => PySem.F.args_object_init_3 obj _ _) PySem.F.entry_zip_new (meets_zTT l1 l2 xs ys) ⟨hl1, hl2, ?_⟩
  have z1 : (zTT1 s.heap l1).objs.size = s.heap.objs.size + 1 := Heap.size_push ..
  have z2 : (zTT2 s.heap l1 l2).objs.size = s.heap.objs.size + 2 := by rw [Heap.size_push, z1]
  have z3 : (zTT3 s.heap l1 l2).objs.size = s.heap.objs.size + 3 := by rw [Heap.size_push, z2]
  have z4 : (zTT4 s.heap l1 l2).objs.size = s.heap.objs.size + 4 := by rw [Heap.size_push, z3]
  have g5 : (zTT5 s.heap l1 l2).get? (zTT4 s.heap l1 l2).objs.size = some _ := Heap.get?_push_size _ rfl
  have g4 : (zTT5 s.heap l1 l2).get? (zTT3 s.heap l1 l2).objs.size = some _ := Heap.get?_push_of_some _ (Heap.get?_push_size _ rfl)
  have g3 : (zTT5 s.heap l1 l2).get? (zTT2 s.heap l1 l2).objs.size = some _ := Heap.get?_push_of_some _ (Heap.get?_push_of_some _ (Heap.get?_push_size _ rfl))
  have g2 : (zTT5 s.heap l1 l2).get? (zTT1 s.heap l1).objs.size = some _ := Heap.get?_push_of_some _ (Heap.get?_push_of_some _ (Heap.get?_push_of_some _ (Heap.get?_push_size _ rfl)))
  have g1 : (zTT5 s.heap l1 l2).get? s.heap.objs.size = some _ := Heap.get?_push_of_some _ (Heap.get?_push_of_some _ (Heap.get?_push_of_some _ (Heap.get?_push_of_some _ (Heap.get?_push_size _ rfl))))
  show _ ∧ _
  rw [z2, z3, z4] at g5
  rw [z1, z2] at g3
  rw [z3] at g4
  rw [z1] at g2
  rw [z4]
  exact ⟨⟨_, g5, rfl⟩, h _ g5 g3 g4 ⟨_, g1, rfl, rfl⟩ ⟨_, g2, rfl, rfl⟩ fun c o x => Heap.get?_push_of_some _ (Heap.get?_push_of_some _ (Heap.get?_push_of_some _ (Heap.get?_push_of_some _ (Heap.get?_push_of_some _ x))))⟩
theorem call_zA {prog : Program} {w : World} {A : Around} {E : Value → Shared → Prop} {s : Shared} {k1 k2 : Bool} {l1 l2 : Addr} {xs ys : Array Value} {Q : Value → Shared → Prop} (hl1 : SqA k1 s.heap l1 xs) (hl2 : SqA k2 s.heap l2 ys)
    (h : ∀ h', IsZ h' (s.heap.objs.size + 4) (s.heap.objs.size + 2) (s.heap.objs.size + 3) .none false → IsPair h' (s.heap.objs.size + 2) (.ref s.heap.objs.size) (.ref (s.heap.objs.size + 1)) →
      IsPair h' (s.heap.objs.size + 3) .none .none → ItA k1 h' s.heap.objs.size l1 0 → ItA k2 h' (s.heap.objs.size + 1) l2 0 → (∀ c o, s.heap.get? c = some o → h'.get? c = some o) → Q (.ref (s.heap.objs.size + 4)) { s with heap := h' }) :
    wpAny (model prog w) A (call (.type "zip") [.ref l1, .ref l2]) Q E s := by
  cases k1 <;> cases k2
  · exact call_zTT hl1 hl2 h
  · exact call_zTL hl1 hl2 h
  · exact call_zLT hl1 hl2 h
  · exact call_zLL hl1 hl2 h

/-- a sequence that is tracked: a list (k) or a tuple -/
def SqK (k : Bool) (K : PySem.W.Frag) (H : Hp) (a : Addr) (xs : List V) : Prop := if k then SqL K H a xs else SqT K H a xs
theorem sq_at {X : Cx} {pins : List (Addr × Obj)} {σ : L2.St} {H : Hp} {s : Shared} {k : Bool} {a : Addr} {xs : List V} (I : Inv X pins σ H s) (h : SqK k X.K H a xs) : ∃ its, Vals xs its ∧ SqA k s.heap a its.toArray ∧ a < s.heap.objs.size := by
  cases k
  · obtain ⟨its, r, p, _⟩ := I.tuple (show SqT X.K H a xs from h)
    obtain ⟨o, ho, _⟩ := id p
    exact ⟨its, r, p, Heap.lt_size ho⟩
  · obtain ⟨its, r, p, _⟩ := I.list (show SqL X.K H a xs from h)
    exact ⟨its, r, p.isList, p.lt⟩
theorem sq_inj {X : Cx} {pins : List (Addr × Obj)} {σ : L2.St} {H : Hp} {s : Shared} {k : Bool} {a : Addr} {xs ys : List V} (I : Inv X pins σ H s) (h : SqK k X.K H a xs) (h' : SqK k X.K H a ys) : xs = ys := by
  cases k
  · exact I.tuple_inj h h'
  · exact I.list_inj h h'
/-- the sequences at a and b as they stand at each turn, the items in new pairs -/
def ItzA (k1 k2 : Bool) (K : PySem.W.Frag) (a b : Addr) : It :=
  ⟨fun i H => ∃ (xs ys : List V) (x y : V), SqK k1 K H a xs ∧ SqK k2 K H b ys ∧ xs[i]? = some x ∧ ys[i]? = some y,
    fun i H v H' => ∃ T x y, v = .ref T ∧ H T = none ∧ H' = upd H T (.tup [x, y]) ∧ (∀ xs, SqK k1 K H a xs → xs[i]? = some x) ∧ ∀ ys, SqK k2 K H b ys → ys[i]? = some y,
    fun i H => ∃ xs ys : List V, SqK k1 K H a xs ∧ SqK k2 K H b ys ∧ (xs.length ≤ i ∨ ys.length ≤ i)⟩
theorem turn_zA {P : Program} {w : World} {K : PySem.W.Frag} {tg : Expr} {k1 k2 : Bool} {a b z TI TO i1 i2 : Addr} (D : ZipApart z TI TO i1 i2 a b) :
    Turn P w K tg (ItzA k1 k2 K a b) [z, TI, TO, i1, i2] z (fun i h => (∃ f0 fb, IsZ h z TI TO f0 fb ∧ Free0 f0) ∧ IsPair h TI (.ref i1) (.ref i2) ∧ (∃ x y, IsPair h TO x y) ∧ ItA k1 h i1 a i ∧ ItA k2 h i2 b i) where
  mem := by simp
  obj := fun i h st c hc => by
    obtain ⟨⟨f0, fb, hz, _⟩, hTI, ⟨x, y, hTO⟩, h1, h2⟩ := st
    obtain ⟨o1, e1, d1⟩ := h1.obj
    obtain ⟨o2, e2, d2⟩ := h2.obj
    have e' : c = z ∨ c = TI ∨ c = TO ∨ c = i1 ∨ c = i2 := by simpa using hc
    rcases e' with q | q | q | q | q
    · rw [q]; exact ⟨_, hz, fun v q => nomatch q⟩
    · rw [q]; exact ⟨_, hTI, fun v q => nomatch q⟩
    · rw [q]; exact ⟨_, hTO, fun v q => nomatch q⟩
    · rw [q]; exact ⟨o1, e1, fun v q => by rw [d1] at q; cases q⟩
    · rw [q]; exact ⟨o2, e2, fun v q => by rw [d2] at q; cases q⟩
  keep := fun i h h' st k => by
    obtain ⟨⟨f0, fb, hz, hf⟩, hTI, ⟨x, y, hTO⟩, h1, h2⟩ := st
    exact ⟨⟨f0, fb, k z (by simp) _ hz, hf⟩, k TI (by simp) _ hTI, ⟨x, y, k TO (by simp) _ hTO⟩, h1.at fun o q => k i1 (by simp) o q, h2.at fun o q => k i2 (by simp) o q⟩
  item := by
    intro X hP hw hK hc i pins s σ H E I hf st hg
    subst hP hw hK
    obtain ⟨⟨f0, fb, hz, hf0⟩, hTI, ⟨x0, y0, hTO⟩, h1, h2⟩ := st
    obtain ⟨xs, ys, x, y, hqx, hqy, hx, hy⟩ := hg
    obtain ⟨its, rv, p, _⟩ := sq_at I hqx
    obtain ⟨its2, rv2, p2, _⟩ := sq_at I hqy
    obtain ⟨u, hu, ru⟩ := rv.get hx
    obtain ⟨u2, hu2, ru2⟩ := rv2.get hy
    have hzl : z < s.heap.objs.size := Heap.lt_size hz
    refine pyNext_zipA D hz hf0 hTI hTO h1 h2 p p2 (x := u) (y := u2) (by simpa using hu) (by simpa using hu2) fun h' f1 b1 z' hf1 TO' h1' h2' hT hsz hk => ?_
    refine ⟨_, rfl, go_zipA (s := { s with heap := h' }) z' hf1 fun h'' f2 z'' hf2 sb => ?_⟩
    have hT2 : h''.get? s.heap.objs.size = some { cls := .type "tuple", data := .seq #[u, u2] } := (sb.2 _ (Nat.ne_of_gt hzl)).trans hT
    have new : ObjOk X.prog X.w (upd H s.heap.objs.size (.tup [x, y])) h'' s.heap.objs.size (.tup [x, y]) := ⟨by show 2 ≤ sizeLine; decide, [u, u2], .cons ru (.cons ru2 .nil), ⟨_, hT2, rfl, _, rfl⟩⟩
    have I1 : Inv X pins σ (upd H s.heap.objs.size (.tup [x, y])) { s with heap := h'' } :=
      I.turnedNew (t' := s.toks) (ch := [z, TI, TO, i1, i2]) (fun c o hb q => (sb.2 c (fun q' => hb (by simp [q']))).trans (hk c o (fun q' => hb (by simp [q'])) (fun q' => hb (by simp [q'])) (fun q' => hb (by simp [q'])) (fun q' => hb (by simp [q'])) q)) hf (Nat.le_refl _) new
    obtain ⟨a', b', TO'⟩ := TO'
    refine ⟨.ref s.heap.objs.size, _, I1, rfl, ⟨_, x, y, rfl, I.hok.fresh (Nat.le_refl _), rfl, fun l hl => by rw [sq_inj I hl hqx]; exact hx, fun l hl => by rw [sq_inj I hl hqy]; exact hy⟩, ⟨⟨f2, b1, z'', hf2⟩, ?_, ⟨a', b', ?_⟩, ?_, ?_⟩, fun c hcm => ?_⟩
    · exact (sb.2 _ D.TIz).trans (hk _ _ D.TIz D.TITO D.TIi1 D.TIi2 hTI)
    · exact (sb.2 _ D.TOz).trans TO'
    · exact h1'.at fun o q => (sb.2 _ D.i1z).trans q
    · exact h2'.at fun o q => (sb.2 _ D.i2z).trans q
    · have hlt : c < s.heap.objs.size := by
        obtain ⟨_, e1, _⟩ := h1.obj
        obtain ⟨_, e2, _⟩ := h2.obj
        have e' : c = z ∨ c = TI ∨ c = TO ∨ c = i1 ∨ c = i2 := by simpa using hcm
        rcases e' with q | q | q | q | q
        · rw [q]; exact hzl
        · rw [q]; exact Heap.lt_size hTI
        · rw [q]; exact Heap.lt_size hTO
        · rw [q]; exact Heap.lt_size e1
        · rw [q]; exact Heap.lt_size e2
      rw [upd_ne (Nat.ne_of_lt hlt)]
      exact (hf c hcm).1
  done := by
    intro X hP hw hK hc i pins s σ H E I hf st hg
    subst hP hw hK
    obtain ⟨⟨f0, fb, hz, hf0⟩, hTI, ⟨x0, y0, hTO⟩, h1, h2⟩ := st
    obtain ⟨xs, ys, hqx, hqy, hend⟩ := hg
    obtain ⟨its, rv, p, _⟩ := sq_at I hqx
    obtain ⟨its2, rv2, p2, _⟩ := sq_at I hqy
    have l1 := rv.length
    have l2 := rv2.length
    have he : its.toArray[i]? = none ∨ its2.toArray[i]? = none := by
      rcases hend with q | q
      · exact .inl (by simp; omega)
      · exact .inr (by simp; omega)
    exact pyNext_zipA_end (I.ok.hd hc) D hz hf0 hTI hTO h1 h2 p p2 he fun h' hk => ⟨rfl, I.turnedL (t' := s.toks) (ch := [z, TI, TO, i1, i2]) (fun c o hb q =>
      hk c o (fun q' => hb (by simp [q'])) (fun q' => hb (by simp [q'])) (fun q' => hb (by simp [q'])) (fun q' => hb (by simp [q'])) q) hf⟩
  self := fun A i s Q E st h => by
    obtain ⟨⟨f0, fb, hz, _⟩, _⟩ := st
    have hT : s.TypeIs (.ref z) "zip" := ⟨_, hz, rfl⟩
    refine wpAny_pyIter_slot hT PySem.F.slot_zip_iter (wpAny_call_entry PySem.F.slot_zip_iter hT PySem.F.entry_zip_iter ?_ (PySem.F.args_zip_iter_1 _))
    show wpAny _ _ (ret (.ref z)) _ _ s
    exact wpAny_pure ⟨_, rfl, "zip", _, hT, PySem.F.slot_zip_next.lookup, h⟩
def iZA (K : PySem.W.Frag) (ta : TA) : TI := fun σ H R => ta σ H fun vs H1 => ∃ k1 k2 a b xs ys, vs = [.ref a, .ref b] ∧ SqK k1 K H1 a xs ∧ SqK k2 K H1 b ys ∧ R (ItzA k1 k2 K a b) H1
theorem pi_zA {X : Cx} {e e2 tg : Expr} {ta : TA} {p pos : Pos} (hg : Gl X "zip") (hm : X.mg "zip" = none) (ha : PA X [e, e2] ta)
    (hs : starEach [e, e2] X.env = (false, eval e X.env) :: starEach [e2] X.env := by rfl) (hpl : (backTo pos (starEach [e2] X.env)).any (·.1) = false := by rfl) :
    PI X tg (.Call (.Name "zip" p) [e, e2] [] pos) (iZA X.K ta) := by
  refine ⟨fun pins s σ H R I h => ?_⟩
  refine Call_ (ld_blt I hg hm PyProof.Rows.boot_zip (PyProof.Rows.callWith_type1 (thn (ha.run pos pins s σ H _ I h) fun us s1 ⟨vs, H1, I1, r1, q1⟩ => ?_) hs hpl))
  obtain ⟨k1, k2, a, b, xs, ys, ex, hqx, hqy, q⟩ := q1
  subst ex
  cases r1 with
  | cons r rr =>
    cases rr with
    | cons r' rr =>
      cases rr
      cases r
      cases r'
      obtain ⟨its, rv, p1, la⟩ := sq_at I1 hqx
      obtain ⟨its2, rv2, p2, lb⟩ := sq_at I1 hqy
      refine call_zA p1 p2 fun h' hz hTI hTO h1 h2 hk => ?_
      have hit : wpAny (model X.prog X.w) X.A (pyIter (.ref (s1.heap.objs.size + 4))) (PIE X pins σ tg R) X.xe { s1 with heap := h' } := by
        have hT : ({ s1 with heap := h' } : Shared).TypeIs (.ref (s1.heap.objs.size + 4)) "zip" := ⟨_, hz, rfl⟩
        refine wpAny_pyIter_slot hT PySem.F.slot_zip_iter (wpAny_call_entry PySem.F.slot_zip_iter hT PySem.F.entry_zip_iter ?_ (PySem.F.args_zip_iter_1 _))
        show wpAny _ _ (ret (.ref (s1.heap.objs.size + 4))) _ _ _
        refine wpAny_pure ⟨_, rfl, "zip", _, hT, PySem.F.slot_zip_next.lookup, ?_⟩
        have I2 : Inv X pins σ H1 { s1 with heap := h' } := I1.kept (t' := s1.toks) hk
        refine ⟨s1.heap.objs.size + 4, [s1.heap.objs.size + 4, s1.heap.objs.size + 2, s1.heap.objs.size + 3, s1.heap.objs.size, s1.heap.objs.size + 1], _, _, H1, rfl, I2, turn_zA (PySem.W.ktu_apart s1.heap.objs.size a b la lb), ⟨⟨_, _, hz, .inl rfl⟩, hTI, ⟨_, _, hTO⟩, h1, h2⟩, fun c hcm => ?_, q⟩
        have e' : c = s1.heap.objs.size + 4 ∨ c = s1.heap.objs.size + 2 ∨ c = s1.heap.objs.size + 3 ∨ c = s1.heap.objs.size ∨ c = s1.heap.objs.size + 1 := by simpa using hcm
        have hle : s1.heap.objs.size ≤ c := by
          rcases e' with q | q | q | q | q <;> rw [q] <;> first | exact Nat.le_add_right _ _ | exact Nat.le_refl _
        exact I1.fpOk hle (I1.hok.fresh hle)
      exact hit

/-! ### its denotation -/
def seqAt (S : Store) : T → Option (List T)
  | .tup ts => some ts
  | .ref n => lstAt S n
  | _ => none
def iZip (t u : T) : ItD := fun i S => match seqAt S t, seqAt S u with
  | some xs, some ys => (match xs[i]?, ys[i]? with
    | some x, some y => .item (.tup [x, y])
    | _, _ => .stop)
  | _, _ => .bad
def dZip (a : DA) : DI := fun env S => (a env S).bind fun ts S1 => match ts with
  | [t, u] => if (seqAt S1 t).isSome && (seqAt S1 u).isSome then .ok (iZip t u) S1 else .bad
  | _ => .bad
section
variable {X : Cx} {W : Wd} {cells : List (Str × Addr)} {wx : WX} {M : List Addr} {S : Store} {H : Hp} {tg : Expr} {pos p : Pos}
/-- a sequence and its kind -/
def isRefT : T → Bool
  | .ref _ => true
  | _ => false
theorem seq_ok {t : T} {v : V} {xs : List T} (sim : Sim W M S H) (r : RepX W cells M H t v) (e : seqAt S t = some xs) : ∃ a vs, v = .ref a ∧ SqK (isRefT t) W.K H a vs ∧ Reps W M H xs vs := by
  unfold seqAt at e
  split at e
  · cases e
    obtain ⟨a, vs, rfl, h1, h2⟩ := rep_tup r
    exact ⟨a, vs, rfl, h1, h2⟩
  · obtain ⟨a, h1, rfl⟩ := rep_ref r
    obtain ⟨vs, h2, h3⟩ := lstAt_ok sim h1 e
    exact ⟨a, vs, rfl, h2, h3⟩
  · cases e
theorem itr_zip {t u : T} {a b : Addr} (rt : RepX W cells M H t (.ref a)) (ru : RepX W cells M H u (.ref b)) : ItR W (ItzA (isRefT t) (isRefT u) W.K a b) (iZip t u) M H := fun i M' S' H' ex sim => by
  unfold iZip
  cases e1 : seqAt S' t with
  | none => trivial
  | some xs =>
    cases e2 : seqAt S' u with
    | none => trivial
    | some ys =>
      obtain ⟨a', vs, ea, h1, r1⟩ := seq_ok sim (rt.mono ex) e1
      obtain ⟨b', ws, eb, h2, r2⟩ := seq_ok sim (ru.mono ex) e2
      cases ea; cases eb
      dsimp only
      cases ex1 : xs[i]? with
      | none =>
        refine ⟨vs, ws, h1, h2, .inl ?_⟩
        rw [reps_len r1]
        exact List.getElem?_eq_none_iff.mp ex1
      | some x =>
        cases ey1 : ys[i]? with
        | none =>
          refine ⟨vs, ws, h1, h2, .inr ?_⟩
          rw [reps_len r2]
          exact List.getElem?_eq_none_iff.mp ey1
        | some y =>
          obtain ⟨v, hv, rv⟩ := reps_get' r1 ex1
          obtain ⟨w, hw, rw'⟩ := reps_get' r2 ey1
          refine ⟨⟨vs, ws, v, w, h1, h2, hv, hw⟩, fun z H2 ⟨T, x', y', e1, e2, e3, e4, e5⟩ => ?_⟩
          subst e1 e3
          have q1 := e4 vs h1
          have q2 := e5 ws h2
          rw [hv] at q1; cases q1
          rw [hw] at q2; cases q2
          refine ⟨M', ext_new e2, sim.new e2, ?_⟩
          unfold Rep
          exact ⟨T, [v, w], rfl, SqT.of upd_same, reps_cons (rv.mono (ext_new e2)) (reps_cons (rw'.mono (ext_new e2)) reps_nil)⟩
theorem ei_zip {e e2 : Expr} {da : DA} (hK : X.K = W.K) (hg : Gl X "zip") (hm : X.mg "zip" = none) (ha : EL X W cells wx [e, e2] da) (hs : starEach [e, e2] X.env = (false, eval e X.env) :: starEach [e2] X.env := by rfl) (hpl : (backTo pos (starEach [e2] X.env)).any (·.1) = false := by rfl) :
    EI X W cells wx tg (.Call (.Name "zip" p) [e, e2] [] pos) (dZip da) := pi_weak (pi_zA hg hm ha hs hpl) fun σ H Rr ⟨M, S, env, sim, er, post⟩ =>
  stepIA sim er post fun M1 S1 H1 ts vs ex sim1 r post1 => by
    split at post1
    · rename_i t u
      split at post1
      · rename_i hc
        simp only [Bool.and_eq_true] at hc
        obtain ⟨xs, e1⟩ := Option.isSome_iff_exists.mp hc.1
        obtain ⟨ys, e2⟩ := Option.isSome_iff_exists.mp hc.2
        obtain ⟨v, w, rfl, r1, r2⟩ := paired2 r
        obtain ⟨a, vs, rfl, h1, _⟩ := seq_ok sim1 r1 e1
        obtain ⟨b, ws, rfl, h2, _⟩ := seq_ok sim1 r2 e2
        exact ⟨_, _, a, b, vs, ws, rfl, hK ▸ h1, hK ▸ h2, post1 M1 H1 _ Ext.refl sim1 (hK ▸ itr_zip r1 r2)⟩
      · exact post1.elim
    · exact post1.elim
end
end DD
set_option Elab.async false
set_option linter.all false
set_option maxRecDepth 100000
set_option maxHeartbeats 4000000
/-! The Den layer, part 21: enumerate of a list or a tuple (the target written as a tuple). -/
namespace DD
open PySem PySem.Spec PyProof.Rows L2

section
variable {prog : Program} {w : World} {A : Around} {E : Value → Shared → Prop} {s : Shared} {k : Bool} {e it l : Addr} {i : Nat} {items : Array Value} {x old : Value}
theorem enumA_item {Q : Value → Shared → Prop} (he : IsEnum s.heap e it i old) (hit : ItA k s.heap it l i) (hl : SqA k s.heap l items) (hx : items[i]? = some x) (hne : e ≠ it)
    (hQ : ∀ h', IsEnumOut h' e it ((i : Int) + 1) x s.heap.objs.size → ItA k h' it l (i + 1) → h'.get? s.heap.objs.size = some { cls := .type "tuple", data := .seq #[.int i s.toks, x] } → h'.objs.size = s.heap.objs.size + 1 →
      (∀ b o, b ≠ e → b ≠ it → s.heap.get? b = some o → h'.get? b = some o) → Q (.ref s.heap.objs.size) { s with heap := h', toks := s.toks + 1 }) :
    wpAny (model prog w) A (Builtin.«enumerate.__next__» ⟨[.ref e], []⟩) (fun fin s' => ∃ v, fin = .done (.ret v) ∧ Q v s') E s := by
  obtain ⟨hp, g, d, tk, os⟩ := s
  show wpAny _ _ (field (.ref e) 2 >>= _) _ _ _
  refine wpAny_bind (wpAny_field he rfl (x := .ref it) rfl ?_)
  refine wpAny_bind (next_itemA hit hl hx fun h₁ hit₁ hs₁ => ?_)
  replace hs₁ : Heap.SameBut it hp h₁ := hs₁
  have he₁ : IsEnum h₁ e it i old := (hs₁.2 e hne).trans he
  show wpAny _ _ (field (.ref e) 3 >>= _) _ _ ⟨h₁, g, d, tk, os⟩
  refine wpAny_bind (wpAny_field he₁ rfl (x := rawInt i) rfl ?_)
  show wpAny _ _ (field (.ref e) 4 >>= _) _ _ ⟨h₁, g, d, tk, os⟩
  refine wpAny_bind (wpAny_field he₁ rfl (x := .none) rfl ?_)
  show wpAny _ _ (mkInt i >>= _) _ _ ⟨h₁, g, d, tk, os⟩
  refine wpAny_bind (wpAny_mkInt ?_)
  show wpAny _ _ (setField (.ref e) 3 (rawInt ((i : Int) + 1)) >>= _) _ _ ⟨h₁, g, d, tk + 1, os⟩
  refine wpAny_bind (wpAny_setField_rec he₁ (by simp) fun h₂ he₂ hs₂ => ?_)
  replace hs₂ : Heap.SameBut e h₁ h₂ := hs₂
  replace he₂ : IsEnum h₂ e it ((i : Int) + 1) old := he₂
  show wpAny _ _ (setField (.ref e) 4 .none >>= _) _ _ ⟨h₂, g, d, tk + 1, os⟩
  refine wpAny_bind (wpAny_setField_rec he₂ (by simp) fun h₃ he₃ hs₃ => ?_)
  replace hs₃ : Heap.SameBut e h₂ h₃ := hs₃
  replace he₃ : IsEnum h₃ e it ((i : Int) + 1) old := he₃
  show wpAny _ _ (newTuple [.int i tk, x] >>= _) _ _ ⟨h₃, g, d, tk + 1, os⟩
  refine wpAny_bind (wpAny_newTuple ?_)
  have he₄ : IsEnum (h₃.push { cls := .type "tuple", data := .seq #[.int i tk, x] }) e it ((i : Int) + 1) old := Heap.get?_push_of_some _ he₃
  generalize hh₄ : h₃.push { cls := .type "tuple", data := .seq #[.int i tk, x] } = h₄ at he₄
  have hsz : h₃.objs.size = hp.objs.size := by rw [hs₃.1, hs₂.1, hs₁.1]
  have hel : e < hp.objs.size := Heap.lt_size he
  have ht₄ : h₄.get? hp.objs.size = some { cls := .type "tuple", data := .seq #[.int i tk, x] } := by rw [← hh₄, ← hsz]; exact Heap.get?_push_size _ rfl
  have hz₄ : h₄.objs.size = hp.objs.size + 1 := by rw [← hh₄, Heap.size_push, hsz]
  have hk₄ : ∀ b o, b ≠ e → b ≠ it → hp.get? b = some o → h₄.get? b = some o := fun b o hbe hbi hb => by
    rw [← hh₄]; exact Heap.get?_push_of_some _ (hs₃.extBut b o hbe (hs₂.extBut b o hbe (hs₁.extBut b o hbi hb)))
  have hit₄ : ItA k h₄ it l (i + 1) := by
    rw [← hh₄]
    exact ((hit₁.ext hs₂.extBut (Ne.symm hne)).ext hs₃.extBut (Ne.symm hne)).at fun o q => Heap.get?_push_of_some _ q
  show wpAny _ _ (Builtin.SmallTypes.ownedTupleIsFree (.ref e) >>= _) _ _ ⟨h₄, g, d, tk + 1, os⟩
  rw [hsz]
  clear hh₄ he₃ hs₃ he₂ hs₂ he₁ hs₁ hit₁ hsz h₃ h₂ h₁
  refine wpAny_bind ?_
  unfold Builtin.SmallTypes.ownedTupleIsFree
  refine wpAny_bind (wpAny_field he₄ rfl (x := .none) rfl (wpAny_pure ?_))
  simp only [if_true]
  refine wpAny_bind (wpAny_rule ?_)
  refine wpAny_bind (wpAny_field he₄ rfl (x := old) rfl ?_)
  refine wpAny_bind (wpAny_setField_rec he₄ (by simp) fun h₅ he₅ hs₅ => ?_)
  replace hs₅ : Heap.SameBut e h₄ h₅ := hs₅
  replace he₅ : IsEnum h₅ e it ((i : Int) + 1) x := he₅
  show wpAny _ _ (Builtin.SmallTypes.ownedTupleHandOut (.ref e) (.ref hp.objs.size) >>= _) _ _ ⟨h₅, g, d, tk + 1, os⟩
  refine wpAny_bind ?_
  unfold Builtin.SmallTypes.ownedTupleHandOut
  refine wpAny_bind (wpAny_setField_rec he₅ (by simp) fun h₆ he₆ hs₆ => ?_)
  replace hs₆ : Heap.SameBut e h₅ h₆ := hs₆
  replace he₆ : IsEnumOut h₆ e it ((i : Int) + 1) x hp.objs.size := he₆
  refine wpAny_setField_rec he₆ (by simp) fun h₇ he₇ hs₇ => ?_
  replace hs₇ : Heap.SameBut e h₆ h₇ := hs₇
  replace he₇ : IsEnumOut h₇ e it ((i : Int) + 1) x hp.objs.size := he₇
  refine wpAny_bind (wpAny_letGo (wpAny_pure ⟨_, rfl, hQ h₇ he₇ ?_ ?_ ?_ ?_⟩))
  · exact ((hit₄.ext hs₅.extBut (Ne.symm hne)).ext hs₆.extBut (Ne.symm hne)).ext hs₇.extBut (Ne.symm hne)
  · exact hs₇.extBut _ _ (Nat.ne_of_gt hel) (hs₆.extBut _ _ (Nat.ne_of_gt hel) (hs₅.extBut _ _ (Nat.ne_of_gt hel) ht₄))
  · rw [hs₇.1, hs₆.1, hs₅.1, hz₄]
  · exact fun b o hbe hbi hb => hs₇.extBut b o hbe (hs₆.extBut b o hbe (hs₅.extBut b o hbe (hk₄ b o hbe hbi hb)))
theorem pyNext_enumA {Q : Option Value → Shared → Prop} (he : IsEnum s.heap e it i old) (hit : ItA k s.heap it l i) (hl : SqA k s.heap l items) (hx : items[i]? = some x) (hne : e ≠ it)
    (hQ : ∀ h', IsEnumOut h' e it ((i : Int) + 1) x s.heap.objs.size → ItA k h' it l (i + 1) → h'.get? s.heap.objs.size = some { cls := .type "tuple", data := .seq #[.int i s.toks, x] } → h'.objs.size = s.heap.objs.size + 1 →
      (∀ b o, b ≠ e → b ≠ it → s.heap.get? b = some o → h'.get? b = some o) → Q (some (.ref s.heap.objs.size)) { s with heap := h', toks := s.toks + 1 }) : wpAny (model prog w) A (pyNext (.ref e)) Q E s := by
  have hT : s.TypeIs (.ref e) "enumerate" := ⟨_, he, rfl⟩
  unfold pyNext
  exact wpAny_bind (wpAny_attempt (wpAny_callSpecial?_slot (name := Str.ofString "__next__") hT PySem.F.slot_enumerate_next
    (wpAny_call_entry PySem.F.slot_enumerate_next hT PySem.F.entry_enumerate_next (enumA_item he hit hl hx hne fun h' a b c d k => wpAny_pure (hQ h' a b c d k)) (PySem.F.args_enumerate_next_1 _))))
theorem pyNext_enumA_end {Q : Option Value → Shared → Prop} (hh : A.handled = none) (he : IsEnum s.heap e it i old) (hit : ItA k s.heap it l i) (hl : SqA k s.heap l items) (hx : items[i]? = none)
    (hQ : ∀ h', Heap.ExtBut it s.heap h' → Q none { s with heap := h' }) : wpAny (model prog w) A (pyNext (.ref e)) Q E s := by
  have hT : s.TypeIs (.ref e) "enumerate" := ⟨_, he, rfl⟩
  unfold pyNext
  refine wpAny_bind (wpAny_attempt (wpAny_callSpecial?_slot (name := Str.ofString "__next__") hT PySem.F.slot_enumerate_next (wpAny_call_entry PySem.F.slot_enumerate_next hT PySem.F.entry_enumerate_next ?_ (PySem.F.args_enumerate_next_1 _))))
  show wpAny _ _ (field (.ref e) 2 >>= _) _ _ _
  refine wpAny_bind (wpAny_field he rfl (x := .ref it) rfl ?_)
  refine wpAny_bind (next_endA hh hit hl hx fun h' x he' hx' => ?_)
  obtain ⟨o, ho, hc⟩ := hx'
  refine wpAny_bind (wpAny_isInstance (T := "StopIteration") (b := true) ⟨o, ho, hc⟩ isSubtype_stop ?_)
  exact wpAny_pure (hQ _ he')
end
theorem meets_enumT (l : Addr) (items : Array Value) :
    Meets (Builtin.«enumerate.__new__» ⟨[.type "enumerate", .ref l], []⟩) (fun _ R s => s.heap.IsTuple l items ∧
      R (.ok (.ret (.ref (s.heap.push { cls := .type "tuple_iterator", data := .fields #[.ref l, .int 0 0] }).objs.size)))
        { s with heap := (s.heap.push { cls := .type "tuple_iterator", data := .fields #[.ref l, .int 0 0] }).push { cls := .type "enumerate", data := .fields #[.none, .bool false, .ref s.heap.objs.size, rawInt 0, .none, .none] } }) :=
  .of_wp fun prog w A R s h => by
    obtain ⟨hp, g, d, tk, os⟩ := s; obtain ⟨hl, h⟩ := h
    have hsub := sub_enumerate
    have hL : Heap.IsTuple (Shared.heap ⟨hp, g, d, tk, os⟩) l items := hl
    wp_walk
    refine wpAny_stack_any fun st => wpAny_pure ?_
    split
    · rename_i c _ _ _ _ _
      cases (c == Value.type "enumerate")
      · wp_walk using wpAny_pyIter_tuple hL
        exact ⟨_, rfl, h⟩
      · wp_walk using wpAny_pyIter_tuple hL
        exact ⟨_, rfl, h⟩
    · wp_walk using wpAny_pyIter_tuple hL
      exact ⟨_, rfl, h⟩
section
variable {prog : Program} {w : World} {A : Around} {E : Value → Shared → Prop} {s : Shared}
theorem call_enumT {l : Addr} {items : Array Value} {Q : Value → Shared → Prop} (hL : s.heap.IsTuple l items)
    (h : ∀ h', IsEnum h' (s.heap.objs.size + 1) s.heap.objs.size 0 .none → h'.IsTupleIter s.heap.objs.size l 0 → (∀ b o, s.heap.get? b = some o → h'.get? b = some o) → Q (.ref (s.heap.objs.size + 1)) { s with heap := h' }) :
    wpAny (model prog w) A (call (.type "enumerate") [.ref l]) Q E s := by
  refine callType_new PySem.F.called_enumerate (by decide) (PySem.F.typeCall_enumerate_1 _) (PySem.F.newCall_enumerate_1 _) (fun obj => PySem.F.args_object_init_2 obj _) PySem.F.entry_enumerate_new (meets_enumT l items) ⟨hL, ?_⟩
  have z1 : (s.heap.push { cls := .type "tuple_iterator", data := .fields #[.ref l, .int 0 0] }).objs.size = s.heap.objs.size + 1 := Heap.size_push ..
  have g2 : ((s.heap.push { cls := .type "tuple_iterator", data := .fields #[.ref l, .int 0 0] }).push { cls := .type "enumerate", data := .fields #[.none, .bool false, .ref s.heap.objs.size, rawInt 0, .none, .none] }).get? (s.heap.push { cls := .type "tuple_iterator", data := .fields #[.ref l, .int 0 0] }).objs.size = some _ := Heap.get?_push_size _ rfl
  have g1 : ((s.heap.push { cls := .type "tuple_iterator", data := .fields #[.ref l, .int 0 0] }).push { cls := .type "enumerate", data := .fields #[.none, .bool false, .ref s.heap.objs.size, rawInt 0, .none, .none] }).get? s.heap.objs.size = some _ := Heap.get?_push_of_some _ (Heap.get?_push_size _ rfl)
  show _ ∧ _
  rw [z1] at g2 ⊢
  exact ⟨⟨_, g2, rfl⟩, h _ g2 ⟨_, g1, rfl, rfl⟩ fun b o x => Heap.get?_push_of_some _ (Heap.get?_push_of_some _ x)⟩
theorem call_enumA {k : Bool} {l : Addr} {items : Array Value} {Q : Value → Shared → Prop} (hL : SqA k s.heap l items)
    (h : ∀ h', IsEnum h' (s.heap.objs.size + 1) s.heap.objs.size 0 .none → ItA k h' s.heap.objs.size l 0 → (∀ b o, s.heap.get? b = some o → h'.get? b = some o) → Q (.ref (s.heap.objs.size + 1)) { s with heap := h' }) :
    wpAny (model prog w) A (call (.type "enumerate") [.ref l]) Q E s := by
  cases k
  · exact call_enumT hL h
  · exact call_enumerate_list hL fun h' a b _ c => h h' a b c
end
def IteA (k : Bool) (K : PySem.W.Frag) (a : Addr) : It :=
  ⟨fun i H => ∃ (xs : List V) (x : V), SqK k K H a xs ∧ xs[i]? = some x, fun i H v H' => ∃ T x, v = .ref T ∧ H T = none ∧ H' = upd H T (.tup [.int (i : Nat), x]) ∧ ∀ xs, SqK k K H a xs → xs[i]? = some x, fun i H => ∃ xs : List V, SqK k K H a xs ∧ xs.length ≤ i⟩
theorem turn_enumA {P : Program} {w : World} {K : PySem.W.Frag} {elts : List Expr} {kk : Nat} {tpos : Pos} {k : Bool} (a e it : Addr) :
    Turn P w K (.Tuple elts kk tpos) (IteA k K a) [e, it] e (fun i h => (∃ old, IsEnum h e it ((i : Nat) : Int) old) ∧ ItA k h it a i ∧ e ≠ it) where
  mem := by simp
  obj := fun i h st b hb => by
    obtain ⟨⟨old, he⟩, hi, _⟩ := st
    obtain ⟨o, ho, hd⟩ := hi.obj
    have e' : b = e ∨ b = it := by simpa using hb
    rcases e' with z | z
    · rw [z]; exact ⟨_, he, fun v q => nomatch q⟩
    · rw [z]; exact ⟨o, ho, fun v q => by rw [hd] at q; cases q⟩
  keep := fun i h h' st k => let ⟨⟨old, he⟩, hi, hne⟩ := st; ⟨⟨old, k e (by simp) _ he⟩, hi.at fun o q => k it (by simp) o q, hne⟩
  item := by
    intro X hP hw hK hc i pins s σ H E I hf st hg
    subst hP hw hK
    obtain ⟨⟨old, he⟩, hit, hne⟩ := st
    obtain ⟨xs, x, hq, hx⟩ := hg
    obtain ⟨its, rv, p, _⟩ := sq_at I hq
    obtain ⟨u, hu, ru⟩ := rv.get hx
    have hel : e < s.heap.objs.size := Heap.lt_size he
    have hil : it < s.heap.objs.size := by obtain ⟨_, q, _⟩ := hit.obj; exact Heap.lt_size q
    refine pyNext_enumA he hit p (x := u) (by simpa using hu) hne fun h' ho hit' hT hsz hk => ?_
    refine ⟨_, rfl, wpAny_letOwnedTupleGo_enum (s := { s with heap := h', toks := s.toks + 1 }) ho fun h'' he' sb => ?_⟩
    have hT2 : h''.get? s.heap.objs.size = some { cls := .type "tuple", data := .seq #[.int i s.toks, u] } := (sb.2 _ (Nat.ne_of_gt hel)).trans hT
    have new : ObjOk X.prog X.w (upd H s.heap.objs.size (.tup [.int (i : Nat), x])) h'' s.heap.objs.size (.tup [.int (i : Nat), x]) :=
      ⟨by show 2 ≤ sizeLine; decide, [.int i s.toks, u], .cons ⟨_, rfl⟩ (.cons ru .nil), ⟨_, hT2, rfl, _, rfl⟩⟩
    have I1 : Inv X pins σ (upd H s.heap.objs.size (.tup [.int (i : Nat), x])) { s with heap := h'', toks := s.toks + 1 } :=
      I.turnedNew (ch := [e, it]) (fun b ob hb q => (sb.2 b (fun z => hb (by simp [z]))).trans (hk b ob (fun z => hb (by simp [z])) (fun z => hb (by simp [z])) q)) hf (Nat.le_refl _) new
    refine ⟨.ref s.heap.objs.size, _, I1, rfl, ⟨_, x, rfl, I.hok.fresh (Nat.le_refl _), rfl, fun ys hy => by rw [sq_inj I hy hq]; exact hx⟩, ⟨⟨u, ?_⟩, hit'.at fun o q => (sb.2 it (Ne.symm hne)).trans q, hne⟩, fun b hb => ?_⟩
    · have e1 : ((i + 1 : Nat) : Int) = (i : Int) + 1 := by omega
      rw [e1]; exact he'
    · have hb' : b < s.heap.objs.size := by
        have e' : b = e ∨ b = it := by simpa using hb
        rcases e' with z | z
        · rw [z]; exact hel
        · rw [z]; exact hil
      rw [upd_ne (Nat.ne_of_lt hb')]
      exact (hf b hb).1
  done := by
    intro X hP hw hK hc i pins s σ H E I hf st hg
    subst hP hw hK
    obtain ⟨⟨old, he⟩, hit, hne⟩ := st
    obtain ⟨xs, hq, hx⟩ := hg
    obtain ⟨its, rv, p, _⟩ := sq_at I hq
    obtain ⟨f0, f1, f2, f3, f4, f5⟩ := hf it (by simp)
    have hl := rv.length
    exact pyNext_enumA_end (I.ok.hd hc) he hit p (by simp; omega) fun h' eb => ⟨rfl, I.turned (t' := s.toks) (fun b o hb q => eb b o hb q) f0 f1 f3 f4 f5⟩
  self := fun A i s Q E st h => let ⟨⟨_, he⟩, _⟩ := st; wpAny_pyIter_enum he h
def iEA (K : PySem.W.Frag) (ta : TA) : TI := fun σ H R => ta σ H fun vs H1 => ∃ k a xs, vs = [.ref a] ∧ SqK k K H1 a xs ∧ R (IteA k K a) H1
theorem pi_enumA {X : Cx} {e : Expr} {ta : TA} {p pos tpos : Pos} {elts : List Expr} {kk : Nat} (hg : Gl X "enumerate") (hm : X.mg "enumerate" = none) (ha : PA X [e] ta) (hs : starEach [e] X.env = [(false, eval e X.env)] := by rfl) :
    PI X (.Tuple elts kk tpos) (.Call (.Name "enumerate" p) [e] [] pos) (iEA X.K ta) := by
  refine ⟨fun pins s σ H R I h => ?_⟩
  refine Call_ (ld_blt I hg hm boot_enumerate (PyProof.Rows.callWith_type1 (thn (ha.run pos pins s σ H _ I h) fun us s1 ⟨vs, H1, I1, r1, q1⟩ => ?_) hs rfl))
  obtain ⟨k, a, xs, ex, hq, q⟩ := q1
  subst ex
  cases r1 with
  | cons r rr =>
    cases rr
    cases r
    obtain ⟨its, rv, p', _⟩ := sq_at I1 hq
    refine call_enumA p' fun h' he hit hk => wpAny_pyIter_enum he ?_
    have I2 : Inv X pins σ H1 { s1 with heap := h' } := I1.kept (t' := s1.toks) hk
    refine ⟨s1.heap.objs.size + 1, [s1.heap.objs.size + 1, s1.heap.objs.size], _, _, H1, rfl, I2, turn_enumA a (s1.heap.objs.size + 1) s1.heap.objs.size, ⟨⟨.none, he⟩, hit, Nat.succ_ne_self _⟩, fun b hb => ?_, q⟩
    have e' : b = s1.heap.objs.size + 1 ∨ b = s1.heap.objs.size := by simpa using hb
    have hle : s1.heap.objs.size ≤ b := by
      rcases e' with z | z
      · rw [z]; exact Nat.le_add_right _ _
      · rw [z]; exact Nat.le_refl _
    exact I1.fpOk hle (I1.hok.fresh hle)
def iEnm (t : T) : ItD := fun i S => match seqAt S t with
  | some xs => (match xs[i]? with
    | some x => .item (.tup [.int i, x])
    | none => .stop)
  | none => .bad
def dEnm (a : DA) : DI := fun env S => (a env S).bind fun ts S1 => match ts with
  | [t] => if (seqAt S1 t).isSome then .ok (iEnm t) S1 else .bad
  | _ => .bad
section
variable {X : Cx} {W : Wd} {cells : List (Str × Addr)} {wx : WX} {M : List Addr} {S : Store} {H : Hp} {pos p tpos : Pos} {elts : List Expr} {kk : Nat}
theorem itr_enm {t : T} {a : Addr} (rt : RepX W cells M H t (.ref a)) : ItR W (IteA (isRefT t) W.K a) (iEnm t) M H := fun i M' S' H' ex sim => by
  unfold iEnm
  cases e1 : seqAt S' t with
  | none => trivial
  | some xs =>
    obtain ⟨a', vs, ea, h1, r1⟩ := seq_ok sim (rt.mono ex) e1
    cases ea
    dsimp only
    cases ex1 : xs[i]? with
    | none =>
      refine ⟨vs, h1, ?_⟩
      rw [reps_len r1]
      exact List.getElem?_eq_none_iff.mp ex1
    | some x =>
      obtain ⟨v, hv, rv⟩ := reps_get' r1 ex1
      refine ⟨⟨vs, v, h1, hv⟩, fun z H2 ⟨T, x', e1, e2, e3, e4⟩ => ?_⟩
      subst e1 e3
      have q1 := e4 vs h1
      rw [hv] at q1; cases q1
      refine ⟨M', ext_new e2, sim.new e2, ?_⟩
      unfold Rep
      exact ⟨T, [.int (i : Nat), v], rfl, SqT.of upd_same, reps_cons r_int (reps_cons (rv.mono (ext_new e2)) reps_nil)⟩
theorem ei_enm {e : Expr} {da : DA} (hK : X.K = W.K) (hg : Gl X "enumerate") (hm : X.mg "enumerate" = none) (ha : EL X W cells wx [e] da) (hs : starEach [e] X.env = [(false, eval e X.env)] := by rfl) :
    EI X W cells wx (.Tuple elts kk tpos) (.Call (.Name "enumerate" p) [e] [] pos) (dEnm da) := pi_weak (pi_enumA hg hm ha hs) fun σ H Rr ⟨M, S, env, sim, er, post⟩ =>
  stepIA sim er post fun M1 S1 H1 ts vs ex sim1 r post1 => by
    split at post1
    · rename_i t
      split at post1
      · rename_i hc
        obtain ⟨xs, e1⟩ := Option.isSome_iff_exists.mp hc
        obtain ⟨v, rfl, r1⟩ := paired1 r
        obtain ⟨a, vs, rfl, h1, _⟩ := seq_ok sim1 r1 e1
        exact ⟨_, a, vs, rfl, hK ▸ h1, post1 M1 H1 _ Ext.refl sim1 (hK ▸ itr_enm r1)⟩
      · exact post1.elim
    · exact post1.elim
end
end DD
set_option Elab.async false
set_option linter.all false
set_option maxRecDepth 100000
set_option maxHeartbeats 4000000
/-! The Den layer, part 22: x[::-1], list(range(n)), repr, a written dict of one entry. -/
namespace DD
open PySem PySem.Spec PyProof.Rows L2

/-! ### t[::-1] -/
section
variable {prog : Program} {w : World} {A : Around} {E : Value → Shared → Prop} {s : Shared}
theorem sliceRev {sl : Addr} {vl vu vs : Value} {n : Nat} {Q : Int × Int × Nat → Shared → Prop} (hs : s.heap.IsSliceOf sl vl vu vs) (pl : IsPart vl none) (pu : IsPart vu none) (ps : IsPart vs (some (-1)))
    (h : Q ((n : Int) - 1, -1, n) s) : wpAny (model prog w) A (Builtin.Slice.sliceApplied (.ref sl) (pure (n : Int))) Q E s := by
  obtain ⟨os, hos, hcs, hds⟩ := id hs
  unfold Builtin.Slice.sliceApplied Builtin.Slice.sliceFields
  refine wpAny_bind (wpAny_bind (wpAny_field hos hds (x := vl) rfl (wpAny_bind (wpAny_field hos hds (x := vu) rfl (wpAny_bind (wpAny_field hos hds (x := vs) rfl (wpAny_pure ?_)))))))
  refine wpAny_bind (HT.slicePart_ ps ?_)
  show wpAny _ _ (if ((-1 : Int) == 0) = true then _ else _) _ _ s
  rw [if_neg (by decide)]
  refine wpAny_bind (HT.slicePart_ pl (wpAny_bind (HT.slicePart_ pu (wpAny_bind (wpAny_pure ?_)))))
  have e : Builtin.Slice.slicePlaces ((n : Int) - 1) (-1) (-1) = n := by
    unfold Builtin.Slice.slicePlaces
    rw [if_neg (by omega)]
    split
    · rw [show (-(-1) : Int) = 1 by decide, Int.ediv_one]; omega
    · omega
  show wpAny _ _ (pure ((n : Int) - 1, (-1 : Int), Builtin.Slice.slicePlaces ((n : Int) - 1) (-1) (-1))) _ _ s
  rw [e]
  exact wpAny_pure h
theorem filterMap_same {α β : Type} {f g : α → Option β} : ∀ {l : List α}, (∀ x ∈ l, f x = g x) → l.filterMap f = l.filterMap g
  | [], _ => rfl
  | x :: l, h => by
    rw [List.filterMap_cons, List.filterMap_cons, h x List.mem_cons_self, filterMap_same fun y hy => h y (List.mem_cons_of_mem _ hy)]
theorem pick_rev (xs : Array Value) : ((List.range xs.size).filterMap fun (m : Nat) => xs[(((xs.size : Nat) : Int) - 1 + (m : Int) * (-1)).toNat]?).toArray = xs.toList.reverse.toArray := by
  have h := PySem.W.krv_pick xs
  unfold slicePick at h
  rw [PySem.W.krv_bounds] at h
  simp only [PySem.W.krv_sliceRange] at h
  rw [List.filterMap_map] at h
  rw [← h]
  congr 1
  refine filterMap_same fun m hm => ?_
  have := List.mem_range.mp hm
  simp only [Function.comp]
  congr 1
  omega
theorem getItem_tuple_rev {t sl : Addr} {items : Array Value} {vl vu vs : Value} {Q : Value → Shared → Prop} (ht : IsTup s.heap t items) (hs : s.heap.IsSliceOf sl vl vu vs) (pl : IsPart vl none) (pu : IsPart vu none) (ps : IsPart vs (some (-1)))
    (h : Q (.ref s.heap.objs.size) { s with heap := s.heap.push { cls := .type "tuple", data := .seq items.toList.reverse.toArray } }) (hsz : items.size ≤ sizeLine) : wpAny (model prog w) A (getItem (.ref t) (.ref sl)) Q E s := by
  obtain ⟨os, hos, hcs, hds⟩ := id hs
  have hTs : s.TypeIs (.ref sl) "slice" := ⟨os, hos, hcs⟩
  unfold getItem
  try with_reducible refine wpAny_holding ?_
  first | refine wpAny_bind (wpAny_pure ?_) | skip
  refine wpAny_bind (wpAny_sequenceKey ht.typeIs (by decide) ?_)
  refine wpAny_bind (wpAny_callSpecial?_slot (name := Str.ofString "__getitem__") ht.typeIs PyProof.Rows.slot_tuple_getitem
    (wpAny_call_entry PyProof.Rows.slot_tuple_getitem ht.typeIs entry_tuple_getitem ?_ (args_tuple_getitem _ _)))
  show wpAny _ _ (Builtin.Tuple.tupleItemsOf (.ref t) >>= _) _ _ s
  refine wpAny_bind (PyProof.Rows.tupleItemsOf_ ht ?_)
  refine wpAny_bind (wpAny_typeOf hTs ?_)
  rw [if_pos (by decide)]
  refine wpAny_bind (sliceRev hs pl pu ps ?_)
  have hno : ¬ ((((items.size : Nat) : Int) - 1 == 0 && (-1 : Int) == 1 && items.size == items.size) = true) := by
    intro q
    rw [Bool.and_eq_true, Bool.and_eq_true] at q
    exact absurd q.1.2 (by decide)
  show wpAny _ _ (if (((items.size : Nat) : Int) - 1 == 0 && (-1 : Int) == 1 && items.size == items.size) = true then _ else _) _ _ s
  rw [if_neg hno, pick_rev]
  have hok : sizeOk (.seq items.toList.reverse.toArray) := by
    show items.toList.reverse.toArray.size ≤ sizeLine
    rw [List.size_toArray, List.length_reverse, Array.length_toList]; exact hsz
  first
    | exact wpAny_bind (m := Builtin.Tuple.tupleExact _) (wpAny_newObj_type (wpAny_pure ⟨_, rfl, wpAny_pure h⟩) hok)
    | exact wpAny_bind (m := Builtin.Tuple.tupleExact _) (wpAny_newObj_type (wpAny_bind (wpAny_pure (wpAny_pure ⟨_, rfl, wpAny_pure h⟩))) hok)
    | exact wpAny_bind (wpAny_bind (m := Builtin.Tuple.tupleExact _) (wpAny_newObj_type (wpAny_pure (wpAny_pure ⟨_, rfl, wpAny_pure h⟩)) hok))
    | exact wpAny_bind (wpAny_bind (m := Builtin.Tuple.tupleExact _) (wpAny_newObj_type (wpAny_pure ⟨_, rfl, wpAny_pure h⟩) hok))
end
section
variable {X : Cx}
def tRevA (K : PySem.W.Frag) (te : TE) : TE := fun σ H Q => te σ H fun x H1 => ∃ a xs, x = .ref a ∧ ((SqL K H1 a xs ∧ ∀ p, H1 p = none → Q (.ref p) (upd H1 p (.lst xs.reverse))) ∨ (SqT K H1 a xs ∧ ∀ p, H1 p = none → Q (.ref p) (upd H1 p (.tup xs.reverse))))
theorem pe_revA {e : Expr} {te : TE} {k : Nat} {p1 p2 p3 pos : Pos} (he : PE X e te) : PE X (.Subscript e (.Slice none none (some (.UnaryOp .USub (.Constant (.int 1) k p1) p2)) p3) pos) (tRevA X.K te) := by
  refine ⟨fun pins s σ H Q I h => ?_⟩
  refine Subscript_ (thn (he.run pins s σ H _ I h) fun v s1 ⟨x, H1, I1, r1, a, xs, ex, hx⟩ => ?_)
  subst ex
  cases r1
  have hst : PO X (some (.UnaryOp .USub (.Constant (.int 1) k p1) p2)) (tPart (tUn (rU fun i => .int (-i)) (tC (.int 1)))) := po_some (pe_un un_neg pe_int)
  refine wpAny_Slice (thn (po_none.run pins s1 σ H1 (fun o H2 => o = none ∧ H2 = H1) I1 ⟨rfl, rfl⟩) fun vl s2 ⟨l, H2, I2, pl, el, e2⟩ => ?_)
  subst el e2
  refine thn (po_none.run pins s2 σ H2 (fun o H3 => o = none ∧ H3 = H2) I2 ⟨rfl, rfl⟩) fun vu s3 ⟨u, H3, I3, pu, eu, e3⟩ => ?_
  subst eu e3
  refine thn (hst.run pins s3 σ H3 (fun o H4 => o = some (-1) ∧ H4 = H3) I3 ⟨1, rfl, -1, rfl, rfl, rfl⟩) fun vs s4 ⟨o, H4, I4, ps, eo, e4⟩ => ?_
  subst eo e4
  have I5 : Inv X pins σ H4 { s4 with heap := s4.heap.push { cls := .type "slice", data := .fields #[vl, vu, vs] } } := I4.kept (t' := s4.toks) fun b ob q => Heap.get?_push_of_some _ q
  show wpAny (model X.prog X.w) X.A (subscriptTail e (.Slice none none (some (.UnaryOp .USub (.Constant (.int 1) k p1) p2)) p3) (.ref a) (.ref s4.heap.objs.size)) (EP X pins σ Q) X.xe { s4 with heap := s4.heap.push { cls := .type "slice", data := .fields #[vl, vu, vs] } }
  rcases hx with ⟨hx, q⟩ | ⟨hx, q⟩
  · obtain ⟨its, r, ht, hz⟩ := I5.list hx
    have hlen := r.length
    refine tail_any (ops := [.ref a, .ref s4.heap.objs.size]) ht.isList.typeIs (PySem.slot_list_getitem.lookup) ?_ (by with_unfolding_all rfl)
    refine wpAny_getItem_list_slice ht.isList (Heap.IsSliceOf.new _ vl vu vs) pl pu ps (by decide) ?_ (by rw [List.size_toArray]; omega)
    rw [PySem.W.krv_pick]
    refine ⟨.ref _, _, I5.laid (t' := s4.toks) (o := .lst xs.reverse) (fun b ob q => Heap.get?_push_of_some _ q) (Nat.le_refl _) ?_, rfl, q _ (I5.hok.fresh (Nat.le_refl _))⟩
    exact ⟨by rw [List.length_reverse]; exact hz, _, 0, r.reverse, Heap.get?_push_size _ rfl⟩
  · obtain ⟨its, r, ht, hz⟩ := I5.tuple hx
    have hlen := r.length
    refine tail_any (ops := [.ref a, .ref s4.heap.objs.size]) ht.typeIs (PyProof.Rows.slot_tuple_getitem.lookup) ?_ (by with_unfolding_all rfl)
    refine getItem_tuple_rev ht (Heap.IsSliceOf.new _ vl vu vs) pl pu ps ?_ (by rw [List.size_toArray]; omega)
    refine ⟨.ref _, _, I5.laid (t' := s4.toks) (o := .tup xs.reverse) (fun b ob q => Heap.get?_push_of_some _ q) (Nat.le_refl _) ?_, rfl, q _ (I5.hok.fresh (Nat.le_refl _))⟩
    exact ⟨by rw [List.length_reverse]; exact hz, _, by simpa using r.reverse, IsTup.new _ _⟩
end
def nRev : T → Store → R T
  | .tup ts, S => .ok (.tup ts.reverse) S
  | .ref n, S => match lstAt S n with
    | some ts => newO (.lst ts.reverse) S
    | none => .bad
  | _, _ => .bad
section
variable {X : Cx} {W : Wd} {cells : List (Str × Addr)} {wx : WX} {pos : Pos}
theorem ee_rev {e : Expr} {d : DE} {k : Nat} {p1 p2 p3 : Pos} (hK : X.K = W.K) (h : EE X W cells wx e d) : EE X W cells wx (.Subscript e (.Slice none none (some (.UnaryOp .USub (.Constant (.int 1) k p1) p2)) p3) pos) (dUn nRev d) :=
  pe_weak (pe_revA h) fun σ H Q ⟨M, S, env, sim, er, post⟩ => step (α := Unit) sim er post fun M1 S1 H1 t v e1 sim1 er1 r1 post1 => by
    rw [hK]
    unfold nRev at post1
    split at post1
    · obtain ⟨a, vs, rfl, h1, r⟩ := rep_tup r1
      exact ⟨a, vs, rfl, .inr ⟨h1, fun p hp => tup_new sim1 post1 hp (reps_rev r)⟩⟩
    · split at post1
      · rename_i ts e0
        obtain ⟨a, h1, rfl⟩ := rep_ref r1
        obtain ⟨vs, h2, r⟩ := lstAt_ok sim1 h1 e0
        exact ⟨a, vs, rfl, .inl ⟨h2, fun p hp => lst_new sim1 post1 hp (reps_rev r)⟩⟩
      · exact post1.elim
    · exact post1.elim

/-! ### list(range(n)) -/
theorem cr_range1 : CallR X (.type "range") (fun vs H Q => ∃ j, vs = [V.int j] ∧ ∀ p, H p = none → Q (.ref p) (upd H p (.rng 0 j))) := by
  intro pins s σ H vs us Q I r ⟨j, e, q⟩
  subst e
  cases r with
  | cons r1 r2 =>
    cases r2
    obtain ⟨t, rfl⟩ := r1
    refine call_range_1 ⟨.ref s.heap.objs.size, upd H s.heap.objs.size (.rng 0 j), I.laid (t' := s.toks + 1 + 1) (fun b o e => Heap.get?_push_of_some _ e) (Nat.le_refl _) ?_, rfl, q _ (I.hok.fresh (Nat.le_refl _))⟩
    exact ⟨_, _, _, Heap.get?_push_size _ rfl⟩
def intsUp (lo : Int) (n : Nat) : List Int := (List.range n).map fun i => lo + (i : Nat)
def rListRng : List V → Hp → VK → Prop := fun vs H Q => ∃ (a : Addr) (lo hi : Int), vs = [V.ref a] ∧ H a = some (.rng lo hi) ∧ -(2 ^ 62) ≤ lo ∧ lo < 2 ^ 62 ∧ -(2 ^ 62) ≤ hi ∧ hi < 2 ^ 62 ∧ (hi - lo).toNat ≤ 2 ^ 24 ∧ ∀ p, H p = none → Q (.ref p) (upd H p (.lst ((intsUp lo (hi - lo).toNat).map V.int)))
theorem itemsOf_vals {lo : Int} : ∀ (n : Nat) (acc : Array Value), ItemsOf (fun i (v : Value) => ∃ t, v = Value.int (lo + (i : Nat) * 1) t) acc n → Vals ((intsUp lo n).map V.int) acc.toList := by
  intro n acc ⟨hs, hi⟩
  have key : ∀ (m : Nat) (l : List Value), l.length = m → (∀ (j : Nat) (v : Value), l[j]? = some v → ∃ t, v = Value.int (lo + (j : Nat) * 1) t) → Vals ((intsUp lo m).map V.int) l := by
    intro m
    induction m with
    | zero => intro l hl _; rw [List.eq_nil_of_length_eq_zero hl]; exact .nil
    | succ m ih =>
      intro l hl h
      obtain ⟨l', x, rfl⟩ : ∃ l' x, l = l' ++ [x] := ⟨l.dropLast, l.getLast (by intro z; rw [z] at hl; cases hl), (List.dropLast_concat_getLast _).symm⟩
      have hl' : l'.length = m := by simpa using hl
      have e : (intsUp lo (m + 1)).map V.int = (intsUp lo m).map V.int ++ [V.int (lo + (m : Nat))] := by simp [intsUp, List.range_succ]
      rw [e]
      refine paired_snoc (ih l' hl' fun j v hj => h j v (at_app hj)) ?_
      obtain ⟨t, ht⟩ := h m x (by rw [← hl']; simp)
      exact ⟨t, by rw [ht, Int.mul_one]⟩
  exact key n acc.toList (by simpa using hs) fun j v hj => hi j v (by simpa using hj)
theorem call_listRng (hc : X.calm = true) : CallR X (.type "list") rListRng := by
  intro pins s σ H vs us Q I r ⟨a, lo, hi, e, ha, h1, h2, h3, h4, h5, q⟩
  subst e
  cases r with
  | cons r1 r2 =>
    cases r2
    rename_i u
    obtain rfl : u = Value.ref a := r1
    obtain ⟨t, u, v, hr⟩ := I.hok a _ ha
    have hsz : Builtin.Range.rangeSize lo hi 1 = ((hi - lo).toNat : Nat) := by rw [rangeSize_one]; split <;> omega
    refine call_list_range (I.ok.hd hc) hr (small_one h1 h2 h3 h4) hsz h5 fun h' tk acc' c' hk hS hacc => ?_
    have hv := itemsOf_vals _ _ hacc
    refine ⟨.ref s.heap.objs.size, _, I.laid (t' := tk) (o := .lst ((intsUp lo (hi - lo).toNat).map V.int)) hk (Nat.le_refl _) ⟨?_, acc'.toList, c', hv, by simpa using hS⟩, rfl, q _ (I.hok.fresh (Nat.le_refl _))⟩
    simp only [List.length_map, intsUp, List.length_range, sizeLine_eq]
    omega
def nListRng : List T → Store → R T
  | [.int j], S => if inB j && decide (j.toNat ≤ LINE) then newO (.lst ((intsUp 0 j.toNat).map T.int)) S else .bad
  | _, _ => .bad
theorem reps_ints {M : List Addr} {H : Hp} : ∀ ns : List Int, Reps W M H (ns.map T.int) (ns.map V.int)
  | [] => reps_nil
  | n :: ns => reps_cons r_int (reps_ints ns)
theorem ee_listRng {a : Expr} {da : DA} {p q pos' : Pos} (hc : X.calm = true) (hgl : Gl X "list") (hml : X.mg "list" = none) (hg : Gl X "range") (hm : X.mg "range" = none) (ha : EL X W cells wx [a] da) (hs : starEach [a] X.env = [(false, eval a X.env)] := by rfl) :
    EE X W cells wx (.Call (.Name "list" p) [.Call (.Name "range" q) [a] [] pos'] [] pos) (dCallF nListRng da) :=
  pe_weak (pe_callTy (call_listRng hc) hgl hml (by decide +kernel) (pa_cons (pe_callTy cr_range1 hg hm (by decide +kernel) ha (he := hs)) pa_nil)) fun σ H Q ⟨M, S, env, sim, er, post⟩ => by
    refine stepA sim er post fun M1 S1 H1 ts vs e1 sim1 er1 r1 post1 => ?_
    unfold nListRng at post1
    split at post1
    · rename_i j
      split at post1
      · rename_i hb
        simp only [Bool.and_eq_true, decide_eq_true_eq] at hb
        obtain ⟨v, rfl, r⟩ := paired1 r1
        rw [rep_int r]
        refine ⟨j, rfl, fun p hp => ⟨p, 0, j, rfl, upd_same, by omega, by omega, (inB_ok hb.1).1, (inB_ok hb.1).2, ?_, fun z hz => ?_⟩⟩
        · have := hb.2; unfold LINE at this; omega
        · have ex : Ext M1 H1 M1 (upd H1 p (.rng 0 j)) := ext_new hp
          have sim2 := sim1.new (o := .rng 0 j) hp
          have post2 := PostE.mono ex post1
          rw [Int.sub_zero]
          exact lst_new sim2 post2 hz (reps_ints _)
      · exact post1.elim
    · exact post1.elim

/-! ### repr -/
def nRepr : List T → Store → R T
  | [t], S => match t with
    | .tup _ => (match dat S t with
      | some d => if d.showable && !d.hasDict && decide (d.depth ≤ 60) && decide (d.shown.length ≤ LINE) then .ok (.str d.shown) S else .bad
      | none => .bad)
    | .ref _ => (match dat S t with
      | some d => if d.showable && !d.hasDict && decide (d.depth ≤ 60) && decide (d.shown.length ≤ LINE) then .ok (.str d.shown) S else .bad
      | none => .bad)
    | _ => .bad
  | _, _ => .bad
def rRepr (K : PySem.W.Frag) : List V → Hp → VK → Prop := fun vs H Q => ∃ (a : Addr) (d : PyData), vs = [V.ref a] ∧ Dp K H (.ref a) d ∧ d.showable = true ∧ d.hasDict = false ∧ d.depth ≤ 60 ∧ d.shown.length ≤ sizeLine ∧ Q (.str d.shown) H
theorem call_repr (hg : X.A.guards = some []) (hu : X.A.units + 65 < cLine) : CallR X (.builtin "repr") (rRepr X.K) := by
  intro pins s σ H vs us Q I r ⟨a, d, e, hd, h1, h2, h3, h4, q⟩
  subst e
  cases r with
  | cons r1 r2 =>
    cases r2
    obtain ⟨as, hr⟩ := Dp.reads I d _ _ hd r1
    rename_i u
    obtain rfl : u = Value.ref a := r1
    refine repr_of_reads' (hsz := h4) hr h1 (fun z => by rw [h2] at z; cases z) hg (by omega) (fun _ _ z => z) fun h' u tk hk => ⟨.str d.shown, H, I.kept (t' := tk) hk, ⟨u, rfl⟩, q⟩
theorem repr_w (hK : X.K = W.K) : CallD W cells wx (rRepr X.K) nRepr := fun σ M S H Q ts vs sim pr post => by
  have gen : ∀ {t : T} {v : V} {a : Addr}, RepX W cells M H t v → v = .ref a → PostE W cells wx σ M H Q (match dat S t with
      | some d => if d.showable && !d.hasDict && decide (d.depth ≤ 60) && decide (d.shown.length ≤ LINE) then .ok (.str d.shown) S else .bad
      | none => .bad) → rRepr X.K [v] H Q := fun {t v a} r ev post => by
    split at post
    · rename_i d e
      split at post
      · rename_i hc
        simp only [Bool.and_eq_true, Bool.not_eq_true', decide_eq_true_eq] at hc
        subst ev
        exact ⟨a, d, rfl, hK ▸ dat_dp sim e r, hc.1.1.1, hc.1.1.2, hc.1.2, by rw [line_eq]; exact hc.2, PostE.here post sim x_str⟩
      · exact post.elim
    · exact post.elim
  unfold nRepr at post
  split at post
  · obtain ⟨v, rfl, r⟩ := paired1 pr
    split at post
    · obtain ⟨a, ws, ev, _⟩ := rep_tup r
      exact gen r ev post
    · obtain ⟨a, _, ev⟩ := rep_ref r
      exact gen r ev post
    · exact post.elim
  · exact post.elim

/-! ### {k: v}, the key an int or a text -/
def dDisp1 (k : Key) (v : DE) : DE := fun env S => (v env (S ++ [.dct []])).bind fun t S1 => match S1[S.length]? with
  | some (.dct []) => if t.plain then .ok (.ref S.length) (S1.set S.length (.dct [(k, t)])) else .bad
  | _ => .bad
theorem ee_disp1 {ke ve : Expr} {k : Key} {dv : DE} (hk : PE X ke (tC (kV k))) (hv : EE X W cells wx ve dv) : EE X W cells wx (.Dict [some ke] [ve] pos) (dDisp1 k dv) :=
  pe_weak (pe_disp (pps_cons hk hv pps_nil) rfl rfl (fun z => by cases z) (by show 1 ≤ 15; decide)) fun σ H Q ⟨M, S, env, sim, er, post⟩ p hp => by
    have sim1 : Sim W (M ++ [p]) (S ++ [.dct []]) (upd H p (.dK [])) := sim.alloc hp ⟨[], upd_same, reps_nil⟩
    have ex1 : Ext M H (M ++ [p]) (upd H p (.dK [])) := ext_alloc hp
    refine step (α := Unit) sim1 (er.mono ex1) (PostE.mono ex1 post) fun M2 S2 H2 t v e2 sim2 er2 r2 post2 => ?_
    have hp2 : M2[S.length]? = some p := e2.m _ _ (by rw [← sim.len]; exact snoc_get)
    split at post2
    · rename_i e0
      split at post2
      · rename_i hpl
        obtain ⟨vs, h1, h2⟩ := dct_at sim2 hp2 e0
        refine ⟨h1, [(k, v)], rfl, by show 1 ≤ 15; decide, ?_⟩
        have ex3 : Ext M2 H2 M2 (upd H2 p (.dK (mergeK [] [(k, v)]))) := ext_write h1 not_fix_dk
        refine post2 M2 _ _ ex3 (sim2.write (ob' := .dct [(k, t)]) e0 hp2 h1 not_fix_dk rfl rfl ⟨[v], upd_same, reps_cons ((r2.rep hpl).mono ex3) reps_nil⟩) ?_
        show Rep ..
        exact Rep.ref_of hp2
      · exact post2.elim
    · exact post2.elim
end
end DD
set_option Elab.async false
set_option linter.all false
set_option maxRecDepth 100000
set_option maxHeartbeats 4000000
/-! The Den layer, part 23: what a proof's derivations lean on: the defs of the text, their errors, the built-ins. -/
namespace DD
open PySem PySem.Spec PyProof.Rows L2

/-- a def of the text: what is known of it where the top has been run -/
structure FnR (K : PySem.W.Frag) (mg : Str → Option Value) (W : Wd) (x : Str) (i : Nat) (st : Stmt) : Prop where
  hm : mg x = some (.ref (W.fa i))
  fn : ∃ fd, Fun K x x st (W.fa i) fd
/-- a def that may be called, at level k -/
structure FnD (P : Program) (w : World) (K : PySem.W.Frag) (mg : Str → Option Value) (base : Heap) (W : Wd) (k : Nat) (x : Str) (i : Nat) (F : List T → Store → R T) : Prop where
  hm : mg x = some (.ref (W.fa i))
  keep : PySem.W.keepIn K (.ref (W.fa i)) = true
  ok : ∃ (fd : FuncData) (ps : List Str) (n : Nat), FnG P w K mg base k (W.fa i) fd ps (spD W n F) ∧ Binds K fd ps [] ∧ ∀ ts S, ts.length ≠ n → F ts S = .bad
theorem FnD.at {X : Cx} {W : Wd} {k l i : Nat} {x : Str} {F : List T → Store → R T} (d : FnD X.prog X.w X.K X.mg X.base W k x i F) (hr : Room l X.A) (hk : k ≤ l := by decide) : FnAt X W x i F := by
  obtain ⟨h1, h2, fd, ps, n, h3, h4, h5⟩ := d
  exact ⟨h1, h2, fd, ps, n, k, hr.mono hk, h3, h4, h5⟩
theorem runD_bad {nl np : Nat} {b : DS} : ∀ ts S, ts.length ≠ np → runD nl np b ts S = .bad := fun ts S h => if_neg h
section
variable {P : Program} {w : World} {K : PySem.W.Frag} {mg : Str → Option Value} {base : Heap} {W : Wd}
/-- THE RULE: a def of the text by its body -/
theorem fnd_of {x : Str} {i k nl np : Nat} {st : Stmt} {N ps : List Str} {db : DS} (r : FnR K mg W x i st) (hs : FnScope N ps (defScope st)) (hnl : N.length = nl) (hnp : ps.length = np)
    (hb : ∀ (kV doc pm : Value) (an : Option Addr) (cdv ct : Value) (us : List Value), us.length = ps.length → bindArgs (PySem.W.fnOf x x (defArgs st) (defBody st) (defScope st) .none kV doc pm an cdv ct) ⟨us, []⟩ = pure (ps.zip us))
    (hbody : ∀ (cdv : Value) (A : Around) (outer : List Env) (s : Shared) (H : Hp) (E : XK), Room k (A.deeper (envOfC x (defScope st) s.heap.objs.size (W.fa i) cdv)) → A.guards = some [] →
      EBk (cxOf (L2N.CX P w) P w K mg base N x (defScope st) (W.fa i) cdv A outer s H E) W (envOfC x (defScope st) s.heap.objs.size (W.fa i) cdv).cells (wxD E) (defBody st) db) :
    FnD P w K mg base W (k + 1) x i (runD nl np db) := by
  obtain ⟨hm, fd, F⟩ := r
  have bd := F.binds (ps := ps) hb
  obtain ⟨oc, od, kV, doc, pm, an, cdv, ct, osl, rfl, lk, hcd⟩ := F.ex
  exact ⟨hm, F.kp, _, ps, np, fng_of lk hcd hs hnl hnp fun A outer s H E hr hg => hbody cdv A outer s H E hr hg, bd, runD_bad⟩
end
/-- an error class of the text that is made with a text alone -/
structure ErrR (K : PySem.W.Frag) (mg : Str → Option Value) (W : Wd) (x : Str) (c : Nat) (bmB : List Value) : Prop where
  hm : mg x = some (.ref (W.ca c))
  ex : PySem.W.excIn K (W.ca c) bmB "ValueError.__new__" = true
  kp : PySem.W.keepIn K (.ref (W.ca c)) = true
  sb : PySem.W.subIn K (.ref (W.ca c)) (.type "BaseException") = some true
  ty : PySem.W.typeIn K (.ref (W.ca c)) = some (.type "type")
theorem ErrR.mk' {X : Cx} {W : Wd} {x m : Str} {c j : Nat} {bmB : List Value} {initId : String} {p p2 pos : Pos} (r : ErrR X.K X.mg W x c bmB) (F : ExcBaseFacts "ValueError" "ValueError.__new__" initId bmB) (hg : Gl X x) (hdb : (x == ("__debug__" : Str)) = false := by decide) :
    L2N.PMk X (.Call (.Name x p) [.Constant (.str m) j p2] [] pos) (fun _ H Q => Q (.ref (W.ca c)) none H) := L2N.pmk_own F r.ex r.hm r.kp (L2.raises_own r.sb r.ty) hg hdb
end DD
set_option Elab.async false
set_option linter.all false
set_option maxRecDepth 100000
set_option maxHeartbeats 4000000
/-! The Den layer, part 24: words for the printed derivations. -/
namespace DD
open PySem PySem.Spec PyProof.Rows L2

theorem takesF {X : Cx} : L2N.Takes X wF := fun u s' ⟨_, _, _, _, _, _, _, _, _, _, _, _, _, _, _, _, z⟩ => z.elim
/-- a def of the text that makes closures: its code object is named -/
structure FnC (K : PySem.W.Frag) (mg : Str → Option Value) (W : Wd) (x : Str) (i : Nat) (st : Stmt) (c : Addr) : Prop where
  hm : mg x = some (.ref (W.fa i))
  fn : ∃ (oc : Value) (od : Option Addr) (kV doc pm : Value) (an : Option Addr) (ct : Value) (osl : Array (Option Value)),
    K.lookup (W.fa i) = some ⟨oc, od, .func (PySem.W.fnOf x x (defArgs st) (defBody st) (defScope st) .none kV doc pm an (.ref c) ct), osl⟩ ∧ PySem.W.codeIn K (.ref c) x = true
  kp : PySem.W.keepIn K (.ref (W.fa i)) = true
section
variable {P : Program} {w : World} {K : PySem.W.Frag} {mg : Str → Option Value} {base : Heap} {W : Wd}
theorem fndc_of {x : Str} {i k nl np : Nat} {st : Stmt} {c : Addr} {N ps : List Str} {db : DS} (r : FnC K mg W x i st c) (hs : FnScope N ps (defScope st)) (hnl : N.length = nl) (hnp : ps.length = np)
    (hb : ∀ (kV doc pm : Value) (an : Option Addr) (cdv ct : Value) (us : List Value), us.length = ps.length → bindArgs (PySem.W.fnOf x x (defArgs st) (defBody st) (defScope st) .none kV doc pm an cdv ct) ⟨us, []⟩ = pure (ps.zip us))
    (hbody : ∀ (A : Around) (outer : List Env) (s : Shared) (H : Hp) (E : XK), Room k (A.deeper (envOfC x (defScope st) s.heap.objs.size (W.fa i) (.ref c))) → A.guards = some [] →
      EBk (cxOf (L2N.CX P w) P w K mg base N x (defScope st) (W.fa i) (.ref c) A outer s H E) W (envOfC x (defScope st) s.heap.objs.size (W.fa i) (.ref c)).cells (wxD E) (defBody st) db) :
    FnD P w K mg base W (k + 1) x i (runD nl np db) := by
  obtain ⟨hm, ⟨oc, od, kV, doc, pm, an, ct, osl, lk, hcd⟩, kp⟩ := r
  exact ⟨hm, kp, _, ps, np, fng_of lk hcd hs hnl hnp fun A outer s H E hr hg => hbody A outer s H E hr hg, .all (hb kV doc pm an (.ref c) ct), runD_bad⟩
end
theorem room65 {k : Nat} {A : Around} (r : Room k A) : A.units + 65 < cLine := by have := r.un; omega
theorem room0 {k : Nat} {A : Around} (r : Room k A) : A.units < cLine := by have := r.un; omega
section
variable {X : Cx} {W : Wd} {cells : List (Str × Addr)} {wx : WX} {pos : Pos}
theorem ee_v (i : Nat) {x : Str} (hN : X.N[i]? = some x := by rfl) (hv : Vis X.env.scope x := by first | exact Or.inl rfl | exact Or.inr (Or.inl rfl) | exact Or.inr (Or.inr rfl)) (hd : (x == ("__debug__" : Str)) = false := by decide)
    (hcd : (x == ("__classdict__" : Str)) = false := by decide) : EE X W cells wx (.Name x pos) (dVar i) := ee_var hN hv hd hcd
theorem ee_globI {x : Str} {i : Int} (h : ∃ t, X.mg x = some (.int i t)) (hg : Gl X x) (hdb : (x == ("__debug__" : Str)) = false := by decide) : EE X W cells wx (.Name x pos) (dLit (.int i)) := by
  obtain ⟨t, h⟩ := h
  exact ee_glob hg h ⟨.int i, ⟨t, rfl⟩, fun M H => x_int⟩ hdb
end
abbrev ValErr : List Value := [Value.type "ValueError", Value.type "Exception", Value.type "BaseException", Value.type "object"]
end DD
set_option Elab.async false
set_option linter.all false
set_option maxRecDepth 100000
set_option maxHeartbeats 4000000
/-! The Den layer, part 25: dict comprehensions, keys of any kind (turned from the kit's rule for atomic keys). -/
namespace DD
open PySem PySem.Spec PyProof.Rows L2

/-- what dictSet does at D -/
abbrev TPut := Addr → V → V → Hp → (Hp → Prop) → Prop
def PutR (X : Cx) (tp : TPut) : Prop := ∀ (pins : List (Addr × Obj)) (s : Shared) (σ : L2.St) (H : Hp) (E : Value → Shared → Prop) (D : Addr) (y z : V) (u r : Value) (Q : Unit → Shared → Prop) {N : Hp → Prop}, Inv X pins σ H s → RelV y u → RelV z r →
  (∀ s' H', Inv X pins σ H' s' → N H' → Q () s') → tp D y z H N → wpAny (model X.prog X.w) X.A (dictSet D u r) Q E s
def tDcN (wi : TI) (g : TG) (tt : TT) (tk tv : TE) (tp : TPut) (o0 : Addr → HO) (vs : List Nat) : TE := fun σ H Q => wi σ H fun J H1 => ∀ D, H1 D = none → ∃ W : Nat → Nat → Hp → Prop, (∃ m, W 0 m (upd H1 D (o0 D))) ∧ ∀ i m H, W i m H →
  (J.stop i H ∧ Q (.ref D) H) ∨ (J.go i H ∧ ∃ Nx : Hp → Prop, (∀ H', Nx H' → ∃ m', m' < m ∧ W (i + 1) m' H') ∧ ∀ x H', J.yld i H x H' → g x (wipe σ vs) H' fun σ2 H2 => wipe σ2 vs = wipe σ vs ∧ tt σ2 H2 fun b H3 =>
    if b = true then tk σ2 H3 fun y H4 => tv σ2 H4 fun z H5 => tp D y z H5 Nx else Nx H3)
section
variable {X : Cx}
theorem dcN_core {pins : List (Addr × Obj)} {s : Shared} {σ : L2.St} {H : Hp} {Q : VK} {kx vx tg iter : Expr} {ifs : List Expr} {scope : Scope} {own : List (Str × Nat)} {pos pos' : Pos} {wi : TI} {g : TG} {tt : TT} {tk tv : TE} {use : Option (Value → Sem Unit)} {tp : TPut} {o0 : Addr → HO} {Qf : Value → Shared → Prop}
    (hc : X.calm = true) (hN : X.N.Nodup) (I : Inv X pins σ H s) (hi : PI X tg iter wi) (ok : BlkOk X.N X.env.scope scope own)
    (hg : ∀ (s : Shared) (H : Hp) (C : Addr) (cl : List (Str × Addr)) (fp : List Addr), PG (X.blk s H scope (compEnvC scope cl C X.env) fp) tg g) (ht : ∀ (s : Shared) (H : Hp) (C : Addr) (cl : List (Str × Addr)) (fp : List Addr), PTs (X.blk s H scope (compEnvC scope cl C X.env) fp) ifs tt)
    (hk : ∀ (s : Shared) (H : Hp) (C : Addr) (cl : List (Str × Addr)) (fp : List Addr), PE (X.blk s H scope (compEnvC scope cl C X.env) fp) kx tk)
    (he : ∀ (s : Shared) (H : Hp) (C : Addr) (cl : List (Str × Addr)) (fp : List Addr), PE (X.blk s H scope (compEnvC scope cl C X.env) fp) vx tv) (hs : ∀ x, foldedSetIterable iter X.env x = pure x)
    (h : tDcN wi g tt tk tv tp o0 (own.map (·.2)) σ H Q)
    (ho0 : ∀ (h : Heap) (H' : Hp), sysModules < h.objs.size → ObjOk X.prog X.w H' (h.push { cls := .type "dict", data := .dict #[] }) h.objs.size (o0 h.objs.size)) (hput : ∀ (Y : Cx), Y.prog = X.prog → Y.w = X.w → Y.K = X.K → Y.A = X.A → PutR Y tp)
    (hRR : ∀ D C s' m H', Inv X pins σ H' s' → Q (.ref D) H' → s'.heap.Ns C m → FpOk X pins H' C → compPost (model X.prog X.w) X.A X.xe use Qf (.ref D) C (.ok .next) s') :
    wpAny (model X.prog X.w) X.A (comprehension (.DictComp kx vx [⟨tg, iter, ifs, 0⟩] scope pos) scope X.env pos' newDict false (eval iter X.env) use) Qf X.xe s := by
  have hfree : ∀ y ∈ scope.names, y.2 = .free → ∃ c, X.env.cells.lookup y.1 = some c := fun y hy e => by
    rcases ok.free y hy e with k | k
    · exact I.ok.has _ (.inl k)
    · exact I.ok.has _ (.inr k)
  refine wpAny_comprehension_free (use := use) rfl hs (closure_ok hfree) ok.kind (fun y hy e => by rw [ok.uniq y hy, e])
    (thn (hi.run pins s σ H _ I h) fun xv s1 hx => thn hx fun itv s2 h2 => ?_)
  obtain ⟨it, fp, tn, J, H2, e, I2, T, st2, f2, q⟩ := h2
  subst e
  refine wpAny_newObj_type (newEnv_comp ?_)
  generalize hD : s2.heap.objs.size = D
  have hDn : H2 D = none := I2.hok.fresh (Nat.le_of_eq hD)
  obtain ⟨W, ⟨m0, w0⟩, turn⟩ := q D hDn
  -- the new list
  generalize hs3 : ({ s2 with heap := s2.heap.push { cls := .type "dict", data := .dict #[] } } : Shared) = s3
  have I3 : Inv X pins σ (upd H2 D (o0 D)) s3 := by
    rw [← hs3]
    refine I2.laid (t' := s2.toks) (fun b o e => Heap.get?_push_of_some _ e) (Nat.le_of_eq hD) ?_
    rw [← hD]
    exact ho0 s2.heap _ I2.big
  have h3 : s3.heap = s2.heap.push { cls := .type "dict", data := .dict #[] } := by rw [← hs3]
  have sz : ∀ b ∈ fp, b < s2.heap.objs.size := fun b hb => by
    obtain ⟨o, e, _⟩ := T.obj _ _ st2 b hb
    exact Heap.lt_size e
  have f3 : ∀ b ∈ fp, FpOk X pins (upd H2 D (o0 D)) b ∧ b < s3.heap.objs.size := fun b hb => by
    have hlt := sz b hb
    refine ⟨⟨?_, (f2 b hb).2⟩, by rw [h3, Heap.size_push]; exact Nat.lt_succ_of_lt hlt⟩
    rw [upd_ne (by rw [← hD]; exact Nat.ne_of_lt hlt)]
    exact (f2 b hb).1
  have st3 : tn 0 s3.heap := T.keep _ _ _ st2 fun b _ o e => by rw [h3]; exact Heap.get?_push_of_some _ e
  have I4 := block_start I3 ok hN f3
  have pg := hg s3 (upd H2 D (o0 D)) s3.heap.objs.size (cellsFrom (s3.heap.objs.size + 1) scope.names (cloFrom X.env.cells scope.names [])) fp
  have pt := ht s3 (upd H2 D (o0 D)) s3.heap.objs.size (cellsFrom (s3.heap.objs.size + 1) scope.names (cloFrom X.env.cells scope.names [])) fp
  have pk := hk s3 (upd H2 D (o0 D)) s3.heap.objs.size (cellsFrom (s3.heap.objs.size + 1) scope.names (cloFrom X.env.cells scope.names [])) fp
  have pe := he s3 (upd H2 D (o0 D)) s3.heap.objs.size (cellsFrom (s3.heap.objs.size + 1) scope.names (cloFrom X.env.cells scope.names [])) fp
  show codeAny _ _ (.compStart (.DictComp kx vx [⟨tg, iter, ifs, 0⟩] scope pos) 0 (.ref it) (.ref D) (compEnvC scope (cellsFrom (s3.heap.objs.size + 1) scope.names (cloFrom X.env.cells scope.names [])) s3.heap.objs.size X.env)) (compPost (model X.prog X.w) X.A X.xe use Qf (.ref D) s3.heap.objs.size) { s3 with heap := pushCells (s3.heap.push { cls := .type "dict", data := .dict #[] }) scope.names }
  have nfp : ∀ b ∈ fp, (upd H2 D (o0 D)) b = none := fun b hb => (f3 b hb).1.1
  generalize hce : compEnvC scope (cellsFrom (s3.heap.objs.size + 1) scope.names (cloFrom X.env.cells scope.names [])) s3.heap.objs.size X.env = ce at I4 pg pt pk pe ⊢
  have cL : ce.locals = s3.heap.objs.size := by subst hce; rfl
  generalize hH3 : upd H2 D (o0 D) = H3 at I3 I4 pg pt pk pe w0 nfp f3
  generalize hs4 : ({ s3 with heap := pushCells (s3.heap.push { cls := .type "dict", data := .dict #[] }) scope.names } : Shared) = s4 at I4 ⊢
  have st4 : tn 0 s4.heap := T.keep _ _ _ st3 fun b _ o e => by rw [← hs4]; exact pushCells_keeps _ _ _ _ (Heap.get?_push_of_some _ e)
  have stat : ∀ {σ' : L2.St} {H' : Hp} {s' : Shared}, Inv (X.blk s3 H3 scope ce fp) [] σ' H' s' → (∀ b ∈ fp, H' b = none) → ∀ b ∈ fp, FpOk (X.blk s3 H3 scope ce fp) [] H' b := fun {σ' H' s'} I' hn b hb =>
    ⟨hn b hb, (I'.ok.exf b hb).1, I'.ok.exfs b hb, .inl hb, fun x c e => (I'.ok.exf b hb).2 x c e, fun p hp => absurd (show p ∈ ([] : List (Addr × Obj)) ++ [] from hp) (by simp)⟩
  have loop : codeAny (model X.prog X.w) X.A (.compLoop (.DictComp kx vx [⟨tg, iter, ifs, 0⟩] scope pos) 0 (.ref it) (.ref D) ce) (compPost (model X.prog X.w) X.A X.xe use Qf (.ref D) s3.heap.objs.size) s4 := by
    refine compLoop_anyD (fun n s' => ∃ i H', Inv (X.blk s3 H3 scope ce fp) [] (wipe σ (own.map (·.2))) H' s' ∧ tn i s'.heap ∧ (∀ b ∈ fp, H' b = none) ∧ W i n H') ?_ m0 ⟨0, H3, I4, st4, nfp, w0⟩
    rintro n s5 ⟨i, H5, I5, st5, n5, w5⟩
    rcases turn i n H5 w5 with ⟨stop, qq⟩ | ⟨go, Nx, hNx, step⟩
    · have td := T.done (X.blk s3 H3 scope ce fp) rfl rfl rfl hc i [] s5 _ H5 (fun _ _ => False) I5 (stat I5 n5) st5 stop
      refine thnF td fun r s6 ⟨hr, I6⟩ => ?_
      subst hr
      -- back in the def's context
      have I7 : Inv X pins σ H5 s6 := I3.call' (ch := fp) I6.os I6.base I6.hok I6.bare fun b hb => ⟨(f3 b hb).1.2.2.2.1, (f3 b hb).1.2.1, (f3 b hb).1.2.2.2.2.1, (f3 b hb).1.2.2.2.2.2⟩
      have nC : H5 s3.heap.objs.size = none := by
        have z : H5 ce.locals = none := I6.free
        rw [cL] at z
        exact z
      obtain ⟨m, hn, _⟩ := I6.loc
      have hn : s6.heap.Ns ce.locals m := hn
      rw [cL] at hn
      exact hRR D s3.heap.objs.size s6 m H5 I7 qq hn (I3.fpOk (Nat.le_refl _) nC)
    · have ti := T.item (X.blk s3 H3 scope ce fp) rfl rfl rfl hc i [] s5 _ H5 (fun _ _ => False) I5 (stat I5 n5) st5 go
      refine thnF ti fun r s6 ⟨u, hr, h6⟩ => ?_
      subst hr
      refine thnF h6 fun _ s7 ⟨x, H7, I7, r7, y7, st7, n7⟩ => ?_
      have I7' := I7.pinned (stat I7 n7) (T.obj _ _ st7)
      refine thnF (pg.run _ s7 _ H7 x u _ I7' r7 (step x H7 y7)) fun _ s8 ⟨σ8, H8, I8, hw8, q8⟩ => ?_
      refine thnF (pt.run _ s8 σ8 H8 _ I8 q8) fun b s9 ⟨H9, I9, q9⟩ => ?_
      -- the turn's end
      have fin : ∀ {s' : Shared} {H' : Hp}, Inv (X.blk s3 H3 scope ce fp) ([] ++ pinsAt fp s7.heap) σ8 H' s' → Nx H' → ∃ m, m < n ∧ ∃ i H', Inv (X.blk s3 H3 scope ce fp) [] (wipe σ (own.map (·.2))) H' s' ∧ tn i s'.heap ∧ (∀ b ∈ fp, H' b = none) ∧ W i m H' := fun {s' H'} I' nx => by
        obtain ⟨m', hm, w'⟩ := hNx H' nx
        have pin' : ∀ b ∈ fp, ∀ o, s7.heap.get? b = some o → s'.heap.get? b = some o ∧ H' b = none := fun b hb o e =>
          let z := I'.pin (b, o) (List.mem_append_right _ (List.mem_append_right _ (mem_pinsAt hb e)))
          ⟨z.1, z.2.1⟩
        have hl : (wipe σ (own.map (·.2))).length = σ8.length := by rw [← hw8, wipe_length]
        refine ⟨m', hm, i + 1, H', (I'.unpinned (pins := [])).weak hl (fun j v e => ?_), T.keep _ _ _ st7 fun b hb o e => (pin' b hb o e).1, fun b hb => ?_, w'⟩
        · rw [← hw8] at e
          exact (wipe_some e).1
        · obtain ⟨o, e, _⟩ := T.obj _ _ st7 b hb
          exact (pin' b hb o e).2
      cases b with
      | false =>
        simp only [Bool.false_eq_true, if_false] at q9 ⊢
        exact fin I9 q9
      | true =>
        simp only [if_true] at q9 ⊢
        refine thnF (pk.run _ s9 σ8 H9 _ I9 q9) fun z s10 ⟨yk, H10, I10, r10, q10⟩ => ?_
        refine thnF (pe.run _ s10 σ8 H10 _ I10 q10) fun z2 s11 ⟨yv, H11, I11, r11, nx⟩ => ?_
        exact hput (X.blk s3 H3 scope ce fp) rfl rfl rfl rfl _ s11 σ8 H11 _ D yk yv z z2 _ I11 r10 r11 (fun s12 H12 I12 q12 => fin I12 q12) nx
  exact codeAny_compStart_dict loop (T.self X.A 0 _ _ _ st4 loop)

/-- as a value -/
theorem pe_dcN {kx vx tg iter : Expr} {ifs : List Expr} {scope : Scope} {own : List (Str × Nat)} {pos : Pos} {wi : TI} {g : TG} {tt : TT} {tk tv : TE} {tp : TPut} {o0 : Addr → HO} (hc : X.calm = true) (hN : X.N.Nodup) (hi : PI X tg iter wi) (ok : BlkOk X.N X.env.scope scope own)
    (hg : ∀ (s : Shared) (H : Hp) (C : Addr) (cl : List (Str × Addr)) (fp : List Addr), PG (X.blk s H scope (compEnvC scope cl C X.env) fp) tg g) (ht : ∀ (s : Shared) (H : Hp) (C : Addr) (cl : List (Str × Addr)) (fp : List Addr), PTs (X.blk s H scope (compEnvC scope cl C X.env) fp) ifs tt)
    (hk : ∀ (s : Shared) (H : Hp) (C : Addr) (cl : List (Str × Addr)) (fp : List Addr), PE (X.blk s H scope (compEnvC scope cl C X.env) fp) kx tk)
    (he : ∀ (s : Shared) (H : Hp) (C : Addr) (cl : List (Str × Addr)) (fp : List Addr), PE (X.blk s H scope (compEnvC scope cl C X.env) fp) vx tv)
    (ho0 : ∀ (h : Heap) (H' : Hp), sysModules < h.objs.size → ObjOk X.prog X.w H' (h.push { cls := .type "dict", data := .dict #[] }) h.objs.size (o0 h.objs.size)) (hput : ∀ (Y : Cx), Y.prog = X.prog → Y.w = X.w → Y.K = X.K → Y.A = X.A → PutR Y tp) (hs : ∀ x, foldedSetIterable iter X.env x = pure x := by intro _; rfl) :
    PE X (.DictComp kx vx [⟨tg, iter, ifs, 0⟩] scope pos) (tDcN wi g tt tk tv tp o0 (own.map (·.2))) := by
  refine ⟨fun pins s σ H Q I h => ?_⟩
  rw [arm_eval_DictComp]
  refine dcN_core hc hN I hi ok hg ht hk he hs h ho0 hput fun D C s' m H' I' q hn f => ⟨m, hn, fun h'' sb => ?_⟩
  obtain ⟨f0, f1, f2, f3, f4, f5⟩ := f
  exact ⟨.ref D, H', I'.turned (t' := s'.toks) (fun b o hb e => (sb.2 b hb).trans e) f0 f1 f3 f4 f5, rfl, q⟩
/-- both kinds of dicts -/
def tPut (K : PySem.W.Frag) (w : World) : TPut := fun D y z H N => (∃ kvs k, H D = some (.dK kvs) ∧ y = kV k ∧ kvs.length < sizeLine ∧ N (upd H D (.dK (putK kvs k z)))) ∨
  ∃ b es k, y = .ref b ∧ DN K w H D es ∧ KeyV K H k (.ref b) ∧ k.depth ≤ 8 ∧ es.length < sizeLine ∧ N (upd H D (DctN w D (putE es k b z)))
theorem put_r (hu : X.A.units + 65 < cLine) : PutR X (tPut X.K X.w) := by
  intro pins s σ H E D y z u r Q N I ry rz hq h
  rcases h with ⟨kvs, k, hD, ey, hl, n⟩ | ⟨b, es, k, ey, d, hk, hd, hl, n⟩
  · subst ey
    exact d_dictSet I hD hl ry rz fun s' I' => hq s' _ I' n
  · subst ey
    obtain rfl : u = Value.ref b := ry
    obtain ⟨us, h1, h2, h3, h4, h5⟩ := dn_of I d
    have hz : us.length ≤ sizeLine := by rw [← paired_lenT h1]; exact h4
    have room : (nestedKind X.prog X.w).room X.A := by
      show X.A.units + 8 < cLine
      omega
    refine wpAny_dictSet_heap (hsz := hz) (knd := nestedKind X.prog X.w) room ⟨nested_of I _ _ _ hk rfl, hd⟩ h2 fun h' dd' hs => hq _ _ ?_ n
    refine d_write I (by rw [d.1]; exact True.intro) hs (let ⟨q, _, _, hq, _⟩ := dd'; ⟨q, hq⟩) (dn_ext (put_rel h1 k b rz) dd' h3 ?_ (put_nodup h5))
    have := put_len es k b z
    omega
theorem put_r' (hu : X.A.units + 65 < cLine) : ∀ (Y : Cx), Y.prog = X.prog → Y.w = X.w → Y.K = X.K → Y.A = X.A → PutR Y (tPut X.K X.w) := fun Y h1 h2 h3 h4 => by
  rw [← h2, ← h3]
  exact put_r (by rw [h4]; exact hu)
end
/-! ### the Den -/
def dcL (it : ItD) (g : DG) (tt tk tv : DE) (D : Nat) (e : EnvT) : Nat → Nat → Store → R Unit
  | 0, _, _ => .bad
  | n + 1, i, S => match it i S with
    | .stop => .ok () S
    | .bad => .bad
    | .item t => match g t e S with
      | .ok e1 S1 => (tt e1 S1).bind (pick .bad (fun S2 => (tk e1 S2).bind fun y S3 => (tv e1 S3).bind fun z S4 => (nPut (.ref D) y z S4).bind fun _ S5 => dcL it g tt tk tv D e n (i + 1) S5) (dcL it g tt tk tv D e n (i + 1)))
      | _ => .bad
def dDCo (o0 : O) (own : List Nat) (di : DI) (g : DG) (tt tk tv : DE) : DE := fun e S => (di e S).bind fun it S1 =>
  (dcL it g tt tk tv S1.length (blkEnv own e) FUEL 0 (S1 ++ [o0])).calm.bind fun _ S2 => fin S1.length (.ref S1.length) S2
/-- keys that are tuples -/
abbrev dDCN := dDCo (.dtp [])
/-- atomic keys -/
abbrev dDCK := dDCo (.dct [])
end DD
set_option Elab.async false
set_option linter.all false
set_option maxRecDepth 100000
set_option maxHeartbeats 4000000
/-! The Den layer, part 26: dict comprehensions, the rule. -/
namespace DD
open PySem PySem.Spec PyProof.Rows L2

section
variable {W : Wd} {cells : List (Str × Addr)} {wx : WX} {σ : L2.St} {M : List Addr} {S : Store} {H : Hp}
theorem putN_w {n : Nat} {D : Addr} {t u : T} {y z : V} {N : Hp → Prop} (sim : Sim W M S H) (h1 : M[n]? = some D) (ru : RepX W cells M H t y) (rw' : RepX W cells M H u z) (post : PostU W wx σ M H N (nPut (.ref n) t u S)) : tPut W.K W.w D y z H N := by
  unfold nPut at post
  simp only at post
  split at post
  · rename_i kvs e
    split at post
    · rename_i k ek
      split at post
      · rename_i hc
        simp only [Bool.and_eq_true, decide_eq_true_eq] at hc
        obtain ⟨vs, h2, r2⟩ := dct_at sim h1 e
        have hlen : ((kvs.map (·.1)).zip vs).length < sizeLine := by
          rw [List.length_zip, reps_len r2, line_eq]; simp; exact hc.2
        have ex : Ext M H M (upd H D (.dK (putK ((kvs.map (·.1)).zip vs) k z))) := ext_write h2 not_fix_dk
        obtain ⟨vs', e1, e2⟩ := putT_rel kvs vs k r2 (rw'.rep hc.1)
        exact .inl ⟨_, k, h2, keyK_rep ek ru, hlen, post M _ ex (sim.write (ob' := .dct (putT kvs k u)) e h1 h2 not_fix_dk rfl rfl ⟨vs', by rw [upd_same, e1], e2.mono ex⟩)⟩
      · exact post.elim
    · exact post.elim
  · rename_i kvs e
    split at post
    · rename_i k ek
      split at post
      · rename_i hc
        simp only [Bool.and_eq_true, decide_eq_true_eq] at hc
        obtain ⟨es, d, r1, r2, pr⟩ := dtp_at sim h1 e
        obtain ⟨b, rfl, k1, k2, k3, k4⟩ := keyT_ok ek ru
        have hlen : es.length < sizeLine := by rw [← paired_lenT pr, line_eq]; exact hc.2
        have ex : Ext M H M (upd H D (DctN W.w D (putE es k b z))) := ext_write d.1 not_fix_dct
        obtain ⟨a1, a2, a3⟩ := putN_rel pr r1 r2 k4 k3 k2 (rw'.rep hc.1)
        exact .inr ⟨b, es, k, rfl, d, k1, k2, hlen, post M _ ex (sim.write (ob' := .dtp (putN kvs t k u)) e h1 d.1 not_fix_dct rfl rfl ⟨_, upd_same, a1.mono ex, a2.mono ex, a3⟩ (fun ps zz => by unfold DctN at zz; cases zz))⟩
      · exact post.elim
    · exact post.elim
  · exact post.elim
theorem dc_w {own : List (Str × Nat)} {di : DI} {g : DG} {tt tk tv : DE} {o0 : O} {h0 : Addr → HO} {Q : VK} (hm0 : o0.mut = true) (nf0 : ∀ a, ¬ Fix (h0 a)) (hr0 : ∀ (M : List Addr) (H : Hp) (a : Addr), H a = some (h0 a) → RepO W M H a o0)
    (h : tE W cells wx (dDCo o0 (own.map (·.2)) di g tt tk tv) σ H Q) :
    tDcN (tI W cells wx di) (tGo W (own.map (·.2)) g) (tQ W [] wF tt) (tE W [] wF tk) (tE W [] wF tv) (tPut W.K W.w) h0 (own.map (·.2)) σ H Q := by
  obtain ⟨M, S, env, sim, er, post⟩ := h
  generalize hown : own.map (·.2) = ow at post ⊢
  refine ⟨M, S, env, sim, er, ?_⟩
  unfold dDCo at post
  cases e : di env S with
  | bad => rw [e] at post; exact post
  | exc c p S' => rw [e] at post; exact post
  | ok it S1 =>
    rw [e] at post
    intro M1 H1 J ex1 sim1 hJ D hD
    have post : PostE W cells wx σ M1 H1 Q ((dcL it g tt tk tv S1.length (blkEnv ow env) FUEL 0 (S1 ++ [o0])).calm.bind fun _ S2 => fin S1.length (.ref S1.length) S2) := PostE.mono ex1 post
    have er1 := er.mono ex1
    have hs0 : Sim W (M1 ++ [D]) (S1 ++ [o0]) (upd H1 D (h0 D)) := sim1.alloc hD (hr0 _ _ _ upd_same)
    have hx0 : Ext M1 H1 (M1 ++ [D]) (upd H1 D (h0 D)) := ext_alloc hD
    have hD0 : (M1 ++ [D])[S1.length]? = some D := by rw [← sim1.len]; exact snoc_get
    refine ⟨fun i m H => ∃ M S, Ext (M1 ++ [D]) (upd H1 D (h0 D)) M H ∧ Sim W M S H ∧ PostE W cells wx σ M1 H1 Q ((dcL it g tt tk tv S1.length (blkEnv ow env) m i S).calm.bind fun _ S2 => fin S1.length (.ref S1.length) S2), ⟨FUEL, M1 ++ [D], S1 ++ [o0], Ext.refl, hs0, post⟩, ?_⟩
    rintro i m H ⟨M, S, ex, sim, post⟩
    have hDm : M[S1.length]? = some D := ex.m _ _ hD0
    have exB := hx0.trans ex
    have erB : EnvR W [] M H (blkEnv ow env) (wipe σ ow) := (er1.mono exB).blk ow
    cases m with
    | zero => exact post.elim
    | succ m =>
      have hj := hJ i M S H exB sim
      unfold dcL at post
      cases ei : it i S with
      | bad => rw [ei] at post; exact post.elim
      | stop =>
        rw [ei] at post hj
        exact .inl ⟨hj, fin_ok sim1.len exB sim (by show Rep ..; exact Rep.ref_of hDm) post⟩
      | item t =>
        rw [ei] at post hj
        obtain ⟨hgo, hy⟩ := hj
        refine .inr ⟨hgo, fun H' => ∃ M S, Ext (M1 ++ [D]) (upd H1 D (h0 D)) M H' ∧ Sim W M S H' ∧ PostE W cells wx σ M1 H1 Q ((dcL it g tt tk tv S1.length (blkEnv ow env) m (i + 1) S).calm.bind fun _ S2 => fin S1.length (.ref S1.length) S2),
          fun H' h => ⟨m, Nat.lt_succ_self _, h⟩, fun x H' y => ?_⟩
        obtain ⟨M', ex', sim', rx⟩ := hy x H' y
        refine ⟨M', S, blkEnv ow env, t, sim', erB.mono ex', rx.x, ?_⟩
        cases eg : g t (blkEnv ow env) S with
        | bad => simp only [eg] at post; exact post.elim
        | exc c p e1 S2 => simp only [eg] at post; exact post.elim
        | ok e1 S2 =>
          simp only [eg] at post
          intro M2 H2 σ2 ex2 sim2 er2 hw
          refine ⟨hw.trans (wipe_idem ow), M2, S2, e1, sim2, er2, ?_⟩
          cases et : tt e1 S2 with
          | bad => simp only [et, R.bind] at post; exact post.elim
          | exc c p S3 => simp only [et, R.bind] at post; exact post.elim
          | ok b S3 =>
            simp only [et, R.bind] at post
            intro M3 H3 v3 ex3 sim3 r3
            cases b with
            | bl b =>
              have ev : v3 = .bl b := by simpa [RepX, Rep] using r3
              refine ⟨b, ev, ?_⟩
              cases b with
              | false =>
                rw [if_neg Bool.false_ne_true]
                exact ⟨M3, S3, ((ex.trans ex').trans ex2).trans ex3, sim3, post⟩
              | true =>
                rw [if_pos rfl]
                refine ⟨M3, S3, e1, sim3, er2.mono ex3, ?_⟩
                cases ek : tk e1 S3 with
                | bad => simp only [pick, ek] at post; exact post.elim
                | exc c p S4 => simp only [pick, ek] at post; exact post.elim
                | ok y S4 =>
                  simp only [pick, ek] at post
                  intro M4 H4 v4 ex4 sim4 r4
                  refine ⟨M4, S4, e1, sim4, (er2.mono ex3).mono ex4, ?_⟩
                  cases ee : tv e1 S4 with
                  | bad => simp only [ee] at post; exact post.elim
                  | exc c p S5 => simp only [ee] at post; exact post.elim
                  | ok z S5 =>
                    simp only [ee] at post
                    intro M5 H5 v5 ex5 sim5 r5
                    have exA := ((((ex.trans ex').trans ex2).trans ex3).trans ex4).trans ex5
                    have hD5 : M5[S1.length]? = some D := exA.m _ _ hD0
                    refine putN_w (wx := wF) (σ := σ) sim5 hD5 (r4.mono ex5) r5 ?_
                    cases ep : nPut (.ref S1.length) y z S5 with
                    | bad => rw [ep] at post; exact post.elim
                    | exc c p S6 => rw [ep] at post; exact post.elim
                    | ok w S6 =>
                      rw [ep] at post
                      exact fun M6 H6 ex6 sim6 => ⟨M6, S6, exA.trans ex6, sim6, post⟩
            | _ => exact post.elim
end
section
variable {X : Cx} {W : Wd} {cells : List (Str × Addr)} {wx : WX} {kx vx tg iter : Expr} {ifs : List Expr} {scope : Scope} {own : List (Str × Nat)} {di : DI} {g : DG} {tt tk tv : DE} {pos : Pos}
/-- {k: v for .. in ..}, the keys tuples -/
theorem ee_dcN (hu : X.A.units + 65 < cLine) (hK : X.K = W.K) (hw : X.w = W.w) (hc : X.calm = true) (hN : X.N.Nodup) (hi : EI X W cells wx tg iter di) (ok : BlkOk X.N X.env.scope scope own)
    (hg : ∀ (s : Shared) (H : Hp) (C : Addr) (cl : List (Str × Addr)) (fp : List Addr), PG (X.blk s H scope (compEnvC scope cl C X.env) fp) tg (tGo W (own.map (·.2)) g))
    (ht : ∀ (s : Shared) (H : Hp) (C : Addr) (cl : List (Str × Addr)) (fp : List Addr), PTs (X.blk s H scope (compEnvC scope cl C X.env) fp) ifs (tQ W [] wF tt))
    (hk : ∀ (s : Shared) (H : Hp) (C : Addr) (cl : List (Str × Addr)) (fp : List Addr), EE (X.blk s H scope (compEnvC scope cl C X.env) fp) W [] wF kx tk)
    (hv : ∀ (s : Shared) (H : Hp) (C : Addr) (cl : List (Str × Addr)) (fp : List Addr), EE (X.blk s H scope (compEnvC scope cl C X.env) fp) W [] wF vx tv) (hs : ∀ x, foldedSetIterable iter X.env x = pure x := by intro _; rfl) :
    EE X W cells wx (.DictComp kx vx [⟨tg, iter, ifs, 0⟩] scope pos) (dDCN (own.map (·.2)) di g tt tk tv) :=
  pe_weak (pe_dcN (tp := tPut X.K X.w) (o0 := fun a => DctN X.w a []) hc hN hi ok hg ht hk hv (fun h H' hb => dn_empty hb) (put_r' hu) hs) fun σ H Q h => by
    rw [hK, hw]
    exact dc_w (o0 := .dtp []) (h0 := fun a => DctN W.w a []) rfl (fun a => not_fix_dct) (fun M H a e => ⟨[], e, reps_nil, reps_nil, .nil⟩) h
/-- {k: v for .. in ..}, atomic keys -/
theorem ee_dcK (hu : X.A.units + 65 < cLine) (hK : X.K = W.K) (hw : X.w = W.w) (hc : X.calm = true) (hN : X.N.Nodup) (hi : EI X W cells wx tg iter di) (ok : BlkOk X.N X.env.scope scope own)
    (hg : ∀ (s : Shared) (H : Hp) (C : Addr) (cl : List (Str × Addr)) (fp : List Addr), PG (X.blk s H scope (compEnvC scope cl C X.env) fp) tg (tGo W (own.map (·.2)) g))
    (ht : ∀ (s : Shared) (H : Hp) (C : Addr) (cl : List (Str × Addr)) (fp : List Addr), PTs (X.blk s H scope (compEnvC scope cl C X.env) fp) ifs (tQ W [] wF tt))
    (hk : ∀ (s : Shared) (H : Hp) (C : Addr) (cl : List (Str × Addr)) (fp : List Addr), EE (X.blk s H scope (compEnvC scope cl C X.env) fp) W [] wF kx tk)
    (hv : ∀ (s : Shared) (H : Hp) (C : Addr) (cl : List (Str × Addr)) (fp : List Addr), EE (X.blk s H scope (compEnvC scope cl C X.env) fp) W [] wF vx tv) (hs : ∀ x, foldedSetIterable iter X.env x = pure x := by intro _; rfl) :
    EE X W cells wx (.DictComp kx vx [⟨tg, iter, ifs, 0⟩] scope pos) (dDCK (own.map (·.2)) di g tt tk tv) :=
  pe_weak (pe_dcN (tp := tPut X.K X.w) (o0 := fun a => .dK []) hc hN hi ok hg ht hk hv (fun h H' hb => dk_empty h hb) (put_r' hu) hs) fun σ H Q h => by
    rw [hK, hw]
    exact dc_w (o0 := .dct []) (h0 := fun a => .dK []) rfl (fun a => not_fix_dk) (fun M H a e => ⟨[], e, reps_nil⟩) h
end
abbrev dNewK : DE := fun _ S => newO (.dct []) S
abbrev dNewN : DE := fun _ S => newO (.dtp []) S
end DD
set_option Elab.async false
set_option linter.all false
set_option maxRecDepth 100000
set_option maxHeartbeats 4000000
/-! The Den layer, part 27: sets of a tuple's pairs, sorted (turned from the kit's rules for lists). -/
namespace DD
open PySem PySem.Spec PyProof.Rows L2

section
variable {P : Program} {w : World} {A : Around} {E : Value → Shared → Prop} {s : Shared}
set_option maxHeartbeats 8000000 in
theorem call_set_tupsT {l : Addr} {items : Array Value} (ks : List (Addr × List Int)) {Q : Value → Shared → Prop} (hh : A.handled = none) (hl : s.heap.IsTuple l items) (hit : items.toList = ks.map fun p => Value.ref p.1)
    (hk : ∀ p ∈ ks, IsT P w s.heap p.2 p.1) (hfew : ks.length < 64) (hu : A.units + 3 < cLine)
    (h : ∀ (h' : Heap) (tk : Nat) L es ep t, SetTR P w h' s.heap.objs.size L es ep t → Got ks ks.length L → (∀ b o, s.heap.get? b = some o → h'.get? b = some o) → Q (.ref s.heap.objs.size) { s with heap := h', toks := tk }) :
    wpAny (model P w) A (call (.type "set") [.ref l]) Q E s := by
  have hisz : items.size = ks.length := by
    have q := congrArg List.length hit
    rw [Array.length_toList, List.length_map] at q
    exact q
  obtain ⟨c, tl, hmro⟩ := F.called_set.mro
  have hmade := F.called_set.made
  have hsub := F.called_set.sub
  refine wpAny_call (codeAny_of_tree ?_)
  show wpAny _ _ (callAny (.type "set") _) _ _ _
  refine wpAny_pure ⟨Code.quiet_builtin _ (by decide +kernel), codeAny_builtin F.entry_type_call ?_⟩
  rw [Around.under_plain (weight_type_call_type "set" [.ref l] []) rfl]
  have h1 := F.called_set.notType
  have h2 := F.called_set.canCreate
  have hct := F.typeCall_set_1 (.ref l)
  repeat (any_goals (first | assumption | wp_step))

  refine codeAny_mono (code_set_led1 (.ref l) (E := E) (Q₁ := fun obj s₁ => obj = .ref s.heap.objs.size ∧ s₁ = { s with heap := s.heap.push { cls := .type "set", dict := none, data := .set #[] 0 (.fresh 0 0 (!w.params.followText "set-order")) } }) ⟨rfl, rfl⟩) fun r s₁ hr => ?_
  cases r with
  | error e => exact hr
  | ok fl =>
    cases fl with
    | ret obj =>
      obtain ⟨rfl, rfl⟩ := hr
      have hS : (s.heap.push { cls := .type "set", dict := none, data := .set #[] 0 (.fresh 0 0 (!w.params.followText "set-order")) }).get? s.heap.objs.size = some { cls := .type "set", dict := none, data := .set #[] 0 (.fresh 0 0 (!w.params.followText "set-order")) } := Heap.get?_push_size _ rfl
      have hT : Shared.TypeIs { s with heap := s.heap.push { cls := .type "set", dict := none, data := .set #[] 0 (.fresh 0 0 (!w.params.followText "set-order")) } } (.ref s.heap.objs.size) "set" := ⟨_, hS, rfl⟩
      have hli := F.called_set.init.lookup
      have hbi := F.called_set.init.bind (.ref s.heap.objs.size)
      repeat (any_goals (first | assumption | wp_step))

      refine codeAny_mono (codeAny_call_builtin (R := wants (fun r s₂ => r = .none ∧ ∃ h' tk L es ep t, s₂ = { s with heap := h', toks := tk } ∧ SetTR P w h' s.heap.objs.size L es ep t ∧ Got ks ks.length L ∧
          (∀ b o, s.heap.get? b = some o → h'.get? b = some o)) E) F.called_set.init.plain F.entry_set_init (check_set_init_1 hT ?_)) fun r₂ s₂ hr₂ => ?_
      · obtain ⟨ol, hol, hcl, nl, hdl⟩ := hl
        obtain ⟨ocls, odict, odata, oslots⟩ := ol
        simp only at hcl hdl
        subst hcl; subst hdl
        have hol' : (s.heap.push { cls := .type "set", dict := none, data := .set #[] 0 (.fresh 0 0 (!w.params.followText "set-order")) }).get? l = some { cls := .type "tuple", dict := odict, data := .seq items nl, slots := oslots } := Heap.get?_push_of_some _ hol
        have hsls := F.sub_tuple_set
        have hslf := F.sub_tuple_frozenset
        have hne : (Value.type "tuple" == Value.type "dict") = false := by decide
        have hl1 : (s.heap.push { cls := .type "set", dict := none, data := .set #[] 0 (.fresh 0 0 (!w.params.followText "set-order")) }).IsTuple l items := ⟨_, hol', rfl, nl, rfl⟩
        unfold Builtin.«set.__init__» noKeywords Builtin.Frozenset.updateFrom
        generalize hPI : pyIter = PI
        wp_walk
        subst hPI

        refine wpAny_pyIter_tuple hl1 ?_
        refine wpAny_bind (wpAny_runValue ?_)
        have hlS : l < s.heap.objs.size := Heap.lt_size hol
        have hh3 : A.in1.in1.in1.handled = none := by simp [hh]
        have hz1 : (s.heap.push { cls := .type "set", dict := none, data := .set #[] 0 (.fresh 0 0 (!w.params.followText "set-order")) }).objs.size = s.heap.objs.size + 1 := Heap.size_push ..
        have hneI : l ≠ (s.heap.push { cls := .type "set", dict := none, data := .set #[] 0 (.fresh 0 0 (!w.params.followText "set-order")) }).objs.size := by
          rw [Heap.size_push]; exact Nat.ne_of_lt (Nat.lt_succ_of_lt hlS)
        have hSf : s.heap.objs.size ∉ [(s.heap.push { cls := .type "set", dict := none, data := .set #[] 0 (.fresh 0 0 (!w.params.followText "set-order")) }).objs.size, l] := by
          rw [Heap.size_push]; simp only [List.mem_cons, List.mem_singleton, List.not_mem_nil, or_false, not_or]
          exact ⟨Nat.ne_of_lt (Nat.lt_succ_self _), Nat.ne_of_gt hlS⟩
        have hval : ∀ (i : Nat) (v : Value), items[i]? = some v → ∃ p, ks[i]? = some p ∧ v = .ref p.1 := fun i v hv => by
          have q : items.toList[i]? = some v := by rw [Array.getElem?_toList]; exact hv
          rw [hit, List.getElem?_map] at q
          cases hq : ks[i]? with
          | none => rw [hq] at q; cases q
          | some p =>
            rw [hq] at q
            exact ⟨p, rfl, (Option.some.inj q).symm⟩
        have none_of : ∀ b, s.heap.objs.size ≤ b → s.heap.get? b = none := fun b hb => by
          cases q : s.heap.get? b with
          | none => rfl
          | some o => exact absurd (Nat.lt_of_lt_of_le (Heap.lt_size q) hb) (Nat.lt_irrefl _)
        refine set_update_tups ((Walks.tuple hh3 _ l hneI items).toS) s.heap.objs.size
          hSf ks hisz hfew hval s.heap hk (none_of _ (Nat.le_refl _)) (fun b hb => none_of b (by
            rw [List.mem_singleton.mp hb, Heap.size_push]
            exact Nat.le_succ _)) hu (items.size - 0) 0 _ (by omega) (Nat.zero_le _)
          ⟨⟨_, Heap.get?_push_size _ rfl, rfl, rfl⟩, (hl1.push _)⟩ (fun b o e => Heap.get?_push_of_some _ (Heap.get?_push_of_some _ e)) ?hS0 ?hR
        case hS0 =>
          have hget : ((s.heap.push { cls := .type "set", dict := none, data := .set #[] 0 (.fresh 0 0 (!w.params.followText "set-order")) }).push { cls := .type "tuple_iterator", data := .fields #[.ref l, .int 0 0] }).get? s.heap.objs.size
              = some { cls := .type "set", dict := none, data := .set #[] 0 (.fresh 0 0 (!w.params.followText "set-order")) } := Heap.get?_push_of_some _ hS
          exact ⟨[], #[], 0, _, setTR_fresh hget, Got.zero ks⟩
        case hR =>
          intro s' L es ep t hm hS' g' hkp
          obtain ⟨h', g2, d', tk', os'⟩ := s'
          have eg : g2 = s.gens := hm.gens
          have ed : d' = s.drawn := hm.drawn
          have eo : os' = s.os := hm.os
          subst eg; subst ed; subst eo
          show wpAny _ _ _ _ _ _
          refine wpAny_pure ?_
          show wpAny _ _ (ret Value.none) _ _ _
          rw [hisz] at g'
          exact wpAny_pure ⟨rfl, h', tk', L, es, ep, t, rfl, hS', g', hkp⟩

      · cases r₂ with
        | error e => exact hr₂
        | ok fl₂ =>
          cases fl₂ with
          | ret r =>
            obtain ⟨rfl, h', tk, L, es, ep, t, rfl, hS', g', hk'⟩ := hr₂
            repeat (any_goals (first | assumption | wp_step))
            exact h _ _ _ _ _ _ hS' g' hk'
          | _ => exact hr₂.elim
    | _ => exact hr.elim

/-! ### sorted -/

end
end DD
set_option Elab.async false
set_option linter.all false
set_option maxRecDepth 100000
set_option maxHeartbeats 4000000
/-! The Den layer, part 28: a set of pairs, sorted. -/
namespace DD
open PySem PySem.Spec PyProof.Rows L2

/-- a pair's two ints -/
def prI : List Int → Int × Int
  | [x, y] => (x, y)
  | _ => (0, 0)
section
variable {P : Program} {w : World} {A : Around} {E : Value → Shared → Prop} {s : Shared}
theorem isPair_of {h : Heap} {b : Addr} {x y : Int} (z : IsT P w h [x, y] b) : Srt.IsPair h (.ref b) (prI [x, y]).1 (prI [x, y]).2 := by
  obtain ⟨o, items, n, ho, hc, hd, hi⟩ := z
  have q := ints_of_items hi
  obtain ⟨l⟩ := items
  cases q with
  | cons _ t q =>
    cases q with
    | cons _ u q =>
      cases q
      exact ⟨b, o, t, u, n, rfl, ho, hc, hd⟩
theorem call_sort_pairsO {a : Addr} {vs : List Value} {k : Value → Int × Int} {n : Nat} {Q : Value → Shared → Prop} (ho : s.heap.get? a = some (seqObj "list" vs.toArray n)) (hz : vs.length ≤ sizeLine) (hp : ∀ v ∈ vs, Srt.IsPair s.heap v (k v).1 (k v).2)
    (h : ∀ out : List Value, SrtO.Srtd (fun v u => SrtO.lexB (k v) (k u)) out → SrtO.Stb (fun v u => SrtO.lexB (k v) (k u)) out vs → Q .none { s with heap := sortedHeap s.heap a vs out.toArray }) :
    wpAny (model P w) A (call (.builtin "list.sort") [.ref a]) Q E s :=
  wpAny_call_entry slot_list_sort ⟨_, ho, rfl⟩ entry_list_sort (SrtO.list_sort_ord (SrtO.swo_lex k) ho hz (fun h2 => SrtO.pairs_sortableO (by omega) hp fun o e c => by
    rw [ho] at e; cases e
    exact absurd (Value.type.inj c) (by decide)) fun out hs hb => ⟨_, rfl, h out hs hb⟩) (args_list_sort _)
theorem sorted_setP {a : Addr} {L : List (Addr × List Int)} {es : Array (Int × Value)} {ep : Nat} {t : SetTable} {Q : Value → Shared → Prop} (R : SetTR P w s.heap a L es ep t) (hh : A.handled = none)
    (hB : ∀ p ∈ L, ∃ x y, p.2 = [x, y])
    (hQ : ∀ s' p (out : Array Value) (c : Nat) (L' : List (Addr × List Int)), (∀ b o, s.heap.get? b = some o → s'.heap.get? b = some o) → s'.gens = s.gens → s'.os = s.os → s.heap.objs.size ≤ p →
      s'.heap.get? p = some (seqObj "list" out c) → out.toList = L'.map (fun q => Value.ref q.1) → L'.Perm L → SrtO.Srtd (fun q r => SrtO.lexB (prI q.2) (prI r.2)) L' → Q (.ref p) s') :
    wpAny (model P w) A (call (.builtin "sorted") [.ref a]) Q E s := by
  obtain ⟨o, ho, hex, hd⟩ := R.ob
  have hsz := R.size
  have hfew := R.few
  refine Calls.call_function_entry kind_sorted plain_sorted entry_sorted (args_sorted1 _) ?_
  unfold Builtin.«sorted»
  refine wpAny_bind (m := checkCount "sorted" 1 1 _) (wpAny_pure ?_)
  refine wpAny_bind (collect_set (A := A.in1) hh ⟨o, ho, hex.1, hd⟩ R.fits (by unfold scanBound; omega) R.tab.ris R.led fun s1 vs k1 hz g1 o1 pm => ?_)
  have hes : es.toList.map (·.2) = L.map fun q => Value.ref q.1 := by
    rw [R.rows]
    unfold rowsOf
    rw [List.map_map] <;> rfl
  rw [hes] at pm
  -- the values are the addresses of the rows, in some order
  have ord : ∀ vs : List Value, (∀ v ∈ vs, ∃ q ∈ L, v = Value.ref q.1) → ∃ L1 : List (Addr × List Int), vs = L1.map (fun q => Value.ref q.1) ∧ ∀ q ∈ L1, q ∈ L := by
    intro vs
    induction vs with
    | nil => intro _; exact ⟨[], rfl, fun q hq => (by cases hq)⟩
    | cons v vs ih =>
      intro hv
      obtain ⟨q, hq, e⟩ := hv v List.mem_cons_self
      obtain ⟨L1, e1, hs⟩ := ih fun u hu => hv u (List.mem_cons_of_mem _ hu)
      refine ⟨q :: L1, by rw [List.map_cons, e, e1], fun r hr => ?_⟩
      rcases List.mem_cons.mp hr with z | z
      · rw [z]; exact hq
      · exact hs r z
  -- an address has one key
  have one : ∀ q ∈ L, ∀ r ∈ L, q.1 = r.1 → q = r := fun q hq r hr e => by
    have a1 := R.tup q hq
    have a2 := R.tup r hr
    rw [e] at a1
    have e2 : q.2 = r.2 := a1.inj a2
    exact Prod.ext e e2
  have perm_of : ∀ L1 : List (Addr × List Int), (∀ q ∈ L1, q ∈ L) → (L1.map (fun q => Value.ref q.1)).Perm (L.map fun q => Value.ref q.1) → L1.Perm L := by
    intro L1 hs pm1
    have nL : L.Nodup := nodup_of_map R.nd
    have nref : (L.map fun q => Value.ref q.1).Nodup := by
      refine List.pairwise_map.mpr (List.Pairwise.imp_of_mem (fun {q r} hq hr hne e => ?_) nL)
      injection e with e
      exact hne (one q hq r hr e)
    have n1 : L1.Nodup := nodup_of_map (pm1.nodup_iff.mpr nref)
    refine (List.perm_ext_iff_of_nodup n1 nL).mpr fun q => ⟨hs q, fun hq => ?_⟩
    have hm : Value.ref q.1 ∈ L1.map (fun q => Value.ref q.1) := pm1.mem_iff.mpr (List.mem_map.mpr ⟨q, hq, rfl⟩)
    obtain ⟨r, hr, e⟩ := List.mem_map.mp hm
    injection e with e
    rw [← one r (hs r hr) q hq e]
    exact hr
  have hvl : vs.length < 64 := by rw [pm.length_eq, List.length_map]; exact hfew
  refine wpAny_bind (wpAny_newList ?_ (by rw [sizeLine_eq]; omega))
  have hoL : (s1.heap.push (seqObj "list" vs.toArray 0)).get? s1.heap.objs.size = some (seqObj "list" vs.toArray 0) := Heap.get?_push_size _ rfl
  have tk : ∀ q ∈ L, Srt.IsPair (s1.heap.push (seqObj "list" vs.toArray 0)) (.ref q.1) (prI q.2).1 (prI q.2).2 := fun q hq => by
    obtain ⟨x, y, e⟩ := hB q hq
    have z := isT_keep (R.tup q hq) fun b u e => Heap.get?_push_of_some (h := s1.heap) (seqObj "list" vs.toArray 0) (k1 b u e)
    rw [e] at z ⊢
    exact isPair_of z
  let kf : Value → Int × Int := fun v => match L.find? (fun q => Value.ref q.1 == v) with | some q => prI q.2 | none => (0, 0)
  have kfe : ∀ q ∈ L, kf (.ref q.1) = prI q.2 := fun q hq => by
    have : ∃ r ∈ L, Value.ref r.1 == Value.ref q.1 := ⟨q, hq, by simp⟩
    show (match L.find? (fun r => Value.ref r.1 == Value.ref q.1) with | some q => prI q.2 | none => (0, 0)) = prI q.2
    cases hf : L.find? (fun r => Value.ref r.1 == Value.ref q.1) with
    | none => exact absurd (List.find?_eq_none.mp hf q hq) (by simp)
    | some r =>
      have hr := List.mem_of_find?_eq_some hf
      have hb := List.find?_some hf
      have : Value.ref r.1 = Value.ref q.1 := by simpa using hb
      injection this with this
      rw [one r hr q hq this]
  refine wpAny_bind (wpAny_holding (call_sort_pairsO (k := kf) (s := { s1 with heap := s1.heap.push (seqObj "list" vs.toArray 0) }) hoL (by rw [sizeLine_eq]; omega) (fun v hv => ?_) fun out a1 a2 => ?_))
  · obtain ⟨q, hq, e⟩ := List.mem_map.mp (pm.mem_iff.mp hv)
    rw [← e, kfe q hq]
    exact tk q hq
  obtain ⟨c, hc⟩ := sortedHeap_at (vs := vs) (out := out.toArray) hoL
  obtain ⟨L', e', hs'⟩ := ord out fun v hv => by
    obtain ⟨q, hq, e⟩ := List.mem_map.mp (pm.mem_iff.mp (a2.perm.mem_iff.mp hv))
    exact ⟨q, hq, e.symm⟩
  have pL : L'.Perm L := perm_of L' hs' (by rw [← e']; exact a2.perm.trans pm)
  have pw : SrtO.Srtd (fun q r => SrtO.lexB (prI q.2) (prI r.2)) L' := by
    rw [e'] at a1
    refine List.Pairwise.imp_of_mem (fun {q r} hq hr hle => ?_) (List.pairwise_map.mp a1)
    have hle : SrtO.lexB (kf (.ref r.1)) (kf (.ref q.1)) = false := hle
    rw [kfe q (hs' q hq), kfe r (hs' r hr)] at hle
    exact hle
  refine wpAny_pure ⟨_, rfl, hQ _ s1.heap.objs.size out.toArray c L' (fun b u e => ?_) g1 o1 hz hc (by simpa using e') pL pw⟩
  have q := k1 b u e
  have hlt := Heap.lt_size q
  show (sortedHeap (s1.heap.push (seqObj "list" vs.toArray 0)) s1.heap.objs.size vs out.toArray).get? b = some u
  rw [sortedHeap_old (Nat.ne_of_lt hlt) (by rw [size_push']; exact Nat.lt_succ_of_lt hlt)]
  exact Heap.get?_push_of_some _ q

end
end DD
set_option Elab.async false
set_option linter.all false
set_option maxRecDepth 100000
set_option maxHeartbeats 4000000
/-! The Den layer, part 29: sorted(list of pairs), sorted(set(pairs)). -/
namespace DD
open PySem PySem.Spec PyProof.Rows L2

def pairT (p : Int × Int) : T := .tup [.int p.1, .int p.2]
def pairsT : List T → Option (List (Int × Int))
  | [] => some []
  | .tup [.int x, .int y] :: ts => (pairsT ts).map ((x, y) :: ·)
  | _ => none
def leP (p q : Int × Int) : Bool := decide (p.1 < q.1) || (decide (p.1 = q.1) && decide (p.2 ≤ q.2))
def srtP (ps : List (Int × Int)) : List (Int × Int) := ps.mergeSort leP
def dedP : List (Int × Int) → List (Int × Int)
  | [] => []
  | p :: ps => if p ∈ dedP ps then dedP ps else p :: dedP ps
theorem leP_iff {p q : Int × Int} : leP p q = true ↔ p.1 < q.1 ∨ (p.1 = q.1 ∧ p.2 ≤ q.2) := by simp [leP]
theorem leP_trans (p q r : Int × Int) (h : leP p q = true) (h' : leP q r = true) : leP p r = true := by rw [leP_iff] at *; omega
theorem leP_total (p q : Int × Int) : (leP p q || leP q p) = true := by rw [Bool.or_eq_true, leP_iff, leP_iff]; omega
theorem leP_anti (p q : Int × Int) (h : leP p q = true) (h' : leP q p = true) : p = q := by rw [leP_iff] at *; exact Prod.ext (by omega) (by omega)
theorem srtP_sorted (ps : List (Int × Int)) : (srtP ps).Pairwise fun p q => leP p q = true := List.pairwise_mergeSort leP_trans leP_total ps
theorem srtP_perm (ps : List (Int × Int)) : (srtP ps).Perm ps := List.mergeSort_perm ps leP
theorem srtP_uniq {qs ps : List (Int × Int)} (h : qs.Pairwise fun p q => leP p q = true) (p : qs.Perm ps) : qs = srtP ps :=
  List.Perm.eq_of_pairwise (fun a b _ _ => leP_anti a b) h (srtP_sorted ps) (p.trans (srtP_perm ps).symm)
theorem mem_dedP {p : Int × Int} : ∀ {ps : List (Int × Int)}, p ∈ dedP ps ↔ p ∈ ps
  | [] => by simp [dedP]
  | q :: ps => by
    have ih := mem_dedP (p := p) (ps := ps)
    unfold dedP
    split
    · rename_i h
      rw [ih, List.mem_cons]
      exact ⟨.inr, fun z => z.elim (fun z => by rw [z]; exact mem_dedP.mp h) id⟩
    · rw [List.mem_cons, List.mem_cons, ih]
theorem nodup_dedP : ∀ (ps : List (Int × Int)), (dedP ps).Nodup
  | [] => List.nodup_nil
  | q :: ps => by
    unfold dedP
    split
    · exact nodup_dedP ps
    · exact List.nodup_cons.mpr ⟨by assumption, nodup_dedP ps⟩
theorem srtd_le {α : Type} {k : α → Int × Int} {l : List α} (h : SrtO.Srtd (fun v u => SrtO.lexB (k v) (k u)) l) : (l.map k).Pairwise fun p q => leP p q = true := by
  refine List.pairwise_map.mpr (List.Pairwise.imp (fun {a b} z => ?_) h)
  have := SrtO.lexB_no.mp z
  rw [leP_iff]
  omega
def nSorted : List T → Store → R T
  | [.ref n], S => match lstAt S n with
    | some xs => (match pairsT xs with
      | some ps => if xs.length ≤ LINE then newO (.lst ((srtP ps).map pairT)) S else .bad
      | none => .bad)
    | none => .bad
  | _, _ => .bad
def nSortSet : List T → Store → R T
  | [t], S => match seqAt S t with
    | some xs => (match pairsT xs with
      | some ps => if xs.length < 64 then newO (.lst ((srtP (dedP ps)).map pairT)) S else .bad
      | none => .bad)
    | none => .bad
  | _, _ => .bad

/-- the value v is the pair p -/
def PrV (K : PySem.W.Frag) (H : Hp) (v : V) (p : Int × Int) : Prop := ∃ a, v = .ref a ∧ SqT K H a [.int p.1, .int p.2]
section
variable {W : Wd} {cells : List (Str × Addr)} {wx : WX} {M : List Addr} {S : Store} {H : Hp}
theorem prs_of : ∀ {ts : List T} {vs : List V} {ps : List (Int × Int)}, pairsT ts = some ps → Reps W M H ts vs → Paired (PrV W.K H) vs ps := by
  intro ts
  induction ts with
  | nil => intro vs ps e r; cases e; unfold Reps at r; subst r; exact .nil
  | cons t ts ih =>
    intro vs ps e r
    unfold Reps at r
    obtain ⟨v, rr, rfl, r1, r2⟩ := r
    unfold pairsT at e
    split at e
    · rename_i heq; cases heq
    · rename_i x y us' heq
      injection heq with h1 h2
      subst h1 h2
      cases e2 : pairsT ts with
      | none => rw [e2] at e; cases e
      | some qs =>
        rw [e2] at e
        cases e
        refine .cons ?_ (ih e2 r2)
        unfold Rep at r1
        obtain ⟨a, vs, e1, h1, h2⟩ := r1
        refine ⟨a, e1, ?_⟩
        unfold Reps at h2
        obtain ⟨v1, rr1, e3, q1, h3⟩ := h2
        unfold Reps at h3
        obtain ⟨v2, rr2, e4, q2, h4⟩ := h3
        unfold Reps at h4
        unfold Rep at q1 q2
        subst h4 e4 e3 q1 q2
        exact h1
    · cases e
theorem reps_prs : ∀ {vs : List V} {ps : List (Int × Int)}, Paired (PrV W.K H) vs ps → Reps W M H (ps.map pairT) vs
  | [], _, .nil => reps_nil
  | v :: vs, p :: ps, .cons h t => by
    refine reps_cons ?_ (reps_prs t)
    obtain ⟨a, e, h⟩ := h
    unfold pairT Rep
    exact ⟨a, _, e, h, reps_cons r_int (reps_cons r_int reps_nil)⟩
end
theorem PrV.mono {K M H M' H'} (e : Ext M H M' H') {v p} (h : PrV K H v p) : PrV K H' v p := by
  obtain ⟨a, h1, h2⟩ := h
  exact ⟨a, h1, e.sqT h2⟩
def rSortedPA (K : PySem.W.Frag) : List V → Hp → VK → Prop := fun vs H Q => ∃ (a : Addr) (xs : List V) (ps : List (Int × Int)), vs = [V.ref a] ∧ SqL K H a xs ∧ Paired (PrV K H) xs ps ∧
  ∀ ys p, Paired (PrV K H) ys (srtP ps) → H p = none → Q (.ref p) (upd H p (.lst ys))
/-- the pair in the heap -/
def heapPr (h : Heap) : Value → Int × Int
  | .ref a => match h.get? a with
    | some o => (match o.data with
      | .seq its _ => (match its.toList with
        | [.int x _, .int y _] => (x, y)
        | _ => (0, 0))
      | _ => (0, 0))
    | none => (0, 0)
  | _ => (0, 0)
theorem heapPr_of {h : Heap} {v : Value} {x y : Int} (p : Srt.IsPair h v x y) : heapPr h v = (x, y) := by
  obtain ⟨a, o, t, u, n, e, ho, hc, hd⟩ := p
  subst e
  simp [heapPr, ho, hd]
section
variable {X : Cx}
theorem isPr {pins : List (Addr × Obj)} {σ : L2.St} {H : Hp} {s : Shared} {v : V} {u : Value} {p : Int × Int} (I : Inv X pins σ H s) (r : RelV v u) (h : PrV X.K H v p) : Srt.IsPair s.heap u p.1 p.2 := by
  obtain ⟨a, e, h⟩ := h
  subst e
  obtain rfl : u = Value.ref a := r
  obtain ⟨its, rv, ⟨o, ho, hc, n, hd⟩, _⟩ := I.tuple h
  obtain ⟨u1, u2, e2, ri, rj⟩ := vals2 rv
  subst e2
  obtain ⟨t1, e3⟩ := ri
  obtain ⟨t2, e4⟩ := rj
  subst e3 e4
  exact ⟨a, o, t1, t2, n, rfl, ho, hc, by simpa using hd⟩
theorem call_sortedA : CallR X (.builtin "sorted") (rSortedPA X.K) := by
  intro pins s σ H vs us Q I r h
  obtain ⟨a, xs, ps, rfl, hs, hx, q⟩ := h
  obtain ⟨its, rv, hl, hz⟩ := I.list hs
  obtain ⟨u, rfl, ru⟩ := vals1 r
  obtain rfl : u = Value.ref a := ru
  have key : ∀ {xs : List V} {its : List Value} {ps : List (Int × Int)}, Vals xs its → Paired (PrV X.K H) xs ps → its.map (heapPr s.heap) = ps ∧ xs = its.map backV ∧ ∀ v ∈ its, (∃ b, v = Value.ref b) ∧ Srt.IsPair s.heap v (heapPr s.heap v).1 (heapPr s.heap v).2 ∧ PrV X.K H (backV v) (heapPr s.heap v) := by
    intro xs its ps h1 h2
    induction its generalizing xs ps with
    | nil => cases h1; cases h2; exact ⟨rfl, rfl, fun v hv => absurd hv (by simp)⟩
    | cons u its' ih =>
      cases h1 with
      | @cons v _ xs' _ r1 r2 =>
        cases h2 with
        | @cons _ p _ ps' hp h2 =>
          obtain ⟨i1, i2, i3⟩ := ih r2 h2
          have ip := isPr I r1 hp
          have e1 : heapPr s.heap u = p := heapPr_of ip
          have hp' := hp
          obtain ⟨b, eb, hb⟩ := hp
          subst eb
          obtain rfl : u = Value.ref b := r1
          refine ⟨by rw [List.map_cons, i1, e1], by rw [List.map_cons, ← i2]; rfl, fun v hv => ?_⟩
          rcases List.mem_cons.mp hv with z | z
          · subst z
            rw [e1]
            exact ⟨⟨b, rfl⟩, ip, hp'⟩
          · exact i3 v z
  obtain ⟨k1, k2, k3⟩ := key rv hx
  refine SrtO.sorted_pairsO (k := heapPr s.heap) hl.isList (by rw [← rv.length]; exact hz) (fun v hv => (k3 v hv).2.1) fun h' d out h1 h2 kp hd hn => ?_
  have h3 : ∀ u ∈ out, ∃ a, u = Value.ref a := fun u hu => (k3 u (h2.perm.mem_iff.mp hu)).1
  obtain ⟨n, hn⟩ := hn
  have e : out.map (heapPr s.heap) = srtP ps := by
    rw [← k1]
    exact srtP_uniq (srtd_le h1) (h2.perm.map _)
  refine ⟨.ref d, upd H d (.lst (out.map backV)), I.laid (t' := s.toks) kp hd ⟨?_, out, n, vals_back h3, hn⟩, rfl, q _ d ?_ (I.hok.fresh hd)⟩
  · rw [List.length_map, h2.perm.length_eq, ← rv.length]
    exact hz
  · rw [← e]
    have : ∀ out : List Value, (∀ v ∈ out, v ∈ its) → Paired (PrV X.K H) (out.map backV) (out.map (heapPr s.heap)) := by
      intro out
      induction out with
      | nil => intro _; exact .nil
      | cons v out ih => intro hm; exact .cons (k3 v (hm v List.mem_cons_self)).2.2 (ih fun u hu => hm u (List.mem_cons_of_mem _ hu))
    exact this out fun v hv => h2.perm.mem_iff.mp hv
/-- set(xs), xs a list or a tuple of pairs -/
def rSetOfP (K : PySem.W.Frag) (P : Program) (w : World) : List V → Hp → VK → Prop := fun xs H Q => ∃ (l : Addr) (b : Bool) (ks : List (Addr × List Int)), xs = [V.ref l] ∧ SqK b K H l (ks.map fun p => V.ref p.1) ∧ (∀ p ∈ ks, SqT K H p.1 (p.2.map V.int)) ∧ ks.length < 64 ∧
  ∀ a L, H a = none → (∀ p ∈ L, p ∈ ks) → (∀ p ∈ ks, p.2 ∈ L.map (·.2)) → Q (.ref a) (upd H a (SetTO P w a L))
theorem call_setP (hc : X.calm = true) (hu : X.A.units + 64 < cLine) : CallR X (.type "set") (rSetOfP X.K X.prog X.w) := by
  intro pins s σ H xs us Q I r h
  obtain ⟨l, b, ks, rfl, hl, hk, hf, q⟩ := h
  cases b with
  | true => exact cr_setOfT hc hu pins s σ H _ us Q I r ⟨l, ks, rfl, hl, hk, hf, q⟩
  | false =>
    rw [Vals.ref1 r]
    obtain ⟨its, rv, pl, hz⟩ := I.tuple hl
    have hn : H s.heap.objs.size = none := I.hok.fresh (Nat.le_refl _)
    refine call_set_tupsT (P := X.prog) (w := X.w) ks (I.ok.hd hc) pl (by simpa using refs_of_vals rv) (fun p hp => I.isT (hk p hp)) hf (by omega) fun h' tk L es ep t R g k => ?_
    refine ⟨.ref s.heap.objs.size, upd H s.heap.objs.size (SetTO X.prog X.w s.heap.objs.size L), I.laid (t' := tk) k (Nat.le_refl _) (setTO_new R.t0), rfl, q _ L hn (fun p hp => ?_) fun p hp => ?_⟩
    · exact List.mem_of_mem_take (g.sub p hp)
    · exact g.all p (by rw [List.take_length]; exact hp)
def rSortSP (K : PySem.W.Frag) (P : Program) (w : World) : List V → Hp → VK → Prop := fun vs H Q => ∃ (a : Addr) (L : List (Addr × List Int)), vs = [V.ref a] ∧ H a = some (SetTO P w a L) ∧ (∀ p ∈ L, SqT K H p.1 (p.2.map V.int)) ∧ (∀ p ∈ L, ∃ x y, p.2 = [x, y]) ∧
  ∀ (L' : List (Addr × List Int)) (p : Addr), L'.Perm L → (L'.map (·.2)).Nodup → SrtO.Srtd (fun q r => SrtO.lexB (prI q.2) (prI r.2)) L' → H p = none → Q (.ref p) (upd H p (.lst (L'.map fun q => V.ref q.1)))
theorem call_sortSP (hc : X.calm = true) : CallR X (.builtin "sorted") (rSortSP X.K X.prog X.w) := by
  intro pins s σ H vs us Q I r h
  obtain ⟨a, L, rfl, ha, hk, hB, q⟩ := h
  have R0 : SetT0 X.prog X.w s.heap a L := (I.hok a _ ha).1
  obtain ⟨es, ep, t, R⟩ := R0.full fun p hp => I.isT (hk p hp)
  rw [Vals.ref1 r]
  refine sorted_setP R (I.ok.hd hc) hB fun s' p out c L' k g o hp hg hout pm pw => ?_
  have hfew : L'.length < 64 := by rw [pm.length_eq]; exact R.few
  have hlen : (L'.map fun q => V.ref q.1).length ≤ sizeLine := by rw [List.length_map, sizeLine_eq]; omega
  have hn : H p = none := I.hok.fresh hp
  have hv : Vals (L'.map fun q => V.ref q.1) out.toList := by rw [hout]; exact vals_of_refs L'
  have J : Inv X pins σ (upd H p (.lst (L'.map fun q => V.ref q.1))) { s with heap := s'.heap, gens := s'.gens, drawn := s'.drawn, toks := s'.toks } :=
    I.call (ch := []) (Un.laid k hp hn) (I.hok.laid k hp ⟨hlen, out.toList, c, hv, hg⟩) (by rw [g]; exact I.bare) (fun _ z => nomatch z)
  have e : s' = { s with heap := s'.heap, gens := s'.gens, drawn := s'.drawn, toks := s'.toks } := by
    cases s'
    cases s
    cases o
    rfl
  rw [e]
  exact ⟨.ref p, _, J, rfl, q L' p pm ((pm.map (·.2)).nodup_iff.mpr R.nd) pw hn⟩
end
end DD
set_option Elab.async false
set_option linter.all false
set_option maxRecDepth 100000
set_option maxHeartbeats 4000000
/-! The Den layer, part 30: sorted(list of pairs), sorted(set(pairs)): the rules. -/
namespace DD
open PySem PySem.Spec PyProof.Rows L2

section
variable {X : Cx} {W : Wd} {cells : List (Str × Addr)} {wx : WX} {pos : Pos}
theorem prs_reps {M : List Addr} {H : Hp} {vs : List V} {ps : List (Int × Int)} (h : Paired (PrV W.K H) vs ps) : Reps W M H (ps.map pairT) vs := reps_prs h
theorem sorted_w (hK : X.K = W.K) : CallD W cells wx (rSortedPA X.K) nSorted := fun σ M S H Q ts vs sim pr post => by
  rw [hK]
  unfold nSorted at post
  split at post
  · rename_i n
    obtain ⟨v, rfl, r⟩ := paired1 pr
    obtain ⟨a, h1, rfl⟩ := rep_ref r
    split at post
    · rename_i xs e
      split at post
      · rename_i ps ep
        split at post
        · obtain ⟨ws, h2, h3⟩ := lstAt_ok sim h1 e
          exact ⟨a, ws, ps, rfl, h2, prs_of ep h3, fun ys p hy hp => lst_new sim post hp (prs_reps hy)⟩
        · exact post.elim
      · exact post.elim
    · exact post.elim
  · exact post.elim
theorem kys_of {K : PySem.W.Frag} {H : Hp} : ∀ {vs : List V} {ps : List (Int × Int)}, Paired (PrV K H) vs ps → ∃ ks : List (Addr × List Int), vs = ks.map (fun p => V.ref p.1) ∧ ks.map (fun p => prI p.2) = ps ∧ (∀ p ∈ ks, SqT K H p.1 (p.2.map V.int)) ∧ ∀ p ∈ ks, ∃ x y, p.2 = [x, y]
  | _, _, .nil => ⟨[], rfl, rfl, fun p hp => absurd hp (by simp), fun p hp => absurd hp (by simp)⟩
  | v :: vs, p :: ps, .cons ⟨a, e, h⟩ t => by
    obtain ⟨ks, e1, e2, e3, e4⟩ := kys_of t
    refine ⟨(a, [p.1, p.2]) :: ks, by rw [e, e1]; rfl, by rw [← e2]; rfl, fun q hq => ?_, fun q hq => ?_⟩
    · rcases List.mem_cons.mp hq with z | z
      · subst z; exact h
      · exact e3 q z
    · rcases List.mem_cons.mp hq with z | z
      · subst z; exact ⟨_, _, rfl⟩
      · exact e4 q z
theorem prs_kys {K : PySem.W.Frag} {H : Hp} : ∀ {ks : List (Addr × List Int)}, (∀ p ∈ ks, SqT K H p.1 (p.2.map V.int)) → (∀ p ∈ ks, ∃ x y, p.2 = [x, y]) → Paired (PrV K H) (ks.map fun p => V.ref p.1) (ks.map fun p => prI p.2)
  | [], _, _ => .nil
  | k :: ks, h1, h2 => by
    refine .cons ?_ (prs_kys (fun p hp => h1 p (List.mem_cons_of_mem _ hp)) fun p hp => h2 p (List.mem_cons_of_mem _ hp))
    obtain ⟨x, y, e⟩ := h2 k List.mem_cons_self
    have h := h1 k List.mem_cons_self
    rw [e] at h
    refine ⟨k.1, rfl, ?_⟩
    show SqT K H k.1 [V.int (prI k.2).1, V.int (prI k.2).2]
    rw [e]
    exact h
theorem prI_inj {a b : List Int} (ha : ∃ x y, a = [x, y]) (hb : ∃ x y, b = [x, y]) (e : prI a = prI b) : a = b := by
  obtain ⟨x, y, rfl⟩ := ha
  obtain ⟨x', y', rfl⟩ := hb
  injection e with e1 e2
  rw [e1, e2]
theorem nodup_prI : ∀ {L : List (List Int)}, L.Nodup → (∀ p ∈ L, ∃ x y, p = [x, y]) → (L.map prI).Nodup
  | [], _, _ => List.nodup_nil
  | a :: L, h, h2 => by
    obtain ⟨q1, q2⟩ := List.nodup_cons.mp h
    refine List.nodup_cons.mpr ⟨fun hm => ?_, nodup_prI q2 fun p hp => h2 p (List.mem_cons_of_mem _ hp)⟩
    obtain ⟨b, hb, e⟩ := List.mem_map.mp hm
    rw [prI_inj (h2 a List.mem_cons_self) (h2 b (List.mem_cons_of_mem _ hb)) e.symm] at q1
    exact q1 hb
theorem ee_sortSet {a : Expr} {da : DA} {p q pos' : Pos} (hc : X.calm = true) (hu : X.A.units + 65 < cLine) (hK : X.K = W.K) (hgl : Gl X "sorted") (hml : X.mg "sorted" = none) (hg : Gl X "set") (hm : X.mg "set" = none) (ha : EL X W cells wx [a] da) (hs : starEach [a] X.env = [(false, eval a X.env)] := by rfl) :
    EE X W cells wx (.Call (.Name "sorted" p) [.Call (.Name "set" q) [a] [] pos'] [] pos) (dCallF nSortSet da) :=
  pe_weak (pe_callB (call_sortSP hc) hgl hml (by decide +kernel) (pa_cons (pe_callTy (call_setP hc (by omega)) hg hm (by decide +kernel) ha (he := hs)) pa_nil)) fun σ H Q ⟨M, S, env, sim, er, post⟩ => by
    refine stepA sim er post fun M1 S1 H1 ts vs e1 sim1 er1 r1 post1 => ?_
    unfold nSortSet at post1
    split at post1
    · rename_i t
      obtain ⟨v, rfl, r⟩ := paired1 r1
      split at post1
      · rename_i xs e
        split at post1
        · rename_i ps ep
          split at post1
          · rename_i hlt
            obtain ⟨l, ws, rfl, h2, h3⟩ := seq_ok sim1 r e
            obtain ⟨ks, e4, e5, e6, e7⟩ := kys_of (prs_of ep h3)
            subst e4
            rw [hK]
            refine ⟨l, _, ks, rfl, h2, e6, ?_, fun z L hz hL1 hL2 => ?_⟩
            · have := reps_len h3
              rw [List.length_map] at this
              omega
            · have ex : Ext M1 H1 M1 (upd H1 z (SetTO X.prog X.w z L)) := ext_new hz
              have sim2 := sim1.new (o := SetTO X.prog X.w z L) hz
              refine ⟨z, L, rfl, upd_same, fun p hp => ex.sqT (e6 p (hL1 p hp)), fun p hp => e7 p (hL1 p hp), fun L' y pm nd sr hy => ?_⟩
              have k6 : ∀ p ∈ L', SqT W.K (upd H1 z (SetTO X.prog X.w z L)) p.1 (p.2.map V.int) := fun p hp => ex.sqT (e6 p (hL1 p (pm.mem_iff.mp hp)))
              have k7 : ∀ p ∈ L', ∃ x y, p.2 = [x, y] := fun p hp => e7 p (hL1 p (pm.mem_iff.mp hp))
              have eq : L'.map (fun p => prI p.2) = srtP (dedP ps) := by
                have n1 : (L'.map (fun p => prI p.2)).Nodup := by
                  have := nodup_prI nd fun p hp => by
                    obtain ⟨q, hq, e⟩ := List.mem_map.mp hp
                    rw [← e]; exact k7 q hq
                  rw [List.map_map] at this
                  exact this
                refine srtP_uniq (srtd_le (k := fun q : Addr × List Int => prI q.2) sr) ((List.perm_ext_iff_of_nodup n1 (nodup_dedP ps)).mpr fun c => ?_)
                rw [mem_dedP, ← e5]
                constructor
                · intro h
                  obtain ⟨q, hq, e⟩ := List.mem_map.mp h
                  exact List.mem_map.mpr ⟨q, hL1 q (pm.mem_iff.mp hq), e⟩
                · intro h
                  obtain ⟨q, hq, e⟩ := List.mem_map.mp h
                  obtain ⟨q', hq', e'⟩ := List.mem_map.mp (hL2 q hq)
                  exact List.mem_map.mpr ⟨q', pm.mem_iff.mpr hq', by show prI q'.2 = c; rw [e']; exact e⟩
              have post2 := PostE.mono ex post1
              refine lst_new sim2 post2 hy ?_
              rw [← eq]
              exact prs_reps (prs_kys k6 k7)
          · exact post1.elim
        · exact post1.elim
      · exact post1.elim
    · exact post1.elim
end
end DD
set_option Elab.async false
set_option linter.all false
set_option maxRecDepth 100000
set_option maxHeartbeats 4000000
/-! The Den layer, part 31: from what the top has written to the facts of a law. -/
namespace DD
open PySem PySem.Spec PyProof.Rows L2

theorem told_cases {c : Nat} (h : (toldName c).isSome = true) : c = 1 ∨ c = 2 ∨ c = 3 ∨ c = 4 ∨ c = 5 ∨ c = 6 := by
  unfold toldName at h
  split at h <;> first | omega | cases h
theorem exm_mk {K : PySem.W.Frag} {a b : Addr} (h1 : PySem.W.subIn K (.ref b) (.type "BaseException") = some true) (h2 : PySem.W.isClsIn K b = true) (h3 : PySem.W.typeIn K (.ref b) = some (.type "type")) (h4 : PySem.W.subIn K (.ref a) (.ref b) = some true) :
    PySem.W.exmOne K (.ref a) (.ref b) = some true := by
  have e1 : (PySem.W.subIn K (.ref b) (.type "BaseException") == some true) = true := by rw [h1] <;> rfl
  have e2 : ((PySem.W.clsIn K b).isSome && PySem.W.typeIn K (.ref b) == some (.type "type")) = true := by
    have h2' : (PySem.W.clsIn K b).isSome = true := h2
    rw [h2', h3] <;> rfl
  show (if (PySem.W.subIn K (.ref b) (.type "BaseException") == some true) = true then (if ((PySem.W.clsIn K b).isSome && PySem.W.typeIn K (.ref b) == some (.type "type")) = true then PySem.W.subIn K (.ref a) (.ref b) else none) else none) = some true
  rw [if_pos e1, if_pos e2]
  exact h4
theorem tabIn_mk {K : PySem.W.Frag} {x : Str} {f c P : Addr} {oc oc2 : Value} {od od2 : Option Addr} {osl osl2 : Array (Option Value)} {fd : FuncData} {vs : Array Value} (a : PySem.W.nsIn K mainGlobals x = some (some (.ref f)))
    (l : K.lookup f = some ⟨oc, od, .func fd, osl⟩) (hc : fd.code = .ref c) (l2 : K.lookup c = some ⟨oc2, od2, .fields vs, osl2⟩) (h : vs[11]? = some (.ref P)) : PySem.W.tabIn K x = some (c, P) := by
  unfold PySem.W.tabIn
  rw [a]
  simp only [l, hc, l2, h]
/-- what the class at C says -/
structure ClsF (K : PySem.W.Frag) (C : Addr) : Prop where
  hg : PySem.W.findIn K (.ref C) "__getattribute__" = some (some (.builtin "BaseException.__getattribute__"))
  hk : PySem.W.findIn K (.ref C) "__getattr__" = some none
  hs : PySem.W.subIn K (.ref C) (.type "BaseException") = some true
  hd : PySem.W.hasDictIn K C = true
  ha : PySem.W.findIn K (.ref C) "__class__" = some (some (.builtin "object.__class__"))
  hm : PySem.W.mroIn K C (.type "object") = some true
theorem ClsF.ex {K : PySem.W.Frag} {C : Addr} (h : ClsF K C) (hn : PySem.W.specialIn K (.builtin "object.__class__") "__get__" = some (some (.builtin "getset_descriptor.__get__"))) (ht : PySem.W.takesIn K (.builtin "object.__class__") = some true) : ExcC K C :=
  ⟨h.hg, h.hk, h.hs, h.hd, h.ha, hn, ht, h.hm⟩
/-- isinstance among the classes -/
def KitF (K : PySem.W.Frag) (a : Addr) (c : Nat) (c1 c2 c3 c4 c5 c6 : Addr) : Prop :=
  PySem.W.kitOne K (.ref a) (.ref c1) = some (decide (c = 1)) ∧ PySem.W.kitOne K (.ref a) (.ref c2) = some (decide (c = 2)) ∧ PySem.W.kitOne K (.ref a) (.ref c3) = some (decide (c = 3)) ∧ PySem.W.kitOne K (.ref a) (.ref c4) = some (decide (c = 4)) ∧
    PySem.W.kitOne K (.ref a) (.ref c5) = some (decide (c = 5)) ∧ PySem.W.kitOne K (.ref a) (.ref c6) = some (decide (c = 6))
def caOf (c0 c1 c2 c3 c4 c5 c6 : Addr) : Nat → Addr
  | 0 => c0 | 1 => c1 | 2 => c2 | 3 => c3 | 4 => c4 | 5 => c5 | _ => c6
def faOf (l : List Addr) : Nat → Addr := fun i => l.getD i 0
abbrev wdOf (K : PySem.W.Frag) (w : World) (l : List Addr) (c0 c1 c2 c3 c4 c5 c6 : Addr) (ts : List (Addr × Str)) : Wd := ⟨K, faOf l, caOf c0 c1 c2 c3 c4 c5 c6, fun _ => none, ts, w⟩
section
variable {K : PySem.W.Frag} {h : Heap} {mg : Str → Option Value} {w : World} {c0 c1 c2 c3 c4 c5 c6 : Addr} {l : List Addr} {ts : List (Addr × Str)}
theorem errF_mk (X : K.In h) (G : h.Ns mainGlobals mg) (n0 : PySem.W.nsIn K mainGlobals "DigitError" = some (some (.ref c0))) (n1 : PySem.W.nsIn K mainGlobals "NotAllowed" = some (some (.ref c1))) (n2 : PySem.W.nsIn K mainGlobals "TooLarge" = some (some (.ref c2)))
    (n3 : PySem.W.nsIn K mainGlobals "Missing" = some (some (.ref c3))) (n4 : PySem.W.nsIn K mainGlobals "BadPaper" = some (some (.ref c4))) (n5 : PySem.W.nsIn K mainGlobals "BadForm" = some (some (.ref c5))) (n6 : PySem.W.nsIn K mainGlobals "Broken" = some (some (.ref c6)))
    (hn : PySem.W.specialIn K (.builtin "object.__class__") "__get__" = some (some (.builtin "getset_descriptor.__get__"))) (ht : PySem.W.takesIn K (.builtin "object.__class__") = some true) (f1 : ClsF K c1) (f2 : ClsF K c2) (f3 : ClsF K c3) (f4 : ClsF K c4) (f5 : ClsF K c5) (f6 : ClsF K c6)
    (k1 : KitF K c1 1 c1 c2 c3 c4 c5 c6) (k2 : KitF K c2 2 c1 c2 c3 c4 c5 c6) (k3 : KitF K c3 3 c1 c2 c3 c4 c5 c6) (k4 : KitF K c4 4 c1 c2 c3 c4 c5 c6) (k5 : KitF K c5 5 c1 c2 c3 c4 c5 c6) (k6 : KitF K c6 6 c1 c2 c3 c4 c5 c6)
    (b1 : PySem.W.subIn K (.ref c0) (.type "BaseException") = some true) (b2 : PySem.W.isClsIn K c0 = true) (b3 : PySem.W.typeIn K (.ref c0) = some (.type "type"))
    (s1 : PySem.W.subIn K (.ref c1) (.ref c0) = some true) (s2 : PySem.W.subIn K (.ref c2) (.ref c0) = some true) (s3 : PySem.W.subIn K (.ref c3) (.ref c0) = some true) (s4 : PySem.W.subIn K (.ref c4) (.ref c0) = some true) (s5 : PySem.W.subIn K (.ref c5) (.ref c0) = some true) (s6 : PySem.W.subIn K (.ref c6) (.ref c0) = some true)
    (zi : PySem.W.nsIn K mainGlobals "isinstance" = some none) (zr : PySem.W.nsIn K mainGlobals "range" = some none) (zn : PySem.W.nsIn K mainGlobals "int" = some none) (zl : PySem.W.nsIn K mainGlobals "len" = some none) : ErrF K mg (wdOf K w l c0 c1 c2 c3 c4 c5 c6 ts) := by
  refine ⟨PySem.W.mg_of X G n0, PySem.W.mg_of X G n1, PySem.W.mg_of X G n2, PySem.W.mg_of X G n3, PySem.W.mg_of X G n4, PySem.W.mg_of X G n5, PySem.W.mg_of X G n6, fun c hc => ?_, fun c j hc hj => ?_, fun c hc => ?_, PySem.W.mg_none_of X G zi, PySem.W.mg_none_of X G zr, PySem.W.mg_none_of X G zn, PySem.W.mg_none_of X G zl⟩
  · rcases told_cases hc with e | e | e | e | e | e <;> subst e
    · exact f1.ex hn ht
    · exact f2.ex hn ht
    · exact f3.ex hn ht
    · exact f4.ex hn ht
    · exact f5.ex hn ht
    · exact f6.ex hn ht
  · obtain ⟨k11, k12, k13, k14, k15, k16⟩ := k1
    obtain ⟨k21, k22, k23, k24, k25, k26⟩ := k2
    obtain ⟨k31, k32, k33, k34, k35, k36⟩ := k3
    obtain ⟨k41, k42, k43, k44, k45, k46⟩ := k4
    obtain ⟨k51, k52, k53, k54, k55, k56⟩ := k5
    obtain ⟨k61, k62, k63, k64, k65, k66⟩ := k6
    rcases told_cases hc with e | e | e | e | e | e <;> subst e <;> rcases told_cases hj with e | e | e | e | e | e <;> subst e <;> assumption
  · rcases told_cases hc with e | e | e | e | e | e <;> subst e
    · exact exm_mk b1 b2 b3 s1
    · exact exm_mk b1 b2 b3 s2
    · exact exm_mk b1 b2 b3 s3
    · exact exm_mk b1 b2 b3 s4
    · exact exm_mk b1 b2 b3 s5
    · exact exm_mk b1 b2 b3 s6
end
section
variable {K : PySem.W.Frag} {h : Heap} {mg : Str → Option Value} {W : Wd}
/-- a def of the text from what the top has written -/
theorem fnr_mk (X : K.In h) (G : h.Ns mainGlobals mg) {x : Str} {i : Nat} {f : Addr} {st : Stmt} {oc : Value} {od an : Option Addr} {osl : Array (Option Value)} {kV doc pm cdv ct : Value} (a : PySem.W.nsIn K mainGlobals x = some (some (.ref f)))
    (l : K.lookup f = some ⟨oc, od, .func (PySem.W.fnOf x x (defArgs st) (defBody st) (defScope st) .none kV doc pm an cdv ct), osl⟩) (c : PySem.W.codeIn K cdv x = true) (k : PySem.W.keepIn K (.ref f) = true) (e : W.fa i = f) : FnR K mg W x i st := by
  subst e
  exact ⟨PySem.W.mg_of X G a, _, fun_mk l c k⟩
theorem fnc_mk (X : K.In h) (G : h.Ns mainGlobals mg) {x : Str} {i : Nat} {f c0 : Addr} {st : Stmt} {oc : Value} {od an : Option Addr} {osl : Array (Option Value)} {kV doc pm cdv ct : Value} (a : PySem.W.nsIn K mainGlobals x = some (some (.ref f)))
    (l : K.lookup f = some ⟨oc, od, .func (PySem.W.fnOf x x (defArgs st) (defBody st) (defScope st) .none kV doc pm an cdv ct), osl⟩) (c : PySem.W.codeIn K cdv x = true) (k : PySem.W.keepIn K (.ref f) = true) (e : W.fa i = f) (ec : cdv = .ref c0) : FnC K mg W x i st c0 := by
  subst e ec
  exact ⟨PySem.W.mg_of X G a, ⟨_, _, _, _, _, _, _, _, l, c⟩, k⟩
theorem errr_mk (X : K.In h) (G : h.Ns mainGlobals mg) {x : Str} {i : Nat} {c : Addr} {bm : List Value} (a : PySem.W.nsIn K mainGlobals x = some (some (.ref c))) (e : PySem.W.excIn K c bm "ValueError.__new__" = true) (k : PySem.W.keepIn K (.ref c) = true)
    (s : PySem.W.subIn K (.ref c) (.type "BaseException") = some true) (t : PySem.W.typeIn K (.ref c) = some (.type "type")) (ec : W.ca i = c) : ErrR K mg W x i bm := by
  subst ec
  exact ⟨PySem.W.mg_of X G a, e, k, s, t⟩
end
end DD
set_option Elab.async false
set_option linter.all false
set_option maxRecDepth 100000
set_option maxHeartbeats 4000000
/-! The Den layer, part 32: the law's own def, and the end. -/
namespace DD
open PySem PySem.Spec PyProof.Rows L2

section
variable {P : Program} {w : World} {K : PySem.W.Frag} {mg : Str → Option Value} {base : Heap} {W : Wd}
theorem fngc_of {x : Str} {i k nl np : Nat} {st : Stmt} {c : Addr} {N ps : List Str} {db : DS} {oc : Value} {od an : Option Addr} {osl : Array (Option Value)} {kV doc pm ct : Value}
    (lk : K.lookup (W.fa i) = some ⟨oc, od, .func (PySem.W.fnOf x x (defArgs st) (defBody st) (defScope st) .none kV doc pm an (.ref c) ct), osl⟩) (hcd : PySem.W.codeIn K (.ref c) x = true) (hs : FnScope N ps (defScope st)) (hnl : N.length = nl) (hnp : ps.length = np)
    (hbody : ∀ (A : Around) (outer : List Env) (s : Shared) (H : Hp) (E : XK), Room k (A.deeper (envOfC x (defScope st) s.heap.objs.size (W.fa i) (.ref c))) → A.guards = some [] →
      EBk (cxOf (L2N.CX P w) P w K mg base N x (defScope st) (W.fa i) (.ref c) A outer s H E) W (envOfC x (defScope st) s.heap.objs.size (W.fa i) (.ref c)).cells (wxD E) (defBody st) db) :
    FnG P w K mg base (k + 1) (W.fa i) (PySem.W.fnOf x x (defArgs st) (defBody st) (defScope st) .none kV doc pm an (.ref c) ct) ps (spD W np (runD nl np db)) :=
  fng_of lk hcd hs hnl hnp fun A outer s H E hr hg => hbody A outer s H E hr hg
end
theorem head_sp {W : Wd} {H : Hp} {a : Addr} {ns : List Int} {F : List T → Store → R T} (hT : LamX.Tabs W.tabs H) (hS : FrL W.K H a (ns.map V.int)) (ht : ∃ S', F [.ref 0] [.frl (ns.map T.int)] = .ok (.bl true) S') :
    spD W 1 F [.ref a] H (fun v _ => v = .bl true) (fun _ _ _ => False) := by
  obtain ⟨S', e⟩ := ht
  refine ⟨rfl, [a], [.frl (ns.map T.int)], [.ref 0], ⟨rfl, fun n m b o o' h1 h2 h3 h4 m1 m2 => ?_, fun n o b h1 h2 => ?_, hT⟩, .cons ?_ .nil, rfl, ?_⟩
  · rcases n with _ | n
    · cases h3; cases m1
    · simp at h3
  · rcases n with _ | n
    · cases h1; cases h2
      exact ⟨_, hS, reps_ints ns⟩
    · simp at h1
  · show Rep ..
    exact Rep.ref_of rfl
  · rw [e]
    intro M' H' v ex sim r
    unfold Rep at r
    exact r
theorem lawG_end {l : PySem.W.OpenLaw} {w : World} {K : PySem.W.Frag} {k n : Nat} {x : Str} {mg : Str → Option Value} {fa c Pt : Addr} {h : Heap} {fd : FuncData} {W : Wd} {q : Str} {F : List T → Store → R T} (hK : W.K = K) (hw : W.tabs = [(Pt, q)])
    (hT : h.get? Pt = some { cls := .none, data := .fields #[] }) (nT : K.lookup Pt = none) (C : PySem.W.CodeHd h c Pt) (hb : ∀ (s : Shared) (u : Value), BindsTo s fd ⟨[u], []⟩ [(x, u)])
    (ht : ∀ ns : List Int, ns.length ≤ n → (∀ z ∈ ns, Builtin.Int.intBits z ≤ 1048576) → ∃ S', F [.ref 0] [.frl (ns.map T.int)] = .ok (.bl true) S')
    (hF : ∀ base : Heap, K.In base → base.Ns mainGlobals mg → LamX.TabB base mg c Pt → FnG l.prog w K mg base k fa fd [x] (spD W 1 F)) : LawG l w K k n x mg fa h := by
  subst hK
  refine ⟨fd, [(c, Pt)], spD W 1 F, fun p hp => ?_, fun p hp => ?_, fun p hp => ?_, hb, fun H a ns hl hb' hH hS => ?_, fun base b1 b2 b3 => hF base b1 b2 (b3 (c, Pt) (by simp))⟩
  · obtain rfl : p = (c, Pt) := by simpa using hp
    exact hT
  · obtain rfl : p = (c, Pt) := by simpa using hp
    exact nT
  · obtain rfl : p = (c, Pt) := by simpa using hp
    exact C
  · refine head_sp (fun p hp => ?_) hS (ht ns hl hb')
    rw [hw] at hp
    obtain rfl : p = (Pt, q) := by simpa using hp
    refine ⟨#[], hH (c, Pt) (by simp), ?_, fun pos cv hc => ?_⟩
    · exact True.intro
    · simp [PySem.codeAmong] at hc
end DD
set_option Elab.async false
set_option linter.all false
set_option maxRecDepth 100000
set_option maxHeartbeats 4000000
/-! The Den layer, part 33: trees without references: their data, equality, text. -/
namespace DD
open PySem PySem.Spec PyProof.Rows L2

mutual
/-- ints in tuples -/
def T.it : T → Bool
  | .int _ => true
  | .tup ts => T.its ts
  | _ => false
def T.its : List T → Bool
  | [] => true
  | t :: ts => T.it t && T.its ts
end
mutual
/-- no reference in it -/
def T.pure : T → Bool
  | .non | .bl _ | .int _ | .str _ => true
  | .tup ts => T.pures ts
  | _ => false
def T.pures : List T → Bool
  | [] => true
  | t :: ts => T.pure t && T.pures ts
end
mutual
def tD : T → PyData
  | .bl b => .bool b
  | .int i => .int i
  | .str x => .str x
  | .tup ts => .tuple (tDs ts)
  | _ => .none
def tDs : List T → List PyData
  | [] => []
  | t :: ts => tD t :: tDs ts
end
mutual
theorem T.it_pure : ∀ t : T, t.it = true → t.pure = true
  | .int _, _ => by simp [T.pure]
  | .tup ts, h => by
    unfold T.it at h
    unfold T.pure
    exact T.its_pure ts h
  | .non, h | .bl _, h | .str _, h | .hole, h | .ref _, h | .fn _, h | .lam _, h | .clo _ _, h => by simp [T.it] at h
theorem T.its_pure : ∀ ts : List T, T.its ts = true → T.pures ts = true
  | [], _ => by simp [T.pures]
  | t :: ts, h => by
    simp only [T.its, Bool.and_eq_true] at h
    simp only [T.pures, Bool.and_eq_true]
    exact ⟨T.it_pure t h.1, T.its_pure ts h.2⟩
end
mutual
theorem T.pure_dat (r : Nat → Option PyData) : ∀ t : T, t.pure = true → datW r t = some (tD t)
  | .non, _ | .bl _, _ | .int _, _ | .str _, _ => by simp [datW, tD]
  | .tup ts, h => by
    unfold T.pure at h
    simp [datW, tD, T.pures_dat r ts h]
  | .hole, h | .ref _, h | .fn _, h | .lam _, h | .clo _ _, h => by simp [T.pure] at h
theorem T.pures_dat (r : Nat → Option PyData) : ∀ ts : List T, T.pures ts = true → datsW r ts = some (tDs ts)
  | [], _ => by simp [datsW, tDs]
  | t :: ts, h => by
    simp only [T.pures, Bool.and_eq_true] at h
    simp [datsW, tDs, T.pure_dat r t h.1, T.pures_dat r ts h.2]
end
theorem dat_pure {S : Store} {t : T} (h : t.pure = true) : dat S t = some (tD t) := T.pure_dat _ t h
mutual
theorem T.pure_low (n : Nat) : ∀ t : T, t.pure = true → t.low n = true
  | .non, _ | .bl _, _ | .int _, _ | .str _, _ => by simp [T.low]
  | .tup ts, h => by
    unfold T.pure at h
    unfold T.low
    exact T.pures_low n ts h
  | .hole, h | .ref _, h | .fn _, h | .lam _, h | .clo _ _, h => by simp [T.pure] at h
theorem T.pures_low (n : Nat) : ∀ ts : List T, T.pures ts = true → T.lows n ts = true
  | [], _ => by simp [T.lows]
  | t :: ts, h => by
    simp only [T.pures, Bool.and_eq_true] at h
    simp [T.lows, T.pure_low n t h.1, T.pures_low n ts h.2]
end
theorem T.pure_plain {t : T} (h : t.pure = true) : t.plain = true := by
  cases t <;> first | rfl | simp [T.pure] at h
theorem T.pure_noLam {t : T} (h : t.pure = true) : t.noLamB = true := by
  cases t <;> first | rfl | simp [T.pure] at h
mutual
theorem it_lay : ∀ t : T, t.it = true → (tD t).canLay0 = true
  | .int _, _ => by simp [tD, PyData.canLay0]
  | .tup ts, h => by
    unfold T.it at h
    simp [tD, PyData.canLay0, its_lay ts h]
  | .non, h | .bl _, h | .str _, h | .hole, h | .ref _, h | .fn _, h | .lam _, h | .clo _ _, h => by simp [T.it] at h
theorem its_lay : ∀ ts : List T, T.its ts = true → PyData.canLayAll0 (tDs ts) = true
  | [], _ => by simp [tDs, PyData.canLayAll0]
  | t :: ts, h => by
    simp only [T.its, Bool.and_eq_true] at h
    simp [tDs, PyData.canLayAll0, it_lay t h.1, its_lay ts h.2]
end
mutual
theorem it_eqv : ∀ t u : T, t.it = true → u.it = true → (PyData.eqv (tD t) (tD u) = true ↔ t = u)
  | .int i, .int j, _, _ => by simp [tD, PyData.eqv]
  | .tup ts, .tup us, h, h' => by
    unfold T.it at h h'
    simp [tD, PyData.eqv, its_eqv ts us h h']
  | .int i, .tup us, _, _ => by simp [tD, PyData.eqv]
  | .tup ts, .int j, _, _ => by simp [tD, PyData.eqv]
  | .non, _, h, _ | .bl _, _, h, _ | .str _, _, h, _ | .hole, _, h, _ | .ref _, _, h, _ | .fn _, _, h, _ | .lam _, _, h, _ | .clo _ _, _, h, _ => by simp [T.it] at h
  | .int _, .non, _, h | .int _, .bl _, _, h | .int _, .str _, _, h | .int _, .hole, _, h | .int _, .ref _, _, h | .int _, .fn _, _, h | .int _, .lam _, _, h | .int _, .clo _ _, _, h => by simp [T.it] at h
  | .tup _, .non, _, h | .tup _, .bl _, _, h | .tup _, .str _, _, h | .tup _, .hole, _, h | .tup _, .ref _, _, h | .tup _, .fn _, _, h | .tup _, .lam _, _, h | .tup _, .clo _ _, _, h => by simp [T.it] at h
theorem its_eqv : ∀ ts us : List T, T.its ts = true → T.its us = true → (PyData.eqvAll (tDs ts) (tDs us) = true ↔ ts = us)
  | [], [], _, _ => by simp [tDs, PyData.eqvAll]
  | [], _ :: _, _, _ => by simp [tDs, PyData.eqvAll]
  | _ :: _, [], _, _ => by simp [tDs, PyData.eqvAll]
  | t :: ts, u :: us, h, h' => by
    simp only [T.its, Bool.and_eq_true] at h h'
    simp [tDs, PyData.eqvAll, it_eqv t u h.1 h'.1, its_eqv ts us h.2 h'.2]
end
mutual
def T.dep : T → Nat
  | .tup ts => T.deps ts + 1
  | _ => 0
def T.deps : List T → Nat
  | [] => 0
  | t :: ts => max t.dep (T.deps ts)
end
mutual
theorem dep_eq : ∀ t : T, (tD t).depth = t.dep
  | .tup ts => by simp [tD, PyData.depth, T.dep, deps_eq ts]
  | .int _ | .non | .bl _ | .str _ | .hole | .ref _ | .fn _ | .lam _ | .clo _ _ => by simp [tD, PyData.depth, T.dep]
theorem deps_eq : ∀ ts : List T, PyData.depthAll (tDs ts) = T.deps ts
  | [] => by simp [tDs, PyData.depthAll, T.deps]
  | t :: ts => by simp [tDs, PyData.depthAll, T.deps, dep_eq t, deps_eq ts]
end
theorem shp_it {t : T} (h : t.it = true) (hd : t.dep ≤ 60) : shp (tD t) = true := by
  unfold shp SeqAt.shaped
  rw [it_lay t h, dep_eq]
  simp; omega
theorem nEq_it {t u : T} {S : Store} (ht : t.it = true) (hu : u.it = true) (dt : t.dep ≤ 60) (du : u.dep ≤ 60) [Decidable (t = u)] : nEq t u S = .ok (.bl (decide (t = u))) S := by
  have hE : nEqD false (dat S t) (dat S u) S = .ok (.bl (decide (t = u))) S := by
    rw [dat_pure (t.it_pure ht), dat_pure (u.it_pure hu)]
    unfold nEqD
    simp only [shp_it ht dt, shp_it hu du, Bool.and_self, if_true, okB, Bool.false_eq_true, if_false]
    congr 2
    by_cases e : t = u
    · rw [decide_eq_true e]; exact (it_eqv t u ht hu).mpr e
    · rw [decide_eq_false e]
      cases q : PyData.eqv (tD t) (tD u) with
      | false => rfl
      | true => exact absurd ((it_eqv t u ht hu).mp q) e
  unfold nEq
  split
  · rename_i a b _
    simp only [okB]
    congr 2
    by_cases e : a = b
    · subst e; simp
    · rw [decide_eq_false e]; symm; rw [decide_eq_false_iff_not]; intro z; injection z with z; exact e z
  · exact hE
theorem nNe_it {t u : T} {S : Store} (ht : t.it = true) (hu : u.it = true) (dt : t.dep ≤ 60) (du : u.dep ≤ 60) [Decidable (t = u)] : nNe t u S = .ok (.bl (!decide (t = u))) S := by
  have hE : nEqD true (dat S t) (dat S u) S = .ok (.bl (!decide (t = u))) S := by
    rw [dat_pure (t.it_pure ht), dat_pure (u.it_pure hu)]
    unfold nEqD
    simp only [shp_it ht dt, shp_it hu du, Bool.and_self, if_true, okB]
    congr 3
    by_cases e : t = u
    · rw [decide_eq_true e]; exact (it_eqv t u ht hu).mpr e
    · rw [decide_eq_false e]
      cases q : PyData.eqv (tD t) (tD u) with
      | false => rfl
      | true => exact absurd ((it_eqv t u ht hu).mp q) e
  unfold nNe
  split
  · rename_i a b _
    simp only [okB]
    congr 3
    by_cases e : a = b
    · subst e; simp
    · rw [decide_eq_false e]; symm; rw [decide_eq_false_iff_not]; intro z; injection z with z; exact e z
  · exact hE
end DD
set_option Elab.async false
set_option linter.all false
set_option maxRecDepth 100000
set_option maxHeartbeats 4000000
/-! The Den layer, part 34: reckoning with mirrors: ends, loops, comprehensions. -/
namespace DD
open PySem PySem.Spec PyProof.Rows L2

section
variable {S0 junk : Store} {n0 : Nat} {t : T} {xs : List T}
theorem take_pre (h : S0.length = n0) : (S0 ++ junk).take n0 = S0 := by subst h; simp
theorem fin_val (h : S0.length = n0) (cl : S0.all (O.low n0) = true) (ht : t.low n0 = true) : fin n0 t (S0 ++ junk) = .ok t S0 := by
  unfold fin
  rw [take_pre h, if_pos cl, if_pos ht]
theorem fin_lst (h : S0.length = n0) (cl : S0.all (O.low n0) = true) (hx : T.lows n0 xs = true) : fin n0 (.ref n0) (S0 ++ .lst xs :: junk) = .ok (.ref n0) (S0 ++ [.lst xs]) := by
  unfold fin
  have hl : T.low n0 (.ref n0) = false := by simp [T.low]
  rw [take_pre h, if_pos cl, hl]
  simp [finAt, at_mid h.symm, hx, take_pre h]
theorem finX_val {c : Nat} (h : S0.length = n0) (cl : S0.all (O.low n0) = true) : finX n0 c [] (S0 ++ junk) = .exc c [] S0 := by
  unfold finX
  rw [take_pre h, cl]
  rfl
end
/-- a for loop, by an invariant; Z: what is wanted of its end -/
theorem forL_inv {it : ItD} {g : DG} {b : DS} (P : Nat → EnvT → Store → Prop) (Z : RS → Prop) (n : Nat)
    (step : ∀ i e S, i < n → P i e S → ∃ t, it i S = .item t ∧
      ((∃ e1 S1, ((g t e S).toS b) = .nx e1 S1 ∧ P (i + 1) e1 S1) ∨ (∃ e1 S1, ((g t e S).toS b) = .ct e1 S1 ∧ P (i + 1) e1 S1) ∨ (∃ e1 S1, ((g t e S).toS b) = .bk e1 S1 ∧ Z (.nx e1 S1)) ∨ (∃ u S1, ((g t e S).toS b) = .rt u S1 ∧ Z (.rt u S1)) ∨ (∃ c p e1 S1, ((g t e S).toS b) = .exc c p e1 S1 ∧ Z (.exc c p e1 S1))))
    (stop : ∀ e S, P n e S → it n S = .stop ∧ Z (.nx e S)) : ∀ (fuel i : Nat) (e : EnvT) (S : Store), P i e S → i ≤ n → n - i < fuel → Z (forL it g b fuel i e S) := by
  intro fuel
  induction fuel with
  | zero => intro i e S _ _ h; omega
  | succ fuel ih =>
    intro i e S p hi hf
    unfold forL
    by_cases hlt : i < n
    · obtain ⟨t, h1, h2⟩ := step i e S hlt p
      rw [h1]
      show Z ((g t e S).toS fun e1 S1 => (b e1 S1).loop (forL it g b fuel (i + 1)))
      have key : ((g t e S).toS fun e1 S1 => (b e1 S1).loop (forL it g b fuel (i + 1))) = match g t e S with
          | .ok e1 S1 => (b e1 S1).loop (forL it g b fuel (i + 1))
          | .exc c p e1 S1 => .exc c p e1 S1
          | .bad => .bad := by cases g t e S <;> rfl
      rw [key]
      cases hg : g t e S with
      | bad => rw [hg] at h2; simp [RG.toS] at h2
      | exc c p' e1 S1 =>
        rw [hg] at h2
        simp only [RG.toS] at h2
        rcases h2 with ⟨_, _, z, _⟩ | ⟨_, _, z, _⟩ | ⟨_, _, z, _⟩ | ⟨_, _, z, _⟩ | ⟨c', q, e2, S2, z, hz⟩
        · cases z
        · cases z
        · cases z
        · cases z
        · rw [← z] at hz; exact hz
      | ok e1 S1 =>
        rw [hg] at h2
        simp only [RG.toS] at h2
        show Z ((b e1 S1).loop (forL it g b fuel (i + 1)))
        rcases h2 with ⟨e2, S2, z, q⟩ | ⟨e2, S2, z, q⟩ | ⟨e2, S2, z, q⟩ | ⟨u, S2, z, q⟩ | ⟨c', q, e2, S2, z, hz⟩
        · rw [z]; exact ih (i + 1) e2 S2 q hlt (by omega)
        · rw [z]; exact ih (i + 1) e2 S2 q hlt (by omega)
        · rw [z]; exact q
        · rw [z]; exact q
        · rw [z]; exact hz
    · have e0 : i = n := by omega
      subst e0
      obtain ⟨h1, h2⟩ := stop e S p
      rw [h1]
      exact h2
theorem fuel_ok {n : Nat} (h : n < LINE) : n - 0 < FUEL := by unfold LINE at h; unfold FUEL; omega
/-- for x in range(..), for x in a tuple -/
theorem rng_item {lo : Int} {n i : Nat} {S : Store} (h : i < n) : iRng lo 1 n i S = .item (.int (lo + i)) := by
  unfold iRng
  rw [if_pos h, Int.mul_one]
theorem rng_stop {lo : Int} {n : Nat} {S : Store} : iRng lo 1 n n S = .stop := by
  unfold iRng
  rw [if_neg (Nat.lt_irrefl n)]
theorem ts_item {ts : List T} {i : Nat} {S : Store} (h : i < ts.length) : iTs ts i S = .item ts[i] := by
  unfold iTs
  rw [List.getElem?_eq_getElem h]
theorem ts_stop {ts : List T} {S : Store} : iTs ts ts.length S = .stop := by
  unfold iTs
  rw [List.getElem?_eq_none (Nat.le_refl _)]
/-- a comprehension without an if: Sp what stood before, ys what has been made -/
theorem lc_st {own : List Nat} {di : DI} {g : DG} {te : DE} {e : EnvT} {S Sa : Store} {it : ItD} {n0 n : Nat} (hdi : di e S = .ok it Sa) (hn0 : Sa.length = n0) (P : Nat → Store → List T → Prop) (h0 : P 0 Sa [])
    (hP : ∀ i Sp ys, P i Sp ys → Sp.length = n0 ∧ Sp.all (O.low n0) = true ∧ T.lows n0 ys = true ∧ ys.length ≤ i) (hn : n < LINE)
    (step : ∀ i Sp ys junk, i < n → P i Sp ys → ∃ t e1 y Sp' junk', it i (Sp ++ .lst ys :: junk) = .item t ∧ g t (blkEnv own e) (Sp ++ .lst ys :: junk) = .ok e1 (Sp ++ .lst ys :: junk) ∧ te e1 (Sp ++ .lst ys :: junk) = .ok y (Sp' ++ .lst ys :: junk') ∧ y.plain = true ∧ P (i + 1) Sp' (ys ++ [y]))
    (stop : ∀ Sp ys junk, P n Sp ys → it n (Sp ++ .lst ys :: junk) = .stop) :
    ∃ Sp ys, P n Sp ys ∧ dLC own di g (dLit (.bl true)) te e S = .ok (.ref n0) (Sp ++ [.lst ys]) := by
  have key : ∀ (fuel i : Nat) (Sp : Store) (ys : List T) (junk : Store), P i Sp ys → i ≤ n → n - i < fuel → ∃ Sp' ys' junk', P n Sp' ys' ∧ lcL it g (dLit (.bl true)) te n0 (blkEnv own e) fuel i (Sp ++ .lst ys :: junk) = .ok () (Sp' ++ .lst ys' :: junk') := by
    intro fuel
    induction fuel with
    | zero => intro i _ _ _ _ _ h; omega
    | succ fuel ih =>
      intro i Sp ys junk p hi hf
      unfold lcL
      by_cases hlt : i < n
      · obtain ⟨t, e1, y, Sp', junk', h1, h2, h3, h4, h5⟩ := step i Sp ys junk hlt p
        obtain ⟨p1, p2, p3, p4⟩ := hP _ _ _ h5
        obtain ⟨q1, q2, q3, q4⟩ := hP _ _ _ p
        have hg : (Sp' ++ O.lst ys :: junk')[n0]? = some (.lst ys) := at_mid p1.symm
        have hs : (Sp' ++ O.lst ys :: junk').set n0 (.lst (ys ++ [y])) = Sp' ++ O.lst (ys ++ [y]) :: junk' := set_mid p1.symm
        have hll : ys.length < LINE := by omega
        obtain ⟨Sz, yz, jz, z1, z2⟩ := ih (i + 1) Sp' (ys ++ [y]) junk' h5 hlt (by omega)
        refine ⟨Sz, yz, jz, z1, ?_⟩
        simp only [h1, h2, dLit, R.bind, pick, h3, hg, h4, hll, decide_true, Bool.and_self, if_true, hs]
        exact z2
      · have e0 : i = n := by omega
        subst e0
        refine ⟨Sp, ys, junk, p, ?_⟩
        rw [stop Sp ys junk p]
  obtain ⟨Sp, ys, junk, h1, h2⟩ := key FUEL 0 Sa [] [] h0 (Nat.zero_le _) (fuel_ok hn)
  obtain ⟨p1, p2, p3, p4⟩ := hP _ _ _ h1
  refine ⟨Sp, ys, h1, ?_⟩
  unfold dLC
  rw [hdi]
  show (lcL it g (dLit (.bl true)) te Sa.length (blkEnv own e) FUEL 0 (Sa ++ [.lst []])).calm.bind _ = _
  rw [hn0, h2]
  exact fin_lst p1 p2 p3
end DD
set_option Elab.async false
set_option linter.all false
set_option maxRecDepth 100000
set_option maxHeartbeats 4000000
/-! The Den layer, part 35: mirrors evaluated step by step. -/
namespace DD
open PySem PySem.Spec PyProof.Rows L2

section
variable {e e1 e2 : EnvT} {S S1 S2 S3 S4 : Store} {t u w : T} {ts : List T} {a b c d : DE} {da : DA} {r : R T} {rs : RS} {n0 : Nat}
theorem v_var {i : Nat} (h : e[i]? = some t) (hh : t ≠ .hole) : dVar i e S = .ok t S := by
  unfold dVar
  rw [h]
  cases t <;> first | rfl | exact absurd rfl hh
theorem v_lit : dLit t e S = .ok t S := rfl
theorem v_bin {f : T → T → Store → R T} (h1 : a e S = .ok t S1) (h2 : b e S1 = .ok u S2) (h3 : f t u S2 = r) : dBin f a b e S = r := by
  unfold dBin
  rw [h1]
  show ((b e S1).bind _) = _
  rw [h2]
  exact h3
theorem v_un {f : T → Store → R T} (h1 : a e S = .ok t S1) (h3 : f t S1 = r) : dUn f a e S = r := by
  unfold dUn
  rw [h1]
  exact h3
theorem v_nil : dNil e S = .ok [] S := rfl
theorem v_cons (h1 : a e S = .ok t S1) (h2 : da e S1 = .ok ts S2) : dCons a da e S = .ok (t :: ts) S2 := by
  unfold dCons
  rw [h1]
  show ((da e S1).bind _) = _
  rw [h2]
  rfl
theorem v_callF {f : List T → Store → R T} (h1 : da e S = .ok ts S1) (h2 : f ts S1 = r) : dCallF f da e S = r := by
  unfold dCallF
  rw [h1]
  exact h2
theorem v_call {F : List T → Store → R T} (h1 : da e S = .ok ts S1) (hn : ts.all T.noLamB = true) (h2 : F ts S1 = r) : dCall F da e S = r := by
  unfold dCall
  rw [h1]
  show (if ts.all T.noLamB = true then F ts S1 else .bad) = _
  rw [if_pos hn]
  exact h2
theorem v_meth {cc : T → Store → Bool} {f : T → List T → Store → R T} (h1 : a e S = .ok t S1) (hc : cc t S1 = true) (h2 : da e S1 = .ok ts S2) (h3 : f t ts S2 = r) : dMeth cc f a da e S = r := by
  unfold dMeth
  rw [h1]
  show (if cc t S1 = true then (da e S1).bind _ else .bad) = _
  rw [if_pos hc, h2]
  exact h3
theorem v_iteT (h1 : c e S = .ok (.bl true) S1) (h2 : a e S1 = r) : dIte c a b e S = r := by
  unfold dIte
  rw [h1]
  exact h2
theorem v_iteF (h1 : c e S = .ok (.bl false) S1) (h2 : b e S1 = r) : dIte c a b e S = r := by
  unfold dIte
  rw [h1]
  exact h2
theorem v_orT (h1 : a e S = .ok (.bl true) S1) : dOr a b e S = .ok (.bl true) S1 := v_iteT h1 v_lit
theorem v_orF (h1 : a e S = .ok (.bl false) S1) (h2 : b e S1 = r) : dOr a b e S = r := v_iteF h1 h2
theorem v_andF (h1 : a e S = .ok (.bl false) S1) : dAnd a b e S = .ok (.bl false) S1 := v_iteF h1 v_lit
theorem v_andT (h1 : a e S = .ok (.bl true) S1) (h2 : b e S1 = r) : dAnd a b e S = r := v_iteT h1 h2
theorem v_not {k : Bool} (h1 : a e S = .ok (.bl k) S1) : dUn nNot a e S = .ok (.bl (!k)) S1 := v_un h1 rfl
theorem v_chainT {f g : T → T → Store → R T} (h1 : a e S = .ok t S1) (h2 : b e S1 = .ok u S2) (h3 : f t u S2 = .ok (.bl true) S3) (h4 : c e S3 = .ok w S4) (h5 : g u w S4 = r) : dChain f g a b c e S = r := by
  unfold dChain
  rw [h1]
  show ((b e S1).bind _) = _
  rw [h2]
  show ((f t u S2).bind _) = _
  rw [h3]
  show ((c e S3).bind _) = _
  rw [h4]
  exact h5
theorem v_chainF {f g : T → T → Store → R T} (h1 : a e S = .ok t S1) (h2 : b e S1 = .ok u S2) (h3 : f t u S2 = .ok (.bl false) S3) : dChain f g a b c e S = .ok (.bl false) S3 := by
  unfold dChain
  rw [h1]
  show ((b e S1).bind _) = _
  rw [h2]
  show ((f t u S2).bind _) = _
  rw [h3]
  rfl
/-- a ≤ b ≤ c and its like, of values that stand -/
theorem v_chain2 {f g : T → T → Store → R T} {k1 k2 : Bool} (h1 : a e S = .ok t S) (h2 : b e S = .ok u S) (h3 : f t u S = .ok (.bl k1) S) (h4 : c e S = .ok w S) (h5 : g u w S = .ok (.bl k2) S) : dChain f g a b c e S = .ok (.bl (k1 && k2)) S := by
  cases k1 with
  | true => exact v_chainT h1 h2 h3 h4 h5
  | false => exact v_chainF h1 h2 h3
theorem v_or2 {k1 k2 : Bool} (h1 : a e S = .ok (.bl k1) S) (h2 : k1 = false → b e S = .ok (.bl k2) S) : dOr a b e S = .ok (.bl (k1 || k2)) S := by
  cases k1 with
  | true => exact v_orT h1
  | false => exact v_orF h1 (h2 rfl)
theorem v_and2 {k1 k2 : Bool} (h1 : a e S = .ok (.bl k1) S) (h2 : k1 = true → b e S = .ok (.bl k2) S) : dAnd a b e S = .ok (.bl (k1 && k2)) S := by
  cases k1 with
  | true => exact v_andT h1 (h2 rfl)
  | false => exact v_andF h1
theorem v_tup (h1 : da e S = .ok ts S1) (hp : ts.all T.plain = true) (hl : ts.length ≤ LINE) : dTup da e S = .ok (.tup ts) S1 := by
  unfold dTup
  rw [h1]
  show (if (ts.all T.plain && decide (ts.length ≤ LINE)) = true then _ else _) = _
  rw [if_pos (by rw [hp, decide_eq_true hl]; rfl)]
theorem v_lst (h1 : da e S = .ok ts S1) (hp : ts.all T.plain = true) (hl : ts.length ≤ LINE) : dLst da e S = .ok (.ref S1.length) (S1 ++ [.lst ts]) := by
  unfold dLst
  rw [h1]
  show (if (ts.all T.plain && decide (ts.length ≤ LINE)) = true then _ else _) = _
  rw [if_pos (by rw [hp, decide_eq_true hl]; rfl)]
  rfl
/-! ### statements -/
theorem v_seq {x y : DS} (h1 : x e S = .nx e1 S1) (h2 : y e1 S1 = rs) : dSeq x y e S = rs := by
  unfold dSeq
  rw [h1]
  exact h2
theorem v_seqR {x y : DS} (h1 : x e S = .rt t S1) : dSeq x y e S = .rt t S1 := by
  unfold dSeq
  rw [h1]
  rfl
theorem v_asg {i : Nat} (h1 : a e S = .ok t S1) (hi : i < e.length) : dAsg a (gNam i) e S = .nx (e.set i t) S1 := by
  unfold dAsg
  rw [h1]
  show (gNam i t e S1).toS RS.nx = _
  unfold gNam
  rw [if_pos hi]
  rfl
theorem v_asgG {g : DG} (h1 : a e S = .ok t S1) (h2 : g t e S1 = .ok e1 S2) : dAsg a g e S = .nx e1 S2 := by
  unfold dAsg
  rw [h1]
  show (g t e S1).toS RS.nx = _
  rw [h2]
  rfl
theorem v_gsub {f : T → T → T → Store → R Unit} (h1 : a e S = .ok u S1) (h2 : b e S1 = .ok w S2) (h3 : f u w t S2 = .ok () S3) : gSubD f a b t e S = .ok e S3 := by
  unfold gSubD
  rw [h1]
  show (b e S1).inG e _ = _
  rw [h2]
  show (f u w t S2).inG e _ = _
  rw [h3]
  rfl
theorem v_ret (h1 : a e S = .ok t S1) : dRet a e S = .rt t S1 := by
  unfold dRet
  rw [h1]
  rfl
theorem v_expr (h1 : a e S = .ok t S1) : dExpr a e S = .nx e S1 := by
  unfold dExpr
  rw [h1]
  rfl
theorem v_ifT {x y : DS} (h1 : c e S = .ok (.bl true) S1) (h2 : x e S1 = rs) : dIf c x y e S = rs := by
  unfold dIf
  rw [h1]
  exact h2
theorem v_ifF {x y : DS} (h1 : c e S = .ok (.bl false) S1) (h2 : y e S1 = rs) : dIf c x y e S = rs := by
  unfold dIf
  rw [h1]
  exact h2
theorem v_if {x y : DS} {k : Bool} (h1 : c e S = .ok (.bl k) S1) (hT : k = true → x e S1 = rs) (hF : k = false → y e S1 = rs) : dIf c x y e S = rs := by
  cases k with
  | true => exact v_ifT h1 (hT rfl)
  | false => exact v_ifF h1 (hF rfl)
theorem v_seqX {x y : DS} {cc : Nat} {p : List T} (h1 : x e S = .exc cc p e1 S1) : dSeq x y e S = .exc cc p e1 S1 := by
  unfold dSeq
  rw [h1]
  rfl
theorem v_exprX {cc : Nat} {p : List T} (h1 : a e S = .exc cc p S1) : dExpr a e S = .exc cc p e S1 := by
  unfold dExpr
  rw [h1]
  rfl
theorem v_retX {cc : Nat} {p : List T} (h1 : a e S = .exc cc p S1) : dRet a e S = .exc cc p e S1 := by
  unfold dRet
  rw [h1]
  rfl
theorem v_for {di : DI} {g : DG} {x : DS} {it : ItD} (h1 : di e S = .ok it S1) (h2 : forL it g x FUEL 0 e S1 = rs) : dFor di g x e S = rs := by
  unfold dFor
  rw [h1]
  exact h2
theorem v_rng1 {j : Nat} (h1 : da e S = .ok [.int j] S1) (hj : j < LINE) : dRng1 da e S = .ok (iRng 0 1 j) S1 := by
  have hb : inB (j : Int) = true := by
    simp only [inB, Bool.and_eq_true, decide_eq_true_eq]
    unfold BIG
    unfold LINE at hj
    omega
  simp only [dRng1, h1, R.bind, hb, if_true, Int.toNat_natCast]
theorem v_itT (h1 : a e S = .ok (.tup ts) S1) : dItT a e S = .ok (iTs ts) S1 := by
  unfold dItT
  rw [h1]
  rfl
theorem g_nam {i : Nat} {k : EnvT → Store → RS} (h : i < e.length) : (gNam i t e S).toS k = k (e.set i t) S := by
  unfold gNam
  rw [if_pos h]
  rfl
/-! ### the functions on values -/
theorem nAdd_i {x y : Int} : nAdd (.int x) (.int y) S = .ok (.int (x + y)) S := rfl
theorem nLe_i {x y : Int} : nLe (.int x) (.int y) S = .ok (.bl (decide (x ≤ y))) S := rfl
theorem nLt_i {x y : Int} : nLt (.int x) (.int y) S = .ok (.bl (decide (x < y))) S := rfl
theorem nEq_i {x y : Int} : nEq (.int x) (.int y) S = .ok (.bl (decide (x = y))) S := rfl
theorem nNe_i {x y : Int} : nNe (.int x) (.int y) S = .ok (.bl (!decide (x = y))) S := rfl
theorem nMul_i {x y : Int} (h : small x = true ∨ small y = true) : nMul (.int x) (.int y) S = .ok (.int (x * y)) S := by
  show (if (small x || small y || _) = true then okI (x * y) S else .bad) = _
  rw [if_pos (by rcases h with h | h <;> simp [h])]
  rfl
theorem nDiv_i {x y : Int} (h : 0 < y) (h2 : y.natAbs.log2 < 9000) : nDiv (.int x) (.int y) S = .ok (.int (x / y)) S := by
  show (if (decide (0 < y) && decide (y.natAbs.log2 < 9000)) = true then okI (x / y) S else .bad) = _
  rw [if_pos (by simp [h, h2])]
  rfl
theorem nMod_i {x y : Int} (h : 0 < y) : nMod (.int x) (.int y) S = .ok (.int (x % y)) S := by
  show (if 0 < y then okI (x % y) S else .bad) = _
  rw [if_pos h]
  rfl
theorem nInt_i {x : Int} : nInt [.int x] S = .ok (.int x) S := rfl
theorem runD_ok {nl np : Nat} {m : DS} (h : ts.length = np) (h2 : m (entD nl ts) S = .rt t S1) (hp : t.plain = true) (h3 : fin S.length t S1 = r) : runD nl np m ts S = r := by
  unfold runD
  rw [if_pos h, h2]
  show (if t.plain = true then fin S.length t S1 else .bad) = _
  rw [if_pos hp]
  exact h3
theorem fin_id (h : S.length = n0) (hp : t.low n0 = true) : fin n0 t S = .ok t S := by
  unfold fin
  have q : S.take n0 = S := by subst h; simp
  rw [q, if_pos hp]
  split <;> rfl
theorem runD_nx {nl np : Nat} {m : DS} (h : ts.length = np) (h2 : m (entD nl ts) S = .nx e1 S1) (h3 : fin S.length .non S1 = r) : runD nl np m ts S = r := by
  unfold runD
  rw [if_pos h, h2]
  exact h3
theorem runD_exc {nl np : Nat} {m : DS} {cc : Nat} {p : List T} (h : ts.length = np) (h2 : m (entD nl ts) S = .exc cc p e1 S1) (h3 : finX S.length cc p S1 = r) : runD nl np m ts S = r := by
  unfold runD
  rw [if_pos h, h2]
  exact h3
end
end DD
set_option Elab.async false
set_option linter.all false
set_option maxRecDepth 100000
set_option maxHeartbeats 4000000
/-! The Den layer, part 36: comprehensions that change nothing. -/
namespace DD
open PySem PySem.Spec PyProof.Rows L2

/-- all that stands in S stands in S' -/
def ExtS (S S' : Store) : Prop := ∀ (k : Nat) (o : O), S[k]? = some o → S'[k]? = some o
theorem ExtS.refl {S : Store} : ExtS S S := fun _ _ h => h
theorem ExtS.app {S a : Store} : ExtS S (S ++ a) := fun k o h => by rw [List.getElem?_append_left (List.getElem?_eq_some_iff.mp h).1]; exact h
/-- nothing leads out of S -/
def Cl (S : Store) : Prop := S.all (O.low S.length) = true
theorem lows_iff {n : Nat} : ∀ {ts : List T}, T.lows n ts = true ↔ ∀ t ∈ ts, t.low n = true
  | [] => by simp [T.lows]
  | t :: ts => by simp [T.lows, lows_iff (ts := ts)]
mutual
theorem T.low_mono {n m : Nat} (h : n ≤ m) : ∀ t : T, t.low n = true → t.low m = true
  | .ref k, e => by
    simp only [T.low, decide_eq_true_eq] at e ⊢
    omega
  | .tup ts, e => by
    unfold T.low at e ⊢
    exact T.lows_mono h ts e
  | .non, _ | .bl _, _ | .int _, _ | .str _, _ | .fn _, _ => by simp [T.low]
  | .hole, e | .lam _, e | .clo _ _, e => by simp [T.low] at e
theorem T.lows_mono {n m : Nat} (h : n ≤ m) : ∀ ts : List T, T.lows n ts = true → T.lows m ts = true
  | [], _ => by simp [T.lows]
  | t :: ts, e => by
    simp only [T.lows, Bool.and_eq_true] at e ⊢
    exact ⟨T.low_mono h t e.1, T.lows_mono h ts e.2⟩
end
theorem O.low_mono {n m : Nat} (h : n ≤ m) {o : O} (e : o.low n = true) : o.low m = true := by
  cases o with
  | lst xs | frl xs | dct xs | set xs | ins _ xs => exact T.lows_mono h _ e
  | dtp kvs =>
    simp only [O.low, Bool.and_eq_true] at e ⊢
    exact ⟨T.lows_mono h _ e.1, T.lows_mono h _ e.2⟩
theorem cl_snoc {S : Store} {o : O} (h : Cl S) (ho : o.low (S.length + 1) = true) : Cl (S ++ [o]) := by
  unfold Cl at h ⊢
  rw [List.all_append, List.length_append, List.length_singleton]
  simp only [List.all_cons, List.all_nil, Bool.and_true, ho]
  rw [List.all_eq_true] at h ⊢
  exact fun x hx => O.low_mono (Nat.le_succ _) (h x hx)
theorem cl_set {S : Store} {n : Nat} {o : O} (h : Cl S) (ho : o.low S.length = true) : Cl (S.set n o) := by
  unfold Cl at h ⊢
  rw [List.length_set]
  rw [List.all_eq_true] at h ⊢
  intro x hx
  rcases List.mem_or_eq_of_mem_set hx with z | z
  · exact h x z
  · subst z; exact ho
theorem lc_pure {own : List Nat} {di : DI} {g : DG} {te : DE} {e : EnvT} {S : Store} {it : ItD} {n : Nat} {x y : Nat → T} {E : Nat → EnvT} (cl : Cl S) (hdi : di e S = .ok it S) (hn : n < LINE)
    (hit : ∀ i S', i < n → ExtS S S' → it i S' = .item (x i)) (hstop : ∀ S', ExtS S S' → it n S' = .stop) (hg : ∀ i S', i < n → g (x i) (blkEnv own e) S' = .ok (E i) S')
    (hte : ∀ i S', i < n → ExtS S S' → te (E i) S' = .ok (y i) S') (hp : ∀ i, i < n → (y i).plain = true ∧ (y i).low S.length = true) :
    dLC own di g (dLit (.bl true)) te e S = .ok (.ref S.length) (S ++ [.lst ((List.range n).map y)]) := by
  obtain ⟨Sp, ys, ⟨h1, h2, h3⟩, h4⟩ := lc_st (own := own) (g := g) (te := te) hdi rfl (n := n) (fun i Sp ys => Sp = S ∧ ys = (List.range i).map y ∧ i ≤ n) ⟨rfl, rfl, Nat.zero_le _⟩ (fun i Sp ys ⟨a, b, c⟩ => by
      subst a b
      refine ⟨rfl, cl, lows_iff.mpr fun t ht => ?_, by simp⟩
      obtain ⟨k, hk, e⟩ := List.mem_map.mp ht
      rw [← e]
      exact (hp k (by have := List.mem_range.mp hk; omega)).2) hn (fun i Sp ys junk hi ⟨a, b, c⟩ => by
      subst a b
      refine ⟨x i, E i, y i, Sp, junk, hit i _ hi ExtS.app, hg i _ hi, hte i _ hi ExtS.app, (hp i hi).1, rfl, ?_, hi⟩
      rw [List.range_succ, List.map_append]
      rfl) (fun Sp ys junk ⟨a, b, c⟩ => by subst a; exact hstop _ ExtS.app)
  subst h1 h2
  exact h4
end DD
set_option Elab.async false
set_option linter.all false
set_option maxRecDepth 100000
set_option maxHeartbeats 4000000
/-! The Den layer, part 37: dicts of pairs, reckoned. -/
namespace DD
open PySem PySem.Spec PyProof.Rows L2

/-- a pair as a key -/
def pairK (p : Int × Int) : NestedKey := .tup [.num p.1, .num p.2]
theorem keyN_pair (p : Int × Int) : keyN (pairT p) = some (pairK p) := by simp [pairT, keyN, keyNs, pairK]
theorem pairK_inj {p q : Int × Int} (h : pairK p = pairK q) : p = q := by
  unfold pairK at h
  injection h with h
  injection h with h1 h2
  injection h1 with h1
  injection h2 with h2 h3
  injection h2 with h2
  exact Prod.ext h1 h2
theorem keyT_pair (p : Int × Int) : keyT (pairT p) = some (pairK p) := by
  have h : keyN (.tup [.int p.1, .int p.2]) = some (pairK p) := keyN_pair p
  have hd : (pairK p).depth ≤ 8 := by simp [pairK, NestedKey.depth, NestedKey.depthAll]
  show (keyN (.tup [.int p.1, .int p.2])).bind (fun k => if k.depth ≤ 8 then some k else none) = _
  rw [h]
  show (if (pairK p).depth ≤ 8 then some (pairK p) else none) = some (pairK p)
  rw [if_pos hd]
theorem getN_putN {kvs : List (T × T)} {t v : T} {k k' : NestedKey} (ht : keyN t = some k) : (getN (putN kvs t k v) k').isSome = (decide (k = k') || (getN kvs k').isSome) := by
  have hs : ∀ (l : List (T × T)) (q : NestedKey), (getN l q).isSome = l.any fun p => decide (keyN p.1 = some q) := fun l q => by
    unfold getN
    rw [Option.isSome_map]
    induction l with
    | nil => rfl
    | cons a l ih =>
      rw [List.find?_cons, List.any_cons]
      cases decide (keyN a.1 = some q) with
      | true => rfl
      | false => rw [Bool.false_or]; exact ih
  rw [hs]
  unfold putN
  split
  · rename_i h
    rw [hs] at h
    rw [hs, List.any_map]
    have e : ((fun p : T × T => decide (keyN p.1 = some k')) ∘ fun p => if keyN p.1 = some k then (p.1, v) else p) = fun p => decide (keyN p.1 = some k') := by
      funext p
      simp only [Function.comp]
      split <;> rfl
    rw [e]
    by_cases c : k = k'
    · subst c; rw [h]; simp
    · simp [c]
  · rw [hs, List.any_append]
    simp only [List.any_cons, List.any_nil, Bool.or_false, ht, Option.some.injEq]
    rw [Bool.or_comm]
/-- {x: v for x in xs}: keys that are pairs, values v -/
def pairsD (v : T) : List (Int × Int) → List (T × T) → List (T × T)
  | [], kvs => kvs
  | p :: ps, kvs => pairsD v ps (putN kvs (pairT p) (pairK p) v)
theorem pairsD_has {v : T} {q : Int × Int} : ∀ {ps : List (Int × Int)} {kvs : List (T × T)}, (getN (pairsD v ps kvs) (pairK q)).isSome = (decide (q ∈ ps) || (getN kvs (pairK q)).isSome)
  | [], kvs => by simp [pairsD]
  | p :: ps, kvs => by
    unfold pairsD
    rw [pairsD_has, getN_putN (keyN_pair p), ← Bool.or_assoc]
    congr 1
    by_cases c : p = q
    · subst c; simp
    · have c' : ¬ pairK p = pairK q := fun z => c (pairK_inj z)
      have c2 : ¬ q = p := fun z => c z.symm
      simp [c', c2]
theorem putN_len {kvs : List (T × T)} {t v : T} {k : NestedKey} : (putN kvs t k v).length ≤ kvs.length + 1 := by
  unfold putN
  split
  · simp
  · simp
theorem blkEnv_len : ∀ {own : List Nat} {e : EnvT}, (blkEnv own e).length = e.length
  | [], e => by simp [blkEnv]
  | i :: is, e => by
    unfold blkEnv
    rw [List.length_set, blkEnv_len]
theorem dc_pairs {own : List Nat} {a : DE} {e : EnvT} {S : Store} {j : Nat} {v : T} {ps : List (Int × Int)} (h : a e S = .ok (.tup (ps.map pairT)) S) (hj : j < e.length) (hv : v.plain = true) (hn : ps.length < LINE) :
    dDCN own (dItT a) (gNam j) (dLit (.bl true)) (dVar j) (dLit v) e S = .ok (.ref S.length) (S ++ [.dtp (pairsD v ps [])]) := by
  have key : ∀ (fuel i : Nat) (kvs : List (T × T)), i ≤ ps.length → kvs.length ≤ i → ps.length - i < fuel →
      dcL (iTs (ps.map pairT)) (gNam j) (dLit (.bl true)) (dVar j) (dLit v) S.length (blkEnv own e) fuel i (S ++ [.dtp kvs]) = .ok () (S ++ [.dtp (pairsD v (ps.drop i) kvs)]) := by
    intro fuel
    induction fuel with
    | zero => intro i kvs _ _ hf; omega
    | succ fuel ih =>
      intro i kvs hi hk hf
      unfold dcL
      by_cases hlt : i < ps.length
      · have hit : iTs (ps.map pairT) i (S ++ [.dtp kvs]) = .item (pairT ps[i]) := by
          rw [ts_item (by simpa using hlt)]
          simp
        have hg : gNam j (pairT ps[i]) (blkEnv own e) (S ++ [.dtp kvs]) = .ok ((blkEnv own e).set j (pairT ps[i])) (S ++ [.dtp kvs]) := by
          unfold gNam
          rw [if_pos (by rw [blkEnv_len]; exact hj)]
        have hvar : dVar j ((blkEnv own e).set j (pairT ps[i])) (S ++ [.dtp kvs]) = .ok (pairT ps[i]) (S ++ [.dtp kvs]) := v_var (by rw [List.getElem?_set_self (by rw [blkEnv_len]; exact hj)]) (by intro z; unfold pairT at z; cases z)
        have hput : nPut (.ref S.length) (pairT ps[i]) v (S ++ [.dtp kvs]) = .ok () (S ++ [.dtp (putN kvs (pairT ps[i]) (pairK ps[i]) v)]) := by
          have hs : (S ++ [O.dtp kvs])[S.length]? = some (.dtp kvs) := by simp
          have hw : (S ++ [O.dtp kvs]).set S.length (.dtp (putN kvs (pairT ps[i]) (pairK ps[i]) v)) = S ++ [O.dtp (putN kvs (pairT ps[i]) (pairK ps[i]) v)] := set_mid rfl
          have hll : kvs.length < LINE := by omega
          simp only [nPut, hs, keyT_pair, hv, hll, decide_true, Bool.and_self, if_true, hw]
        have hd : ps.drop i = ps[i] :: ps.drop (i + 1) := List.drop_eq_getElem_cons hlt
        have hlen := putN_len (kvs := kvs) (t := pairT ps[i]) (v := v) (k := pairK ps[i])
        rw [hit]
        simp only [hg, dLit, R.bind, pick, hvar, hput]
        rw [ih (i + 1) _ hlt (by omega) (by omega), hd]
        rfl
      · have e0 : i = ps.length := by omega
        subst e0
        have hst := ts_stop (ts := ps.map pairT) (S := S ++ [.dtp kvs])
        rw [List.length_map] at hst
        rw [hst, List.drop_length]
        rfl
  unfold dDCN dDCo
  rw [v_itT h]
  show (dcL _ _ _ _ _ S.length _ FUEL 0 (S ++ [.dtp []])).calm.bind _ = _
  rw [key FUEL 0 [] (Nat.zero_le _) (Nat.le_refl _) (fuel_ok hn)]
  show fin S.length (.ref S.length) _ = _
  unfold fin
  have hl : T.low S.length (.ref S.length) = false := by simp [T.low]
  rw [hl]
  split
  · simp [finAt]
  · rfl
end DD
set_option Elab.async false
set_option linter.all false
set_option maxRecDepth 100000
set_option maxHeartbeats 4000000
/-! The Den layer, part 38: dicts, reckoned: keys that are ints, keys that are tuples. -/
namespace DD
open PySem PySem.Spec PyProof.Rows L2

theorem getK_putT {kvs : List (Key × T)} {k k' : Key} {v : T} : getK (putT kvs k v) k' = if k = k' then some v else getK kvs k' := by
  unfold putT
  by_cases h : (getK kvs k).isSome = true
  · rw [if_pos h]
    have hm : ∀ l : List (Key × T), getK (l.map fun p => if p.1 = k then (p.1, v) else p) k' = if k = k' then (if (getK l k).isSome then some v else none) else getK l k' := by
      intro l
      induction l with
      | nil => by_cases c : k = k' <;> simp [getK, c]
      | cons a l ih =>
        rw [List.map_cons]
        unfold getK at ih ⊢
        by_cases c : a.1 = k
        · by_cases d : k = k'
          · subst d; simp [c]
          · have d2 : ¬ a.1 = k' := by rw [c]; exact d
            simp only [c, if_true, List.find?_cons, d, decide_false, if_false] at ih ⊢
            exact ih
        · by_cases d : k = k'
          · subst d
            simp only [c, if_false, List.find?_cons, decide_false] at ih ⊢
            exact ih
          · simp only [c, if_false, d] at ih ⊢
            rw [List.find?_cons, List.find?_cons]
            split
            · rfl
            · exact ih
    rw [hm, if_pos h]
  · rw [if_neg h]
    have hn : getK kvs k = none := by cases q : getK kvs k with
      | none => rfl
      | some z => rw [q] at h; exact absurd rfl h
    unfold getK at hn ⊢
    rw [Option.map_eq_none_iff] at hn
    rw [List.find?_append]
    by_cases c : k = k'
    · subst c; rw [hn, if_pos rfl]; simp
    · rw [if_neg c]
      simp [c]
theorem putT_len {kvs : List (Key × T)} {k : Key} {v : T} : (putT kvs k v).length = if (getK kvs k).isSome then kvs.length else kvs.length + 1 := by
  unfold putT
  split <;> simp
theorem putT_mem {kvs : List (Key × T)} {k : Key} {v : T} {p : Key × T} (h : p ∈ putT kvs k v) : p.2 = v ∨ p ∈ kvs := by
  unfold putT at h
  split at h
  · obtain ⟨y, hy, e⟩ := List.mem_map.mp h
    split at e
    · rw [← e]; exact .inl rfl
    · rw [← e]; exact .inr hy
  · rcases List.mem_append.mp h with z | z
    · exact .inr z
    · rw [List.mem_singleton] at z; rw [z]; exact .inl rfl
theorem getN_put {kvs : List (T × T)} {t v : T} {k k' : NestedKey} (ht : keyN t = some k) : getN (putN kvs t k v) k' = if k = k' then some v else getN kvs k' := by
  unfold putN
  by_cases h : (getN kvs k).isSome = true
  · rw [if_pos h]
    have hm : ∀ l : List (T × T), getN (l.map fun p => if keyN p.1 = some k then (p.1, v) else p) k' = if k = k' then (if (getN l k).isSome then some v else none) else getN l k' := by
      intro l
      induction l with
      | nil => by_cases c : k = k' <;> simp [getN, c]
      | cons a l ih =>
        rw [List.map_cons]
        unfold getN at ih ⊢
        by_cases c : keyN a.1 = some k
        · by_cases d : k = k'
          · subst d; simp [c]
          · simp only [c, if_true, List.find?_cons, d, Option.some.injEq, decide_false, if_false] at ih ⊢
            exact ih
        · by_cases d : k = k'
          · subst d
            simp only [c, if_false, List.find?_cons, decide_false] at ih ⊢
            exact ih
          · simp only [c, if_false, d] at ih ⊢
            rw [List.find?_cons, List.find?_cons]
            split
            · rfl
            · exact ih
    rw [hm, if_pos h]
  · rw [if_neg h]
    have hn : getN kvs k = none := by cases q : getN kvs k with
      | none => rfl
      | some z => rw [q] at h; exact absurd rfl h
    unfold getN at hn ⊢
    rw [Option.map_eq_none_iff] at hn
    rw [List.find?_append]
    by_cases c : k = k'
    · subst c; rw [hn, if_pos rfl]; simp [ht]
    · rw [if_neg c]
      simp [c, ht]
section
variable {S : Store} {n : Nat} {kvs : List (Key × T)} {kvn : List (T × T)} {x : Int} {v t : T} {k : NestedKey}
theorem nIn_d {neg : Bool} (h : S[n]? = some (.dct kvs)) : nIn neg (.int x) (.ref n) S = .ok (.bl ((getK kvs (.inl x)).isSome ^^ neg)) S := by
  simp only [nIn, h, keyK, okB]
theorem nIx_d (h : S[n]? = some (.dct kvs)) (g : getK kvs (.inl x) = some v) : nIx (.ref n) (.int x) S = .ok v S := by
  simp only [nIx, nGet, h, keyK, Option.bind, g]
theorem nSet_d (h : S[n]? = some (.dct kvs)) (hp : v.plain = true) (hl : kvs.length < LINE) : nSetA (.ref n) (.int x) v S = .ok () (S.set n (.dct (putT kvs (.inl x) v))) := by
  simp only [nSetA, nPut, h, keyK, hp, hl, decide_true, Bool.and_self, if_true]
theorem nLen_d (h : S[n]? = some (.dct kvs)) : nLenA [.ref n] S = .ok (.int kvs.length) S := by
  simp only [nLenA, h, okI]
theorem nIn_n {neg : Bool} {ts : List T} (h : S[n]? = some (.dtp kvn)) (hk : keyT (.tup ts) = some k) : nIn neg (.tup ts) (.ref n) S = .ok (.bl ((getN kvn k).isSome ^^ neg)) S := by
  show (match S[n]? with
    | some (.dct kvs) => _
    | some (.dtp kvs) => _
    | some (.lst xs) => _
    | some (.frl xs) => _
    | _ => _) = _
  rw [h]
  show (match keyT (.tup ts) with
      | some k => okB ((getN kvn k).isSome ^^ neg) S
      | none => .bad) = _
  rw [hk]
  rfl
theorem nIx_n (h : S[n]? = some (.dtp kvn)) (hk : keyT t = some k) (g : getN kvn k = some v) : nIx (.ref n) t S = .ok v S := by
  simp only [nIx, nGet, h, hk, Option.bind, g]
theorem nSet_n (h : S[n]? = some (.dtp kvn)) (hk : keyT t = some k) (hp : v.plain = true) (hl : kvn.length < LINE) : nSetA (.ref n) t v S = .ok () (S.set n (.dtp (putN kvn t k v))) := by
  simp only [nSetA, nPut, h, hk, hp, hl, decide_true, Bool.and_self, if_true]
theorem nLen_n (h : S[n]? = some (.dtp kvn)) : nLenA [.ref n] S = .ok (.int kvn.length) S := by
  simp only [nLenA, h, okI]
end
theorem v_disp1 {k : Key} {dv : DE} {e : EnvT} {S : Store} {t : T} (h : dv e (S ++ [.dct []]) = .ok t (S ++ [.dct []])) (hp : t.plain = true) : dDisp1 k dv e S = .ok (.ref S.length) (S ++ [.dct [(k, t)]]) := by
  unfold dDisp1
  rw [h]
  have h1 : (S ++ [O.dct []])[S.length]? = some (.dct []) := by simp
  have h2 : (S ++ [O.dct []]).set S.length (.dct [(k, t)]) = S ++ [.dct [(k, t)]] := set_mid rfl
  simp only [R.bind, h1, hp, if_true, h2]
/-- a new object at the end -/
theorem v_new {o : O} {e : EnvT} {S : Store} {d : DE} (h : d e S = newO o S) : d e S = .ok (.ref S.length) (S ++ [o]) := h
end DD
set_option Elab.async false
set_option linter.all false
set_option maxRecDepth 100000
set_option maxHeartbeats 4000000
/-! The Den layer, part 39: a comprehension, by an invariant that sees all of the store. -/
namespace DD
open PySem PySem.Spec PyProof.Rows L2

theorem lc_sj {own : List Nat} {di : DI} {g : DG} {te : DE} {e : EnvT} {S Sa : Store} {it : ItD} {n0 n : Nat} (hdi : di e S = .ok it Sa) (hn0 : Sa.length = n0) (P : Nat → Store → List T → Store → Prop) (h0 : P 0 Sa [] [])
    (hP : ∀ i Sp ys junk, P i Sp ys junk → Sp.length = n0 ∧ Sp.all (O.low n0) = true ∧ T.lows n0 ys = true ∧ ys.length ≤ i) (hn : n < LINE)
    (step : ∀ i Sp ys junk, i < n → P i Sp ys junk → ∃ t e1 y Sp' junk', it i (Sp ++ .lst ys :: junk) = .item t ∧ g t (blkEnv own e) (Sp ++ .lst ys :: junk) = .ok e1 (Sp ++ .lst ys :: junk) ∧ te e1 (Sp ++ .lst ys :: junk) = .ok y (Sp' ++ .lst ys :: junk') ∧ y.plain = true ∧ P (i + 1) Sp' (ys ++ [y]) junk')
    (stop : ∀ Sp ys junk, P n Sp ys junk → it n (Sp ++ .lst ys :: junk) = .stop) :
    ∃ Sp ys junk, P n Sp ys junk ∧ dLC own di g (dLit (.bl true)) te e S = .ok (.ref n0) (Sp ++ [.lst ys]) := by
  have key : ∀ (fuel i : Nat) (Sp : Store) (ys : List T) (junk : Store), P i Sp ys junk → i ≤ n → n - i < fuel → ∃ Sp' ys' junk', P n Sp' ys' junk' ∧ lcL it g (dLit (.bl true)) te n0 (blkEnv own e) fuel i (Sp ++ .lst ys :: junk) = .ok () (Sp' ++ .lst ys' :: junk') := by
    intro fuel
    induction fuel with
    | zero => intro i _ _ _ _ _ h; omega
    | succ fuel ih =>
      intro i Sp ys junk p hi hf
      unfold lcL
      by_cases hlt : i < n
      · obtain ⟨t, e1, y, Sp', junk', h1, h2, h3, h4, h5⟩ := step i Sp ys junk hlt p
        obtain ⟨p1, p2, p3, p4⟩ := hP _ _ _ _ h5
        obtain ⟨q1, q2, q3, q4⟩ := hP _ _ _ _ p
        have hg : (Sp' ++ O.lst ys :: junk')[n0]? = some (.lst ys) := at_mid p1.symm
        have hs : (Sp' ++ O.lst ys :: junk').set n0 (.lst (ys ++ [y])) = Sp' ++ O.lst (ys ++ [y]) :: junk' := set_mid p1.symm
        have hll : ys.length < LINE := by omega
        obtain ⟨Sz, yz, jz, z1, z2⟩ := ih (i + 1) Sp' (ys ++ [y]) junk' h5 hlt (by omega)
        refine ⟨Sz, yz, jz, z1, ?_⟩
        simp only [h1, h2, dLit, R.bind, pick, h3, hg, h4, hll, decide_true, Bool.and_self, if_true, hs]
        exact z2
      · have e0 : i = n := by omega
        subst e0
        refine ⟨Sp, ys, junk, p, ?_⟩
        rw [stop Sp ys junk p]
  obtain ⟨Sp, ys, junk, h1, h2⟩ := key FUEL 0 Sa [] [] h0 (Nat.zero_le _) (fuel_ok hn)
  obtain ⟨p1, p2, p3, p4⟩ := hP _ _ _ _ h1
  refine ⟨Sp, ys, junk, h1, ?_⟩
  unfold dLC
  rw [hdi]
  show (lcL it g (dLit (.bl true)) te Sa.length (blkEnv own e) FUEL 0 (Sa ++ [.lst []])).calm.bind _ = _
  rw [hn0, h2]
  exact fin_lst p1 p2 p3
end DD
set_option Elab.async false
set_option linter.all false
set_option maxRecDepth 100000
set_option maxHeartbeats 4000000
namespace K02
open PySem PySem.Spec PyProof.Rows L2 DD
/-! printed by gen.py -/
def top (i : Nat) : Stmt := PySem.Challenge.pw_bydigits_k02_alike_papers_judged.main.body.getD i (.Pass ⟨0, 0, 0, 0⟩)
structure Gx (K : PySem.W.Frag) (mg : Str → Option Value) (W : Wd) (w : World) where
  k : K = W.K
  w : w = W.w
  b_abs : mg "abs" = none
  b_all : mg "all" = none
  b_any : mg "any" = none
  b_enumerate : mg "enumerate" = none
  b_int : mg "int" = none
  b_len : mg "len" = none
  b_list : mg "list" = none
  b_min : mg "min" = none
  b_range : mg "range" = none
  b_repr : mg "repr" = none
  b_set : mg "set" = none
  b_sorted : mg "sorted" = none
  b_tuple : mg "tuple" = none
  b_zip : mg "zip" = none
  c_NotAllowed : ErrR K mg W "NotAllowed" 1 ValErr
  g_MAX_BASE : ∃ t, mg "MAX_BASE" = some (.int 10 t)
  g_MAX_STATES : ∃ t, mg "MAX_STATES" = some (.int 200 t)
  g_MAX_TRACKS : ∃ t, mg "MAX_TRACKS" = some (.int 3 t)
  told : ToldW K mg W
  cLaw : Addr
  pLaw : Addr
abbrev lamQ : Str := (envOfC "law" (defScope (top 41)) 0 0 (.ref 0)).qual ++ "<lambda>"
section
variable {P : Program} {w : World} {K : PySem.W.Frag} {mg : Str → Option Value} {base : Heap} {W : Wd}
abbrev s__law_stream : Stmt := top 19
def m__law_stream : DS := (dSeq (dAsg (dLst dNil) (gNam 1)) (dSeq (dFor (dItL (dSlc nSlc (dVar 0) none (some (dLit (.int 63))))) (gNam 2) (dSeq (dAsg (dCallF nAbs (dCons (dCallF nInt (dCons (dVar 2) dNil)) dNil)) (gNam 3)) (dIf (dBin nGe (dVar 3) (dBin nPow (dLit (.int 10)) (dLit (.int 18)))) (dFor (dRng1 (dCons (dLit (.int 60)) dNil)) (gNam 4) (dSeq (dExpr (dMeth isL nApp (dVar 1) (dCons (dBin nMod (dCallF nInt (dCons (dVar 3) dNil)) (dLit (.int 1009))) dNil))) (dSeq (dAsg (dBin nDiv (dVar 3) (dLit (.int 1009))) (gNam 3)) (dIf (dBin nEq (dVar 3) (dLit (.int 0))) dBrk dSkip)))) (dSeq (dAsg (dBin nMod (dCallF nInt (dCons (dVar 3) dNil)) (dLit (.int 2147483647))) (gNam 5)) (dFor (dRng1 (dCons (dLit (.int 10)) dNil)) (gNam 4) (dSeq (dAsg (dBin nMod (dCallF nInt (dCons (dBin nAdd (dBin nAdd (dBin nMul (dVar 5) (dLit (.int 48271))) (dBin nMul (dLit (.int 7)) (dVar 4))) (dLit (.int 11))) dNil)) (dLit (.int 2147483647))) (gNam 5)) (dExpr (dMeth isL nApp (dVar 1) (dCons (dBin nMod (dBin nMod (dCallF nInt (dCons (dBin nAdd (dBin nMul (dVar 5) (dLit (.int 69621))) (dVar 4)) dNil)) (dLit (.int 2147483629))) (dLit (.int 1009))) dNil))))))))) (dSeq (dIf (dBin nEq (dCallF nLenA (dCons (dVar 1) dNil)) (dLit (.int 0))) (dExpr (dMeth isL nApp (dVar 1) (dCons (dLit (.int 0)) dNil))) dSkip) (dRet (dVar 1)))))
def F__law_stream : List T → Store → R T := runD 6 1 m__law_stream
abbrev N__law_stream : List Str := ["script", "numbers", "cell", "rest", "k", "stirred"]
theorem sc__law_stream : FnScope N__law_stream ["script"] (defScope s__law_stream) := ⟨rfl, rfl, rfl, by decide +kernel, rfl, by decide +kernel, by decide +kernel⟩
theorem ok__law_stream (G : Gx K mg W w) (r : FnR K mg W "_law_stream" 19 s__law_stream)  : FnD P w K mg base W 1 "_law_stream" 19 F__law_stream := by
  refine fnd_of r sc__law_stream rfl rfl (fun _ _ _ _ _ _ us hl => match us, hl with | [_], _ => rfl) fun cdv A outer s H E hr hg => ?_
  have hu := room65 hr
  exact (ebk_cons (es_set (i := 1) sc__law_stream.nd rfl (.inl rfl) (ee_lst el_nil)) (ebk_cons (es_for (L2.passes_of rfl) rfl (ei_lst G.k (ee_slc o_slc (slc_w G.k) (ee_v 0) EO.none (EO.some ee_int))) (eg_name (i := 2) sc__law_stream.nd rfl (.inl rfl)) (ebk_cons (es_set (i := 3) sc__law_stream.nd rfl (.inl rfl) (ee_callB call_abs abs_w rfl G.b_abs (by decide +kernel) (el_cons (ee_callT call_int1 int_w rfl G.b_int (by decide +kernel) (el_cons (ee_v 2) el_nil)) el_nil))) (ebk_one (es_if (eb_cmp op_ge ge_w (nomark _) (ee_v 3) (ee_bin op_pow pow_w ee_int ee_int)) (ebk_one (es_for (L2.passes_of rfl) rfl (ei_rng1 rfl G.b_range (el_cons ee_int el_nil)) (eg_name (i := 4) sc__law_stream.nd rfl (.inl rfl)) (ebk_cons (es_expr (ee_bm PySem.F.plainAttrs_list PySem.F.slot_list_append PySem.F.type_list_append mt_append isL_ty G.k app_w (ee_v 1) (el_cons (ee_bin op_mod mod_w (ee_callT call_int1 int_w rfl G.b_int (by decide +kernel) (el_cons (ee_v 3) el_nil)) ee_int) el_nil))) (ebk_cons (es_set (i := 3) sc__law_stream.nd rfl (.inl rfl) (ee_bin op_fdivW div_w (ee_v 3) ee_int)) (ebk_one (es_if (eb_cmp (op_eqD (Nat.lt_of_succ_lt hu)) (eq_w G.k) (nomark _) (ee_v 3) ee_int) (ebk_one es_break) ebk_nil)))))) (ebk_cons (es_set (i := 5) sc__law_stream.nd rfl (.inl rfl) (ee_bin op_mod mod_w (ee_callT call_int1 int_w rfl G.b_int (by decide +kernel) (el_cons (ee_v 3) el_nil)) ee_int)) (ebk_one (es_for (L2.passes_of rfl) rfl (ei_rng1 rfl G.b_range (el_cons ee_int el_nil)) (eg_name (i := 4) sc__law_stream.nd rfl (.inl rfl)) (ebk_cons (es_set (i := 5) sc__law_stream.nd rfl (.inl rfl) (ee_bin op_mod mod_w (ee_callT call_int1 int_w rfl G.b_int (by decide +kernel) (el_cons (ee_bin o_add (add_w G.k) (ee_bin o_add (add_w G.k) (ee_bin o_mul (mul_w G.k) (ee_v 5) ee_int) (ee_bin o_mul (mul_w G.k) ee_int (ee_v 4))) ee_int) el_nil)) ee_int)) (ebk_one (es_expr (ee_bm PySem.F.plainAttrs_list PySem.F.slot_list_append PySem.F.type_list_append mt_append isL_ty G.k app_w (ee_v 1) (el_cons (ee_bin op_mod mod_w (ee_bin op_mod mod_w (ee_callT call_int1 int_w rfl G.b_int (by decide +kernel) (el_cons (ee_bin o_add (add_w G.k) (ee_bin o_mul (mul_w G.k) (ee_v 5) ee_int) (ee_v 4)) el_nil)) ee_int) ee_int) el_nil)))))))))))) (ebk_cons (es_if (eb_cmp (op_eqD (Nat.lt_of_succ_lt hu)) (eq_w G.k) (nomark _) (ee_callB call_lenA (lenA_w G.k G.w) rfl G.b_len (by decide +kernel) (el_cons (ee_v 1) el_nil)) ee_int) (ebk_one (es_expr (ee_bm PySem.F.plainAttrs_list PySem.F.slot_list_append PySem.F.type_list_append mt_append isL_ty G.k app_w (ee_v 1) (el_cons ee_int el_nil)))) ebk_nil) (ebk_one (es_ret (ee_v 1))))))
abbrev s__law_next : Stmt := top 20
def m__law_next : DS := (dSeq (dAsg (dBin nAdd (dBin nIx (dVar 0) (dLit (.int 1))) (dLit (.int 1))) (gSubD nSetA (dVar 0) (dLit (.int 1)))) (dSeq (dAsg (dBin nDiv (dBin nIx (dVar 0) (dLit (.int 1))) (dCallF nLenA (dCons (dBin nIx (dVar 0) (dLit (.int 0))) dNil))) (gNam 2)) (dRet (dBin nMod (dCallF nInt (dCons (dBin nAdd (dBin nAdd (dBin nIx (dBin nIx (dVar 0) (dLit (.int 0))) (dBin nMod (dBin nIx (dVar 0) (dLit (.int 1))) (dCallF nLenA (dCons (dBin nIx (dVar 0) (dLit (.int 0))) dNil)))) (dBin nMul (dVar 2) (dLit (.int 389)))) (dBin nMul (dBin nMul (dBin nIx (dVar 0) (dLit (.int 1))) (dVar 2)) (dLit (.int 17)))) dNil)) (dVar 1)))))
def F__law_next : List T → Store → R T := runD 3 2 m__law_next
abbrev N__law_next : List Str := ["state", "many", "turn"]
theorem sc__law_next : FnScope N__law_next ["state", "many"] (defScope s__law_next) := ⟨rfl, rfl, rfl, by decide +kernel, rfl, by decide +kernel, by decide +kernel⟩
theorem ok__law_next (G : Gx K mg W w) (r : FnR K mg W "_law_next" 20 s__law_next)  : FnD P w K mg base W 1 "_law_next" 20 F__law_next := by
  refine fnd_of r sc__law_next rfl rfl (fun _ _ _ _ _ _ us hl => match us, hl with | [_, _], _ => rfl) fun cdv A outer s H E hr hg => ?_
  have hu := room65 hr
  exact (ebk_cons (es_asg (ee_bin o_add (add_w G.k) (ee_sub (ixA hu) (ix_w G.k G.w) (fun _ _ => rfl) (ee_v 0) ee_int) ee_int) (eg_sub (setA hu) (setA_w G.k G.w) (ee_v 0) ee_int)) (ebk_cons (es_set (i := 2) sc__law_next.nd rfl (.inl rfl) (ee_bin op_fdivW div_w (ee_sub (ixA hu) (ix_w G.k G.w) (fun _ _ => rfl) (ee_v 0) ee_int) (ee_callB call_lenA (lenA_w G.k G.w) rfl G.b_len (by decide +kernel) (el_cons (ee_sub (ixA hu) (ix_w G.k G.w) (fun _ _ => rfl) (ee_v 0) ee_int) el_nil)))) (ebk_one (es_ret (ee_bin op_mod mod_w (ee_callT call_int1 int_w rfl G.b_int (by decide +kernel) (el_cons (ee_bin o_add (add_w G.k) (ee_bin o_add (add_w G.k) (ee_sub (ixA hu) (ix_w G.k G.w) (fun _ _ => rfl) (ee_sub (ixA hu) (ix_w G.k G.w) (fun _ _ => rfl) (ee_v 0) ee_int) (ee_bin op_mod mod_w (ee_sub (ixA hu) (ix_w G.k G.w) (fun _ _ => rfl) (ee_v 0) ee_int) (ee_callB call_lenA (lenA_w G.k G.w) rfl G.b_len (by decide +kernel) (el_cons (ee_sub (ixA hu) (ix_w G.k G.w) (fun _ _ => rfl) (ee_v 0) ee_int) el_nil)))) (ee_bin o_mul (mul_w G.k) (ee_v 2) ee_int)) (ee_bin o_mul (mul_w G.k) (ee_bin o_mul (mul_w G.k) (ee_sub (ixA hu) (ix_w G.k G.w) (fun _ _ => rfl) (ee_v 0) ee_int) (ee_v 2)) ee_int)) el_nil)) (ee_v 1))))))
abbrev s__law_power : Stmt := top 23
def m__law_power : DS := (dSeq (dAsg (dLit (.int 1)) (gNam 2)) (dSeq (dFor (dRng1 (dCons (dVar 1) dNil)) (gNam 3) (dAsg (dBin nMul (dVar 2) (dVar 0)) (gNam 2))) (dRet (dVar 2))))
def F__law_power : List T → Store → R T := runD 4 2 m__law_power
abbrev N__law_power : List Str := ["base", "many", "found", "turn"]
theorem sc__law_power : FnScope N__law_power ["base", "many"] (defScope s__law_power) := ⟨rfl, rfl, rfl, by decide +kernel, rfl, by decide +kernel, by decide +kernel⟩
theorem ok__law_power (G : Gx K mg W w) (r : FnR K mg W "_law_power" 23 s__law_power)  : FnD P w K mg base W 1 "_law_power" 23 F__law_power := by
  refine fnd_of r sc__law_power rfl rfl (fun _ _ _ _ _ _ us hl => match us, hl with | [_, _], _ => rfl) fun cdv A outer s H E hr hg => ?_
  have hu := room65 hr
  exact (ebk_cons (es_set (i := 2) sc__law_power.nd rfl (.inl rfl) ee_int) (ebk_cons (es_for (L2.passes_of rfl) rfl (ei_rng1 rfl G.b_range (el_cons (ee_v 1) el_nil)) (eg_name (i := 3) sc__law_power.nd rfl (.inl rfl)) (ebk_one (es_set (i := 2) sc__law_power.nd rfl (.inl rfl) (ee_bin o_mul (mul_w G.k) (ee_v 2) (ee_v 0))))) (ebk_one (es_ret (ee_v 2)))))
abbrev s__law_drawn : Stmt := top 33
def m__law_drawn : DS := (dSeq (dAsg (dCallF nTup (dCons (dLC [4] (dRng1 (dCons (dVar 3) dNil)) (gNam 4) (dLit (.bl true)) (dCallF nTup (dCons (dLC [9] (dRng1 (dCons (dCall F__law_power (dCons (dVar 1) (dCons (dVar 2) dNil))) dNil)) (gNam 9) (dLit (.bl true)) (dBin nIx (dLst (dCons (dCall F__law_next (dCons (dVar 0) (dCons (dVar 3) dNil))) (dCons (dVar 4) dNil))) (dCallF nInt (dCons (dBin nEq (dCall F__law_next (dCons (dVar 0) (dCons (dLit (.int 4)) dNil))) (dLit (.int 0))) dNil)))) dNil))) dNil)) (gNam 5)) (dSeq (dAsg (dCallF nListRng (dCons (dVar 3) dNil)) (gNam 6)) (dSeq (dFor (dRng1 (dCons (dVar 3) dNil)) (gNam 7) (dFor (dRng1 (dCons (dVar 3) dNil)) (gNam 4) (dSeq (dAsg (dCallF nMin2 (dCons (dBin nIx (dVar 6) (dVar 4)) (dCons (dBin nIx (dVar 6) (dBin nIx (dBin nIx (dVar 5) (dVar 4)) (dLit (.int 0)))) dNil))) (gSubD nSetA (dVar 6) (dVar 4))) (dAsg (dBin nIx (dVar 6) (dVar 4)) (gSubD nSetA (dVar 6) (dBin nIx (dBin nIx (dVar 5) (dVar 4)) (dLit (.int 0)))))))) (dSeq (dAsg (dLC [4] (dRng1 (dCons (dVar 3) dNil)) (gNam 4) (dLit (.bl true)) (dCall F__law_next (dCons (dVar 0) (dCons (dLit (.int 2)) dNil)))) (gNam 8)) (dRet (dTup (dCons (dVar 1) (dCons (dVar 2) (dCons (dVar 5) (dCons (dCallF nTup (dCons (dLC [4] (dRng1 (dCons (dVar 3) dNil)) (gNam 4) (dLit (.bl true)) (dBin nIx (dVar 8) (dBin nIx (dVar 6) (dVar 4)))) dNil)) dNil))))))))))
def F__law_drawn : List T → Store → R T := runD 10 4 m__law_drawn
abbrev N__law_drawn : List Str := ["state", "base", "tracks", "many", "k", "moves", "marks", "turn", "ends", "column"]
theorem sc__law_drawn : FnScope N__law_drawn ["state", "base", "tracks", "many"] (defScope s__law_drawn) := ⟨rfl, rfl, rfl, by decide +kernel, rfl, by decide +kernel, by decide +kernel⟩
theorem ok__law_drawn (G : Gx K mg W w) (r : FnR K mg W "_law_drawn" 33 s__law_drawn) (D__law_next : FnD P w K mg base W 1 "_law_next" 20 F__law_next) (D__law_power : FnD P w K mg base W 1 "_law_power" 23 F__law_power) : FnD P w K mg base W 2 "_law_drawn" 33 F__law_drawn := by
  refine fnd_of r sc__law_drawn rfl rfl (fun _ _ _ _ _ _ us hl => match us, hl with | [_, _, _, _], _ => rfl) fun cdv A outer s H E hr hg => ?_
  have hu := room65 hr
  exact (ebk_cons (es_set (i := 5) sc__law_drawn.nd rfl (.inl rfl) (ee_callT call_tuple_of (tupc_w G.k) rfl G.b_tuple (by decide +kernel) (el_cons (ee_lc (own := [("k", 4)]) rfl sc__law_drawn.nd (ei_rng1 rfl G.b_range (el_cons (ee_v 3) el_nil)) (blkOk_by (N := N__law_drawn) (sc := (defScope s__law_drawn)) (by decide +kernel)) (fun _ _ _ _ _ => (ego_name (i := 4) sc__law_drawn.nd rfl (.inr rfl) (by decide))) (fun _ _ _ _ _ => ets_nil) (fun _ _ _ _ _ => (ee_callT call_tuple_of (tupc_w G.k) rfl G.b_tuple (by decide +kernel) (el_cons (ee_lc (own := [("column", 9)]) rfl sc__law_drawn.nd (ei_rng1 rfl G.b_range (el_cons (ee_call (D__law_power.at hr (by decide)) hg takesF rfl (el_cons (ee_v 1) (el_cons (ee_v 2) el_nil))) el_nil)) (blkOk_by (N := N__law_drawn) (sc := (relS { kind := .function, names := [(".0", .local), ("k", .cell), ("tuple", .globalImplicit), ("range", .globalImplicit), ("_law_power", .globalImplicit), ("base", .free), ("many", .free), ("state", .free), ("tracks", .free)], isGenerator := false, isCoroutine := false, more := [] } (defScope s__law_drawn))) (by decide +kernel)) (fun _ _ _ _ _ => (ego_name (i := 9) sc__law_drawn.nd rfl (.inl rfl) (by decide))) (fun _ _ _ _ _ => ets_nil) (fun _ _ _ _ _ => (ee_sub (ixA hu) (ix_w G.k G.w) (fun _ _ => rfl) (ee_lst (el_cons (ee_call (D__law_next.at hr (by decide)) hg takesF rfl (el_cons (ee_v 0) (el_cons (ee_v 3) el_nil))) (el_cons (ee_v 4) el_nil))) (ee_callT call_int1 int_w rfl G.b_int (by decide +kernel) (el_cons (ee_cmp (op_eqD (Nat.lt_of_succ_lt hu)) (eq_w G.k) (nomark _) (ee_call (D__law_next.at hr (by decide)) hg takesF rfl (el_cons (ee_v 0) (el_cons ee_int el_nil))) ee_int) el_nil))))) el_nil)))) el_nil))) (ebk_cons (es_set (i := 6) sc__law_drawn.nd rfl (.inr rfl) (ee_listRng rfl rfl G.b_list rfl G.b_range (el_cons (ee_v 3) el_nil))) (ebk_cons (es_for (L2.passes_of rfl) rfl (ei_rng1 rfl G.b_range (el_cons (ee_v 3) el_nil)) (eg_name (i := 7) sc__law_drawn.nd rfl (.inl rfl)) (ebk_one (es_for (L2.passes_of rfl) rfl (ei_rng1 rfl G.b_range (el_cons (ee_v 3) el_nil)) (eg_name (i := 4) sc__law_drawn.nd rfl (.inl rfl)) (ebk_cons (es_asg (ee_callB (call_min2 rfl) min2_w rfl G.b_min (by decide +kernel) (el_cons (ee_sub (ixA hu) (ix_w G.k G.w) (fun _ _ => rfl) (ee_v 6) (ee_v 4)) (el_cons (ee_sub (ixA hu) (ix_w G.k G.w) (fun _ _ => rfl) (ee_v 6) (ee_sub (ixA hu) (ix_w G.k G.w) (fun _ _ => rfl) (ee_sub (ixA hu) (ix_w G.k G.w) (fun _ _ => rfl) (ee_v 5) (ee_v 4)) ee_int)) el_nil))) (eg_sub (setA hu) (setA_w G.k G.w) (ee_v 6) (ee_v 4))) (ebk_one (es_asg (ee_sub (ixA hu) (ix_w G.k G.w) (fun _ _ => rfl) (ee_v 6) (ee_v 4)) (eg_sub (setA hu) (setA_w G.k G.w) (ee_v 6) (ee_sub (ixA hu) (ix_w G.k G.w) (fun _ _ => rfl) (ee_sub (ixA hu) (ix_w G.k G.w) (fun _ _ => rfl) (ee_v 5) (ee_v 4)) ee_int)))))))) (ebk_cons (es_set (i := 8) sc__law_drawn.nd rfl (.inr rfl) (ee_lc (own := [("k", 4)]) rfl sc__law_drawn.nd (ei_rng1 rfl G.b_range (el_cons (ee_v 3) el_nil)) (blkOk_by (N := N__law_drawn) (sc := (defScope s__law_drawn)) (by decide +kernel)) (fun _ _ _ _ _ => (ego_name (i := 4) sc__law_drawn.nd rfl (.inl rfl) (by decide))) (fun _ _ _ _ _ => ets_nil) (fun _ _ _ _ _ => (ee_call (D__law_next.at hr (by decide)) hg takesF rfl (el_cons (ee_v 0) (el_cons ee_int el_nil)))))) (ebk_one (es_ret (ee_tup (el_cons (ee_v 1) (el_cons (ee_v 2) (el_cons (ee_v 5) (el_cons (ee_callT call_tuple_of (tupc_w G.k) rfl G.b_tuple (by decide +kernel) (el_cons (ee_lc (own := [("k", 4)]) rfl sc__law_drawn.nd (ei_rng1 rfl G.b_range (el_cons (ee_v 3) el_nil)) (blkOk_by (N := N__law_drawn) (sc := (defScope s__law_drawn)) (by decide +kernel)) (fun _ _ _ _ _ => (ego_name (i := 4) sc__law_drawn.nd rfl (.inl rfl) (by decide))) (fun _ _ _ _ _ => ets_nil) (fun _ _ _ _ _ => (ee_sub (ixA hu) (ix_w G.k G.w) (fun _ _ => rfl) (ee_v 8) (ee_sub (ixA hu) (ix_w G.k G.w) (fun _ _ => rfl) (ee_v 6) (ee_v 4))))) el_nil)) el_nil)))))))))))
abbrev s__law_machine : Stmt := top 32
def m__law_machine : DS := (dRet (dCall F__law_drawn (dCons (dVar 0) (dCons (dVar 1) (dCons (dVar 2) (dCons (dBin nAdd (dLit (.int 1)) (dCall F__law_next (dCons (dVar 0) (dCons (dBin nIx (dLst (dCons (dLit (.int 3)) (dCons (dLit (.int 6)) dNil))) (dCall F__law_next (dCons (dVar 0) (dCons (dLit (.int 2)) dNil)))) dNil)))) dNil))))))
def F__law_machine : List T → Store → R T := runD 3 3 m__law_machine
abbrev N__law_machine : List Str := ["state", "base", "tracks"]
theorem sc__law_machine : FnScope N__law_machine ["state", "base", "tracks"] (defScope s__law_machine) := ⟨rfl, rfl, rfl, by decide +kernel, rfl, by decide +kernel, by decide +kernel⟩
theorem ok__law_machine (G : Gx K mg W w) (r : FnR K mg W "_law_machine" 32 s__law_machine) (D__law_drawn : FnD P w K mg base W 2 "_law_drawn" 33 F__law_drawn) (D__law_next : FnD P w K mg base W 1 "_law_next" 20 F__law_next) : FnD P w K mg base W 3 "_law_machine" 32 F__law_machine := by
  refine fnd_of r sc__law_machine rfl rfl (fun _ _ _ _ _ _ us hl => match us, hl with | [_, _, _], _ => rfl) fun cdv A outer s H E hr hg => ?_
  have hu := room65 hr
  have tk : L2N.Takes (cxOf (L2N.CX P w) P w K mg base N__law_machine "_law_machine" (defScope s__law_machine) (W.fa 32) cdv A outer s H E) (wxD E) := L2N.takes_of (E := E) rfl rfl rfl rfl
  exact (ebk_one (es_ret (ee_call (D__law_drawn.at hr (by decide)) hg tk rfl (el_cons (ee_v 0) (el_cons (ee_v 1) (el_cons (ee_v 2) (el_cons (ee_bin o_add (add_w G.k) ee_int (ee_call (D__law_next.at hr (by decide)) hg tk rfl (el_cons (ee_v 0) (el_cons (ee_sub (ixA hu) (ix_w G.k G.w) (fun _ _ => rfl) (ee_lst (el_cons ee_int (el_cons ee_int el_nil))) (ee_call (D__law_next.at hr (by decide)) hg tk rfl (el_cons (ee_v 0) (el_cons ee_int el_nil)))) el_nil)))) el_nil)))))))
abbrev s__law_wrong : Stmt := top 37
def m__law_wrong : DS := (dSeq (dAsg (dVar 1) (gTupD 4 (gConsD (gNam 2) (gConsD (gNam 3) (gConsD (gNam 4) (gConsD (gNam 5) gNilD)))))) (dSeq (dAsg (dLst (dCons (dTup (dCons (dLit (.int 1)) (dCons (dLit (.int 1)) (dCons (dTup (dCons (dTup (dCons (dLit (.int 0)) dNil)) dNil)) (dCons (dTup (dCons (dLit (.int 1)) dNil)) dNil))))) (dCons (dTup (dCons (dLit (.int 11)) (dCons (dLit (.int 1)) (dCons (dTup (dCons (dBin nMul (dTup (dCons (dLit (.int 0)) dNil)) (dLit (.int 11))) dNil)) (dCons (dTup (dCons (dLit (.int 1)) dNil)) dNil))))) (dCons (dTup (dCons (dLit (.int 2)) (dCons (dLit (.int 0)) (dCons (dTup (dCons (dTup (dCons (dLit (.int 0)) dNil)) dNil)) (dCons (dTup (dCons (dLit (.int 1)) dNil)) dNil))))) (dCons (dTup (dCons (dLit (.int 2)) (dCons (dLit (.int 4)) (dCons (dTup (dCons (dBin nMul (dTup (dCons (dLit (.int 0)) dNil)) (dLit (.int 16))) dNil)) (dCons (dTup (dCons (dLit (.int 1)) dNil)) dNil))))) (dCons (dTup (dCons (dVar 2) (dCons (dVar 3) (dCons (dTup dNil) (dCons (dTup dNil) dNil))))) dNil)))))) (gNam 6)) (dSeq (dExpr (dMeth isL nExt (dVar 6) (dCons (dLst (dCons (dTup (dCons (dVar 2) (dCons (dVar 3) (dCons (dVar 4) (dCons (dBin nAdd (dVar 5) (dTup (dCons (dLit (.int 1)) dNil))) dNil))))) (dCons (dTup (dCons (dVar 2) (dCons (dVar 3) (dCons (dVar 4) (dCons (dBin nAdd (dSlc nSlc (dVar 5) none (some (dUn nNeg (dLit (.int 1))))) (dTup (dCons (dLit (.int 2)) dNil))) dNil))))) dNil))) dNil))) (dSeq (dExpr (dMeth isL nExt (dVar 6) (dCons (dLst (dCons (dTup (dCons (dVar 2) (dCons (dVar 3) (dCons (dBin nAdd (dSlc nSlc (dVar 4) none (some (dUn nNeg (dLit (.int 1))))) (dTup (dCons (dBin nAdd (dBin nIx (dVar 4) (dLit (.int 0))) (dTup (dCons (dLit (.int 0)) dNil))) dNil))) (dCons (dVar 5) dNil))))) (dCons (dTup (dCons (dVar 2) (dCons (dVar 3) (dCons (dBin nAdd (dSlc nSlc (dVar 4) none (some (dUn nNeg (dLit (.int 1))))) (dTup (dCons (dBin nMul (dTup (dCons (dCallF nLenA (dCons (dVar 4) dNil)) dNil)) (dCall F__law_power (dCons (dVar 2) (dCons (dVar 3) dNil)))) dNil))) (dCons (dVar 5) dNil))))) (dCons (dTup (dCons (dLit (.int 2)) (dCons (dLit (.int 1)) (dCons (dTup (dCons (dTup (dCons (dLit (.int 1)) (dCons (dLit (.int 0)) dNil))) (dCons (dTup (dCons (dLit (.int 1)) (dCons (dLit (.int 0)) dNil))) dNil))) (dCons (dTup (dCons (dLit (.int 1)) (dCons (dLit (.int 0)) dNil))) dNil))))) dNil)))) dNil))) (dSeq (dExpr (dMeth isL nApp (dVar 6) (dCons (dTup (dCons (dVar 2) (dCons (dVar 3) (dCons (dBin nMul (dTup (dCons (dBin nMul (dTup (dCons (dLit (.int 0)) dNil)) (dCall F__law_power (dCons (dVar 2) (dCons (dVar 3) dNil)))) dNil)) (dLit (.int 201))) (dCons (dBin nMul (dTup (dCons (dLit (.int 1)) dNil)) (dLit (.int 201))) dNil))))) dNil))) (dRet (dBin nIx (dVar 6) (dCall F__law_next (dCons (dVar 0) (dCons (dLit (.int 11)) dNil))))))))))
def F__law_wrong : List T → Store → R T := runD 7 2 m__law_wrong
abbrev N__law_wrong : List Str := ["state", "machine", "base", "tracks", "moves", "ends", "bad"]
theorem sc__law_wrong : FnScope N__law_wrong ["state", "machine"] (defScope s__law_wrong) := ⟨rfl, rfl, rfl, by decide +kernel, rfl, by decide +kernel, by decide +kernel⟩
theorem ok__law_wrong (G : Gx K mg W w) (r : FnR K mg W "_law_wrong" 37 s__law_wrong) (D__law_next : FnD P w K mg base W 1 "_law_next" 20 F__law_next) (D__law_power : FnD P w K mg base W 1 "_law_power" 23 F__law_power) : FnD P w K mg base W 2 "_law_wrong" 37 F__law_wrong := by
  refine fnd_of r sc__law_wrong rfl rfl (fun _ _ _ _ _ _ us hl => match us, hl with | [_, _], _ => rfl) fun cdv A outer s H E hr hg => ?_
  have hu := room65 hr
  have tk : L2N.Takes (cxOf (L2N.CX P w) P w K mg base N__law_wrong "_law_wrong" (defScope s__law_wrong) (W.fa 37) cdv A outer s H E) (wxD E) := L2N.takes_of (E := E) rfl rfl rfl rfl
  exact (ebk_cons (es_asg (ee_v 1) (eg_tup G.k rfl (egs_cons (eg_name (i := 2) sc__law_wrong.nd rfl (.inl rfl)) (egs_cons (eg_name (i := 3) sc__law_wrong.nd rfl (.inl rfl)) (egs_cons (eg_name (i := 4) sc__law_wrong.nd rfl (.inl rfl)) (egs_cons (eg_name (i := 5) sc__law_wrong.nd rfl (.inl rfl)) egs_nil)))) (n := 4))) (ebk_cons (es_set (i := 6) sc__law_wrong.nd rfl (.inl rfl) (ee_lst (el_cons (ee_tup (el_cons ee_int (el_cons ee_int (el_cons (ee_tup (el_cons (ee_tup (el_cons ee_int el_nil)) el_nil)) (el_cons (ee_tup (el_cons ee_int el_nil)) el_nil))))) (el_cons (ee_tup (el_cons ee_int (el_cons ee_int (el_cons (ee_tup (el_cons (ee_bin o_mul (mul_w G.k) (ee_tup (el_cons ee_int el_nil)) ee_int) el_nil)) (el_cons (ee_tup (el_cons ee_int el_nil)) el_nil))))) (el_cons (ee_tup (el_cons ee_int (el_cons ee_int (el_cons (ee_tup (el_cons (ee_tup (el_cons ee_int el_nil)) el_nil)) (el_cons (ee_tup (el_cons ee_int el_nil)) el_nil))))) (el_cons (ee_tup (el_cons ee_int (el_cons ee_int (el_cons (ee_tup (el_cons (ee_bin o_mul (mul_w G.k) (ee_tup (el_cons ee_int el_nil)) ee_int) el_nil)) (el_cons (ee_tup (el_cons ee_int el_nil)) el_nil))))) (el_cons (ee_tup (el_cons (ee_v 2) (el_cons (ee_v 3) (el_cons (ee_tup el_nil) (el_cons (ee_tup el_nil) el_nil))))) el_nil))))))) (ebk_cons (es_expr (ee_bm PySem.F.plainAttrs_list PySem.F.slot_list_extend PySem.F.type_list_extend mt_extend isL_ty G.k ext_w (ee_v 6) (el_cons (ee_lst (el_cons (ee_tup (el_cons (ee_v 2) (el_cons (ee_v 3) (el_cons (ee_v 4) (el_cons (ee_bin o_add (add_w G.k) (ee_v 5) (ee_tup (el_cons ee_int el_nil))) el_nil))))) (el_cons (ee_tup (el_cons (ee_v 2) (el_cons (ee_v 3) (el_cons (ee_v 4) (el_cons (ee_bin o_add (add_w G.k) (ee_slc o_slc (slc_w G.k) (ee_v 5) EO.none (EO.some (ee_un un_neg neg_w ee_int))) (ee_tup (el_cons ee_int el_nil))) el_nil))))) el_nil))) el_nil))) (ebk_cons (es_expr (ee_bm PySem.F.plainAttrs_list PySem.F.slot_list_extend PySem.F.type_list_extend mt_extend isL_ty G.k ext_w (ee_v 6) (el_cons (ee_lst (el_cons (ee_tup (el_cons (ee_v 2) (el_cons (ee_v 3) (el_cons (ee_bin o_add (add_w G.k) (ee_slc o_slc (slc_w G.k) (ee_v 4) EO.none (EO.some (ee_un un_neg neg_w ee_int))) (ee_tup (el_cons (ee_bin o_add (add_w G.k) (ee_sub (ixA hu) (ix_w G.k G.w) (fun _ _ => rfl) (ee_v 4) ee_int) (ee_tup (el_cons ee_int el_nil))) el_nil))) (el_cons (ee_v 5) el_nil))))) (el_cons (ee_tup (el_cons (ee_v 2) (el_cons (ee_v 3) (el_cons (ee_bin o_add (add_w G.k) (ee_slc o_slc (slc_w G.k) (ee_v 4) EO.none (EO.some (ee_un un_neg neg_w ee_int))) (ee_tup (el_cons (ee_bin o_mul (mul_w G.k) (ee_tup (el_cons (ee_callB call_lenA (lenA_w G.k G.w) rfl G.b_len (by decide +kernel) (el_cons (ee_v 4) el_nil)) el_nil)) (ee_call (D__law_power.at hr (by decide)) hg tk rfl (el_cons (ee_v 2) (el_cons (ee_v 3) el_nil)))) el_nil))) (el_cons (ee_v 5) el_nil))))) (el_cons (ee_tup (el_cons ee_int (el_cons ee_int (el_cons (ee_tup (el_cons (ee_tup (el_cons ee_int (el_cons ee_int el_nil))) (el_cons (ee_tup (el_cons ee_int (el_cons ee_int el_nil))) el_nil))) (el_cons (ee_tup (el_cons ee_int (el_cons ee_int el_nil))) el_nil))))) el_nil)))) el_nil))) (ebk_cons (es_expr (ee_bm PySem.F.plainAttrs_list PySem.F.slot_list_append PySem.F.type_list_append mt_append isL_ty G.k app_w (ee_v 6) (el_cons (ee_tup (el_cons (ee_v 2) (el_cons (ee_v 3) (el_cons (ee_bin o_mul (mul_w G.k) (ee_tup (el_cons (ee_bin o_mul (mul_w G.k) (ee_tup (el_cons ee_int el_nil)) (ee_call (D__law_power.at hr (by decide)) hg tk rfl (el_cons (ee_v 2) (el_cons (ee_v 3) el_nil)))) el_nil)) ee_int) (el_cons (ee_bin o_mul (mul_w G.k) (ee_tup (el_cons ee_int el_nil)) ee_int) el_nil))))) el_nil))) (ebk_one (es_ret (ee_sub (ixA hu) (ix_w G.k G.w) (fun _ _ => rfl) (ee_v 6) (ee_call (D__law_next.at hr (by decide)) hg tk rfl (el_cons (ee_v 0) (el_cons ee_int el_nil)))))))))))
abbrev s__law_met : Stmt := top 38
def m__law_met : DS := (dSeq (dAsg (dLst (dCons (dTup (dCons (dLit (.int 0)) (dCons (dLit (.int 0)) dNil))) dNil)) (gNam 2)) (dSeq (dFor (dRng1 (dCons (dLit (.int 400)) dNil)) (gNam 3) (dIf (dBin nLt (dVar 3) (dCallF nLenA (dCons (dVar 2) dNil))) (dSeq (dAsg (dBin nIx (dVar 2) (dVar 3)) (gTupD 2 (gConsD (gNam 4) (gConsD (gNam 5) gNilD)))) (dFor (dRng1 (dCons (dCallF nLenA (dCons (dBin nIx (dBin nIx (dVar 0) (dLit (.int 2))) (dVar 4)) dNil)) dNil)) (gNam 6) (dSeq (dAsg (dTup (dCons (dBin nIx (dBin nIx (dBin nIx (dVar 0) (dLit (.int 2))) (dVar 4)) (dVar 6)) (dCons (dBin nIx (dBin nIx (dBin nIx (dVar 1) (dLit (.int 2))) (dVar 5)) (dVar 6)) dNil))) (gNam 7)) (dIf (dBin (nIn true) (dVar 7) (dVar 2)) (dExpr (dMeth isL nApp (dVar 2) (dCons (dVar 7) dNil))) dSkip)))) dSkip)) (dRet (dCallF nTup (dCons (dCallF nSorted (dCons (dVar 2) dNil)) dNil)))))
def F__law_met : List T → Store → R T := runD 8 2 m__law_met
abbrev N__law_met : List Str := ["machine", "other", "line", "at", "one", "two", "k", "pair"]
theorem sc__law_met : FnScope N__law_met ["machine", "other"] (defScope s__law_met) := ⟨rfl, rfl, rfl, by decide +kernel, rfl, by decide +kernel, by decide +kernel⟩
theorem ok__law_met (G : Gx K mg W w) (r : FnR K mg W "_law_met" 38 s__law_met)  : FnD P w K mg base W 1 "_law_met" 38 F__law_met := by
  refine fnd_of r sc__law_met rfl rfl (fun _ _ _ _ _ _ us hl => match us, hl with | [_, _], _ => rfl) fun cdv A outer s H E hr hg => ?_
  have hu := room65 hr
  exact (ebk_cons (es_set (i := 2) sc__law_met.nd rfl (.inl rfl) (ee_lst (el_cons (ee_tup (el_cons ee_int (el_cons ee_int el_nil))) el_nil))) (ebk_cons (es_for (L2.passes_of rfl) rfl (ei_rng1 rfl G.b_range (el_cons ee_int el_nil)) (eg_name (i := 3) sc__law_met.nd rfl (.inl rfl)) (ebk_one (es_if (eb_cmp (o_lt (room0 hr)) (lt_w G.k) (nomark _) (ee_v 3) (ee_callB call_lenA (lenA_w G.k G.w) rfl G.b_len (by decide +kernel) (el_cons (ee_v 2) el_nil))) (ebk_cons (es_asg (ee_sub (ixA hu) (ix_w G.k G.w) (fun _ _ => rfl) (ee_v 2) (ee_v 3)) (eg_tup G.k rfl (egs_cons (eg_name (i := 4) sc__law_met.nd rfl (.inl rfl)) (egs_cons (eg_name (i := 5) sc__law_met.nd rfl (.inl rfl)) egs_nil)) (n := 2))) (ebk_one (es_for (L2.passes_of rfl) rfl (ei_rng1 rfl G.b_range (el_cons (ee_callB call_lenA (lenA_w G.k G.w) rfl G.b_len (by decide +kernel) (el_cons (ee_sub (ixA hu) (ix_w G.k G.w) (fun _ _ => rfl) (ee_sub (ixA hu) (ix_w G.k G.w) (fun _ _ => rfl) (ee_v 0) ee_int) (ee_v 4)) el_nil)) el_nil)) (eg_name (i := 6) sc__law_met.nd rfl (.inl rfl)) (ebk_cons (es_set (i := 7) sc__law_met.nd rfl (.inl rfl) (ee_tup (el_cons (ee_sub (ixA hu) (ix_w G.k G.w) (fun _ _ => rfl) (ee_sub (ixA hu) (ix_w G.k G.w) (fun _ _ => rfl) (ee_sub (ixA hu) (ix_w G.k G.w) (fun _ _ => rfl) (ee_v 0) ee_int) (ee_v 4)) (ee_v 6)) (el_cons (ee_sub (ixA hu) (ix_w G.k G.w) (fun _ _ => rfl) (ee_sub (ixA hu) (ix_w G.k G.w) (fun _ _ => rfl) (ee_sub (ixA hu) (ix_w G.k G.w) (fun _ _ => rfl) (ee_v 1) ee_int) (ee_v 5)) (ee_v 6)) el_nil)))) (ebk_one (es_if (eb_cmp (o_notIn hu) (notIn_w G.k G.w) (by with_unfolding_all rfl) (ee_v 7) (ee_v 2)) (ebk_one (es_expr (ee_bm PySem.F.plainAttrs_list PySem.F.slot_list_append PySem.F.type_list_append mt_append isL_ty G.k app_w (ee_v 2) (el_cons (ee_v 7) el_nil)))) ebk_nil)))))) ebk_nil))) (ebk_one (es_ret (ee_callT call_tuple_of (tupc_w G.k) rfl G.b_tuple (by decide +kernel) (el_cons (ee_callB call_sortedA (sorted_w G.k) rfl G.b_sorted (by decide +kernel) (el_cons (ee_v 2) el_nil)) el_nil))))))
abbrev s__law_reach : Stmt := top 28
def m__law_reach : DS := (dSeq (dAsg (dLst (dCons (dLit (.int 0)) dNil)) (gNam 1)) (dSeq (dAsg (dDisp1 (.inl 0) (dLit (.bl true))) (gNam 2)) (dSeq (dFor (dRng1 (dCons (dCallF nLenA (dCons (dVar 0) dNil)) dNil)) (gNam 3) (dIf (dBin nLt (dVar 3) (dCallF nLenA (dCons (dVar 1) dNil))) (dFor (dItT (dBin nIx (dVar 0) (dBin nIx (dVar 1) (dVar 3)))) (gNam 4) (dIf (dBin (nIn true) (dVar 4) (dVar 2)) (dSeq (dAsg (dLit (.bl true)) (gSubD nSetA (dVar 2) (dVar 4))) (dExpr (dMeth isL nApp (dVar 1) (dCons (dVar 4) dNil)))) dSkip)) dSkip)) (dRet (dVar 1)))))
def F__law_reach : List T → Store → R T := runD 5 1 m__law_reach
abbrev N__law_reach : List Str := ["moves", "found", "known", "at", "after"]
theorem sc__law_reach : FnScope N__law_reach ["moves"] (defScope s__law_reach) := ⟨rfl, rfl, rfl, by decide +kernel, rfl, by decide +kernel, by decide +kernel⟩
theorem ok__law_reach (G : Gx K mg W w) (r : FnR K mg W "_law_reach" 28 s__law_reach)  : FnD P w K mg base W 1 "_law_reach" 28 F__law_reach := by
  refine fnd_of r sc__law_reach rfl rfl (fun _ _ _ _ _ _ us hl => match us, hl with | [_], _ => rfl) fun cdv A outer s H E hr hg => ?_
  have hu := room65 hr
  exact (ebk_cons (es_set (i := 1) sc__law_reach.nd rfl (.inl rfl) (ee_lst (el_cons ee_int el_nil))) (ebk_cons (es_set (i := 2) sc__law_reach.nd rfl (.inl rfl) (ee_disp1 (k := .inl 0) pe_int ee_bl)) (ebk_cons (es_for (L2.passes_of rfl) rfl (ei_rng1 rfl G.b_range (el_cons (ee_callB call_lenA (lenA_w G.k G.w) rfl G.b_len (by decide +kernel) (el_cons (ee_v 0) el_nil)) el_nil)) (eg_name (i := 3) sc__law_reach.nd rfl (.inl rfl)) (ebk_one (es_if (eb_cmp (o_lt (room0 hr)) (lt_w G.k) (nomark _) (ee_v 3) (ee_callB call_lenA (lenA_w G.k G.w) rfl G.b_len (by decide +kernel) (el_cons (ee_v 1) el_nil))) (ebk_one (es_for (L2.passes_of rfl) rfl (ei_tup G.k (ee_sub (ixA hu) (ix_w G.k G.w) (fun _ _ => rfl) (ee_v 0) (ee_sub (ixA hu) (ix_w G.k G.w) (fun _ _ => rfl) (ee_v 1) (ee_v 3)))) (eg_name (i := 4) sc__law_reach.nd rfl (.inl rfl)) (ebk_one (es_if (eb_cmp (o_notIn hu) (notIn_w G.k G.w) (by with_unfolding_all rfl) (ee_v 4) (ee_v 2)) (ebk_cons (es_asg ee_bl (eg_sub (setA hu) (setA_w G.k G.w) (ee_v 2) (ee_v 4))) (ebk_one (es_expr (ee_bm PySem.F.plainAttrs_list PySem.F.slot_list_append PySem.F.type_list_append mt_append isL_ty G.k app_w (ee_v 1) (el_cons (ee_v 4) el_nil))))) ebk_nil)))) ebk_nil))) (ebk_one (es_ret (ee_v 1))))))
abbrev s__law_least : Stmt := top 29
def m__law_least : DS := (dSeq (dAsg (dVar 0) (gTupD 4 (gConsD (gNam 1) (gConsD (gNam 2) (gConsD (gNam 3) (gConsD (gNam 4) gNilD)))))) (dSeq (dAsg (dCall F__law_reach (dCons (dVar 3) dNil)) (gNam 5)) (dSeq (dAsg dNewK (gNam 6)) (dSeq (dFor (dItL (dVar 5)) (gNam 7) (dAsg (dBin nIx (dVar 4) (dVar 7)) (gSubD nSetA (dVar 6) (dVar 7)))) (dSeq (dAsg (dLit (.int 0)) (gNam 8)) (dSeq (dFor (dRng1 (dCons (dBin nAdd (dCallF nLenA (dCons (dVar 5) dNil)) (dLit (.int 1))) dNil)) (gNam 9) (dSeq (dAsg dNewN (gNam 10)) (dSeq (dAsg dNewK (gNam 11)) (dSeq (dFor (dItL (dVar 5)) (gNam 7) (dSeq (dAsg (dBin nAdd (dTup (dCons (dBin nIx (dVar 6) (dVar 7)) dNil)) (dCallF nTup (dCons (dLC [12] (dItT (dBin nIx (dVar 3) (dVar 7))) (gNam 12) (dLit (.bl true)) (dBin nIx (dVar 6) (dVar 12))) dNil))) (gNam 13)) (dSeq (dIf (dBin (nIn true) (dVar 13) (dVar 10)) (dAsg (dCallF nLenA (dCons (dVar 10) dNil)) (gSubD nSetA (dVar 10) (dVar 13))) dSkip) (dAsg (dBin nIx (dVar 10) (dVar 13)) (gSubD nSetA (dVar 11) (dVar 7)))))) (dSeq (dAsg (dVar 11) (gNam 6)) (dSeq (dIf (dBin nEq (dCallF nLenA (dCons (dVar 10) dNil)) (dVar 8)) dBrk dSkip) (dAsg (dCallF nLenA (dCons (dVar 10) dNil)) (gNam 8)))))))) (dSeq (dAsg (dLst (dCons (dLit (.int 0)) dNil)) (gNam 14)) (dSeq (dAsg dNewK (gNam 15)) (dSeq (dAsg (dLit (.int 0)) (gSubD nSetA (dVar 15) (dBin nIx (dVar 6) (dLit (.int 0))))) (dSeq (dAsg (dLst dNil) (gNam 16)) (dSeq (dFor (dRng1 (dCons (dCallF nLenA (dCons (dVar 5) dNil)) dNil)) (gNam 17) (dIf (dBin nLt (dVar 17) (dCallF nLenA (dCons (dVar 14) dNil))) (dSeq (dAsg (dLst dNil) (gNam 18)) (dSeq (dFor (dItT (dBin nIx (dVar 3) (dBin nIx (dVar 14) (dVar 17)))) (gNam 12) (dSeq (dIf (dBin (nIn true) (dBin nIx (dVar 6) (dVar 12)) (dVar 15)) (dSeq (dAsg (dCallF nLenA (dCons (dVar 14) dNil)) (gSubD nSetA (dVar 15) (dBin nIx (dVar 6) (dVar 12)))) (dExpr (dMeth isL nApp (dVar 14) (dCons (dVar 12) dNil)))) dSkip) (dExpr (dMeth isL nApp (dVar 18) (dCons (dBin nIx (dVar 15) (dBin nIx (dVar 6) (dVar 12))) dNil))))) (dExpr (dMeth isL nApp (dVar 16) (dCons (dCallF nTup (dCons (dVar 18) dNil)) dNil))))) dSkip)) (dRet (dTup (dCons (dVar 1) (dCons (dVar 2) (dCons (dCallF nTup (dCons (dVar 16) dNil)) (dCons (dCallF nTup (dCons (dLC [7] (dItL (dVar 14)) (gNam 7) (dLit (.bl true)) (dBin nIx (dVar 4) (dVar 7))) dNil)) dNil)))))))))))))))))
def F__law_least : List T → Store → R T := runD 19 1 m__law_least
abbrev N__law_least : List Str := ["machine", "base", "tracks", "moves", "ends", "states", "kinds", "state", "many", "turn", "keys", "fresh", "after", "key", "line", "places", "rows", "at", "row"]
theorem sc__law_least : FnScope N__law_least ["machine"] (defScope s__law_least) := ⟨rfl, rfl, rfl, by decide +kernel, rfl, by decide +kernel, by decide +kernel⟩
theorem ok__law_least (G : Gx K mg W w) (r : FnR K mg W "_law_least" 29 s__law_least) (D__law_reach : FnD P w K mg base W 1 "_law_reach" 28 F__law_reach) : FnD P w K mg base W 2 "_law_least" 29 F__law_least := by
  refine fnd_of r sc__law_least rfl rfl (fun _ _ _ _ _ _ us hl => match us, hl with | [_], _ => rfl) fun cdv A outer s H E hr hg => ?_
  have hu := room65 hr
  have tk : L2N.Takes (cxOf (L2N.CX P w) P w K mg base N__law_least "_law_least" (defScope s__law_least) (W.fa 29) cdv A outer s H E) (wxD E) := L2N.takes_of (E := E) rfl rfl rfl rfl
  exact (ebk_cons (es_asg (ee_v 0) (eg_tup G.k rfl (egs_cons (eg_name (i := 1) sc__law_least.nd rfl (.inl rfl)) (egs_cons (eg_name (i := 2) sc__law_least.nd rfl (.inl rfl)) (egs_cons (eg_name (i := 3) sc__law_least.nd rfl (.inl rfl)) (egs_cons (eg_name (i := 4) sc__law_least.nd rfl (.inr rfl)) egs_nil)))) (n := 4))) (ebk_cons (es_set (i := 5) sc__law_least.nd rfl (.inl rfl) (ee_call (D__law_reach.at hr (by decide)) hg tk rfl (el_cons (ee_v 3) el_nil))) (ebk_cons (es_set (i := 6) sc__law_least.nd rfl (.inr rfl) ee_dnewK) (ebk_cons (es_for (L2.passes_of rfl) rfl (ei_lst G.k (ee_v 5)) (eg_name (i := 7) sc__law_least.nd rfl (.inl rfl)) (ebk_one (es_asg (ee_sub (ixA hu) (ix_w G.k G.w) (fun _ _ => rfl) (ee_v 4) (ee_v 7)) (eg_sub (setA hu) (setA_w G.k G.w) (ee_v 6) (ee_v 7))))) (ebk_cons (es_set (i := 8) sc__law_least.nd rfl (.inl rfl) ee_int) (ebk_cons (es_for (L2.passes_of rfl) rfl (ei_rng1 rfl G.b_range (el_cons (ee_bin o_add (add_w G.k) (ee_callB call_lenA (lenA_w G.k G.w) rfl G.b_len (by decide +kernel) (el_cons (ee_v 5) el_nil)) ee_int) el_nil)) (eg_name (i := 9) sc__law_least.nd rfl (.inl rfl)) (ebk_cons (es_set (i := 10) sc__law_least.nd rfl (.inl rfl) (ee_dnewN G.w)) (ebk_cons (es_set (i := 11) sc__law_least.nd rfl (.inl rfl) ee_dnewK) (ebk_cons (es_for (L2.passes_of rfl) rfl (ei_lst G.k (ee_v 5)) (eg_name (i := 7) sc__law_least.nd rfl (.inl rfl)) (ebk_cons (es_set (i := 13) sc__law_least.nd rfl (.inl rfl) (ee_bin o_add (add_w G.k) (ee_tup (el_cons (ee_sub (ixA hu) (ix_w G.k G.w) (fun _ _ => rfl) (ee_v 6) (ee_v 7)) el_nil)) (ee_callT call_tuple_of (tupc_w G.k) rfl G.b_tuple (by decide +kernel) (el_cons (ee_lc (own := [("after", 12)]) rfl sc__law_least.nd (ei_tup G.k (ee_sub (ixA hu) (ix_w G.k G.w) (fun _ _ => rfl) (ee_v 3) (ee_v 7))) (blkOk_by (N := N__law_least) (sc := (defScope s__law_least)) (by decide +kernel)) (fun _ _ _ _ _ => (ego_name (i := 12) sc__law_least.nd rfl (.inl rfl) (by decide))) (fun _ _ _ _ _ => ets_nil) (fun _ _ _ _ _ => (ee_sub (ixA hu) (ix_w G.k G.w) (fun _ _ => rfl) (ee_v 6) (ee_v 12)))) el_nil)))) (ebk_cons (es_if (eb_cmp (o_notIn hu) (notIn_w G.k G.w) (by with_unfolding_all rfl) (ee_v 13) (ee_v 10)) (ebk_one (es_asg (ee_callB call_lenA (lenA_w G.k G.w) rfl G.b_len (by decide +kernel) (el_cons (ee_v 10) el_nil)) (eg_sub (setA hu) (setA_w G.k G.w) (ee_v 10) (ee_v 13)))) ebk_nil) (ebk_one (es_asg (ee_sub (ixA hu) (ix_w G.k G.w) (fun _ _ => rfl) (ee_v 10) (ee_v 13)) (eg_sub (setA hu) (setA_w G.k G.w) (ee_v 11) (ee_v 7))))))) (ebk_cons (es_set (i := 6) sc__law_least.nd rfl (.inr rfl) (ee_v 11)) (ebk_cons (es_if (eb_cmp (op_eqD (Nat.lt_of_succ_lt hu)) (eq_w G.k) (nomark _) (ee_callB call_lenA (lenA_w G.k G.w) rfl G.b_len (by decide +kernel) (el_cons (ee_v 10) el_nil)) (ee_v 8)) (ebk_one es_break) ebk_nil) (ebk_one (es_set (i := 8) sc__law_least.nd rfl (.inl rfl) (ee_callB call_lenA (lenA_w G.k G.w) rfl G.b_len (by decide +kernel) (el_cons (ee_v 10) el_nil)))))))))) (ebk_cons (es_set (i := 14) sc__law_least.nd rfl (.inl rfl) (ee_lst (el_cons ee_int el_nil))) (ebk_cons (es_set (i := 15) sc__law_least.nd rfl (.inl rfl) ee_dnewK) (ebk_cons (es_asg ee_int (eg_sub (setA hu) (setA_w G.k G.w) (ee_v 15) (ee_sub (ixA hu) (ix_w G.k G.w) (fun _ _ => rfl) (ee_v 6) ee_int))) (ebk_cons (es_set (i := 16) sc__law_least.nd rfl (.inl rfl) (ee_lst el_nil)) (ebk_cons (es_for (L2.passes_of rfl) rfl (ei_rng1 rfl G.b_range (el_cons (ee_callB call_lenA (lenA_w G.k G.w) rfl G.b_len (by decide +kernel) (el_cons (ee_v 5) el_nil)) el_nil)) (eg_name (i := 17) sc__law_least.nd rfl (.inl rfl)) (ebk_one (es_if (eb_cmp (o_lt (room0 hr)) (lt_w G.k) (nomark _) (ee_v 17) (ee_callB call_lenA (lenA_w G.k G.w) rfl G.b_len (by decide +kernel) (el_cons (ee_v 14) el_nil))) (ebk_cons (es_set (i := 18) sc__law_least.nd rfl (.inl rfl) (ee_lst el_nil)) (ebk_cons (es_for (L2.passes_of rfl) rfl (ei_tup G.k (ee_sub (ixA hu) (ix_w G.k G.w) (fun _ _ => rfl) (ee_v 3) (ee_sub (ixA hu) (ix_w G.k G.w) (fun _ _ => rfl) (ee_v 14) (ee_v 17)))) (eg_name (i := 12) sc__law_least.nd rfl (.inl rfl)) (ebk_cons (es_if (eb_cmp (o_notIn hu) (notIn_w G.k G.w) (by with_unfolding_all rfl) (ee_sub (ixA hu) (ix_w G.k G.w) (fun _ _ => rfl) (ee_v 6) (ee_v 12)) (ee_v 15)) (ebk_cons (es_asg (ee_callB call_lenA (lenA_w G.k G.w) rfl G.b_len (by decide +kernel) (el_cons (ee_v 14) el_nil)) (eg_sub (setA hu) (setA_w G.k G.w) (ee_v 15) (ee_sub (ixA hu) (ix_w G.k G.w) (fun _ _ => rfl) (ee_v 6) (ee_v 12)))) (ebk_one (es_expr (ee_bm PySem.F.plainAttrs_list PySem.F.slot_list_append PySem.F.type_list_append mt_append isL_ty G.k app_w (ee_v 14) (el_cons (ee_v 12) el_nil))))) ebk_nil) (ebk_one (es_expr (ee_bm PySem.F.plainAttrs_list PySem.F.slot_list_append PySem.F.type_list_append mt_append isL_ty G.k app_w (ee_v 18) (el_cons (ee_sub (ixA hu) (ix_w G.k G.w) (fun _ _ => rfl) (ee_v 15) (ee_sub (ixA hu) (ix_w G.k G.w) (fun _ _ => rfl) (ee_v 6) (ee_v 12))) el_nil)))))) (ebk_one (es_expr (ee_bm PySem.F.plainAttrs_list PySem.F.slot_list_append PySem.F.type_list_append mt_append isL_ty G.k app_w (ee_v 16) (el_cons (ee_callT call_tuple_of (tupc_w G.k) rfl G.b_tuple (by decide +kernel) (el_cons (ee_v 18) el_nil)) el_nil)))))) ebk_nil))) (ebk_one (es_ret (ee_tup (el_cons (ee_v 1) (el_cons (ee_v 2) (el_cons (ee_callT call_tuple_of (tupc_w G.k) rfl G.b_tuple (by decide +kernel) (el_cons (ee_v 16) el_nil)) (el_cons (ee_callT call_tuple_of (tupc_w G.k) rfl G.b_tuple (by decide +kernel) (el_cons (ee_lc (own := [("state", 7)]) rfl sc__law_least.nd (ei_lst G.k (ee_v 14)) (blkOk_by (N := N__law_least) (sc := (defScope s__law_least)) (by decide +kernel)) (fun _ _ _ _ _ => (ego_name (i := 7) sc__law_least.nd rfl (.inl rfl) (by decide))) (fun _ _ _ _ _ => ets_nil) (fun _ _ _ _ _ => (ee_sub (ixA hu) (ix_w G.k G.w) (fun _ _ => rfl) (ee_v 4) (ee_v 7)))) el_nil)) el_nil))))))))))))))))))
abbrev s__law_right : Stmt := top 39
def m__law_right : DS := (dSeq (dIf (dOr (dBin nNe (dCallF nLst (dCons (dVar 2) dNil)) (dCallF nSortSet (dCons (dVar 2) dNil))) (dBin (nIn true) (dTup (dCons (dLit (.int 0)) (dCons (dLit (.int 0)) dNil))) (dVar 2))) (dRet (dLit (.bl false))) dSkip) (dSeq (dFor (dItT (dVar 2)) (gTupD 2 (gConsD (gNam 3) (gConsD (gNam 4) gNilD))) (dSeq (dIf (dOr (dUn nNot (dChain nLe nLt (dLit (.int 0)) (dVar 3) (dCallF nLenA (dCons (dBin nIx (dVar 0) (dLit (.int 2))) dNil)))) (dOr (dUn nNot (dChain nLe nLt (dLit (.int 0)) (dVar 4) (dCallF nLenA (dCons (dBin nIx (dVar 1) (dLit (.int 2))) dNil)))) (dBin nNe (dBin nIx (dBin nIx (dVar 0) (dLit (.int 3))) (dVar 3)) (dBin nIx (dBin nIx (dVar 1) (dLit (.int 3))) (dVar 4))))) (dRet (dLit (.bl false))) dSkip) (dIf (dCallF nAny (dCons (dLC [5] (dRng1 (dCons (dCallF nLenA (dCons (dBin nIx (dBin nIx (dVar 0) (dLit (.int 2))) (dVar 3)) dNil)) dNil)) (gNam 5) (dLit (.bl true)) (dBin (nIn true) (dTup (dCons (dBin nIx (dBin nIx (dBin nIx (dVar 0) (dLit (.int 2))) (dVar 3)) (dVar 5)) (dCons (dBin nIx (dBin nIx (dBin nIx (dVar 1) (dLit (.int 2))) (dVar 4)) (dVar 5)) dNil))) (dVar 2))) dNil)) (dRet (dLit (.bl false))) dSkip))) (dRet (dLit (.bl true)))))
def F__law_right : List T → Store → R T := runD 6 3 m__law_right
abbrev N__law_right : List Str := ["machine", "other", "paper", "one", "two", "k"]
theorem sc__law_right : FnScope N__law_right ["machine", "other", "paper"] (defScope s__law_right) := ⟨rfl, rfl, rfl, by decide +kernel, rfl, by decide +kernel, by decide +kernel⟩
theorem ok__law_right (G : Gx K mg W w) (r : FnR K mg W "_law_right" 39 s__law_right)  : FnD P w K mg base W 1 "_law_right" 39 F__law_right := by
  refine fnd_of r sc__law_right rfl rfl (fun _ _ _ _ _ _ us hl => match us, hl with | [_, _, _], _ => rfl) fun cdv A outer s H E hr hg => ?_
  have hu := room65 hr
  exact (ebk_cons (es_if (eb_w (ew_or (eb_cmp (op_neD (Nat.lt_of_succ_lt hu)) (ne_w G.k) (nomark _) (ee_callT call_list_of (lst_w G.k) rfl G.b_list (by decide +kernel) (el_cons (ee_v 2) el_nil)) (ee_sortSet rfl hu G.k rfl G.b_sorted rfl G.b_set (el_cons (ee_v 2) el_nil))) (ew_or1 (eb_cmp (o_notIn hu) (notIn_w G.k G.w) (by with_unfolding_all rfl) (ee_tup (el_cons ee_int (el_cons ee_int el_nil))) (ee_v 2))))) (ebk_one (es_ret ee_bl)) ebk_nil) (ebk_cons (es_for (L2.passes_of rfl) rfl (ei_tup G.k (ee_v 2)) (eg_tup G.k rfl (egs_cons (eg_name (i := 3) sc__law_right.nd rfl (.inr rfl)) (egs_cons (eg_name (i := 4) sc__law_right.nd rfl (.inr rfl)) egs_nil)) (n := 2)) (ebk_cons (es_if (eb_w (ew_or (eb_not (eb_chain op_le le_w (o_lt (room0 hr)) (lt_w G.k) ee_int (ee_v 3) (ee_callB call_lenA (lenA_w G.k G.w) rfl G.b_len (by decide +kernel) (el_cons (ee_sub (ixA hu) (ix_w G.k G.w) (fun _ _ => rfl) (ee_v 0) ee_int) el_nil)))) (ew_or (eb_not (eb_chain op_le le_w (o_lt (room0 hr)) (lt_w G.k) ee_int (ee_v 4) (ee_callB call_lenA (lenA_w G.k G.w) rfl G.b_len (by decide +kernel) (el_cons (ee_sub (ixA hu) (ix_w G.k G.w) (fun _ _ => rfl) (ee_v 1) ee_int) el_nil)))) (ew_or1 (eb_cmp (op_neD (Nat.lt_of_succ_lt hu)) (ne_w G.k) (nomark _) (ee_sub (ixA hu) (ix_w G.k G.w) (fun _ _ => rfl) (ee_sub (ixA hu) (ix_w G.k G.w) (fun _ _ => rfl) (ee_v 0) ee_int) (ee_v 3)) (ee_sub (ixA hu) (ix_w G.k G.w) (fun _ _ => rfl) (ee_sub (ixA hu) (ix_w G.k G.w) (fun _ _ => rfl) (ee_v 1) ee_int) (ee_v 4))))))) (ebk_one (es_ret ee_bl)) ebk_nil) (ebk_one (es_if (eb_val (ee_callB (cr_any rfl) (any_w G.k) rfl G.b_any (by decide +kernel) (el_cons (ee_lc (own := [("k", 5)]) rfl sc__law_right.nd (ei_rng1 rfl G.b_range (el_cons (ee_callB call_lenA (lenA_w G.k G.w) rfl G.b_len (by decide +kernel) (el_cons (ee_sub (ixA hu) (ix_w G.k G.w) (fun _ _ => rfl) (ee_sub (ixA hu) (ix_w G.k G.w) (fun _ _ => rfl) (ee_v 0) ee_int) (ee_v 3)) el_nil)) el_nil)) (blkOk_by (N := N__law_right) (sc := (defScope s__law_right)) (by decide +kernel)) (fun _ _ _ _ _ => (ego_name (i := 5) sc__law_right.nd rfl (.inl rfl) (by decide))) (fun _ _ _ _ _ => ets_nil) (fun _ _ _ _ _ => (ee_cmp (o_notIn hu) (notIn_w G.k G.w) (by with_unfolding_all rfl) (ee_tup (el_cons (ee_sub (ixA hu) (ix_w G.k G.w) (fun _ _ => rfl) (ee_sub (ixA hu) (ix_w G.k G.w) (fun _ _ => rfl) (ee_sub (ixA hu) (ix_w G.k G.w) (fun _ _ => rfl) (ee_v 0) ee_int) (ee_v 3)) (ee_v 5)) (el_cons (ee_sub (ixA hu) (ix_w G.k G.w) (fun _ _ => rfl) (ee_sub (ixA hu) (ix_w G.k G.w) (fun _ _ => rfl) (ee_sub (ixA hu) (ix_w G.k G.w) (fun _ _ => rfl) (ee_v 1) ee_int) (ee_v 4)) (ee_v 5)) el_nil))) (ee_v 2)))) el_nil))) (ebk_one (es_ret ee_bl)) ebk_nil)))) (ebk_one (es_ret ee_bl))))
abbrev s__law_bent : Stmt := top 40
def m__law_bent : DS := (dSeq (dIf (dBin nEq (dCallF nLenA (dCons (dVar 3) dNil)) (dLit (.int 0))) (dRet (dTup (dCons (dTup (dCons (dLit (.int 0)) (dCons (dLit (.int 0)) dNil))) dNil))) dSkip) (dSeq (dAsg (dCall F__law_next (dCons (dVar 0) (dCons (dCallF nLenA (dCons (dVar 3) dNil)) dNil))) (gNam 4)) (dSeq (dAsg (dBin nIx (dLst (dCons (dTup (dCons (dCall F__law_next (dCons (dVar 0) (dCons (dCallF nLenA (dCons (dBin nIx (dVar 1) (dLit (.int 2))) dNil)) dNil))) (dCons (dCall F__law_next (dCons (dVar 0) (dCons (dCallF nLenA (dCons (dBin nIx (dVar 2) (dLit (.int 2))) dNil)) dNil))) dNil))) (dCons (dTup (dCons (dCallF nLenA (dCons (dBin nIx (dVar 1) (dLit (.int 2))) dNil)) (dCons (dLit (.int 0)) dNil))) (dCons (dTup (dCons (dLit (.int 0)) (dCons (dCallF nLenA (dCons (dBin nIx (dVar 2) (dLit (.int 2))) dNil)) dNil))) (dCons (dTup (dCons (dUn nNeg (dLit (.int 1))) (dCons (dLit (.int 0)) dNil))) dNil))))) (dCall F__law_next (dCons (dVar 0) (dCons (dLit (.int 4)) dNil)))) (gNam 5)) (dSeq (dAsg (dLst (dCons (dBin nAdd (dSlc nSlc (dVar 3) none (some (dVar 4))) (dSlc nSlc (dVar 3) (some (dBin nAdd (dVar 4) (dLit (.int 1)))) none)) (dCons (dCallF nTup (dCons (dCallF nSortSet (dCons (dBin nAdd (dVar 3) (dTup (dCons (dVar 5) dNil))) dNil)) dNil)) (dCons (dBin nAdd (dSlc nSlc (dVar 3) none (some (dBin nAdd (dVar 4) (dLit (.int 1))))) (dSlc nSlc (dVar 3) (some (dVar 4)) none)) (dCons (dUn nRev (dVar 3)) dNil))))) (gNam 6)) (dSeq (dExpr (dMeth isL nExt (dVar 6) (dCons (dLst (dCons (dCallF nTup (dCons (dLC [7, 8] (dItT (dVar 3)) (gTupD 2 (gConsD (gNam 7) (gConsD (gNam 8) gNilD))) (dLit (.bl true)) (dTup (dCons (dVar 8) (dCons (dVar 7) dNil)))) dNil)) (dCons (dBin nAdd (dBin nAdd (dSlc nSlc (dVar 3) none (some (dVar 4))) (dTup (dCons (dVar 5) dNil))) (dSlc nSlc (dVar 3) (some (dBin nAdd (dVar 4) (dLit (.int 1)))) none)) dNil))) dNil))) (dRet (dBin nIx (dVar 6) (dBin nIx (dLst (dCons (dLit (.int 0)) (dCons (dLit (.int 0)) (dCons (dLit (.int 1)) (dCons (dLit (.int 1)) (dCons (dLit (.int 2)) (dCons (dLit (.int 3)) (dCons (dLit (.int 4)) (dCons (dLit (.int 5)) dNil))))))))) (dCall F__law_next (dCons (dVar 0) (dCons (dLit (.int 8)) dNil)))))))))))
def F__law_bent : List T → Store → R T := runD 9 4 m__law_bent
abbrev N__law_bent : List Str := ["state", "machine", "other", "paper", "at", "pair", "bents", "one", "two"]
theorem sc__law_bent : FnScope N__law_bent ["state", "machine", "other", "paper"] (defScope s__law_bent) := ⟨rfl, rfl, rfl, by decide +kernel, rfl, by decide +kernel, by decide +kernel⟩
theorem ok__law_bent (G : Gx K mg W w) (r : FnR K mg W "_law_bent" 40 s__law_bent) (D__law_next : FnD P w K mg base W 1 "_law_next" 20 F__law_next) : FnD P w K mg base W 2 "_law_bent" 40 F__law_bent := by
  refine fnd_of r sc__law_bent rfl rfl (fun _ _ _ _ _ _ us hl => match us, hl with | [_, _, _, _], _ => rfl) fun cdv A outer s H E hr hg => ?_
  have hu := room65 hr
  have tk : L2N.Takes (cxOf (L2N.CX P w) P w K mg base N__law_bent "_law_bent" (defScope s__law_bent) (W.fa 40) cdv A outer s H E) (wxD E) := L2N.takes_of (E := E) rfl rfl rfl rfl
  exact (ebk_cons (es_if (eb_cmp (op_eqD (Nat.lt_of_succ_lt hu)) (eq_w G.k) (nomark _) (ee_callB call_lenA (lenA_w G.k G.w) rfl G.b_len (by decide +kernel) (el_cons (ee_v 3) el_nil)) ee_int) (ebk_one (es_ret (ee_tup (el_cons (ee_tup (el_cons ee_int (el_cons ee_int el_nil))) el_nil)))) ebk_nil) (ebk_cons (es_set (i := 4) sc__law_bent.nd rfl (.inl rfl) (ee_call (D__law_next.at hr (by decide)) hg tk rfl (el_cons (ee_v 0) (el_cons (ee_callB call_lenA (lenA_w G.k G.w) rfl G.b_len (by decide +kernel) (el_cons (ee_v 3) el_nil)) el_nil)))) (ebk_cons (es_set (i := 5) sc__law_bent.nd rfl (.inl rfl) (ee_sub (ixA hu) (ix_w G.k G.w) (fun _ _ => rfl) (ee_lst (el_cons (ee_tup (el_cons (ee_call (D__law_next.at hr (by decide)) hg tk rfl (el_cons (ee_v 0) (el_cons (ee_callB call_lenA (lenA_w G.k G.w) rfl G.b_len (by decide +kernel) (el_cons (ee_sub (ixA hu) (ix_w G.k G.w) (fun _ _ => rfl) (ee_v 1) ee_int) el_nil)) el_nil))) (el_cons (ee_call (D__law_next.at hr (by decide)) hg tk rfl (el_cons (ee_v 0) (el_cons (ee_callB call_lenA (lenA_w G.k G.w) rfl G.b_len (by decide +kernel) (el_cons (ee_sub (ixA hu) (ix_w G.k G.w) (fun _ _ => rfl) (ee_v 2) ee_int) el_nil)) el_nil))) el_nil))) (el_cons (ee_tup (el_cons (ee_callB call_lenA (lenA_w G.k G.w) rfl G.b_len (by decide +kernel) (el_cons (ee_sub (ixA hu) (ix_w G.k G.w) (fun _ _ => rfl) (ee_v 1) ee_int) el_nil)) (el_cons ee_int el_nil))) (el_cons (ee_tup (el_cons ee_int (el_cons (ee_callB call_lenA (lenA_w G.k G.w) rfl G.b_len (by decide +kernel) (el_cons (ee_sub (ixA hu) (ix_w G.k G.w) (fun _ _ => rfl) (ee_v 2) ee_int) el_nil)) el_nil))) (el_cons (ee_tup (el_cons (ee_un un_neg neg_w ee_int) (el_cons ee_int el_nil))) el_nil))))) (ee_call (D__law_next.at hr (by decide)) hg tk rfl (el_cons (ee_v 0) (el_cons ee_int el_nil))))) (ebk_cons (es_set (i := 6) sc__law_bent.nd rfl (.inl rfl) (ee_lst (el_cons (ee_bin o_add (add_w G.k) (ee_slc o_slc (slc_w G.k) (ee_v 3) EO.none (EO.some (ee_v 4))) (ee_slc o_slc (slc_w G.k) (ee_v 3) (EO.some (ee_bin o_add (add_w G.k) (ee_v 4) ee_int)) EO.none)) (el_cons (ee_callT call_tuple_of (tupc_w G.k) rfl G.b_tuple (by decide +kernel) (el_cons (ee_sortSet rfl hu G.k rfl G.b_sorted rfl G.b_set (el_cons (ee_bin o_add (add_w G.k) (ee_v 3) (ee_tup (el_cons (ee_v 5) el_nil))) el_nil)) el_nil)) (el_cons (ee_bin o_add (add_w G.k) (ee_slc o_slc (slc_w G.k) (ee_v 3) EO.none (EO.some (ee_bin o_add (add_w G.k) (ee_v 4) ee_int))) (ee_slc o_slc (slc_w G.k) (ee_v 3) (EO.some (ee_v 4)) EO.none)) (el_cons (ee_rev G.k (ee_v 3)) el_nil)))))) (ebk_cons (es_expr (ee_bm PySem.F.plainAttrs_list PySem.F.slot_list_extend PySem.F.type_list_extend mt_extend isL_ty G.k ext_w (ee_v 6) (el_cons (ee_lst (el_cons (ee_callT call_tuple_of (tupc_w G.k) rfl G.b_tuple (by decide +kernel) (el_cons (ee_lc (own := [("one", 7), ("two", 8)]) rfl sc__law_bent.nd (ei_tup G.k (ee_v 3)) (blkOk_by (N := N__law_bent) (sc := (defScope s__law_bent)) (by decide +kernel)) (fun _ _ _ _ _ => (ego_tup G.k rfl (egos_cons (ego_name (i := 7) sc__law_bent.nd rfl (.inl rfl) (by decide)) (egos_cons (ego_name (i := 8) sc__law_bent.nd rfl (.inl rfl) (by decide)) egos_nil)) (n := 2))) (fun _ _ _ _ _ => ets_nil) (fun _ _ _ _ _ => (ee_tup (el_cons (ee_v 8) (el_cons (ee_v 7) el_nil))))) el_nil)) (el_cons (ee_bin o_add (add_w G.k) (ee_bin o_add (add_w G.k) (ee_slc o_slc (slc_w G.k) (ee_v 3) EO.none (EO.some (ee_v 4))) (ee_tup (el_cons (ee_v 5) el_nil))) (ee_slc o_slc (slc_w G.k) (ee_v 3) (EO.some (ee_bin o_add (add_w G.k) (ee_v 4) ee_int)) EO.none)) el_nil))) el_nil))) (ebk_one (es_ret (ee_sub (ixA hu) (ix_w G.k G.w) (fun _ _ => rfl) (ee_v 6) (ee_sub (ixA hu) (ix_w G.k G.w) (fun _ _ => rfl) (ee_lst (el_cons ee_int (el_cons ee_int (el_cons ee_int (el_cons ee_int (el_cons ee_int (el_cons ee_int (el_cons ee_int (el_cons ee_int el_nil))))))))) (ee_call (D__law_next.at hr (by decide)) hg tk rfl (el_cons (ee_v 0) (el_cons ee_int el_nil))))))))))))
abbrev s__law_same : Stmt := top 18
def m__law_same : DS := (dRet (dBin nEq (dCallF nRepr (dCons (dLst (dCons (dVar 0) dNil)) dNil)) (dCallF nRepr (dCons (dLst (dCons (dVar 1) dNil)) dNil))))
def F__law_same : List T → Store → R T := runD 2 2 m__law_same
abbrev N__law_same : List Str := ["told", "due"]
theorem sc__law_same : FnScope N__law_same ["told", "due"] (defScope s__law_same) := ⟨rfl, rfl, rfl, by decide +kernel, rfl, by decide +kernel, by decide +kernel⟩
theorem ok__law_same (G : Gx K mg W w) (r : FnR K mg W "_law_same" 18 s__law_same)  : FnD P w K mg base W 1 "_law_same" 18 F__law_same := by
  refine fnd_of r sc__law_same rfl rfl (fun _ _ _ _ _ _ us hl => match us, hl with | [_, _], _ => rfl) fun cdv A outer s H E hr hg => ?_
  have hu := room65 hr
  exact (ebk_one (es_ret (ee_cmp (op_eqD (Nat.lt_of_succ_lt hu)) (eq_w G.k) (nomark _) (ee_callB (call_repr hg hu) (repr_w G.k) rfl G.b_repr (by decide +kernel) (el_cons (ee_lst (el_cons (ee_v 0) el_nil)) el_nil)) (ee_callB (call_repr hg hu) (repr_w G.k) rfl G.b_repr (by decide +kernel) (el_cons (ee_lst (el_cons (ee_v 1) el_nil)) el_nil)))))
abbrev s_check_size : Stmt := top 13
def m_check_size : DS := (dIf (dOr (dUn nNot (dChain nLe nLe (dLit (.int 2)) (dVar 0) (dLit (.int 10)))) (dUn nNot (dChain nLe nLe (dLit (.int 1)) (dVar 1) (dLit (.int 3))))) (dRaise 1) dSkip)
def F_check_size : List T → Store → R T := runD 2 2 m_check_size
abbrev N_check_size : List Str := ["base", "tracks"]
theorem sc_check_size : FnScope N_check_size ["base", "tracks"] (defScope s_check_size) := ⟨rfl, rfl, rfl, by decide +kernel, rfl, by decide +kernel, by decide +kernel⟩
theorem ok_check_size (G : Gx K mg W w) (r : FnR K mg W "check_size" 13 s_check_size)  : FnD P w K mg base W 1 "check_size" 13 F_check_size := by
  refine fnd_of r sc_check_size rfl rfl (fun _ _ _ _ _ _ us hl => match us, hl with | [_, _], _ => rfl) fun cdv A outer s H E hr hg => ?_
  have hu := room65 hr
  have tk : L2N.Takes (cxOf (L2N.CX P w) P w K mg base N_check_size "check_size" (defScope s_check_size) (W.fa 13) cdv A outer s H E) (wxD E) := L2N.takes_of (E := E) rfl rfl rfl rfl
  exact (ebk_one (es_if (eb_w (ew_or (eb_not (eb_chain op_le le_w op_le le_w ee_int (ee_v 0) (ee_globI G.g_MAX_BASE rfl))) (ew_or1 (eb_not (eb_chain op_le le_w op_le le_w ee_int (ee_v 1) (ee_globI G.g_MAX_TRACKS rfl)))))) (ebk_one (es_raise rfl tk (G.c_NotAllowed.mk' PySem.F.excBase_ValueError rfl))) ebk_nil))
abbrev s_power : Stmt := top 12
def m_power : DS := (dSeq (dAsg (dLit (.int 1)) (gNam 2)) (dSeq (dFor (dRng1 (dCons (dVar 1) dNil)) (gNam 3) (dAsg (dBin nMul (dVar 2) (dVar 0)) (gNam 2))) (dRet (dVar 2))))
def F_power : List T → Store → R T := runD 4 2 m_power
abbrev N_power : List Str := ["base", "times", "found", "_"]
theorem sc_power : FnScope N_power ["base", "times"] (defScope s_power) := ⟨rfl, rfl, rfl, by decide +kernel, rfl, by decide +kernel, by decide +kernel⟩
theorem ok_power (G : Gx K mg W w) (r : FnR K mg W "power" 12 s_power)  : FnD P w K mg base W 1 "power" 12 F_power := by
  refine fnd_of r sc_power rfl rfl (fun _ _ _ _ _ _ us hl => match us, hl with | [_, _], _ => rfl) fun cdv A outer s H E hr hg => ?_
  have hu := room65 hr
  exact (ebk_cons (es_set (i := 2) sc_power.nd rfl (.inl rfl) ee_int) (ebk_cons (es_for (L2.passes_of rfl) rfl (ei_rng1 rfl G.b_range (el_cons (ee_v 1) el_nil)) (eg_name (i := 3) sc_power.nd rfl (.inl rfl)) (ebk_one (es_set (i := 2) sc_power.nd rfl (.inl rfl) (ee_bin o_mul (mul_w G.k) (ee_v 2) (ee_v 0))))) (ebk_one (es_ret (ee_v 2)))))
abbrev s_check_machine : Stmt := top 14
def m_check_machine : DS := (dSeq (dAsg (dVar 0) (gTupD 4 (gConsD (gNam 1) (gConsD (gNam 2) (gConsD (gNam 3) (gConsD (gNam 4) gNilD)))))) (dSeq (dExpr (dCall F_check_size (dCons (dVar 1) (dCons (dVar 2) dNil)))) (dSeq (dIf (dOr (dUn nNot (dChain nLe nLe (dLit (.int 1)) (dCallF nLenA (dCons (dVar 3) dNil)) (dLit (.int 200)))) (dOr (dBin nNe (dCallF nLenA (dCons (dVar 4) dNil)) (dCallF nLenA (dCons (dVar 3) dNil))) (dUn nNot (dCallF nAll (dCons (dLC [7] (dItT (dVar 4)) (gNam 7) (dLit (.bl true)) (dBin (nIn false) (dVar 7) (dTup (dCons (dLit (.int 0)) (dCons (dLit (.int 1)) dNil))))) dNil))))) (dRaise 1) dSkip) (dFor (dEnm (dCons (dVar 3) dNil)) (gTupD 2 (gConsD (gNam 5) (gConsD (gNam 6) gNilD))) (dSeq (dIf (dOr (dBin nNe (dCallF nLenA (dCons (dVar 6) dNil)) (dCall F_power (dCons (dVar 1) (dCons (dVar 2) dNil)))) (dUn nNot (dCallF nAll (dCons (dLC [8] (dItT (dVar 6)) (gNam 8) (dLit (.bl true)) (dChain nLe nLt (dLit (.int 0)) (dVar 8) (dCallF nLenA (dCons (dVar 3) dNil)))) dNil)))) (dRaise 1) dSkip) (dIf (dBin nNe (dBin nIx (dVar 4) (dBin nIx (dVar 6) (dLit (.int 0)))) (dBin nIx (dVar 4) (dVar 5))) (dRaise 1) dSkip))))))
def F_check_machine : List T → Store → R T := runD 9 1 m_check_machine
abbrev N_check_machine : List Str := ["machine", "base", "tracks", "moves", "ends", "state", "row", "end", "after"]
theorem sc_check_machine : FnScope N_check_machine ["machine"] (defScope s_check_machine) := ⟨rfl, rfl, rfl, by decide +kernel, rfl, by decide +kernel, by decide +kernel⟩
theorem ok_check_machine (G : Gx K mg W w) (r : FnR K mg W "check_machine" 14 s_check_machine) (D_check_size : FnD P w K mg base W 1 "check_size" 13 F_check_size) (D_power : FnD P w K mg base W 1 "power" 12 F_power) : FnD P w K mg base W 2 "check_machine" 14 F_check_machine := by
  refine fnd_of r sc_check_machine rfl rfl (fun _ _ _ _ _ _ us hl => match us, hl with | [_], _ => rfl) fun cdv A outer s H E hr hg => ?_
  have hu := room65 hr
  have tk : L2N.Takes (cxOf (L2N.CX P w) P w K mg base N_check_machine "check_machine" (defScope s_check_machine) (W.fa 14) cdv A outer s H E) (wxD E) := L2N.takes_of (E := E) rfl rfl rfl rfl
  exact (ebk_cons (es_asg (ee_v 0) (eg_tup G.k rfl (egs_cons (eg_name (i := 1) sc_check_machine.nd rfl (.inl rfl)) (egs_cons (eg_name (i := 2) sc_check_machine.nd rfl (.inl rfl)) (egs_cons (eg_name (i := 3) sc_check_machine.nd rfl (.inr rfl)) (egs_cons (eg_name (i := 4) sc_check_machine.nd rfl (.inl rfl)) egs_nil)))) (n := 4))) (ebk_cons (es_expr (ee_call (D_check_size.at hr (by decide)) hg tk rfl (el_cons (ee_v 1) (el_cons (ee_v 2) el_nil)))) (ebk_cons (es_if (eb_w (ew_or (eb_not (eb_chain op_le le_w op_le le_w ee_int (ee_callB call_lenA (lenA_w G.k G.w) rfl G.b_len (by decide +kernel) (el_cons (ee_v 3) el_nil)) (ee_globI G.g_MAX_STATES rfl))) (ew_or (eb_cmp (op_neD (Nat.lt_of_succ_lt hu)) (ne_w G.k) (nomark _) (ee_callB call_lenA (lenA_w G.k G.w) rfl G.b_len (by decide +kernel) (el_cons (ee_v 4) el_nil)) (ee_callB call_lenA (lenA_w G.k G.w) rfl G.b_len (by decide +kernel) (el_cons (ee_v 3) el_nil))) (ew_or1 (eb_not (eb_val (ee_callB (cr_all rfl) (all_w G.k) rfl G.b_all (by decide +kernel) (el_cons (ee_lc (own := [("end", 7)]) rfl sc_check_machine.nd (ei_tup G.k (ee_v 4)) (blkOk_by (N := N_check_machine) (sc := (defScope s_check_machine)) (by decide +kernel)) (fun _ _ _ _ _ => (ego_name (i := 7) sc_check_machine.nd rfl (.inl rfl) (by decide))) (fun _ _ _ _ _ => ets_nil) (fun _ _ _ _ _ => (ee_cmp (o_in hu) (in_w G.k G.w) (by with_unfolding_all rfl) (ee_v 7) (ee_tup (el_cons ee_int (el_cons ee_int el_nil)))))) el_nil)))))))) (ebk_one (es_raise rfl tk (G.c_NotAllowed.mk' PySem.F.excBase_ValueError rfl))) ebk_nil) (ebk_one (es_for (L2.passes_of rfl) rfl (ei_enm G.k rfl G.b_enumerate (el_cons (ee_v 3) el_nil)) (eg_tup G.k rfl (egs_cons (eg_name (i := 5) sc_check_machine.nd rfl (.inl rfl)) (egs_cons (eg_name (i := 6) sc_check_machine.nd rfl (.inl rfl)) egs_nil)) (n := 2)) (ebk_cons (es_if (eb_w (ew_or (eb_cmp (op_neD (Nat.lt_of_succ_lt hu)) (ne_w G.k) (nomark _) (ee_callB call_lenA (lenA_w G.k G.w) rfl G.b_len (by decide +kernel) (el_cons (ee_v 6) el_nil)) (ee_call (D_power.at hr (by decide)) hg tk rfl (el_cons (ee_v 1) (el_cons (ee_v 2) el_nil)))) (ew_or1 (eb_not (eb_val (ee_callB (cr_all rfl) (all_w G.k) rfl G.b_all (by decide +kernel) (el_cons (ee_lc (own := [("after", 8)]) rfl sc_check_machine.nd (ei_tup G.k (ee_v 6)) (blkOk_by (N := N_check_machine) (sc := (defScope s_check_machine)) (by decide +kernel)) (fun _ _ _ _ _ => (ego_name (i := 8) sc_check_machine.nd rfl (.inl rfl) (by decide))) (fun _ _ _ _ _ => ets_nil) (fun _ _ _ _ _ => (ee_chain op_le le_w (o_lt (room0 hr)) (lt_w G.k) ee_int (ee_v 8) (ee_callB call_lenA (lenA_w G.k G.w) rfl G.b_len (by decide +kernel) (el_cons (ee_v 3) el_nil))))) el_nil))))))) (ebk_one (es_raise rfl tk (G.c_NotAllowed.mk' PySem.F.excBase_ValueError rfl))) ebk_nil) (ebk_one (es_if (eb_cmp (op_neD (Nat.lt_of_succ_lt hu)) (ne_w G.k) (nomark _) (ee_sub (ixA hu) (ix_w G.k G.w) (fun _ _ => rfl) (ee_v 4) (ee_sub (ixA hu) (ix_w G.k G.w) (fun _ _ => rfl) (ee_v 6) ee_int)) (ee_sub (ixA hu) (ix_w G.k G.w) (fun _ _ => rfl) (ee_v 4) (ee_v 5))) (ebk_one (es_raise rfl tk (G.c_NotAllowed.mk' PySem.F.excBase_ValueError rfl))) ebk_nil))))))))
abbrev s_check_like : Stmt := top 15
def m_check_like : DS := (dSeq (dExpr (dCall F_check_machine (dCons (dVar 0) dNil))) (dSeq (dExpr (dCall F_check_machine (dCons (dVar 1) dNil))) (dIf (dBin nNe (dSlc nSlc (dVar 0) none (some (dLit (.int 2)))) (dSlc nSlc (dVar 1) none (some (dLit (.int 2))))) (dRaise 1) dSkip)))
def F_check_like : List T → Store → R T := runD 2 2 m_check_like
abbrev N_check_like : List Str := ["machine", "other"]
theorem sc_check_like : FnScope N_check_like ["machine", "other"] (defScope s_check_like) := ⟨rfl, rfl, rfl, by decide +kernel, rfl, by decide +kernel, by decide +kernel⟩
theorem ok_check_like (G : Gx K mg W w) (r : FnR K mg W "check_like" 15 s_check_like) (D_check_machine : FnD P w K mg base W 2 "check_machine" 14 F_check_machine) : FnD P w K mg base W 3 "check_like" 15 F_check_like := by
  refine fnd_of r sc_check_like rfl rfl (fun _ _ _ _ _ _ us hl => match us, hl with | [_, _], _ => rfl) fun cdv A outer s H E hr hg => ?_
  have hu := room65 hr
  have tk : L2N.Takes (cxOf (L2N.CX P w) P w K mg base N_check_like "check_like" (defScope s_check_like) (W.fa 15) cdv A outer s H E) (wxD E) := L2N.takes_of (E := E) rfl rfl rfl rfl
  exact (ebk_cons (es_expr (ee_call (D_check_machine.at hr (by decide)) hg tk rfl (el_cons (ee_v 0) el_nil))) (ebk_cons (es_expr (ee_call (D_check_machine.at hr (by decide)) hg tk rfl (el_cons (ee_v 1) el_nil))) (ebk_one (es_if (eb_cmp (op_neD (Nat.lt_of_succ_lt hu)) (ne_w G.k) (nomark _) (ee_slc o_slc (slc_w G.k) (ee_v 0) EO.none (EO.some ee_int)) (ee_slc o_slc (slc_w G.k) (ee_v 1) EO.none (EO.some ee_int))) (ebk_one (es_raise rfl tk (G.c_NotAllowed.mk' PySem.F.excBase_ValueError rfl))) ebk_nil))))
abbrev s_judge_alike : Stmt := top 16
def m_judge_alike : DS := (dSeq (dExpr (dCall F_check_like (dCons (dVar 0) (dCons (dVar 1) dNil)))) (dSeq (dAsg (dDCN [6] (dItT (dVar 2)) (gNam 6) (dLit (.bl true)) (dVar 6) (dLit (.bl true))) (gNam 3)) (dSeq (dIf (dOr (dBin (nIn true) (dTup (dCons (dLit (.int 0)) (dCons (dLit (.int 0)) dNil))) (dVar 3)) (dUn nNot (dCallF nAll (dCons (dLC [4, 5] (dZip (dCons (dVar 2) (dCons (dSlc nSlc (dVar 2) (some (dLit (.int 1))) none) dNil))) (gTupD 2 (gConsD (gNam 4) (gConsD (gNam 5) gNilD))) (dLit (.bl true)) (dBin nLt (dVar 4) (dVar 5))) dNil)))) (dRet (dLit (.bl false))) dSkip) (dSeq (dFor (dItT (dVar 2)) (gTupD 2 (gConsD (gNam 4) (gConsD (gNam 5) gNilD))) (dSeq (dIf (dOr (dUn nNot (dChain nLe nLt (dLit (.int 0)) (dVar 4) (dCallF nLenA (dCons (dBin nIx (dVar 0) (dLit (.int 2))) dNil)))) (dOr (dUn nNot (dChain nLe nLt (dLit (.int 0)) (dVar 5) (dCallF nLenA (dCons (dBin nIx (dVar 1) (dLit (.int 2))) dNil)))) (dBin nNe (dBin nIx (dBin nIx (dVar 0) (dLit (.int 3))) (dVar 4)) (dBin nIx (dBin nIx (dVar 1) (dLit (.int 3))) (dVar 5))))) (dRet (dLit (.bl false))) dSkip) (dIf (dUn nNot (dCallF nAll (dCons (dLC [6] (dZip (dCons (dBin nIx (dBin nIx (dVar 0) (dLit (.int 2))) (dVar 4)) (dCons (dBin nIx (dBin nIx (dVar 1) (dLit (.int 2))) (dVar 5)) dNil))) (gNam 6) (dLit (.bl true)) (dBin (nIn false) (dVar 6) (dVar 3))) dNil))) (dRet (dLit (.bl false))) dSkip))) (dRet (dLit (.bl true)))))))
def F_judge_alike : List T → Store → R T := runD 7 3 m_judge_alike
abbrev N_judge_alike : List Str := ["machine", "other", "paper", "known", "one", "two", "pair"]
theorem sc_judge_alike : FnScope N_judge_alike ["machine", "other", "paper"] (defScope s_judge_alike) := ⟨rfl, rfl, rfl, by decide +kernel, rfl, by decide +kernel, by decide +kernel⟩
theorem ok_judge_alike (G : Gx K mg W w) (r : FnR K mg W "judge_alike" 16 s_judge_alike) (D_check_like : FnD P w K mg base W 3 "check_like" 15 F_check_like) : FnD P w K mg base W 4 "judge_alike" 16 F_judge_alike := by
  refine fnd_of r sc_judge_alike rfl rfl (fun _ _ _ _ _ _ us hl => match us, hl with | [_, _, _], _ => rfl) fun cdv A outer s H E hr hg => ?_
  have hu := room65 hr
  have tk : L2N.Takes (cxOf (L2N.CX P w) P w K mg base N_judge_alike "judge_alike" (defScope s_judge_alike) (W.fa 16) cdv A outer s H E) (wxD E) := L2N.takes_of (E := E) rfl rfl rfl rfl
  exact (ebk_cons (es_expr (ee_call (D_check_like.at hr (by decide)) hg tk rfl (el_cons (ee_v 0) (el_cons (ee_v 1) el_nil)))) (ebk_cons (es_set (i := 3) sc_judge_alike.nd rfl (.inr rfl) (ee_dcN (own := [("pair", 6)]) hu G.k G.w rfl sc_judge_alike.nd (ei_tup G.k (ee_v 2)) (blkOk_by (N := N_judge_alike) (sc := (defScope s_judge_alike)) (by decide +kernel)) (fun _ _ _ _ _ => (ego_name (i := 6) sc_judge_alike.nd rfl (.inl rfl) (by decide))) (fun _ _ _ _ _ => ets_nil) (fun _ _ _ _ _ => (ee_v 6)) (fun _ _ _ _ _ => ee_bl))) (ebk_cons (es_if (eb_w (ew_or (eb_cmp (o_notIn hu) (notIn_w G.k G.w) (by with_unfolding_all rfl) (ee_tup (el_cons ee_int (el_cons ee_int el_nil))) (ee_v 3)) (ew_or1 (eb_not (eb_val (ee_callB (cr_all rfl) (all_w G.k) rfl G.b_all (by decide +kernel) (el_cons (ee_lc (own := [("one", 4), ("two", 5)]) rfl sc_judge_alike.nd (ei_zip G.k rfl G.b_zip (el_cons (ee_v 2) (el_cons (ee_slc o_slc (slc_w G.k) (ee_v 2) (EO.some ee_int) EO.none) el_nil))) (blkOk_by (N := N_judge_alike) (sc := (defScope s_judge_alike)) (by decide +kernel)) (fun _ _ _ _ _ => (ego_tup G.k rfl (egos_cons (ego_name (i := 4) sc_judge_alike.nd rfl (.inl rfl) (by decide)) (egos_cons (ego_name (i := 5) sc_judge_alike.nd rfl (.inl rfl) (by decide)) egos_nil)) (n := 2))) (fun _ _ _ _ _ => ets_nil) (fun _ _ _ _ _ => (ee_cmp (o_lt (room0 hr)) (lt_w G.k) (nomark _) (ee_v 4) (ee_v 5)))) el_nil))))))) (ebk_one (es_ret ee_bl)) ebk_nil) (ebk_cons (es_for (L2.passes_of rfl) rfl (ei_tup G.k (ee_v 2)) (eg_tup G.k rfl (egs_cons (eg_name (i := 4) sc_judge_alike.nd rfl (.inl rfl)) (egs_cons (eg_name (i := 5) sc_judge_alike.nd rfl (.inl rfl)) egs_nil)) (n := 2)) (ebk_cons (es_if (eb_w (ew_or (eb_not (eb_chain op_le le_w (o_lt (room0 hr)) (lt_w G.k) ee_int (ee_v 4) (ee_callB call_lenA (lenA_w G.k G.w) rfl G.b_len (by decide +kernel) (el_cons (ee_sub (ixA hu) (ix_w G.k G.w) (fun _ _ => rfl) (ee_v 0) ee_int) el_nil)))) (ew_or (eb_not (eb_chain op_le le_w (o_lt (room0 hr)) (lt_w G.k) ee_int (ee_v 5) (ee_callB call_lenA (lenA_w G.k G.w) rfl G.b_len (by decide +kernel) (el_cons (ee_sub (ixA hu) (ix_w G.k G.w) (fun _ _ => rfl) (ee_v 1) ee_int) el_nil)))) (ew_or1 (eb_cmp (op_neD (Nat.lt_of_succ_lt hu)) (ne_w G.k) (nomark _) (ee_sub (ixA hu) (ix_w G.k G.w) (fun _ _ => rfl) (ee_sub (ixA hu) (ix_w G.k G.w) (fun _ _ => rfl) (ee_v 0) ee_int) (ee_v 4)) (ee_sub (ixA hu) (ix_w G.k G.w) (fun _ _ => rfl) (ee_sub (ixA hu) (ix_w G.k G.w) (fun _ _ => rfl) (ee_v 1) ee_int) (ee_v 5))))))) (ebk_one (es_ret ee_bl)) ebk_nil) (ebk_one (es_if (eb_not (eb_val (ee_callB (cr_all rfl) (all_w G.k) rfl G.b_all (by decide +kernel) (el_cons (ee_lc (own := [("pair", 6)]) rfl sc_judge_alike.nd (ei_zip G.k rfl G.b_zip (el_cons (ee_sub (ixA hu) (ix_w G.k G.w) (fun _ _ => rfl) (ee_sub (ixA hu) (ix_w G.k G.w) (fun _ _ => rfl) (ee_v 0) ee_int) (ee_v 4)) (el_cons (ee_sub (ixA hu) (ix_w G.k G.w) (fun _ _ => rfl) (ee_sub (ixA hu) (ix_w G.k G.w) (fun _ _ => rfl) (ee_v 1) ee_int) (ee_v 5)) el_nil))) (blkOk_by (N := N_judge_alike) (sc := (defScope s_judge_alike)) (by decide +kernel)) (fun _ _ _ _ _ => (ego_name (i := 6) sc_judge_alike.nd rfl (.inl rfl) (by decide))) (fun _ _ _ _ _ => ets_nil) (fun _ _ _ _ _ => (ee_cmp (o_in hu) (in_w G.k G.w) (by with_unfolding_all rfl) (ee_v 6) (ee_v 3)))) el_nil)))) (ebk_one (es_ret ee_bl)) ebk_nil)))) (ebk_one (es_ret ee_bl))))))
abbrev s_law : Stmt := top 41
def m_law : DS := (dSeq (dAsg (dLst (dCons (dCall F__law_stream (dCons (dVar 0) dNil)) (dCons (dLit (.int 0)) dNil))) (gNam 1)) (dSeq (dFor (dRng1 (dCons (dLit (.int 4)) dNil)) (gNam 2) (dSeq (dAsg (dBin nIx (dLst (dCons (dTup (dCons (dLit (.int 2)) (dCons (dLit (.int 1)) dNil))) (dCons (dTup (dCons (dLit (.int 2)) (dCons (dLit (.int 2)) dNil))) (dCons (dTup (dCons (dLit (.int 3)) (dCons (dLit (.int 1)) dNil))) dNil)))) (dCall F__law_next (dCons (dVar 1) (dCons (dLit (.int 3)) dNil)))) (gTupD 2 (gConsD (gNam 3) (gConsD (gNam 4) gNilD)))) (dSeq (dAsg (dCall F__law_machine (dCons (dVar 1) (dCons (dVar 3) (dCons (dVar 4) dNil)))) (gNam 10)) (dSeq (dAsg (dBin nIx (dLst (dCons (dCall F__law_least (dCons (dVar 10) dNil)) (dCons (dVar 10) (dCons (dCall F__law_machine (dCons (dVar 1) (dCons (dVar 3) (dCons (dVar 4) dNil)))) dNil)))) (dCall F__law_next (dCons (dVar 1) (dCons (dLit (.int 3)) dNil)))) (gNam 11)) (dSeq (dAsg (dCallF nRepr (dCons (dTup (dCons (dVar 10) (dCons (dVar 11) dNil))) dNil)) (gNam 5)) (dSeq (dAsg (dLst dNil) (gNam 6)) (dSeq (dFor (dRng1 (dCons (dCallF nLenA (dCons (dBin nIx (dVar 10) (dLit (.int 2))) dNil)) dNil)) (gNam 7) (dExpr (dMeth isL nExt (dVar 6) (dCons (dLC [16] (dRng1 (dCons (dCallF nLenA (dCons (dBin nIx (dVar 11) (dLit (.int 2))) dNil)) dNil)) (gNam 16) (dLit (.bl true)) (dTup (dCons (dVar 7) (dCons (dVar 16) dNil)))) dNil)))) (dSeq (dAsg (dLst (dCons (dCall F__law_met (dCons (dVar 10) (dCons (dVar 11) dNil))) (dCons (dCallF nTup (dCons (dVar 6) dNil)) (dCons (dTup (dCons (dTup (dCons (dLit (.int 0)) (dCons (dLit (.int 0)) dNil))) dNil)) (dCons (dTup dNil) dNil))))) (gNam 13)) (dSeq (dAsg (dBin nAdd (dVar 13) (dLC [15] (dRng1 (dCons (dLit (.int 9)) dNil)) (gNam 15) (dLit (.bl true)) (dCall F__law_bent (dCons (dVar 1) (dCons (dVar 10) (dCons (dVar 11) (dCons (dBin nIx (dVar 13) (dCall F__law_next (dCons (dVar 1) (dCons (dLit (.int 2)) dNil)))) dNil))))))) (gNam 13)) (dSeq (dAsg (dBin nEq (dCall F__law_least (dCons (dVar 10) dNil)) (dCall F__law_least (dCons (dVar 11) dNil))) (gNam 8)) (dSeq (dFor (dItL (dVar 13)) (gNam 12) (dSeq (dAsg (dCall F__law_right (dCons (dVar 10) (dCons (dVar 11) (dCons (dVar 12) dNil)))) (gNam 9)) (dIf (dOr (dUn nNot (dCall F__law_same (dCons (dTold (dCall F_judge_alike (dCons (dVar 10) (dCons (dVar 11) (dCons (dVar 12) dNil))))) (dCons (dTup (dCons (dLit (.str "told")) (dCons (dVar 9) dNil))) dNil)))) (dAnd (dVar 9) (dUn nNot (dVar 8)))) (dRet (dLit (.bl false))) dSkip))) (dSeq (dAsg (dCall F__law_wrong (dCons (dVar 1) (dCons (dVar 10) dNil))) (gNam 14)) (dSeq (dIf (dBin nNe (dTold (dCall F_judge_alike (dCons (dVar 14) (dCons (dVar 10) (dCons (dBin nIx (dVar 13) (dLit (.int 0))) dNil))))) (dTup (dCons (dLit (.str "refused")) dNil))) (dRet (dLit (.bl false))) dSkip) (dIf (dOr (dBin nNe (dTold (dCall F_judge_alike (dCons (dVar 10) (dCons (dVar 14) (dCons (dBin nIx (dVar 13) (dLit (.int 0))) dNil))))) (dTup (dCons (dLit (.str "refused")) dNil))) (dBin nNe (dCallF nRepr (dCons (dTup (dCons (dVar 10) (dCons (dVar 11) dNil))) dNil)) (dVar 5))) (dRet (dLit (.bl false))) dSkip)))))))))))))) (dRet (dLit (.bl true)))))
def F_law : List T → Store → R T := runD 17 1 m_law
abbrev N_law : List Str := ["script", "state", "turn", "base", "tracks", "kept", "everything", "one", "alike", "right", "machine", "other", "paper", "papers", "wrong", "k", "two"]
theorem sc_law : FnScope N_law ["script"] (defScope s_law) := ⟨rfl, rfl, rfl, by decide +kernel, rfl, by decide +kernel, by decide +kernel⟩
theorem ok_law (G : Gx K mg W w) {oc : Value} {od an : Option Addr} {osl : Array (Option Value)} {kV doc pm ct : Value} (lk : K.lookup (W.fa 41) = some ⟨oc, od, .func (PySem.W.fnOf "law" "law" (defArgs s_law) (defBody s_law) (defScope s_law) .none kV doc pm an (.ref G.cLaw) ct), osl⟩) (hcd : PySem.W.codeIn K (.ref G.cLaw) "law" = true) (TB : LamX.TabB base mg G.cLaw G.pLaw) (hmT : (G.pLaw, lamQ) ∈ W.tabs) (huT : ∀ p ∈ W.tabs, p.1 = G.pLaw → p.2 = lamQ) (D__law_stream : FnD P w K mg base W 1 "_law_stream" 19 F__law_stream) (D__law_machine : FnD P w K mg base W 3 "_law_machine" 32 F__law_machine) (D__law_wrong : FnD P w K mg base W 2 "_law_wrong" 37 F__law_wrong) (D__law_next : FnD P w K mg base W 1 "_law_next" 20 F__law_next) (D__law_met : FnD P w K mg base W 1 "_law_met" 38 F__law_met) (D__law_least : FnD P w K mg base W 2 "_law_least" 29 F__law_least) (D__law_right : FnD P w K mg base W 1 "_law_right" 39 F__law_right) (D__law_bent : FnD P w K mg base W 2 "_law_bent" 40 F__law_bent) (D__law_same : FnD P w K mg base W 1 "_law_same" 18 F__law_same) (D_judge_alike : FnD P w K mg base W 4 "judge_alike" 16 F_judge_alike) : FnG P w K mg base 7 (W.fa 41) (PySem.W.fnOf "law" "law" (defArgs s_law) (defBody s_law) (defScope s_law) .none kV doc pm an (.ref G.cLaw) ct) ["script"] (spD W 1 F_law) := by
  refine fngc_of lk hcd sc_law rfl rfl fun A outer s H E hr hg => ?_
  have hu := room65 hr
  have tk : L2N.Takes (cxOf (L2N.CX P w) P w K mg base N_law "law" (defScope s_law) (W.fa 41) (.ref G.cLaw) A outer s H E) (wxD E) := L2N.takes_of (E := E) rfl rfl rfl rfl
  exact (ebk_cons (es_set (i := 1) sc_law.nd rfl (.inr rfl) (ee_lst (el_cons (ee_call (D__law_stream.at hr (by decide)) hg tk rfl (el_cons (ee_v 0) el_nil)) (el_cons ee_int el_nil)))) (ebk_cons (es_for (L2.passes_of rfl) rfl (ei_rng1 rfl G.b_range (el_cons ee_int el_nil)) (eg_name (i := 2) sc_law.nd rfl (.inl rfl)) (ebk_cons (es_asg (ee_sub (ixA hu) (ix_w G.k G.w) (fun _ _ => rfl) (ee_lst (el_cons (ee_tup (el_cons ee_int (el_cons ee_int el_nil))) (el_cons (ee_tup (el_cons ee_int (el_cons ee_int el_nil))) (el_cons (ee_tup (el_cons ee_int (el_cons ee_int el_nil))) el_nil)))) (ee_call (D__law_next.at hr (by decide)) hg tk rfl (el_cons (ee_v 1) (el_cons ee_int el_nil)))) (eg_tup G.k rfl (egs_cons (eg_name (i := 3) sc_law.nd rfl (.inl rfl)) (egs_cons (eg_name (i := 4) sc_law.nd rfl (.inl rfl)) egs_nil)) (n := 2))) (ebk_cons (es_set (i := 10) sc_law.nd rfl (.inr rfl) (ee_call (D__law_machine.at hr (by decide)) hg tk rfl (el_cons (ee_v 1) (el_cons (ee_v 3) (el_cons (ee_v 4) el_nil))))) (ebk_cons (es_set (i := 11) sc_law.nd rfl (.inr rfl) (ee_sub (ixA hu) (ix_w G.k G.w) (fun _ _ => rfl) (ee_lst (el_cons (ee_call (D__law_least.at hr (by decide)) hg tk rfl (el_cons (ee_v 10) el_nil)) (el_cons (ee_v 10) (el_cons (ee_call (D__law_machine.at hr (by decide)) hg tk rfl (el_cons (ee_v 1) (el_cons (ee_v 3) (el_cons (ee_v 4) el_nil)))) el_nil)))) (ee_call (D__law_next.at hr (by decide)) hg tk rfl (el_cons (ee_v 1) (el_cons ee_int el_nil))))) (ebk_cons (es_set (i := 5) sc_law.nd rfl (.inl rfl) (ee_callB (call_repr hg hu) (repr_w G.k) rfl G.b_repr (by decide +kernel) (el_cons (ee_tup (el_cons (ee_v 10) (el_cons (ee_v 11) el_nil))) el_nil))) (ebk_cons (es_set (i := 6) sc_law.nd rfl (.inl rfl) (ee_lst el_nil)) (ebk_cons (es_for (L2.passes_of rfl) rfl (ei_rng1 rfl G.b_range (el_cons (ee_callB call_lenA (lenA_w G.k G.w) rfl G.b_len (by decide +kernel) (el_cons (ee_sub (ixA hu) (ix_w G.k G.w) (fun _ _ => rfl) (ee_v 10) ee_int) el_nil)) el_nil)) (eg_name (i := 7) sc_law.nd rfl (.inr rfl)) (ebk_one (es_expr (ee_bm PySem.F.plainAttrs_list PySem.F.slot_list_extend PySem.F.type_list_extend mt_extend isL_ty G.k ext_w (ee_v 6) (el_cons (ee_lc (own := [("two", 16)]) rfl sc_law.nd (ei_rng1 rfl G.b_range (el_cons (ee_callB call_lenA (lenA_w G.k G.w) rfl G.b_len (by decide +kernel) (el_cons (ee_sub (ixA hu) (ix_w G.k G.w) (fun _ _ => rfl) (ee_v 11) ee_int) el_nil)) el_nil)) (blkOk_by (N := N_law) (sc := (defScope s_law)) (by decide +kernel)) (fun _ _ _ _ _ => (ego_name (i := 16) sc_law.nd rfl (.inl rfl) (by decide))) (fun _ _ _ _ _ => ets_nil) (fun _ _ _ _ _ => (ee_tup (el_cons (ee_v 7) (el_cons (ee_v 16) el_nil))))) el_nil))))) (ebk_cons (es_set (i := 13) sc_law.nd rfl (.inr rfl) (ee_lst (el_cons (ee_call (D__law_met.at hr (by decide)) hg tk rfl (el_cons (ee_v 10) (el_cons (ee_v 11) el_nil))) (el_cons (ee_callT call_tuple_of (tupc_w G.k) rfl G.b_tuple (by decide +kernel) (el_cons (ee_v 6) el_nil)) (el_cons (ee_tup (el_cons (ee_tup (el_cons ee_int (el_cons ee_int el_nil))) el_nil)) (el_cons (ee_tup el_nil) el_nil)))))) (ebk_cons (es_set (i := 13) sc_law.nd rfl (.inr rfl) (ee_bin o_add (add_w G.k) (ee_v 13) (ee_lc (own := [("k", 15)]) rfl sc_law.nd (ei_rng1 rfl G.b_range (el_cons ee_int el_nil)) (blkOk_by (N := N_law) (sc := (defScope s_law)) (by decide +kernel)) (fun _ _ _ _ _ => (ego_name (i := 15) sc_law.nd rfl (.inl rfl) (by decide))) (fun _ _ _ _ _ => ets_nil) (fun _ _ _ _ _ => (ee_call (D__law_bent.at hr (by decide)) hg takesF rfl (el_cons (ee_v 1) (el_cons (ee_v 10) (el_cons (ee_v 11) (el_cons (ee_sub (ixA hu) (ix_w G.k G.w) (fun _ _ => rfl) (ee_v 13) (ee_call (D__law_next.at hr (by decide)) hg takesF rfl (el_cons (ee_v 1) (el_cons ee_int el_nil)))) el_nil))))))))) (ebk_cons (es_set (i := 8) sc_law.nd rfl (.inl rfl) (ee_cmp (op_eqD (Nat.lt_of_succ_lt hu)) (eq_w G.k) (nomark _) (ee_call (D__law_least.at hr (by decide)) hg tk rfl (el_cons (ee_v 10) el_nil)) (ee_call (D__law_least.at hr (by decide)) hg tk rfl (el_cons (ee_v 11) el_nil)))) (ebk_cons (es_for (L2.passes_of rfl) rfl (ei_lst G.k (ee_v 13)) (eg_name (i := 12) sc_law.nd rfl (.inr rfl)) (ebk_cons (es_set (i := 9) sc_law.nd rfl (.inl rfl) (ee_call (D__law_right.at hr (by decide)) hg tk rfl (el_cons (ee_v 10) (el_cons (ee_v 11) (el_cons (ee_v 12) el_nil))))) (ebk_one (es_if (eb_w (ew_or (eb_not (eb_val (ee_call (D__law_same.at hr (by decide)) hg tk rfl (el_cons (ee_told G.told G.k rfl TB rfl hmT huT hr hg (LamX.lamS_by (sc := (defScope s_law)) (by decide +kernel)) rfl (by intros; rfl) (fun A2 outer2 s2 H2 E2 f2 c2 hr2 hg2 => (ee_call (D_judge_alike.at hr2 (by decide)) hg2 (L2N.takes_of (E := E2) rfl rfl rfl rfl) rfl (el_cons (ee_v 10) (el_cons (ee_v 11) (el_cons (ee_v 12) el_nil)))))) (el_cons (ee_tup (el_cons ee_str (el_cons (ee_v 9) el_nil))) el_nil))))) (ew_or1 (eb_w (ew_and (eb_val (ee_v 9)) (ew_and1 (eb_not (eb_val (ee_v 8))))))))) (ebk_one (es_ret ee_bl)) ebk_nil)))) (ebk_cons (es_set (i := 14) sc_law.nd rfl (.inr rfl) (ee_call (D__law_wrong.at hr (by decide)) hg tk rfl (el_cons (ee_v 1) (el_cons (ee_v 10) el_nil)))) (ebk_cons (es_if (eb_cmp (op_neD (Nat.lt_of_succ_lt hu)) (ne_w G.k) (nomark _) (ee_told G.told G.k rfl TB rfl hmT huT hr hg (LamX.lamS_by (sc := (defScope s_law)) (by decide +kernel)) rfl (by intros; rfl) (fun A2 outer2 s2 H2 E2 f2 c2 hr2 hg2 => (ee_call (D_judge_alike.at hr2 (by decide)) hg2 (L2N.takes_of (E := E2) rfl rfl rfl rfl) rfl (el_cons (ee_v 14) (el_cons (ee_v 10) (el_cons (ee_sub (ixA (room65 hr2)) (ix_w G.k G.w) (fun _ _ => rfl) (ee_v 13) ee_int) el_nil)))))) (ee_tup (el_cons ee_str el_nil))) (ebk_one (es_ret ee_bl)) ebk_nil) (ebk_one (es_if (eb_w (ew_or (eb_cmp (op_neD (Nat.lt_of_succ_lt hu)) (ne_w G.k) (nomark _) (ee_told G.told G.k rfl TB rfl hmT huT hr hg (LamX.lamS_by (sc := (defScope s_law)) (by decide +kernel)) rfl (by intros; rfl) (fun A2 outer2 s2 H2 E2 f2 c2 hr2 hg2 => (ee_call (D_judge_alike.at hr2 (by decide)) hg2 (L2N.takes_of (E := E2) rfl rfl rfl rfl) rfl (el_cons (ee_v 10) (el_cons (ee_v 14) (el_cons (ee_sub (ixA (room65 hr2)) (ix_w G.k G.w) (fun _ _ => rfl) (ee_v 13) ee_int) el_nil)))))) (ee_tup (el_cons ee_str el_nil))) (ew_or1 (eb_cmp (op_neD (Nat.lt_of_succ_lt hu)) (ne_w G.k) (nomark _) (ee_callB (call_repr hg hu) (repr_w G.k) rfl G.b_repr (by decide +kernel) (el_cons (ee_tup (el_cons (ee_v 10) (el_cons (ee_v 11) el_nil))) el_nil)) (ee_v 5))))) (ebk_one (es_ret ee_bl)) ebk_nil))))))))))))))) (ebk_one (es_ret ee_bl))))
end
end K02
set_option Elab.async false
set_option linter.all false
set_option maxRecDepth 100000
set_option maxHeartbeats 4000000
namespace K02
open PySem PySem.Spec PyProof.Rows L2 DD

/-! ### small steps -/
section
variable {S : Store} {n : Nat} {xs : List T}
theorem lstAt_l (h : S[n]? = some (.lst xs)) : lstAt S n = some xs := by unfold lstAt; rw [h]
theorem nIx_l {i : Nat} {t : T} (h : S[n]? = some (.lst xs)) (e : xs[i]? = some t) : nIx (.ref n) (.int (i : Nat)) S = .ok t S := by
  simp only [nIx, h, nIdx, lstAt_l h, atI_nat e]
theorem ixN_n {n j : Nat} (hj : j < n) : ixN n (j : Int) = some j := by
  unfold ixN
  rw [if_pos (by omega), if_pos (by omega), Int.toNat_natCast]
theorem nIx_t {ts : List T} {i : Nat} {t : T} (e : ts[i]? = some t) : nIx (.tup ts) (.int (i : Nat)) S = .ok t S := by
  simp only [nIx, nIdx, atI_nat e]
theorem nLen_l (h : S[n]? = some (.lst xs)) : nLenA [.ref n] S = .ok (.int xs.length) S := by
  simp only [nLenA, h, nLen, lstAt_l h, okI]
theorem nLen_t {ts : List T} : nLenA [.tup ts] S = .ok (.int ts.length) S := rfl
theorem nSet_l {i : Nat} {t : T} (h : S[n]? = some (.lst xs)) (hi : i < xs.length) (hp : t.plain = true) : nSetA (.ref n) (.int (i : Nat)) t S = .ok () (S.set n (.lst (xs.set i t))) := by
  simp only [nSetA, h, nSet, ixN_n hi, hp, if_true]
theorem nApp_l {t : T} (h : S[n]? = some (.lst xs)) (hp : t.plain = true) (hl : xs.length < LINE) : nApp (.ref n) [t] S = .ok .non (S.set n (.lst (xs ++ [t]))) := by
  simp only [nApp, h, hp, hl, decide_true, Bool.and_self, if_true]
theorem isL_l (h : S[n]? = some (.lst xs)) : isL (.ref n) S = true := by simp only [isL, lstAt_l h, Option.isSome]
theorem fin_int {n0 : Nat} {v : Int} (h : S.length = n0) : fin n0 (.int v) S = .ok (.int v) S := by
  unfold fin
  have e : S.take n0 = S := by subst h; simp
  rw [e]
  split
  · rw [if_pos (by simp [T.low])]
  · rfl
end
/-- the drawer: s its list, nu its numbers, c how many have been drawn -/
structure Dr (S : Store) (s nu : Nat) (nums : List Int) (c : Nat) : Prop where
  st : S[s]? = some (.lst [.ref nu, .int c])
  nm : S[nu]? = some (.lst (nums.map T.int))
  ne : nums ≠ []
  bd : ∀ z ∈ nums, 0 ≤ z ∧ z < 1009
  cb : c < 1000000000
  lg : (nums.length : Int).natAbs.log2 < 9000
  sn : s ≠ nu
theorem Dr.lt {S s nu nums c} (d : Dr S s nu nums c) : s < S.length ∧ nu < S.length := ⟨(List.getElem?_eq_some_iff.mp d.st).1, (List.getElem?_eq_some_iff.mp d.nm).1⟩
/-- the store behind a draw -/
def drS (S : Store) (s nu c : Nat) : Store := S.set s (.lst [.ref nu, .int (c : Nat)])
theorem drS_len {S s nu c} : (drS S s nu c).length = S.length := by simp [drS]
theorem Dr.drawn {S s nu nums c c'} (d : Dr S s nu nums c) (h : c' < 1000000000) : Dr (drS S s nu c') s nu nums c' := by
  refine ⟨?_, ?_, d.ne, d.bd, h, d.lg, d.sn⟩
  · unfold drS; rw [List.getElem?_set_self d.lt.1]
  · unfold drS; rw [List.getElem?_set_ne d.sn]; exact d.nm
theorem drS_drS {S s nu c c'} : drS (drS S s nu c) s nu c' = drS S s nu c' := by simp [drS]
theorem drS_self {S s nu nums c} (d : Dr S s nu nums c) : drS S s nu c = S := by
  unfold drS
  refine List.ext_getElem? fun i => ?_
  by_cases e : s = i
  · subst e; rw [List.getElem?_set_self d.lt.1, d.st]
  · rw [List.getElem?_set_ne e]
theorem run_next {s : Nat} {many : Int} {S : Store} : F__law_next [.ref s, .int many] S = endD S.length (m__law_next [.ref s, .int many, .hole] S) := by
  unfold F__law_next runD
  exact if_pos rfl
theorem next_ok {S : Store} {s nu : Nat} {nums : List Int} {c : Nat} {many : Int} (d : Dr S s nu nums c) (hm : 0 < many) : ∃ v : Int, 0 ≤ v ∧ v < many ∧ F__law_next [.ref s, .int many] S = .ok (.int v) (drS S s nu (c + 1)) := by
  have hc := d.cb
  have hl : 0 < nums.length := List.length_pos_iff.mpr d.ne
  have hs := d.lt.1
  -- the list written
  have e1 : (drS S s nu (c + 1))[s]? = some (.lst [.ref nu, .int (c + 1 : Nat)]) := by unfold drS; rw [List.getElem?_set_self hs]
  have e2 : (drS S s nu (c + 1))[nu]? = some (.lst (nums.map T.int)) := by unfold drS; rw [List.getElem?_set_ne d.sn]; exact d.nm
  have a1 : nIx (.ref s) (.int 1) S = .ok (.int c) S := nIx_l (i := 1) d.st rfl
  have a2 : nSetA (.ref s) (.int 1) (.int ((c : Int) + 1)) S = .ok () (drS S s nu (c + 1)) := by
    have h := nSet_l (i := 1) (t := .int ((c : Int) + 1)) d.st (Nat.lt_succ_self 1) rfl
    have e : ((c : Int) + 1) = ((c + 1 : Nat) : Int) := by omega
    rw [e] at h ⊢
    exact h
  have b1 : nIx (.ref s) (.int 1) (drS S s nu (c + 1)) = .ok (.int (c + 1 : Nat)) (drS S s nu (c + 1)) := nIx_l (i := 1) e1 rfl
  have b0 : nIx (.ref s) (.int 0) (drS S s nu (c + 1)) = .ok (.ref nu) (drS S s nu (c + 1)) := nIx_l (i := 0) e1 rfl
  have bl : nLenA [.ref nu] (drS S s nu (c + 1)) = .ok (.int nums.length) (drS S s nu (c + 1)) := by have := nLen_l e2; rwa [List.length_map] at this
  generalize hS' : drS S s nu (c + 1) = S' at e1 e2 a2 b1 b0 bl
  have hlS : S'.length = S.length := by rw [← hS']; exact drS_len
  have hmod : (0 : Int) < nums.length := by omega
  obtain ⟨k, hk1, hk2⟩ : ∃ k : Nat, k < nums.length ∧ ((c + 1 : Nat) : Int) % (nums.length : Int) = k := ⟨(c + 1) % nums.length, Nat.mod_lt _ hl, by omega⟩
  have b2 : nIx (.ref nu) (.int (k : Int)) S' = .ok (.int nums[k]) S' := nIx_l e2 (by simp [hk1])
  have hlog : (nums.length : Int).natAbs.log2 < 9000 := d.lg
  refine ⟨(nums[k] + ((c + 1 : Nat) : Int) / nums.length * 389 + ((c + 1 : Nat) : Int) * (((c + 1 : Nat) : Int) / nums.length) * 17) % many, Int.emod_nonneg _ (by omega), Int.emod_lt_of_pos _ hm, ?_⟩
  have sm3 : small ((c + 1 : Nat) : Int) = true := by simp only [small, Bool.and_eq_true, decide_eq_true_eq]; omega
  have cc : ((c : Int) + 1) = ((c + 1 : Nat) : Int) := by omega
  have hv0 : ∀ q : Int, dVar 0 [.ref s, .int many, .int q] S' = .ok (.ref s) S' := fun q => v_var rfl (by intro z; cases z)
  have hturn : dBin nDiv (dBin nIx (dVar 0) (dLit (.int 1))) (dCallF nLenA (dCons (dBin nIx (dVar 0) (dLit (.int 0))) dNil)) [.ref s, .int many, .hole] S' = .ok (.int (((c + 1 : Nat) : Int) / nums.length)) S' :=
    v_bin (v_bin (v_var rfl (by intro z; cases z)) v_lit b1) (v_callF (v_cons (v_bin (v_var rfl (by intro z; cases z)) v_lit b0) v_nil) bl) (nDiv_i hmod hlog)
  refine runD_ok (t := .int _) rfl (v_seq (v_asgG (v_bin (v_bin (v_var rfl (by intro z; cases z)) v_lit a1) v_lit nAdd_i) (v_gsub (v_var rfl (by intro z; cases z)) v_lit a2)) (v_seq (v_asg hturn (Nat.lt_succ_self 2)) (v_ret ?_))) rfl (fin_int hlS)
  exact v_bin (v_callF (v_cons (v_bin (v_bin (v_bin (v_bin (hv0 _) v_lit b0) (v_bin (v_bin (hv0 _) v_lit b1) (v_callF (v_cons (v_bin (hv0 _) v_lit b0) v_nil) bl) (by rw [nMod_i hmod, hk2])) b2) (v_bin (v_var rfl (by intro z; cases z)) v_lit (nMul_i (.inr rfl))) nAdd_i) (v_bin (v_bin (v_bin (hv0 _) v_lit b1) (v_var rfl (by intro z; cases z)) (nMul_i (.inl sm3))) v_lit (nMul_i (.inr rfl))) nAdd_i) v_nil) nInt_i) (v_var rfl (by intro z; cases z)) (nMod_i hm)
end K02
set_option Elab.async false
set_option linter.all false
set_option maxRecDepth 100000
set_option maxHeartbeats 4000000
namespace K02
open PySem PySem.Spec PyProof.Rows L2 DD

theorem nh_int {i : Int} : (T.int i) ≠ .hole := by intro z; cases z
theorem nh_ref {i : Nat} : (T.ref i) ≠ .hole := by intro z; cases z
theorem nh_tup {ts : List T} : (T.tup ts) ≠ .hole := by intro z; cases z
theorem nh_bl {b : Bool} : (T.bl b) ≠ .hole := by intro z; cases z
theorem nh_str {b : Str} : (T.str b) ≠ .hole := by intro z; cases z
theorem small_n {n : Nat} (h : n < 18446744073709551616) : small (n : Int) = true := by simp only [small, Bool.and_eq_true, decide_eq_true_eq]; omega
/-- base ** many by a loop -/
theorem pow_loop {S : Store} {b m : Nat} (hb : b < 1000) (hm : m < 1000) {z : T} : ∃ w, forL (iRng 0 1 m) (gNam 3) (dAsg (dBin nMul (dVar 2) (dVar 0)) (gNam 2)) FUEL 0 [.int (b : Nat), .int (m : Nat), .int 1, z] S = .nx [.int (b : Nat), .int (m : Nat), .int ((b ^ m : Nat) : Int), w] S := by
  refine forL_inv (n := m) (P := fun i e S' => S' = S ∧ ∃ w, e = [.int (b : Nat), .int (m : Nat), .int ((b ^ i : Nat) : Int), w]) (Z := fun r => ∃ w, r = .nx [.int (b : Nat), .int (m : Nat), .int ((b ^ m : Nat) : Int), w] S) ?_ ?_ FUEL 0 _ S ⟨rfl, z, rfl⟩ (Nat.zero_le _) (by unfold FUEL; omega)
  · rintro i e S' hi ⟨rfl, w, rfl⟩
    refine ⟨_, rng_item hi, .inl ⟨[.int (b : Nat), .int (m : Nat), .int ((b ^ (i + 1) : Nat) : Int), .int (0 + (i : Int))], S', ?_, rfl, _, rfl⟩⟩
    rw [g_nam (show (3 : Nat) < 4 by decide)]
    have e1 : ((b ^ i : Nat) : Int) * (b : Int) = ((b ^ (i + 1) : Nat) : Int) := by rw [Nat.pow_succ, Int.natCast_mul]
    have h := v_asg (i := 2) (e := [.int (b : Nat), .int (m : Nat), .int ((b ^ i : Nat) : Int), .int (0 + (i : Int))]) (S := S') (v_bin (v_var (i := 2) rfl nh_int) (v_var (i := 0) rfl nh_int) (nMul_i (.inr (small_n (by omega))))) (show (2 : Nat) < 4 by decide)
    rw [e1] at h
    simp only [List.set_cons_succ, List.set_cons_zero] at h ⊢
    exact h
  · rintro e S' ⟨rfl, w, rfl⟩
    exact ⟨rng_stop, w, rfl⟩
theorem power_ok {S : Store} {b m : Nat} (hb : b < 1000) (hm : m < 1000) : F__law_power [.int (b : Nat), .int (m : Nat)] S = .ok (.int ((b ^ m : Nat) : Int)) S := by
  obtain ⟨w, h⟩ := pow_loop (S := S) hb hm (z := .hole)
  refine runD_ok (t := .int _) rfl (v_seq (v_asg v_lit (show (2 : Nat) < 4 by decide)) (v_seq (v_for (v_rng1 (v_cons (v_var (i := 1) rfl nh_int) v_nil) (by unfold LINE; omega)) h) (v_ret (v_var (i := 2) rfl nh_int)))) rfl (fin_int rfl)
theorem power_ok' {S : Store} {b m : Nat} (hb : b < 1000) (hm : m < 1000) : F_power [.int (b : Nat), .int (m : Nat)] S = .ok (.int ((b ^ m : Nat) : Int)) S := power_ok hb hm
end K02
set_option Elab.async false
set_option linter.all false
set_option maxRecDepth 100000
set_option maxHeartbeats 4000000
namespace K02
open PySem PySem.Spec PyProof.Rows L2 DD

/-- the test of check_size -/
def sizeBad (b t : Int) : Bool := !(decide (2 ≤ b) && decide (b ≤ 10)) || !(decide (1 ≤ t) && decide (t ≤ 3))
theorem size_test {S : Store} {b t : Int} : dOr (dUn nNot (dChain nLe nLe (dLit (.int 2)) (dVar 0) (dLit (.int 10)))) (dUn nNot (dChain nLe nLe (dLit (.int 1)) (dVar 1) (dLit (.int 3)))) [.int b, .int t] S = .ok (.bl (sizeBad b t)) S :=
  v_or2 (v_not (v_chain2 v_lit (v_var rfl nh_int) nLe_i v_lit nLe_i)) fun _ => v_not (v_chain2 v_lit (v_var rfl nh_int) nLe_i v_lit nLe_i)
theorem size_ok {S : Store} {b t : Int} (h : sizeBad b t = false) : F_check_size [.int b, .int t] S = .ok .non S :=
  runD_nx rfl (v_if size_test (fun z => by rw [h] at z; cases z) fun _ => rfl) (fin_id rfl rfl)
theorem size_exc {S : Store} {b t : Int} (h : sizeBad b t = true) : F_check_size [.int b, .int t] S = finX S.length 1 [] S :=
  runD_exc rfl (v_if size_test (fun _ => rfl) fun z => by rw [h] at z; cases z) rfl
end K02
set_option Elab.async false
set_option linter.all false
set_option maxRecDepth 100000
set_option maxHeartbeats 4000000
namespace K02
open PySem PySem.Spec PyProof.Rows L2 DD

def natT (n : Nat) : T := .int n
def rowT (r : List Nat) : T := .tup (r.map natT)
structure Mc where
  b : Nat
  t : Nat
  mv : List (List Nat)
  en : List Nat
def Mc.T (m : Mc) : T := .tup [.int m.b, .int m.t, .tup (m.mv.map rowT), .tup (m.en.map natT)]
theorem in01 {x : Int} {S : Store} : nIn false (.int x) (.tup [.int 0, .int 1]) S = .ok (.bl (decide (x = 0) || decide (x = 1))) S := by
  show nMem false (.int x) [.int 0, .int 1] S = _
  unfold nMem
  have h1 : dat S (.int x) = some (.int x) := by simp [dat, datW]
  have h2 : datsW (datR 8 S) [.int 0, .int 1] = some [.int 0, .int 1] := by simp [datsW, datW]
  rw [h1, h2]
  have s1 : shp (.int x) = true := by simp [shp, SeqAt.shaped, PyData.canLay0, PyData.depth]
  have s2 : shp (.tuple [.int 0, .int 1]) = true := by decide +kernel
  have s3 : shp (.list [.int 0, .int 1]) = true := by decide +kernel
  simp only [s1, s2, s3, Bool.and_self, if_true, okB, memD, List.any_cons, List.any_nil, PyData.eqv, Bool.or_false]
  congr 2
  by_cases a : x = 0
  · subst a; rfl
  · by_cases b : x = 1
    · subst b; rfl
    · have a' : ¬ (0 : Int) = x := fun z => a z.symm
      have b' : ¬ (1 : Int) = x := fun z => b z.symm
      simp [a, b, a', b']
theorem boolsT_map {α : Type} {f : α → Bool} : ∀ {l : List α}, boolsT (l.map fun i => T.bl (f i)) = some (l.map f)
  | [] => rfl
  | a :: l => by
    show (boolsT (l.map fun i => T.bl (f i))).map (f a :: ·) = _
    rw [boolsT_map (l := l)]
    rfl
theorem nAll_l {α : Type} {f : α → Bool} {l : List α} {S : Store} : nAll [.ref S.length] (S ++ [.lst (l.map fun i => T.bl (f i))]) = .ok (.bl (l.all f)) (S ++ [.lst (l.map fun i => T.bl (f i))]) := by
  unfold nAll lst1
  have h : lstAt (S ++ [.lst (l.map fun i => T.bl (f i))]) S.length = some (l.map fun i => T.bl (f i)) := lstAt_l (by simp)
  simp only [h, boolsT_map, okB]
  congr 2
  induction l with
  | nil => rfl
  | cons a l ih => simp
theorem cl_bools {α : Type} {f : α → Bool} {l : List α} {S : Store} (h : Cl S) : Cl (S ++ [.lst (l.map fun i => T.bl (f i))]) :=
  cl_snoc h (lows_iff.mpr fun t ht => by
    obtain ⟨k, _, e⟩ := List.mem_map.mp ht
    rw [← e]
    rfl)
/-- all([end in (0, 1) for end in ends]) -/
theorem ends_test {S : Store} {en : List Nat} {t0 t1 t2 t3 t5 t6 t7 t8 : T} (cl : Cl S) (hl : en.length < LINE) :
    dCallF nAll (dCons (dLC [7] (dItT (dVar 4)) (gNam 7) (dLit (.bl true)) (dBin (nIn false) (dVar 7) (dTup (dCons (dLit (.int 0)) (dCons (dLit (.int 1)) dNil))))) dNil) [t0, t1, t2, t3, .tup (en.map natT), t5, t6, t7, t8] S =
      .ok (.bl ((List.range en.length).all fun i => decide (en.getD i 0 ≤ 1))) (S ++ [.lst ((List.range en.length).map fun i => .bl (decide (en.getD i 0 ≤ 1)))]) := by
  refine v_callF (v_cons (lc_pure (n := en.length) (x := fun i => natT (en.getD i 0)) (y := fun i => .bl (decide (en.getD i 0 ≤ 1))) (E := fun i => [t0.noLam, t1.noLam, t2.noLam, t3.noLam, .tup (en.map natT), t5.noLam, t6.noLam, natT (en.getD i 0), t8.noLam]) cl (v_itT (v_var rfl nh_tup)) hl (fun i S' hi _ => ?_) (fun S' _ => ?_) (fun i S' hi => ?_) (fun i S' hi _ => ?_) fun i hi => ⟨rfl, rfl⟩) v_nil) nAll_l
  · have : i < (en.map natT).length := by simpa using hi
    rw [ts_item this]
    simp [hi]
  · have := ts_stop (ts := en.map natT) (S := S')
    rwa [List.length_map] at this
  · rfl
  · have h := in01 (x := ((en.getD i 0 : Nat) : Int)) (S := S')
    have e : (decide (((en.getD i 0 : Nat) : Int) = 0) || decide (((en.getD i 0 : Nat) : Int) = 1)) = decide (en.getD i 0 ≤ 1) := by
      rw [← Bool.decide_or, decide_eq_decide]
      omega
    rw [e] at h
    exact v_bin (v_var (t := natT _) rfl nh_int) (v_tup (v_cons v_lit (v_cons v_lit v_nil)) rfl (by unfold LINE; decide)) h
end K02
set_option Elab.async false
set_option linter.all false
set_option maxRecDepth 100000
set_option maxHeartbeats 4000000
namespace K02
open PySem PySem.Spec PyProof.Rows L2 DD

/-- all([0 <= after < len(moves) for after in row]) -/
theorem row_test {S : Store} {mv : List (List Nat)} {row : List Nat} {t0 t1 t2 t4 t5 t7 t8 : T} (cl : Cl S) (hl : row.length < LINE) :
    dCallF nAll (dCons (dLC [8] (dItT (dVar 6)) (gNam 8) (dLit (.bl true)) (dChain nLe nLt (dLit (.int 0)) (dVar 8) (dCallF nLenA (dCons (dVar 3) dNil)))) dNil) [t0, t1, t2, .tup (mv.map rowT), t4, t5, rowT row, t7, t8] S =
      .ok (.bl ((List.range row.length).all fun i => decide (row.getD i 0 < mv.length))) (S ++ [.lst ((List.range row.length).map fun i => .bl (decide (row.getD i 0 < mv.length)))]) := by
  refine v_callF (v_cons (lc_pure (n := row.length) (x := fun i => natT (row.getD i 0)) (y := fun i => .bl (decide (row.getD i 0 < mv.length))) (E := fun i => [t0.noLam, t1.noLam, t2.noLam, .tup (mv.map rowT), t4.noLam, t5.noLam, rowT row, t7.noLam, natT (row.getD i 0)]) cl (v_itT (v_var (t := rowT row) rfl nh_tup)) hl (fun i S' hi _ => ?_) (fun S' _ => ?_) (fun i S' hi => ?_) (fun i S' hi _ => ?_) fun i hi => ⟨rfl, rfl⟩) v_nil) nAll_l
  · have : i < (row.map natT).length := by simpa using hi
    rw [ts_item this]
    simp [hi]
  · have := ts_stop (ts := row.map natT) (S := S')
    rwa [List.length_map] at this
  · rfl
  · have h0 : nLe (.int 0) (natT (row.getD i 0)) S' = .ok (.bl true) S' := by
      show R.ok (T.bl (decide ((0 : Int) ≤ ((row.getD i 0 : Nat) : Int)))) S' = _
      rw [decide_eq_true (by omega)]
    have h1 : nLt (natT (row.getD i 0)) (.int ((mv.map rowT).length : Nat)) S' = .ok (.bl (decide (row.getD i 0 < mv.length))) S' := by
      show R.ok (T.bl (decide (((row.getD i 0 : Nat) : Int) < ((mv.map rowT).length : Nat)))) S' = _
      rw [List.length_map]
      congr 2
      rw [decide_eq_decide]
      omega
    exact v_chainT v_lit (v_var (t := natT _) rfl nh_int) h0 (v_callF (v_cons (v_var (t := .tup (mv.map rowT)) rfl nh_tup) v_nil) nLen_t) h1
end K02
set_option Elab.async false
set_option linter.all false
set_option maxRecDepth 100000
set_option maxHeartbeats 4000000
namespace K02
open PySem PySem.Spec PyProof.Rows L2 DD

/-- what check_machine asks of the s-th row -/
def rowOk (b t : Nat) (mv : List (List Nat)) (en : List Nat) (s : Nat) (row : List Nat) : Bool :=
  decide (row.length = b ^ t) && ((List.range row.length).all fun i => decide (row.getD i 0 < mv.length)) && decide (en.getD (row.getD 0 0) 0 = en.getD s 0)
abbrev rowBody : DS := (dSeq (dIf (dOr (dBin nNe (dCallF nLenA (dCons (dVar 6) dNil)) (dCall F_power (dCons (dVar 1) (dCons (dVar 2) dNil)))) (dUn nNot (dCallF nAll (dCons (dLC [8] (dItT (dVar 6)) (gNam 8) (dLit (.bl true)) (dChain nLe nLt (dLit (.int 0)) (dVar 8) (dCallF nLenA (dCons (dVar 3) dNil)))) dNil)))) (dRaise 1) dSkip) (dIf (dBin nNe (dBin nIx (dVar 4) (dBin nIx (dVar 6) (dLit (.int 0)))) (dBin nIx (dVar 4) (dVar 5))) (dRaise 1) dSkip))
theorem row_step {S : Store} {b t s : Nat} {mv : List (List Nat)} {en row : List Nat} {t0 t7 t8 : T} (cl : Cl S) (hl : row.length < LINE) (hb : 1 ≤ b ∧ b < 1000) (ht : t < 1000) (hs : s < en.length) (he : en.length = mv.length) :
    ∃ junk, Cl (S ++ junk) ∧ rowBody [t0, .int b, .int t, .tup (mv.map rowT), .tup (en.map natT), .int s, rowT row, t7, t8] S =
      if rowOk b t mv en s row = true then .nx [t0, .int b, .int t, .tup (mv.map rowT), .tup (en.map natT), .int s, rowT row, t7, t8] (S ++ junk) else .exc 1 [] [t0, .int b, .int t, .tup (mv.map rowT), .tup (en.map natT), .int s, rowT row, t7, t8] (S ++ junk) := by
  have h1 : dBin nNe (dCallF nLenA (dCons (dVar 6) dNil)) (dCall F_power (dCons (dVar 1) (dCons (dVar 2) dNil))) [t0, .int b, .int t, .tup (mv.map rowT), .tup (en.map natT), .int s, rowT row, t7, t8] S = .ok (.bl (!decide (row.length = b ^ t))) S := by
    refine v_bin (v_callF (v_cons (v_var (t := rowT row) rfl nh_tup) v_nil) nLen_t) (v_call (v_cons (v_var (i := 1) rfl nh_int) (v_cons (v_var (i := 2) rfl nh_int) v_nil)) rfl (power_ok' hb.2 ht)) ?_
    show R.ok (T.bl (!decide (((row.map natT).length : Int) = ((b ^ t : Nat) : Int)))) S = _
    rw [List.length_map]
    congr 3
    rw [decide_eq_decide]
    omega
  by_cases c1 : row.length = b ^ t
  · rw [decide_eq_true c1] at h1
    have h2 := row_test (mv := mv) (row := row) (t0 := t0) (t1 := .int b) (t2 := .int t) (t4 := .tup (en.map natT)) (t5 := .int s) (t7 := t7) (t8 := t8) cl hl
    generalize hj : [O.lst ((List.range row.length).map fun i => T.bl (decide (row.getD i 0 < mv.length)))] = junk at h2
    have clj : Cl (S ++ junk) := by rw [← hj]; exact cl_bools cl
    refine ⟨junk, clj, ?_⟩
    have h3 := v_orF h1 (v_not h2)
    by_cases c2 : ((List.range row.length).all fun i => decide (row.getD i 0 < mv.length)) = true
    · rw [c2] at h3
      have hpos : 0 < row.length := by rw [c1]; exact Nat.pow_pos hb.1
      have r0 : row.getD 0 0 < mv.length := by
        have := List.all_eq_true.mp c2 0 (List.mem_range.mpr hpos)
        simpa using this
      have g : ∀ (l : List Nat) (k : Nat), k < l.length → (l.map natT)[k]? = some (natT (l.getD k 0)) := fun l k hk => by simp [hk]
      have k1 : nIx (rowT row) (.int 0) (S ++ junk) = .ok (natT (row.getD 0 0)) (S ++ junk) := nIx_t (i := 0) (g row 0 hpos)
      have k2 : nIx (.tup (en.map natT)) (natT (row.getD 0 0)) (S ++ junk) = .ok (natT (en.getD (row.getD 0 0) 0)) (S ++ junk) := nIx_t (g en _ (by omega))
      have k3 : nIx (.tup (en.map natT)) (.int (s : Nat)) (S ++ junk) = .ok (natT (en.getD s 0)) (S ++ junk) := nIx_t (g en s hs)
      have k4 : nNe (natT (en.getD (row.getD 0 0) 0)) (natT (en.getD s 0)) (S ++ junk) = .ok (.bl (!decide (en.getD (row.getD 0 0) 0 = en.getD s 0))) (S ++ junk) := by
        have q := nNe_i (x := ((en.getD (row.getD 0 0) 0 : Nat) : Int)) (y := ((en.getD s 0 : Nat) : Int)) (S := S ++ junk)
        have q2 : decide (((en.getD (row.getD 0 0) 0 : Nat) : Int) = ((en.getD s 0 : Nat) : Int)) = decide (en.getD (row.getD 0 0) 0 = en.getD s 0) := by
          rw [decide_eq_decide]
          omega
        rw [q2] at q
        exact q
      have h4 := v_bin (v_bin (v_var (i := 4) (e := [t0, .int b, .int t, .tup (mv.map rowT), .tup (en.map natT), .int s, rowT row, t7, t8]) rfl nh_tup) (v_bin (v_var (i := 6) rfl nh_tup) v_lit k1) k2) (v_bin (v_var (i := 4) rfl nh_tup) (v_var (i := 5) rfl nh_int) k3) k4
      have ho : rowOk b t mv en s row = decide (en.getD (row.getD 0 0) 0 = en.getD s 0) := by unfold rowOk; rw [c2, decide_eq_true c1]; simp
      rw [ho]
      refine v_seq (v_ifF h3 rfl) ?_
      by_cases c3 : en.getD (row.getD 0 0) 0 = en.getD s 0
      · rw [decide_eq_true c3] at h4 ⊢
        rw [if_pos rfl]
        exact v_ifF h4 rfl
      · rw [decide_eq_false c3] at h4 ⊢
        rw [if_neg (by decide)]
        exact v_ifT h4 rfl
    · have c2' : ((List.range row.length).all fun i => decide (row.getD i 0 < mv.length)) = false := by simpa using c2
      rw [c2'] at h3
      have ho : rowOk b t mv en s row = false := by unfold rowOk; rw [c2']; simp
      rw [ho, if_neg (by decide)]
      exact v_seqX (v_ifT h3 rfl)
  · rw [decide_eq_false c1] at h1
    refine ⟨[], by rw [List.append_nil]; exact cl, ?_⟩
    have ho : rowOk b t mv en s row = false := by simp [rowOk, c1]
    rw [ho, if_neg (by decide), List.append_nil]
    exact v_seqX (v_ifT (v_orT h1) rfl)
end K02
set_option Elab.async false
set_option linter.all false
set_option maxRecDepth 100000
set_option maxHeartbeats 4000000
namespace K02
open PySem PySem.Spec PyProof.Rows L2 DD

def rowsOk (b t : Nat) (mv : List (List Nat)) (en : List Nat) : Bool := (List.range mv.length).all fun s => rowOk b t mv en s (mv.getD s [])
theorem g_two {i j : Nat} {x y : T} {e : EnvT} {S : Store} {k : EnvT → Store → RS} (hi : i < e.length) (hj : j < e.length) : (gTupD 2 (gConsD (gNam i) (gConsD (gNam j) gNilD)) (.tup [x, y]) e S).toS k = k ((e.set i x).set j y) S := by
  have hj' : j < (e.set i x).length := by rw [List.length_set]; exact hj
  simp only [gTupD, List.length_cons, List.length_nil, Nat.zero_add, Nat.reduceAdd, if_true, gConsD, gNam, if_pos hi, RG.bind, if_pos hj', gNilD, RG.toS]
theorem rows_loop {S : Store} {b t : Nat} {mv : List (List Nat)} {en : List Nat} {t0 t5 t6 t7 t8 : T} (cl : Cl S) (hl : ∀ row ∈ mv, row.length < LINE) (hb : 1 ≤ b ∧ b < 1000) (ht : t < 1000) (he : en.length = mv.length) (hm : mv.length < LINE) :
    ∃ junk e1, Cl (S ++ junk) ∧ dFor (dEnm (dCons (dVar 3) dNil)) (gTupD 2 (gConsD (gNam 5) (gConsD (gNam 6) gNilD))) rowBody [t0, .int b, .int t, .tup (mv.map rowT), .tup (en.map natT), t5, t6, t7, t8] S =
      if rowsOk b t mv en = true then .nx e1 (S ++ junk) else .exc 1 [] e1 (S ++ junk) := by
  have hd : dEnm (dCons (dVar 3) dNil) [t0, .int b, .int t, .tup (mv.map rowT), .tup (en.map natT), t5, t6, t7, t8] S = .ok (iEnm (.tup (mv.map rowT))) S := by
    unfold dEnm
    rw [v_cons (v_var (i := 3) rfl nh_tup) v_nil]
    rfl
  have key := forL_inv (it := iEnm (.tup (mv.map rowT))) (g := gTupD 2 (gConsD (gNam 5) (gConsD (gNam 6) gNilD))) (b := rowBody)
    (P := fun i e S' => (∃ z5 z6, e = [t0, .int b, .int t, .tup (mv.map rowT), .tup (en.map natT), z5, z6, t7, t8]) ∧ (∃ junk, S' = S ++ junk ∧ Cl S') ∧ ∀ s, s < i → rowOk b t mv en s (mv.getD s []) = true)
    (Z := fun r => ∃ junk e1, Cl (S ++ junk) ∧ r = if rowsOk b t mv en = true then .nx e1 (S ++ junk) else .exc 1 [] e1 (S ++ junk)) mv.length ?_ ?_ FUEL 0 [t0, .int b, .int t, .tup (mv.map rowT), .tup (en.map natT), t5, t6, t7, t8] S ⟨⟨_, _, rfl⟩, ⟨[], by simp, cl⟩, fun s h => absurd h (Nat.not_lt_zero s)⟩ (Nat.zero_le _) (fuel_ok hm)
  · obtain ⟨junk, e1, h1, h2⟩ := key
    exact ⟨junk, e1, h1, v_for hd h2⟩
  · rintro i e S' hi ⟨⟨z5, z6, rfl⟩, ⟨junk, rfl, cl'⟩, ok⟩
    have hrow : (mv.getD i []).length < LINE := hl _ (by simp [hi])
    obtain ⟨j2, c2, h2⟩ := row_step (mv := mv) (row := mv.getD i []) (t0 := t0) (t7 := t7) (t8 := t8) (s := i) cl' hrow hb ht (by omega) he
    rw [List.append_assoc] at c2 h2
    refine ⟨.tup [.int i, rowT (mv.getD i [])], by simp [iEnm, seqAt, hi], ?_⟩
    have hg : (gTupD 2 (gConsD (gNam 5) (gConsD (gNam 6) gNilD)) (.tup [.int i, rowT (mv.getD i [])]) [t0, .int b, .int t, .tup (mv.map rowT), .tup (en.map natT), z5, z6, t7, t8] (S ++ junk)).toS rowBody = rowBody [t0, .int b, .int t, .tup (mv.map rowT), .tup (en.map natT), .int i, rowT (mv.getD i []), t7, t8] (S ++ junk) := g_two (show (5 : Nat) < 9 by decide) (show (6 : Nat) < 9 by decide)
    rw [hg, h2]
    by_cases c : rowOk b t mv en i (mv.getD i []) = true
    · rw [if_pos c]
      refine .inl ⟨_, _, rfl, ⟨_, _, rfl⟩, ⟨_, rfl, c2⟩, fun s hs => ?_⟩
      by_cases e : s = i
      · subst e; exact c
      · exact ok s (by omega)
    · rw [if_neg c]
      refine .inr (.inr (.inr (.inr ⟨_, _, _, _, rfl, _, [t0, .int b, .int t, .tup (mv.map rowT), .tup (en.map natT), .int i, rowT (mv.getD i []), t7, t8], c2, ?_⟩)))
      have : rowsOk b t mv en = false := by
        cases q : rowsOk b t mv en with
        | false => rfl
        | true => exact absurd (List.all_eq_true.mp q i (List.mem_range.mpr hi)) c
      rw [this, if_neg (by decide)]
  · rintro e S' ⟨⟨z5, z6, rfl⟩, ⟨junk, rfl, cl'⟩, ok⟩
    refine ⟨by simp [iEnm, seqAt], junk, [t0, .int b, .int t, .tup (mv.map rowT), .tup (en.map natT), z5, z6, t7, t8], cl', ?_⟩
    have : rowsOk b t mv en = true := List.all_eq_true.mpr fun s hs => ok s (List.mem_range.mp hs)
    rw [if_pos this]
end K02
set_option Elab.async false
set_option linter.all false
set_option maxRecDepth 100000
set_option maxHeartbeats 4000000
namespace K02
open PySem PySem.Spec PyProof.Rows L2 DD

/-- what check_machine asks -/
def Mc.good (m : Mc) : Bool := !sizeBad m.b m.t && (decide (1 ≤ m.mv.length) && decide (m.mv.length ≤ 200)) && decide (m.en.length = m.mv.length) && ((List.range m.en.length).all fun i => decide (m.en.getD i 0 ≤ 1)) && rowsOk m.b m.t m.mv m.en
theorem g_four {i j k l : Nat} {x y z w : T} {e : EnvT} {S : Store} {q : EnvT → Store → RS} (hi : i < e.length) (hj : j < e.length) (hk : k < e.length) (hl : l < e.length) :
    (gTupD 4 (gConsD (gNam i) (gConsD (gNam j) (gConsD (gNam k) (gConsD (gNam l) gNilD)))) (.tup [x, y, z, w]) e S).toS q = q ((((e.set i x).set j y).set k z).set l w) S := by
  have hj' : j < (e.set i x).length := by rw [List.length_set]; exact hj
  have hk' : k < ((e.set i x).set j y).length := by rw [List.length_set, List.length_set]; exact hk
  have hl' : l < (((e.set i x).set j y).set k z).length := by rw [List.length_set, List.length_set, List.length_set]; exact hl
  simp only [gTupD, List.length_cons, List.length_nil, Nat.zero_add, Nat.reduceAdd, if_true, gConsD, gNam, if_pos hi, RG.bind, if_pos hj', if_pos hk', if_pos hl', gNilD, RG.toS]
theorem v_asgT {a : DE} {g : DG} {t : T} {e : EnvT} {S S1 : Store} {rs : RS} (h1 : a e S = .ok t S1) (h2 : (g t e S1).toS RS.nx = rs) : dAsg a g e S = rs := by
  unfold dAsg
  rw [h1]
  exact h2
theorem finX_cl {S junk : Store} (cl : Cl S) : finX S.length 1 [] (S ++ junk) = .exc 1 [] S := finX_val rfl cl
theorem fin_cl {S junk : Store} (cl : Cl S) : fin S.length .non (S ++ junk) = .ok .non S := fin_val rfl cl rfl
theorem check_ok {m : Mc} {S : Store} (cl : Cl S) (hl : ∀ row ∈ m.mv, row.length < LINE) (hm : m.mv.length < LINE) (hn : m.en.length < LINE) : F_check_machine [m.T] S = if m.good = true then .ok .non S else .exc 1 [] S := by
  have h0 : dAsg (dVar 0) (gTupD 4 (gConsD (gNam 1) (gConsD (gNam 2) (gConsD (gNam 3) (gConsD (gNam 4) gNilD))))) [m.T, .hole, .hole, .hole, .hole, .hole, .hole, .hole, .hole] S = .nx [m.T, .int m.b, .int m.t, .tup (m.mv.map rowT), .tup (m.en.map natT), .hole, .hole, .hole, .hole] S :=
    v_asgT (v_var (t := m.T) rfl nh_tup) (g_four (show (1 : Nat) < 9 by decide) (show (2 : Nat) < 9 by decide) (show (3 : Nat) < 9 by decide) (show (4 : Nat) < 9 by decide))
  cases hz : sizeBad m.b m.t with
  | true =>
    have hg : m.good = false := by unfold Mc.good; rw [hz]; rfl
    rw [hg, if_neg (by decide)]
    have h1 : dExpr (dCall F_check_size (dCons (dVar 1) (dCons (dVar 2) dNil))) [m.T, .int m.b, .int m.t, .tup (m.mv.map rowT), .tup (m.en.map natT), .hole, .hole, .hole, .hole] S = .exc 1 [] [m.T, .int m.b, .int m.t, .tup (m.mv.map rowT), .tup (m.en.map natT), .hole, .hole, .hole, .hole] S := by
      refine v_exprX (v_call (v_cons (v_var (i := 1) rfl nh_int) (v_cons (v_var (i := 2) rfl nh_int) v_nil)) rfl ?_)
      rw [size_exc hz]
      have := finX_cl (junk := []) cl
      rwa [List.append_nil] at this
    refine runD_exc rfl (v_seq h0 (v_seqX h1)) ?_
    have := finX_cl (junk := []) cl
    rwa [List.append_nil] at this
  | false =>
    have h1 : dExpr (dCall F_check_size (dCons (dVar 1) (dCons (dVar 2) dNil))) [m.T, .int m.b, .int m.t, .tup (m.mv.map rowT), .tup (m.en.map natT), .hole, .hole, .hole, .hole] S = .nx [m.T, .int m.b, .int m.t, .tup (m.mv.map rowT), .tup (m.en.map natT), .hole, .hole, .hole, .hole] S :=
      v_expr (v_call (v_cons (v_var (i := 1) rfl nh_int) (v_cons (v_var (i := 2) rfl nh_int) v_nil)) rfl (size_ok hz))
    have hsz : 2 ≤ m.b ∧ m.b ≤ 10 ∧ m.t ≤ 3 := by
      simp only [sizeBad, Bool.or_eq_false_iff, Bool.not_eq_false', Bool.and_eq_true, decide_eq_true_eq] at hz
      omega
    have hA := v_not (v_chain2 (f := nLe) (g := nLe) (a := dLit (.int 1)) (b := dCallF nLenA (dCons (dVar 3) dNil)) (c := dLit (.int 200)) (e := [m.T, .int m.b, .int m.t, .tup (m.mv.map rowT), .tup (m.en.map natT), .hole, .hole, .hole, .hole]) (S := S) v_lit (v_callF (v_cons (v_var (i := 3) rfl nh_tup) v_nil) nLen_t) nLe_i v_lit nLe_i)
    have hB : dBin nNe (dCallF nLenA (dCons (dVar 4) dNil)) (dCallF nLenA (dCons (dVar 3) dNil)) [m.T, .int m.b, .int m.t, .tup (m.mv.map rowT), .tup (m.en.map natT), .hole, .hole, .hole, .hole] S = .ok (.bl (!decide (m.en.length = m.mv.length))) S := by
      refine v_bin (v_callF (v_cons (v_var (i := 4) rfl nh_tup) v_nil) nLen_t) (v_callF (v_cons (v_var (i := 3) rfl nh_tup) v_nil) nLen_t) ?_
      have q := nNe_i (x := ((m.en.map natT).length : Int)) (y := ((m.mv.map rowT).length : Int)) (S := S)
      rw [List.length_map, List.length_map] at q
      have q2 : decide ((m.en.length : Int) = (m.mv.length : Int)) = decide (m.en.length = m.mv.length) := by
        rw [decide_eq_decide]
        omega
      rw [q2] at q
      rw [List.length_map, List.length_map]
      exact q
    have hC := v_not (ends_test (en := m.en) (t0 := m.T) (t1 := .int m.b) (t2 := .int m.t) (t3 := .tup (m.mv.map rowT)) (t5 := .hole) (t6 := .hole) (t7 := .hole) (t8 := .hole) cl hn)
    have qA : (decide ((1 : Int) ≤ ((m.mv.map rowT).length : Nat)) && decide ((((m.mv.map rowT).length : Nat) : Int) ≤ 200)) = (decide (1 ≤ m.mv.length) && decide (m.mv.length ≤ 200)) := by
      rw [List.length_map]
      congr 1
      · rw [decide_eq_decide]; omega
      · rw [decide_eq_decide]; omega
    rw [qA] at hA
    generalize hkA : (decide (1 ≤ m.mv.length) && decide (m.mv.length ≤ 200)) = kA at hA
    generalize hkC : ((List.range m.en.length).all fun i => decide (m.en.getD i 0 ≤ 1)) = kC at hC
    generalize hjC : [O.lst ((List.range m.en.length).map fun i => T.bl (decide (m.en.getD i 0 ≤ 1)))] = jC at hC
    have clC : Cl (S ++ jC) := by rw [← hjC]; exact cl_bools cl
    have gd : m.good = (kA && decide (m.en.length = m.mv.length) && kC && rowsOk m.b m.t m.mv m.en) := by unfold Mc.good; rw [hz, hkA, hkC]; simp
    cases kA with
    | false =>
      rw [gd, if_neg (by simp)]
      refine runD_exc rfl (v_seq h0 (v_seq h1 (v_seqX (v_ifT (v_orT hA) rfl)))) ?_
      have := finX_cl (junk := []) cl
      rwa [List.append_nil] at this
    | true =>
      by_cases cB : m.en.length = m.mv.length
      · rw [decide_eq_true cB] at hB gd
        have hBC := v_orF hA (v_orF hB hC)
        cases kC with
        | false =>
          rw [gd, if_neg (by simp)]
          exact runD_exc rfl (v_seq h0 (v_seq h1 (v_seqX (v_ifT hBC rfl)))) (finX_cl cl)
        | true =>
          obtain ⟨junk, e1, c1, hL⟩ := rows_loop (S := S ++ jC) (b := m.b) (t := m.t) (mv := m.mv) (en := m.en) (t0 := m.T) (t5 := .hole) (t6 := .hole) (t7 := .hole) (t8 := .hole) clC hl ⟨by omega, by omega⟩ (by omega) cB hm
          rw [List.append_assoc] at hL
          have gd' : m.good = rowsOk m.b m.t m.mv m.en := by rw [gd]; simp
          rw [gd']
          cases hr : rowsOk m.b m.t m.mv m.en with
          | true =>
            rw [hr, if_pos rfl] at hL
            rw [if_pos rfl]
            exact runD_nx rfl (v_seq h0 (v_seq h1 (v_seq (v_ifF hBC rfl) hL))) (fin_cl cl)
          | false =>
            rw [hr, if_neg (by decide)] at hL
            rw [if_neg (by decide)]
            exact runD_exc rfl (v_seq h0 (v_seq h1 (v_seq (v_ifF hBC rfl) hL))) (finX_cl cl)
      · rw [decide_eq_false cB] at hB gd
        rw [gd, if_neg (by simp)]
        refine runD_exc rfl (v_seq h0 (v_seq h1 (v_seqX (v_ifT (v_orF hA (v_orT hB)) rfl)))) ?_
        have := finX_cl (junk := []) cl
        rwa [List.append_nil] at this
end K02
set_option Elab.async false
set_option linter.all false
set_option maxRecDepth 100000
set_option maxHeartbeats 4000000
namespace K02
open PySem PySem.Spec PyProof.Rows L2 DD

theorem v_slcU {f : T → Option Int → Option Int → Store → R T} {a h : DE} {e : EnvT} {S : Store} {t : T} {k : Int} {r : R T} (h1 : a e S = .ok t S) (h2 : h e S = .ok (.int k) S) (h3 : f t none (some k) S = r) : dSlc f a none (some h) e S = r := by
  simp only [dSlc, h1, R.bind, dPart, h2]
  exact h3
theorem cut2 (x y z w : T) : cutT [x, y, z, w] none (some 2) = [x, y] := rfl
def likeOk (m o : Mc) : Bool := m.good && o.good && decide (m.b = o.b ∧ m.t = o.t)
theorem like_ok {m o : Mc} {S : Store} (cl : Cl S) (hl : ∀ row ∈ m.mv, row.length < LINE) (hm : m.mv.length < LINE) (hn : m.en.length < LINE) (hl' : ∀ row ∈ o.mv, row.length < LINE) (hm' : o.mv.length < LINE) (hn' : o.en.length < LINE) :
    F_check_like [m.T, o.T] S = if likeOk m o = true then .ok .non S else .exc 1 [] S := by
  have c1 := check_ok (m := m) cl hl hm hn
  have c2 := check_ok (m := o) cl hl' hm' hn'
  have fx : finX S.length 1 [] S = .exc 1 [] S := by
    have := finX_cl (junk := []) cl
    rwa [List.append_nil] at this
  cases g1 : m.good with
  | false =>
    rw [g1, if_neg (by decide)] at c1
    rw [show likeOk m o = false by unfold likeOk; rw [g1]; rfl, if_neg (by decide)]
    exact runD_exc rfl (v_seqX (v_exprX (v_call (v_cons (v_var (t := m.T) rfl nh_tup) v_nil) rfl c1))) fx
  | true =>
    rw [g1, if_pos rfl] at c1
    have h1 := v_expr (e := [m.T, o.T]) (v_call (v_cons (v_var (i := 0) (t := m.T) rfl nh_tup) v_nil) rfl c1)
    cases g2 : o.good with
    | false =>
      rw [g2, if_neg (by decide)] at c2
      rw [show likeOk m o = false by unfold likeOk; rw [g1, g2]; rfl, if_neg (by decide)]
      exact runD_exc rfl (v_seq h1 (v_seqX (v_exprX (v_call (v_cons (v_var (t := o.T) rfl nh_tup) v_nil) rfl c2)))) fx
    | true =>
      rw [g2, if_pos rfl] at c2
      have h2 := v_expr (e := [m.T, o.T]) (v_call (v_cons (v_var (i := 1) (t := o.T) rfl nh_tup) v_nil) rfl c2)
      have s1 : dSlc nSlc (dVar 0) none (some (dLit (.int 2))) [m.T, o.T] S = .ok (.tup [.int m.b, .int m.t]) S := v_slcU (v_var (t := m.T) rfl nh_tup) v_lit rfl
      have s2 : dSlc nSlc (dVar 1) none (some (dLit (.int 2))) [m.T, o.T] S = .ok (.tup [.int o.b, .int o.t]) S := v_slcU (v_var (t := o.T) rfl nh_tup) v_lit rfl
      have dc : Decidable (T.tup [.int m.b, .int m.t] = T.tup [.int o.b, .int o.t]) := Classical.propDecidable _
      have s3 := v_bin s1 s2 (nNe_it (S := S) rfl rfl (by simp [T.dep, T.deps]) (by simp [T.dep, T.deps]))
      have q : decide (T.tup [.int m.b, .int m.t] = T.tup [.int o.b, .int o.t]) = decide (m.b = o.b ∧ m.t = o.t) := by
        rw [decide_eq_decide]
        constructor
        · intro z
          injection z with z
          injection z with z1 z2
          injection z1 with z1
          injection z2 with z2 z3
          injection z2 with z2
          omega
        · rintro ⟨a, b⟩
          rw [a, b]
      rw [q] at s3
      have lk : likeOk m o = decide (m.b = o.b ∧ m.t = o.t) := by unfold likeOk; rw [g1, g2]; rfl
      rw [lk]
      by_cases c : m.b = o.b ∧ m.t = o.t
      · rw [decide_eq_true c] at s3 ⊢
        rw [if_pos rfl]
        exact runD_nx rfl (v_seq h1 (v_seq h2 (v_ifF s3 rfl))) (fin_id rfl rfl)
      · rw [decide_eq_false c] at s3 ⊢
        rw [if_neg (by decide)]
        exact runD_exc rfl (v_seq h1 (v_seq h2 (v_ifT s3 rfl))) fx
end K02
set_option Elab.async false
set_option linter.all false
set_option maxRecDepth 100000
set_option maxHeartbeats 4000000
namespace K02
open PySem PySem.Spec PyProof.Rows L2 DD

def ltQ (p q : Int × Int) : Bool := if p.1 = q.1 then decide (p.2 < q.2) else decide (p.1 < q.1)
theorem nLt_pair {p q : Int × Int} {S : Store} : nLt (pairT p) (pairT q) S = .ok (.bl (ltQ p q)) S := by
  unfold pairT
  show okB (HT.lexLt [p.1, p.2] [q.1, q.2]) S = _
  unfold okB ltQ
  rw [HT.lexLt_cons, HT.lexLt_cons, HT.lexLt_nil_nil]
  congr 2
  split
  · split
    · rename_i h; rw [h]; simp
    · rfl
  · rfl
def asc (ps : List (Int × Int)) : Bool := (List.range (ps.length - 1)).all fun i => ltQ (ps.getD i (0, 0)) (ps.getD (i + 1) (0, 0))
theorem nh_pair {p : Int × Int} : pairT p ≠ .hole := by unfold pairT; intro z; cases z
theorem cut1 {ts : List T} : cutT ts (some 1) none = ts.drop 1 := by
  unfold cutT
  cases ts with
  | nil => rfl
  | cons a ts =>
    have e1 : HT.sIx (a :: ts).length 0 (some 1) = 1 := by
      have := HT.sIx_nat (a :: ts).length 0 1
      rw [show ((1 : Nat) : Int) = 1 from rfl] at this
      rw [this]
      simp
    have e2 : HT.sIx (a :: ts).length (a :: ts).length none = (a :: ts).length := rfl
    rw [e1, e2]
    simp
/-- all([one < two for one, two in zip(paper, paper[1:])]) -/
theorem asc_test {S : Store} {ps : List (Int × Int)} {t0 t1 t3 t4 t5 t6 : T} (cl : Cl S) (hl : ps.length < LINE) :
    dCallF nAll (dCons (dLC [4, 5] (dZip (dCons (dVar 2) (dCons (dSlc nSlc (dVar 2) (some (dLit (.int 1))) none) dNil))) (gTupD 2 (gConsD (gNam 4) (gConsD (gNam 5) gNilD))) (dLit (.bl true)) (dBin nLt (dVar 4) (dVar 5))) dNil) [t0, t1, .tup (ps.map pairT), t3, t4, t5, t6] S =
      .ok (.bl (asc ps)) (S ++ [.lst ((List.range (ps.length - 1)).map fun i => .bl (ltQ (ps.getD i (0, 0)) (ps.getD (i + 1) (0, 0))))]) := by
  have hs : dSlc nSlc (dVar 2) (some (dLit (.int 1))) none [t0, t1, .tup (ps.map pairT), t3, t4, t5, t6] S = .ok (.tup ((ps.map pairT).drop 1)) S := by
    simp only [dSlc, dPart, dLit, R.bind]
    rw [v_var (i := 2) (t := .tup (ps.map pairT)) rfl nh_tup]
    show R.ok (T.tup (cutT (ps.map pairT) (some 1) none)) S = _
    rw [cut1]
  have hd : dZip (dCons (dVar 2) (dCons (dSlc nSlc (dVar 2) (some (dLit (.int 1))) none) dNil)) [t0, t1, .tup (ps.map pairT), t3, t4, t5, t6] S = .ok (iZip (.tup (ps.map pairT)) (.tup ((ps.map pairT).drop 1))) S := by
    unfold dZip
    rw [v_cons (v_var (i := 2) (t := .tup (ps.map pairT)) rfl nh_tup) (v_cons hs v_nil)]
    rfl
  refine v_callF (v_cons (lc_pure (n := ps.length - 1) (x := fun i => .tup [pairT (ps.getD i (0, 0)), pairT (ps.getD (i + 1) (0, 0))]) (y := fun i => .bl (ltQ (ps.getD i (0, 0)) (ps.getD (i + 1) (0, 0)))) (E := fun i => [t0.noLam, t1.noLam, .tup (ps.map pairT), t3.noLam, pairT (ps.getD i (0, 0)), pairT (ps.getD (i + 1) (0, 0)), t6.noLam]) cl hd (by omega) (fun i S' hi _ => ?_) (fun S' _ => ?_) (fun i S' hi => ?_) (fun i S' hi _ => ?_) fun i hi => ⟨rfl, rfl⟩) v_nil) nAll_l
  · have h1 : i < ps.length := by omega
    have h2 : i + 1 < ps.length := by omega
    have h3 : 1 + i < ps.length := by omega
    have e3 : 1 + i = i + 1 := by omega
    simp [DD.iZip, seqAt, h1, h2, h3, e3]
  · have h2 : ¬ 1 + (ps.length - 1) < ps.length := by omega
    have e : ((ps.map pairT).drop 1)[ps.length - 1]? = none := by rw [List.getElem?_drop, List.getElem?_eq_none (by rw [List.length_map]; omega)]
    show (match (ps.map pairT)[ps.length - 1]?, ((ps.map pairT).drop 1)[ps.length - 1]? with | some x, some y => NX.item (.tup [x, y]) | _, _ => .stop) = .stop
    rw [e]
    cases (ps.map pairT)[ps.length - 1]? <;> rfl
  · rfl
  · exact v_bin (v_var (t := pairT _) rfl nh_pair) (v_var (t := pairT _) rfl nh_pair) nLt_pair
end K02
set_option Elab.async false
set_option linter.all false
set_option maxRecDepth 100000
set_option maxHeartbeats 4000000
namespace K02
open PySem PySem.Spec PyProof.Rows L2 DD

def inR (x : Int) (n : Nat) : Bool := decide (0 ≤ x) && decide (x < n)
/-- what is asked of a pair's places and ends -/
def pairB (m o : Mc) (p : Int × Int) : Bool := inR p.1 m.mv.length && inR p.2 o.mv.length && decide (m.en.getD p.1.toNat 0 = o.en.getD p.2.toNat 0)
theorem mac_mv {m : Mc} {S : Store} : nIx m.T (.int 2) S = .ok (.tup (m.mv.map rowT)) S := nIx_t (i := 2) rfl
theorem mac_en {m : Mc} {S : Store} : nIx m.T (.int 3) S = .ok (.tup (m.en.map natT)) S := nIx_t (i := 3) rfl
theorem in_test {m : Mc} {S : Store} {e : EnvT} {i j : Nat} {x : Int} (h0 : e[i]? = some m.T) (h1 : e[j]? = some (.int x)) :
    dUn nNot (dChain nLe nLt (dLit (.int 0)) (dVar j) (dCallF nLenA (dCons (dBin nIx (dVar i) (dLit (.int 2))) dNil))) e S = .ok (.bl (!inR x m.mv.length)) S := by
  have h := v_not (v_chain2 (f := nLe) (g := nLt) (S := S) (e := e) (a := dLit (.int 0)) v_lit (v_var h1 nh_int) nLe_i (v_callF (v_cons (v_bin (v_var (t := m.T) h0 nh_tup) v_lit mac_mv) v_nil) nLen_t) nLt_i)
  rw [List.length_map] at h
  exact h
theorem ends_ne {m o : Mc} {S : Store} {e : EnvT} {i j : Nat} {x y : Int} (h0 : e[0]? = some m.T) (h1 : e[1]? = some o.T) (hi : e[i]? = some (.int x)) (hj : e[j]? = some (.int y)) (hx : inR x m.en.length = true) (hy : inR y o.en.length = true) :
    dBin nNe (dBin nIx (dBin nIx (dVar 0) (dLit (.int 3))) (dVar i)) (dBin nIx (dBin nIx (dVar 1) (dLit (.int 3))) (dVar j)) e S = .ok (.bl (!decide (m.en.getD x.toNat 0 = o.en.getD y.toNat 0))) S := by
  simp only [inR, Bool.and_eq_true, decide_eq_true_eq] at hx hy
  obtain ⟨a, rfl⟩ : ∃ a : Nat, x = a := ⟨x.toNat, by omega⟩
  obtain ⟨b, rfl⟩ : ∃ b : Nat, y = b := ⟨y.toNat, by omega⟩
  have ha : a < m.en.length := by omega
  have hb : b < o.en.length := by omega
  have g : ∀ (l : List Nat) (k : Nat), k < l.length → (l.map natT)[k]? = some (natT (l.getD k 0)) := fun l k hk => by simp [hk]
  have q := nNe_i (x := ((m.en.getD a 0 : Nat) : Int)) (y := ((o.en.getD b 0 : Nat) : Int)) (S := S)
  have q2 : decide (((m.en.getD a 0 : Nat) : Int) = ((o.en.getD b 0 : Nat) : Int)) = decide (m.en.getD a 0 = o.en.getD b 0) := by
    rw [decide_eq_decide]
    omega
  rw [q2] at q
  rw [Int.toNat_natCast, Int.toNat_natCast]
  exact v_bin (v_bin (v_bin (v_var (t := m.T) h0 nh_tup) v_lit mac_en) (v_var hi nh_int) (nIx_t (g m.en a ha))) (v_bin (v_bin (v_var (t := o.T) h1 nh_tup) v_lit mac_en) (v_var hj nh_int) (nIx_t (g o.en b hb))) q
theorem pair_test {m o : Mc} {S : Store} {e : EnvT} {i j : Nat} {p : Int × Int} (hm : m.en.length = m.mv.length) (ho : o.en.length = o.mv.length) (h0 : e[0]? = some m.T) (h1 : e[1]? = some o.T) (hi : e[i]? = some (.int p.1)) (hj : e[j]? = some (.int p.2)) :
    dOr (dUn nNot (dChain nLe nLt (dLit (.int 0)) (dVar i) (dCallF nLenA (dCons (dBin nIx (dVar 0) (dLit (.int 2))) dNil)))) (dOr (dUn nNot (dChain nLe nLt (dLit (.int 0)) (dVar j) (dCallF nLenA (dCons (dBin nIx (dVar 1) (dLit (.int 2))) dNil))))
      (dBin nNe (dBin nIx (dBin nIx (dVar 0) (dLit (.int 3))) (dVar i)) (dBin nIx (dBin nIx (dVar 1) (dLit (.int 3))) (dVar j)))) e S = .ok (.bl (!pairB m o p)) S := by
  have a1 := in_test (S := S) h0 hi
  have a2 := in_test (S := S) h1 hj
  cases c1 : inR p.1 m.mv.length with
  | false =>
    rw [c1] at a1
    rw [show pairB m o p = false by unfold pairB; rw [c1]; rfl]
    exact v_orT a1
  | true =>
    rw [c1] at a1
    refine v_orF a1 ?_
    cases c2 : inR p.2 o.mv.length with
    | false =>
      rw [c2] at a2
      rw [show pairB m o p = false by unfold pairB; rw [c1, c2]; rfl]
      exact v_orT a2
    | true =>
      rw [c2] at a2
      rw [show pairB m o p = decide (m.en.getD p.1.toNat 0 = o.en.getD p.2.toNat 0) by unfold pairB; rw [c1, c2]; rfl]
      exact v_orF a2 (ends_ne h0 h1 hi hj (by rw [hm]; exact c1) (by rw [ho]; exact c2))
end K02
set_option Elab.async false
set_option linter.all false
set_option maxRecDepth 100000
set_option maxHeartbeats 4000000
namespace K02
open PySem PySem.Spec PyProof.Rows L2 DD

theorem pair_it (p : Int × Int) : (pairT p).it = true := by simp [pairT, T.it, T.its]
theorem pairs_its : ∀ ps : List (Int × Int), T.its (ps.map pairT) = true
  | [] => rfl
  | p :: ps => by
    show (T.it (pairT p) && T.its (ps.map pairT)) = true
    rw [pair_it, pairs_its ps]
    rfl
theorem pair_dep (p : Int × Int) : (pairT p).dep = 1 := by simp [pairT, T.dep, T.deps]
theorem pairs_dep : ∀ ps : List (Int × Int), T.deps (ps.map pairT) ≤ 1
  | [] => by simp [T.deps]
  | p :: ps => by
    show max (pairT p).dep (T.deps (ps.map pairT)) ≤ 1
    have := pairs_dep ps
    rw [pair_dep]
    omega
theorem pairT_inj {p q : Int × Int} (h : pairT p = pairT q) : p = q := by
  unfold pairT at h
  injection h with h
  injection h with h1 h2
  injection h1 with h1
  injection h2 with h2 h3
  injection h2 with h2
  exact Prod.ext h1 h2
theorem mem_pairs {q : Int × Int} {S : Store} {ps : List (Int × Int)} {neg : Bool} : nMem neg (pairT q) (ps.map pairT) S = .ok (.bl (decide (q ∈ ps) ^^ neg)) S := by
  unfold nMem
  rw [dat_pure (T.it_pure _ (pair_it q)), T.pures_dat _ _ (T.its_pure _ (pairs_its ps))]
  have s1 : shp (tD (pairT q)) = true := shp_it (pair_it q) (by rw [pair_dep]; decide)
  have s2 : shp (.tuple (tDs (ps.map pairT))) = true := by
    have h := shp_it (t := .tup (ps.map pairT)) (pairs_its ps) (by have := pairs_dep ps; simp only [T.dep]; omega)
    simpa [tD] using h
  have s3 : shp (.list (tDs (ps.map pairT))) = true := by
    unfold shp SeqAt.shaped at s2 ⊢
    simpa [PyData.canLay0, PyData.depth] using s2
  simp only [s1, s2, s3, Bool.and_self, if_true, okB]
  congr 3
  unfold memD
  induction ps with
  | nil => simp [tDs]
  | cons p ps ih =>
    have hs2 : shp (.tuple (tDs (ps.map pairT))) = true := by
      have h := shp_it (t := .tup (ps.map pairT)) (pairs_its ps) (by have := pairs_dep ps; simp only [T.dep]; omega)
      simpa [tD] using h
    have hs3 : shp (.list (tDs (ps.map pairT))) = true := by
      unfold shp SeqAt.shaped at hs2 ⊢
      simpa [PyData.canLay0, PyData.depth] using hs2
    show (PyData.eqv (tD (pairT p)) (tD (pairT q)) || (tDs (ps.map pairT)).any fun z => PyData.eqv z (tD (pairT q))) = _
    rw [ih hs2 hs3]
    by_cases c : p = q
    · subst c
      rw [(it_eqv _ _ (pair_it p) (pair_it p)).mpr rfl]
      simp
    · have c2 : ¬ q = p := fun z => c z.symm
      have e : PyData.eqv (tD (pairT p)) (tD (pairT q)) = false := by
        cases h : PyData.eqv (tD (pairT p)) (tD (pairT q)) with
        | false => rfl
        | true => exact absurd (pairT_inj ((it_eqv _ _ (pair_it p) (pair_it q)).mp h)) c
      rw [e]
      simp [c2]
end K02
set_option Elab.async false
set_option linter.all false
set_option maxRecDepth 100000
set_option maxHeartbeats 4000000
namespace K02
open PySem PySem.Spec PyProof.Rows L2 DD
def nxtP (m o : Mc) (p : Int × Int) (k : Nat) : Int × Int := (((m.mv.getD p.1.toNat []).getD k 0 : Nat), ((o.mv.getD p.2.toNat []).getD k 0 : Nat))
theorem getD_map {α β : Type} {f : α → β} {l : List α} {i : Nat} {d : α} (h : i < l.length) : (l.map f)[i]? = some (f (l.getD i d)) := by simp [h]
theorem row_ix {m : Mc} {S : Store} {x : Int} (h : inR x m.mv.length = true) : nIx (.tup (m.mv.map rowT)) (.int x) S = .ok (rowT (m.mv.getD x.toNat [])) S := by
  simp only [inR, Bool.and_eq_true, decide_eq_true_eq] at h
  obtain ⟨a, rfl⟩ : ∃ a : Nat, x = a := ⟨x.toNat, by omega⟩
  rw [Int.toNat_natCast]
  exact nIx_t (getD_map (by omega))
theorem v_row {m : Mc} {S : Store} {e : EnvT} {i j : Nat} {x : Int} (h0 : e[i]? = some m.T) (h1 : e[j]? = some (.int x)) (h : inR x m.mv.length = true) :
    dBin nIx (dBin nIx (dVar i) (dLit (.int 2))) (dVar j) e S = .ok (rowT (m.mv.getD x.toNat [])) S :=
  v_bin (v_bin (v_var (t := m.T) h0 nh_tup) v_lit mac_mv) (v_var h1 nh_int) (row_ix h)
theorem in_known {S : Store} {k : Nat} {ps : List (Int × Int)} {q : Int × Int} {neg : Bool} (h : S[k]? = some (.dtp (pairsD (.bl true) ps []))) : nIn neg (pairT q) (.ref k) S = .ok (.bl (decide (q ∈ ps) ^^ neg)) S := by
  have e := pairsD_has (v := .bl true) (q := q) (ps := ps) (kvs := [])
  have e0 : (getN ([] : List (T × T)) (pairK q)).isSome = false := rfl
  rw [e0, Bool.or_false] at e
  show (match S[k]? with
    | some (.dct kvs) => _
    | some (.dtp kvs) => _
    | some (.lst xs) => _
    | some (.frl xs) => _
    | _ => _) = _
  rw [h]
  show (match keyT (pairT q) with
      | some k => okB ((getN (pairsD (.bl true) ps []) k).isSome ^^ neg) S
      | none => .bad) = _
  rw [keyT_pair]
  show okB _ S = _
  rw [e]
  rfl
/-- all([pair in known for pair in zip(machine[2][one], other[2][two])]) -/
theorem cols_test {m o : Mc} {S : Store} {ps : List (Int × Int)} {p : Int × Int} {t2 t6 : T} {k w : Nat} (cl : Cl S) (hk : S[k]? = some (.dtp (pairsD (.bl true) ps []))) (h1 : inR p.1 m.mv.length = true) (h2 : inR p.2 o.mv.length = true)
    (w1 : (m.mv.getD p.1.toNat []).length = w) (w2 : (o.mv.getD p.2.toNat []).length = w) (hw : w < LINE) :
    dCallF nAll (dCons (dLC [6] (dZip (dCons (dBin nIx (dBin nIx (dVar 0) (dLit (.int 2))) (dVar 4)) (dCons (dBin nIx (dBin nIx (dVar 1) (dLit (.int 2))) (dVar 5)) dNil))) (gNam 6) (dLit (.bl true)) (dBin (nIn false) (dVar 6) (dVar 3))) dNil) [m.T, o.T, t2, .ref k, .int p.1, .int p.2, t6] S =
      .ok (.bl ((List.range w).all fun j => decide (nxtP m o p j ∈ ps))) (S ++ [.lst ((List.range w).map fun j => .bl (decide (nxtP m o p j ∈ ps)))]) := by
  have hd : dZip (dCons (dBin nIx (dBin nIx (dVar 0) (dLit (.int 2))) (dVar 4)) (dCons (dBin nIx (dBin nIx (dVar 1) (dLit (.int 2))) (dVar 5)) dNil)) [m.T, o.T, t2, .ref k, .int p.1, .int p.2, t6] S = .ok (DD.iZip (rowT (m.mv.getD p.1.toNat [])) (rowT (o.mv.getD p.2.toNat []))) S := by
    unfold dZip
    rw [v_cons (v_row (i := 0) (j := 4) rfl rfl h1) (v_cons (v_row (i := 1) (j := 5) rfl rfl h2) v_nil)]
    rfl
  refine v_callF (v_cons (lc_pure (n := w) (x := fun i => pairT (nxtP m o p i)) (y := fun i => .bl (decide (nxtP m o p i ∈ ps))) (E := fun i => [m.T, o.T, t2.noLam, .ref k, .int p.1, .int p.2, pairT (nxtP m o p i)]) cl hd hw (fun i S' hi _ => ?_) (fun S' _ => ?_) (fun i S' hi => ?_) (fun i S' hi ex => ?_) fun i hi => ⟨rfl, rfl⟩) v_nil) nAll_l
  · have e1 : ((m.mv.getD p.1.toNat []).map natT)[i]? = some (natT ((m.mv.getD p.1.toNat []).getD i 0)) := getD_map (by omega)
    have e2 : ((o.mv.getD p.2.toNat []).map natT)[i]? = some (natT ((o.mv.getD p.2.toNat []).getD i 0)) := getD_map (by omega)
    show (match ((m.mv.getD p.1.toNat []).map natT)[i]?, ((o.mv.getD p.2.toNat []).map natT)[i]? with | some x, some y => NX.item (.tup [x, y]) | _, _ => .stop) = _
    rw [e1, e2]
    rfl
  · show (match ((m.mv.getD p.1.toNat []).map natT)[w]?, ((o.mv.getD p.2.toNat []).map natT)[w]? with | some x, some y => NX.item (.tup [x, y]) | _, _ => .stop) = .stop
    have e : ((m.mv.getD p.1.toNat []).map natT)[w]? = none := List.getElem?_eq_none (by rw [List.length_map]; omega)
    rw [e]
  · rfl
  · have := in_known (q := nxtP m o p i) (neg := false) (ex _ _ hk)
    rw [Bool.xor_false] at this
    exact v_bin (v_var (t := pairT _) rfl nh_pair) (v_var rfl nh_ref) this
end K02
set_option Elab.async false
set_option linter.all false
set_option maxRecDepth 100000
set_option maxHeartbeats 4000000
namespace K02
open PySem PySem.Spec PyProof.Rows L2 DD
/-- what good machines have -/
structure Gd (m : Mc) (w : Nat) : Prop where
  b : 2 ≤ m.b ∧ m.b ≤ 10
  t : 1 ≤ m.t ∧ m.t ≤ 3
  n : 1 ≤ m.mv.length ∧ m.mv.length ≤ 200
  e : m.en.length = m.mv.length
  e1 : ∀ i, i < m.mv.length → m.en.getD i 0 ≤ 1
  we : w = m.b ^ m.t
  w1 : ∀ i, i < m.mv.length → (m.mv.getD i []).length = w
  r : ∀ i, i < m.mv.length → ∀ j, j < w → (m.mv.getD i []).getD j 0 < m.mv.length
  z : ∀ i, i < m.mv.length → m.en.getD ((m.mv.getD i []).getD 0 0) 0 = m.en.getD i 0
theorem good_iff {m : Mc} : m.good = true ↔ Gd m (m.b ^ m.t) := by
  unfold Mc.good sizeBad rowsOk rowOk
  simp only [Bool.and_eq_true, decide_eq_true_eq, List.all_eq_true, List.mem_range, Bool.not_eq_true', Bool.or_eq_false_iff, Bool.not_eq_false']
  constructor
  · rintro ⟨⟨⟨⟨⟨⟨a1, a2⟩, a3, a4⟩, c1, c2⟩, d⟩, f⟩, g⟩
    exact ⟨by omega, by omega, ⟨c1, c2⟩, d, fun i hi => f i (by omega), rfl, fun i hi => (g i hi).1.1, fun i hi j hj => (g i hi).1.2 j (by rw [(g i hi).1.1]; exact hj), fun i hi => (g i hi).2⟩
  · intro h
    refine ⟨⟨⟨⟨⟨⟨?_, ?_⟩, ?_, ?_⟩, h.n⟩, h.e⟩, fun i hi => h.e1 i (by rw [← h.e]; exact hi)⟩, fun i hi => ⟨⟨h.w1 i hi, fun j hj => h.r i hi j (by rw [← h.w1 i hi]; exact hj)⟩, h.z i hi⟩⟩
    · have := h.b; omega
    · have := h.b; omega
    · have := h.t; omega
    · have := h.t; omega
theorem pow_small {b t : Nat} (hb : 2 ≤ b ∧ b ≤ 10) (ht : 1 ≤ t ∧ t ≤ 3) : 1 ≤ b ^ t ∧ b ^ t ≤ 1000 := by
  have h1 : b ^ t ≤ 10 ^ t := Nat.pow_le_pow_left hb.2 t
  have h2 : 10 ^ t ≤ 10 ^ 3 := Nat.pow_le_pow_right (by omega) ht.2
  exact ⟨Nat.pow_pos (by omega), by omega⟩
theorem Gd.ws {m w} (h : Gd m w) : 1 ≤ w ∧ w ≤ 1000 := by rw [h.we]; exact pow_small h.b h.t
def pairOk (m o : Mc) (w : Nat) (ps : List (Int × Int)) (p : Int × Int) : Bool := pairB m o p && (List.range w).all fun j => decide (nxtP m o p j ∈ ps)
def judgeB (m o : Mc) (ps : List (Int × Int)) : Bool := decide (((0 : Int), (0 : Int)) ∈ ps) && asc ps && ps.all (pairOk m o (m.b ^ m.t) ps)
theorem pairsD_low {n : Nat} : ∀ {ps : List (Int × Int)} {kvs : List (T × T)}, (∀ p ∈ kvs, p.1.low n = true ∧ p.2.low n = true) → ∀ p ∈ pairsD (.bl true) ps kvs, p.1.low n = true ∧ p.2.low n = true
  | [], kvs, h => h
  | q :: ps, kvs, h => by
    unfold pairsD
    refine pairsD_low fun p hp => ?_
    unfold putN at hp
    split at hp
    · obtain ⟨y, hy, e⟩ := List.mem_map.mp hp
      split at e
      · rw [← e]; exact ⟨(h y hy).1, rfl⟩
      · rw [← e]; exact h y hy
    · rcases List.mem_append.mp hp with z | z
      · exact h p z
      · rw [List.mem_singleton] at z
        rw [z]
        exact ⟨rfl, rfl⟩
theorem cl_known {S : Store} {ps : List (Int × Int)} (cl : Cl S) : Cl (S ++ [.dtp (pairsD (.bl true) ps [])]) := by
  refine cl_snoc cl ?_
  have h := pairsD_low (n := S.length + 1) (ps := ps) (kvs := []) (fun p hp => by cases hp)
  simp only [O.low, Bool.and_eq_true]
  refine ⟨lows_iff.mpr fun t ht => ?_, lows_iff.mpr fun t ht => ?_⟩
  · obtain ⟨p, hp, e⟩ := List.mem_map.mp ht
    rw [← e]; exact (h p hp).1
  · obtain ⟨p, hp, e⟩ := List.mem_map.mp ht
    rw [← e]; exact (h p hp).2
abbrev jBody : DS := (dSeq (dIf (dOr (dUn nNot (dChain nLe nLt (dLit (.int 0)) (dVar 4) (dCallF nLenA (dCons (dBin nIx (dVar 0) (dLit (.int 2))) dNil)))) (dOr (dUn nNot (dChain nLe nLt (dLit (.int 0)) (dVar 5) (dCallF nLenA (dCons (dBin nIx (dVar 1) (dLit (.int 2))) dNil)))) (dBin nNe (dBin nIx (dBin nIx (dVar 0) (dLit (.int 3))) (dVar 4)) (dBin nIx (dBin nIx (dVar 1) (dLit (.int 3))) (dVar 5))))) (dRet (dLit (.bl false))) dSkip) (dIf (dUn nNot (dCallF nAll (dCons (dLC [6] (dZip (dCons (dBin nIx (dBin nIx (dVar 0) (dLit (.int 2))) (dVar 4)) (dCons (dBin nIx (dBin nIx (dVar 1) (dLit (.int 2))) (dVar 5)) dNil))) (gNam 6) (dLit (.bl true)) (dBin (nIn false) (dVar 6) (dVar 3))) dNil))) (dRet (dLit (.bl false))) dSkip))
theorem pairB_in {m o : Mc} {p : Int × Int} (h : pairB m o p = true) : inR p.1 m.mv.length = true ∧ inR p.2 o.mv.length = true := by
  unfold pairB at h
  simp only [Bool.and_eq_true] at h
  exact h.1
theorem Gd.row {m w} (h : Gd m w) {x : Int} (hx : inR x m.mv.length = true) : (m.mv.getD x.toNat []).length = w := by
  simp only [inR, Bool.and_eq_true, decide_eq_true_eq] at hx
  exact h.w1 _ (by omega)
theorem j_step {m o : Mc} {w k : Nat} {S : Store} {ps : List (Int × Int)} {p : Int × Int} {t2 t6 : T} (gm : Gd m w) (go : Gd o w) (cl : Cl S) (hk : S[k]? = some (.dtp (pairsD (.bl true) ps []))) :
    ∃ junk, Cl (S ++ junk) ∧ jBody [m.T, o.T, t2, .ref k, .int p.1, .int p.2, t6] S = if pairOk m o w ps p = true then .nx [m.T, o.T, t2, .ref k, .int p.1, .int p.2, t6] (S ++ junk) else .rt (.bl false) (S ++ junk) := by
  have hp := pair_test (m := m) (o := o) (S := S) (e := [m.T, o.T, t2, .ref k, .int p.1, .int p.2, t6]) (i := 4) (j := 5) (p := p) gm.e go.e rfl rfl rfl rfl
  cases c1 : pairB m o p with
  | false =>
    rw [c1] at hp
    refine ⟨[], by rw [List.append_nil]; exact cl, ?_⟩
    rw [show pairOk m o w ps p = false by unfold pairOk; rw [c1]; rfl, if_neg (by decide), List.append_nil]
    exact v_seqR (v_ifT hp (v_ret v_lit))
  | true =>
    rw [c1] at hp
    obtain ⟨h1, h2⟩ := pairB_in c1
    have hc := cols_test (t2 := t2) (t6 := t6) cl hk h1 h2 (gm.row h1) (go.row h2) (by have := gm.ws; unfold LINE; omega)
    have ho : pairOk m o w ps p = ((List.range w).all fun j => decide (nxtP m o p j ∈ ps)) := by unfold pairOk; rw [c1]; rfl
    rw [← ho] at hc
    generalize hj : [O.lst ((List.range w).map fun j => T.bl (decide (nxtP m o p j ∈ ps)))] = junk at hc
    refine ⟨junk, by rw [← hj]; exact cl_bools cl, ?_⟩
    refine v_seq (v_ifF hp rfl) ?_
    cases c2 : pairOk m o w ps p with
    | true =>
      rw [c2] at hc
      rw [if_pos rfl]
      exact v_ifF (v_not hc) rfl
    | false =>
      rw [c2] at hc
      rw [if_neg (by decide)]
      exact v_ifT (v_not hc) (v_ret v_lit)
theorem j_loop {m o : Mc} {w k : Nat} {S : Store} {ps : List (Int × Int)} {t4 t5 t6 : T} (gm : Gd m w) (go : Gd o w) (cl : Cl S) (hk : S[k]? = some (.dtp (pairsD (.bl true) ps []))) (hl : ps.length < LINE) :
    ∃ junk e1, Cl (S ++ junk) ∧ dFor (dItT (dVar 2)) (gTupD 2 (gConsD (gNam 4) (gConsD (gNam 5) gNilD))) jBody [m.T, o.T, .tup (ps.map pairT), .ref k, t4, t5, t6] S = if ps.all (pairOk m o w ps) = true then .nx e1 (S ++ junk) else .rt (.bl false) (S ++ junk) := by
  have key := forL_inv (it := iTs (ps.map pairT)) (g := gTupD 2 (gConsD (gNam 4) (gConsD (gNam 5) gNilD))) (b := jBody)
    (P := fun i e S' => (∃ z4 z5 z6, e = [m.T, o.T, .tup (ps.map pairT), .ref k, z4, z5, z6]) ∧ (∃ junk, S' = S ++ junk ∧ Cl S') ∧ ∀ s, s < i → pairOk m o w ps (ps.getD s (0, 0)) = true)
    (Z := fun r => ∃ junk e1, Cl (S ++ junk) ∧ r = if ps.all (pairOk m o w ps) = true then .nx e1 (S ++ junk) else .rt (.bl false) (S ++ junk)) ps.length ?_ ?_ FUEL 0 [m.T, o.T, .tup (ps.map pairT), .ref k, t4, t5, t6] S ⟨⟨_, _, _, rfl⟩, ⟨[], by simp, cl⟩, fun s h => absurd h (Nat.not_lt_zero s)⟩ (Nat.zero_le _) (fuel_ok hl)
  · obtain ⟨junk, e1, h1, h2⟩ := key
    exact ⟨junk, e1, h1, v_for (v_itT (v_var rfl nh_tup)) h2⟩
  · rintro i e S' hi ⟨⟨z4, z5, z6, rfl⟩, ⟨junk, rfl, cl'⟩, ok⟩
    have hk' : (S ++ junk)[k]? = some (.dtp (pairsD (.bl true) ps [])) := by rw [List.getElem?_append_left (List.getElem?_eq_some_iff.mp hk).1]; exact hk
    obtain ⟨j2, c2, h2⟩ := j_step (p := ps.getD i (0, 0)) (t2 := .tup (ps.map pairT)) (t6 := z6) gm go cl' hk'
    rw [List.append_assoc] at c2 h2
    have hit : iTs (ps.map pairT) i (S ++ junk) = .item (pairT (ps.getD i (0, 0))) := by
      rw [ts_item (by simpa using hi)]
      simp [hi]
    refine ⟨_, hit, ?_⟩
    have hg : (gTupD 2 (gConsD (gNam 4) (gConsD (gNam 5) gNilD)) (pairT (ps.getD i (0, 0))) [m.T, o.T, .tup (ps.map pairT), .ref k, z4, z5, z6] (S ++ junk)).toS jBody = jBody [m.T, o.T, .tup (ps.map pairT), .ref k, .int (ps.getD i (0, 0)).1, .int (ps.getD i (0, 0)).2, z6] (S ++ junk) := g_two (show (4 : Nat) < 7 by decide) (show (5 : Nat) < 7 by decide)
    rw [hg, h2]
    by_cases c : pairOk m o w ps (ps.getD i (0, 0)) = true
    · rw [if_pos c]
      refine .inl ⟨_, _, rfl, ⟨_, _, _, rfl⟩, ⟨_, rfl, c2⟩, fun s hs => ?_⟩
      by_cases e : s = i
      · subst e; exact c
      · exact ok s (by omega)
    · rw [if_neg c]
      refine .inr (.inr (.inr (.inl ⟨_, _, rfl, junk ++ j2, [], c2, ?_⟩)))
      have : ps.all (pairOk m o w ps) = false := by
        cases q : ps.all (pairOk m o w ps) with
        | false => rfl
        | true =>
          refine absurd (List.all_eq_true.mp q _ ?_) c
          rw [List.getD_eq_getElem?_getD, List.getElem?_eq_getElem hi]
          exact List.getElem_mem hi
      rw [this, if_neg (by decide)]
  · rintro e S' ⟨⟨z4, z5, z6, rfl⟩, ⟨junk, rfl, cl'⟩, ok⟩
    refine ⟨by have := ts_stop (ts := ps.map pairT) (S := S ++ junk); rwa [List.length_map] at this, junk, [m.T, o.T, .tup (ps.map pairT), .ref k, z4, z5, z6], cl', ?_⟩
    have : ps.all (pairOk m o w ps) = true := List.all_eq_true.mpr fun p hp => by
      obtain ⟨s, hs, e⟩ := List.getElem_of_mem hp
      have := ok s hs
      rw [List.getD_eq_getElem?_getD, List.getElem?_eq_getElem hs] at this
      rw [← e]; exact this
    rw [if_pos this]
end K02
set_option Elab.async false
set_option linter.all false
set_option maxRecDepth 100000
set_option maxHeartbeats 4000000
namespace K02
open PySem PySem.Spec PyProof.Rows L2 DD
theorem ltQ_iff {p q : Int × Int} : ltQ p q = true ↔ p.1 < q.1 ∨ (p.1 = q.1 ∧ p.2 < q.2) := by
  unfold ltQ
  split
  · rename_i h; simp [h]
  · rename_i h; simp [h]
theorem asc_cons {a b : Int × Int} {l : List (Int × Int)} : asc (a :: b :: l) = (ltQ a b && asc (b :: l)) := by
  unfold asc
  simp only [List.length_cons, Nat.add_sub_cancel]
  rw [List.range_succ_eq_map, List.all_cons, List.all_map]
  congr 1
theorem asc_pw : ∀ {ps : List (Int × Int)}, asc ps = true ↔ ps.Pairwise fun p q => ltQ p q = true
  | [] => by simp [asc]
  | [a] => by simp [asc]
  | a :: b :: l => by
    rw [asc_cons, Bool.and_eq_true, asc_pw (ps := b :: l), List.pairwise_cons (a := a)]
    constructor
    · rintro ⟨h1, h2⟩
      refine ⟨fun x hx => ?_, h2⟩
      rcases List.mem_cons.mp hx with z | z
      · rw [z]; exact h1
      · have := (List.pairwise_cons.mp h2).1 x z
        rw [ltQ_iff] at *
        omega
    · rintro ⟨h1, h2⟩
      exact ⟨h1 b List.mem_cons_self, h2⟩
theorem dedP_id : ∀ {ps : List (Int × Int)}, ps.Nodup → dedP ps = ps
  | [], _ => rfl
  | p :: ps, h => by
    have h' := List.nodup_cons.mp h
    unfold dedP
    rw [dedP_id h'.2, if_neg h'.1]
/-- list(paper) == sorted(set(paper)) says that the paper ascends -/
theorem asc_srt {ps : List (Int × Int)} : asc ps = true ↔ ps = srtP (dedP ps) := by
  rw [asc_pw]
  constructor
  · intro h
    have nd : ps.Nodup := List.Pairwise.imp (fun {a b} z e => by subst e; rw [ltQ_iff] at z; omega) h
    rw [dedP_id nd]
    exact srtP_uniq (List.Pairwise.imp (fun {a b} z => by rw [ltQ_iff] at z; rw [leP_iff]; omega) h) (List.Perm.refl _)
  · intro h
    have h1 := srtP_sorted (dedP ps)
    have h2 : (srtP (dedP ps)).Nodup := (srtP_perm (dedP ps)).nodup_iff.mpr (nodup_dedP ps)
    rw [← h] at h1 h2
    refine List.Pairwise.imp₂ (R := fun p q => leP p q = true) (S := fun p q => p ≠ q) ?_ h1 h2
    intro a b z w
    rw [leP_iff] at z
    rw [ltQ_iff]
    refine Classical.byContradiction fun c => w (Prod.ext (by omega) (by omega))
theorem zero_known {S : Store} {k : Nat} {ps : List (Int × Int)} {e : EnvT} (hk : S[k]? = some (.dtp (pairsD (.bl true) ps []))) (h : e[3]? = some (.ref k)) : dBin (nIn true) (dTup (dCons (dLit (.int 0)) (dCons (dLit (.int 0)) dNil))) (dVar 3) e S = .ok (.bl (!decide (((0 : Int), (0 : Int)) ∈ ps))) S := by
  have := in_known (q := (0, 0)) (neg := true) hk
  rw [Bool.xor_true] at this
  exact v_bin (v_tup (v_cons v_lit (v_cons v_lit v_nil)) rfl (by unfold LINE; decide)) (v_var h nh_ref) this
theorem Gd.row_le {m w} (h : Gd m w) : ∀ row ∈ m.mv, row.length < LINE := fun row hr => by
  obtain ⟨i, hi, e⟩ := List.getElem_of_mem hr
  have := h.w1 i hi
  rw [List.getD_eq_getElem?_getD, List.getElem?_eq_getElem hi] at this
  have h2 : row.length = w := by rw [← e]; exact this
  have := h.ws
  unfold LINE
  omega
theorem fin_bl {S junk : Store} {k : Bool} (cl : Cl S) : fin S.length (.bl k) (S ++ junk) = .ok (.bl k) S := fin_val rfl cl rfl
theorem judge_ok {m o : Mc} {S : Store} {ps : List (Int × Int)} (cl : Cl S) (hlk : likeOk m o = true) (hl : ps.length < LINE) : F_judge_alike [m.T, o.T, .tup (ps.map pairT)] S = .ok (.bl (judgeB m o ps)) S := by
  have hlk' := hlk
  unfold likeOk at hlk'
  simp only [Bool.and_eq_true, decide_eq_true_eq] at hlk'
  obtain ⟨⟨g1, g2⟩, g3, g4⟩ := hlk'
  have gm := good_iff.mp g1
  have go := good_iff.mp g2
  rw [← g3, ← g4] at go
  have hm : m.mv.length < LINE := by have := gm.n; unfold LINE; omega
  have ho : o.mv.length < LINE := by have := go.n; unfold LINE; omega
  have c := like_ok (m := m) (o := o) cl gm.row_le hm (by rw [gm.e]; exact hm) go.row_le ho (by rw [go.e]; exact ho)
  rw [if_pos hlk] at c
  have h1 := v_expr (e := [m.T, o.T, .tup (ps.map pairT), .hole, .hole, .hole, .hole]) (v_call (v_cons (v_var (i := 0) (t := m.T) rfl nh_tup) (v_cons (v_var (i := 1) (t := o.T) rfl nh_tup) v_nil)) rfl c)
  have h2 := v_asg (i := 3) (dc_pairs (own := [6]) (a := dVar 2) (e := [m.T, o.T, .tup (ps.map pairT), .hole, .hole, .hole, .hole]) (S := S) (j := 6) (v := .bl true) (ps := ps) (v_var rfl nh_tup) (show 6 < 7 by decide) rfl hl) (show 3 < 7 by decide)
  simp only [List.set_cons_succ, List.set_cons_zero] at h2
  have hk : (S ++ [O.dtp (pairsD (.bl true) ps [])])[S.length]? = some (.dtp (pairsD (.bl true) ps [])) := by simp
  have clk := cl_known (ps := ps) cl
  generalize hS1 : S ++ [O.dtp (pairsD (.bl true) ps [])] = S1 at h2 hk clk
  have h3 := zero_known (e := [m.T, o.T, .tup (ps.map pairT), .ref S.length, .hole, .hole, .hole]) hk rfl
  cases c0 : decide (((0 : Int), (0 : Int)) ∈ ps) with
  | false =>
    rw [c0] at h3
    rw [show judgeB m o ps = false by unfold judgeB; rw [c0]; rfl]
    exact runD_ok rfl (v_seq h1 (v_seq h2 (v_seqR (v_ifT (v_orT h3) (v_ret v_lit))))) rfl (by rw [← hS1]; exact fin_bl cl)
  | true =>
    rw [c0] at h3
    have h4 := asc_test (S := S1) (ps := ps) (t0 := m.T) (t1 := o.T) (t3 := .ref S.length) (t4 := .hole) (t5 := .hole) (t6 := .hole) clk hl
    generalize hj : [O.lst ((List.range (ps.length - 1)).map fun i => T.bl (ltQ (ps.getD i (0, 0)) (ps.getD (i + 1) (0, 0))))] = j1 at h4
    have clj : Cl (S1 ++ j1) := by rw [← hj]; exact cl_bools clk
    have h5 := v_orF h3 (v_not h4)
    cases c1 : asc ps with
    | false =>
      rw [c1] at h5
      rw [show judgeB m o ps = false by unfold judgeB; rw [c0, c1]; rfl]
      exact runD_ok rfl (v_seq h1 (v_seq h2 (v_seqR (v_ifT h5 (v_ret v_lit))))) rfl (by rw [← hS1, List.append_assoc]; exact fin_bl cl)
    | true =>
      rw [c1] at h5
      rw [show judgeB m o ps = ps.all (pairOk m o (m.b ^ m.t) ps) by unfold judgeB; rw [c0, c1]; simp]
      have hk2 : (S1 ++ j1)[S.length]? = some (.dtp (pairsD (.bl true) ps [])) := by rw [List.getElem?_append_left (List.getElem?_eq_some_iff.mp hk).1]; exact hk
      obtain ⟨j2, e1, cl2, h6⟩ := j_loop (t4 := .hole) (t5 := .hole) (t6 := .hole) gm go clj hk2 hl
      have hS : S1 ++ j1 ++ j2 = S ++ ([O.dtp (pairsD (.bl true) ps [])] ++ j1 ++ j2) := by rw [← hS1]; simp
      rw [hS] at h6
      cases c2 : ps.all (pairOk m o (m.b ^ m.t) ps) with
      | true =>
        rw [c2, if_pos rfl] at h6
        exact runD_ok rfl (v_seq h1 (v_seq h2 (v_seq (v_ifF h5 rfl) (v_seq h6 (v_ret v_lit))))) rfl (fin_bl cl)
      | false =>
        rw [c2, if_neg (by decide)] at h6
        exact runD_ok rfl (v_seq h1 (v_seq h2 (v_seq (v_ifF h5 rfl) (v_seqR h6)))) rfl (fin_bl cl)
theorem judge_no {m o : Mc} {S : Store} {ps : List (Int × Int)} (cl : Cl S) (hlk : likeOk m o = false) (h1 : ∀ row ∈ m.mv, row.length < LINE) (h2 : m.mv.length < LINE) (h3 : m.en.length < LINE) (h4 : ∀ row ∈ o.mv, row.length < LINE) (h5 : o.mv.length < LINE) (h6 : o.en.length < LINE) {t : T} (ht : t.noLamB = true) (hh : t ≠ .hole) : F_judge_alike [m.T, o.T, t] S = .exc 1 [] S := by
  have c := like_ok (m := m) (o := o) cl h1 h2 h3 h4 h5 h6
  rw [hlk, if_neg (by decide)] at c
  refine runD_exc rfl (v_seqX (v_exprX (v_call (v_cons (v_var (i := 0) (t := m.T) rfl nh_tup) (v_cons (v_var (i := 1) (t := o.T) rfl nh_tup) v_nil)) rfl c))) ?_
  have := finX_cl (junk := []) cl
  rwa [List.append_nil] at this
end K02
set_option Elab.async false
set_option linter.all false
set_option maxRecDepth 100000
set_option maxHeartbeats 4000000
namespace K02
open PySem PySem.Spec PyProof.Rows L2 DD
theorem two_line {x y : T} : [x, y].length ≤ LINE := by
  show 2 ≤ LINE
  unfold LINE
  decide
theorem shp_list {ts : List T} (h : T.its ts = true) (hd : T.deps ts ≤ 59) : shp (.list (tDs ts)) = true := by
  unfold shp SeqAt.shaped
  have h1 := its_lay ts h
  have h2 := deps_eq ts
  simp only [PyData.canLay0, PyData.depth, h1, h2]
  simp
  omega
theorem dat_lst {S : Store} {n : Nat} {ts : List T} (hn : S[n]? = some (.lst ts)) (h : T.its ts = true) : dat S (.ref n) = some (.list (tDs ts)) := by
  show datR 8 S n = _
  unfold datR
  rw [hn]
  show (datsW (datR 7 S) ts).map PyData.list = _
  rw [T.pures_dat _ _ (T.its_pure ts h)]
  rfl
theorem nNe_lst {S : Store} {n m : Nat} {ts us : List T} (hn : S[n]? = some (.lst ts)) (hm : S[m]? = some (.lst us)) (ht : T.its ts = true) (hu : T.its us = true) (dt : T.deps ts ≤ 59) (du : T.deps us ≤ 59) [Decidable (ts = us)] : nNe (.ref n) (.ref m) S = .ok (.bl (!decide (ts = us))) S := by
  show nEqD true (dat S (.ref n)) (dat S (.ref m)) S = _
  rw [dat_lst hn ht, dat_lst hm hu]
  unfold nEqD
  simp only [shp_list ht dt, shp_list hu du, Bool.and_self, if_true, okB]
  congr 3
  show (PyData.eqvAll (tDs ts) (tDs us)) = _
  by_cases e : ts = us
  · rw [decide_eq_true e]; exact (its_eqv ts us ht hu).mpr e
  · rw [decide_eq_false e]
    cases q : PyData.eqvAll (tDs ts) (tDs us) with
    | false => rfl
    | true => exact absurd ((its_eqv ts us ht hu).mp q) e
theorem pairs_inj : ∀ {ps qs : List (Int × Int)}, ps.map pairT = qs.map pairT → ps = qs
  | [], [], _ => rfl
  | p :: ps, q :: qs, h => by
    rw [List.map_cons, List.map_cons] at h
    injection h with h1 h2
    rw [pairT_inj h1, pairs_inj h2]
  | [], _ :: _, h => by simp at h
  | _ :: _, [], h => by simp at h
theorem pairsT_map : ∀ ps : List (Int × Int), pairsT (ps.map pairT) = some ps
  | [] => rfl
  | p :: ps => by
    show (pairsT (ps.map pairT)).map ((p.1, p.2) :: ·) = _
    rw [pairsT_map ps]
    rfl
theorem dedP_len : ∀ {ps : List (Int × Int)}, (dedP ps).length ≤ ps.length
  | [] => Nat.le_refl _
  | p :: ps => by
    have := dedP_len (ps := ps)
    unfold dedP
    split
    · rw [List.length_cons]; omega
    · rw [List.length_cons, List.length_cons]; omega
theorem sortSet_ok {S : Store} {ps : List (Int × Int)} (hl : ps.length < 64) : nSortSet [.tup (ps.map pairT)] S = .ok (.ref S.length) (S ++ [.lst ((srtP (dedP ps)).map pairT)]) := by
  have : (ps.map pairT).length < 64 := by rw [List.length_map]; exact hl
  show (match pairsT (ps.map pairT) with
      | some qs => if (ps.map pairT).length < 64 then newO (.lst ((srtP (dedP qs)).map pairT)) S else .bad
      | none => .bad) = _
  rw [pairsT_map]
  simp only [this, if_true, newO]
/-- list(paper) != sorted(set(paper)) -/
theorem srt_test {S : Store} {ps : List (Int × Int)} {e : EnvT} (h : e[2]? = some (.tup (ps.map pairT))) (hl : ps.length < 64) : dBin nNe (dCallF nLst (dCons (dVar 2) dNil)) (dCallF nSortSet (dCons (dVar 2) dNil)) e S = .ok (.bl (!asc ps)) (S ++ [.lst (ps.map pairT), .lst ((srtP (dedP ps)).map pairT)]) := by
  have h1 : dCallF nLst (dCons (dVar 2) dNil) e S = .ok (.ref S.length) (S ++ [.lst (ps.map pairT)]) := v_callF (v_cons (v_var h nh_tup) v_nil) rfl
  have h2 := v_callF (f := nSortSet) (v_cons (v_var (S := S ++ [.lst (ps.map pairT)]) h nh_tup) v_nil) (sortSet_ok hl)
  have e1 : S ++ [O.lst (ps.map pairT)] ++ [O.lst ((srtP (dedP ps)).map pairT)] = S ++ [.lst (ps.map pairT), .lst ((srtP (dedP ps)).map pairT)] := by simp
  rw [e1] at h2
  have dc : Decidable (ps.map pairT = (srtP (dedP ps)).map pairT) := Classical.propDecidable _
  have d1 := pairs_dep ps
  have d2 := pairs_dep (srtP (dedP ps))
  have h3 := nNe_lst (S := S ++ [.lst (ps.map pairT), .lst ((srtP (dedP ps)).map pairT)]) (n := S.length) (m := (S ++ [O.lst (ps.map pairT)]).length) (ts := ps.map pairT) (us := (srtP (dedP ps)).map pairT) (by simp) (by simp) (pairs_its ps) (pairs_its _) (by omega) (by omega)
  have q : decide (ps.map pairT = (srtP (dedP ps)).map pairT) = asc ps := by
    cases c : asc ps with
    | true =>
      rw [decide_eq_true_eq]
      have := asc_srt.mp c
      rw [← this]
    | false =>
      rw [decide_eq_false_iff_not]
      intro z
      have := asc_srt.mpr (pairs_inj z)
      rw [c] at this
      cases this
  rw [q] at h3
  exact v_bin h1 h2 h3
theorem nAny_l {α : Type} {f : α → Bool} {l : List α} {S : Store} : nAny [.ref S.length] (S ++ [.lst (l.map fun i => T.bl (f i))]) = .ok (.bl (l.any f)) (S ++ [.lst (l.map fun i => T.bl (f i))]) := by
  unfold nAny lst1
  have h : lstAt (S ++ [.lst (l.map fun i => T.bl (f i))]) S.length = some (l.map fun i => T.bl (f i)) := lstAt_l (by simp)
  simp only [h, boolsT_map, okB]
  congr 2
  induction l with
  | nil => rfl
  | cons a l ih => simp
theorem noLam_nat {n : Nat} : (natT n).noLam = natT n := rfl
/-- any([(machine[2][one][k], other[2][two][k]) not in paper for k in range(len(machine[2][one]))]) -/
theorem any_test {m o : Mc} {S : Store} {ps : List (Int × Int)} {p : Int × Int} {t5 : T} {w : Nat} (cl : Cl S) (h1 : inR p.1 m.mv.length = true) (h2 : inR p.2 o.mv.length = true)
    (w1 : (m.mv.getD p.1.toNat []).length = w) (w2 : (o.mv.getD p.2.toNat []).length = w) (hw : w < LINE) :
    dCallF nAny (dCons (dLC [5] (dRng1 (dCons (dCallF nLenA (dCons (dBin nIx (dBin nIx (dVar 0) (dLit (.int 2))) (dVar 3)) dNil)) dNil)) (gNam 5) (dLit (.bl true)) (dBin (nIn true) (dTup (dCons (dBin nIx (dBin nIx (dBin nIx (dVar 0) (dLit (.int 2))) (dVar 3)) (dVar 5)) (dCons (dBin nIx (dBin nIx (dBin nIx (dVar 1) (dLit (.int 2))) (dVar 4)) (dVar 5)) dNil))) (dVar 2))) dNil) [m.T, o.T, .tup (ps.map pairT), .int p.1, .int p.2, t5] S =
      .ok (.bl ((List.range w).any fun j => !decide (nxtP m o p j ∈ ps))) (S ++ [.lst ((List.range w).map fun j => .bl (!decide (nxtP m o p j ∈ ps)))]) := by
  have hd : dRng1 (dCons (dCallF nLenA (dCons (dBin nIx (dBin nIx (dVar 0) (dLit (.int 2))) (dVar 3)) dNil)) dNil) [m.T, o.T, .tup (ps.map pairT), .int p.1, .int p.2, t5] S = .ok (iRng 0 1 w) S := by
    refine v_rng1 (v_cons (v_callF (v_cons (v_row (i := 0) (j := 3) rfl rfl h1) v_nil) ?_) v_nil) hw
    have := nLen_t (ts := (m.mv.getD p.1.toNat []).map natT) (S := S)
    rw [List.length_map, w1] at this
    exact this
  refine v_callF (v_cons (lc_pure (n := w) (x := fun i => natT i) (y := fun i => .bl (!decide (nxtP m o p i ∈ ps))) (E := fun i => [m.T, o.T, .tup (ps.map pairT), .int p.1, .int p.2, natT i]) cl hd hw (fun i S' hi _ => ?_) (fun S' _ => rng_stop) (fun i S' hi => ?_) (fun i S' hi ex => ?_) fun i hi => ⟨rfl, rfl⟩) v_nil) nAny_l
  · rw [rng_item hi, Int.zero_add]
    rfl
  · show gNam 5 (natT i) [m.T.noLam, o.T.noLam, (T.tup (ps.map pairT)).noLam, .int p.1, .int p.2, .hole] S' = _
    rfl
  · have g : ∀ (r : List Nat), i < r.length → nIx (rowT r) (natT i) S' = .ok (natT (r.getD i 0)) S' := fun r hr => nIx_t (getD_map hr)
    have a1 := v_bin (v_row (m := m) (S := S') (e := [m.T, o.T, .tup (ps.map pairT), .int p.1, .int p.2, natT i]) (i := 0) (j := 3) rfl rfl h1) (v_var (i := 5) (t := natT i) rfl nh_int) (g (m.mv.getD p.1.toNat []) (by omega))
    have a2 := v_bin (v_row (m := o) (S := S') (e := [m.T, o.T, .tup (ps.map pairT), .int p.1, .int p.2, natT i]) (i := 1) (j := 4) rfl rfl h2) (v_var (i := 5) (t := natT i) rfl nh_int) (g (o.mv.getD p.2.toNat []) (by omega))
    have := mem_pairs (q := nxtP m o p i) (S := S') (ps := ps) (neg := true)
    rw [Bool.xor_true] at this
    exact v_bin (v_tup (v_cons a1 (v_cons a2 v_nil)) rfl two_line) (v_var (t := .tup (ps.map pairT)) rfl nh_tup) this
abbrev rBody : DS := (dSeq (dIf (dOr (dUn nNot (dChain nLe nLt (dLit (.int 0)) (dVar 3) (dCallF nLenA (dCons (dBin nIx (dVar 0) (dLit (.int 2))) dNil)))) (dOr (dUn nNot (dChain nLe nLt (dLit (.int 0)) (dVar 4) (dCallF nLenA (dCons (dBin nIx (dVar 1) (dLit (.int 2))) dNil)))) (dBin nNe (dBin nIx (dBin nIx (dVar 0) (dLit (.int 3))) (dVar 3)) (dBin nIx (dBin nIx (dVar 1) (dLit (.int 3))) (dVar 4))))) (dRet (dLit (.bl false))) dSkip) (dIf (dCallF nAny (dCons (dLC [5] (dRng1 (dCons (dCallF nLenA (dCons (dBin nIx (dBin nIx (dVar 0) (dLit (.int 2))) (dVar 3)) dNil)) dNil)) (gNam 5) (dLit (.bl true)) (dBin (nIn true) (dTup (dCons (dBin nIx (dBin nIx (dBin nIx (dVar 0) (dLit (.int 2))) (dVar 3)) (dVar 5)) (dCons (dBin nIx (dBin nIx (dBin nIx (dVar 1) (dLit (.int 2))) (dVar 4)) (dVar 5)) dNil))) (dVar 2))) dNil)) (dRet (dLit (.bl false))) dSkip))
theorem any_not {f : Nat → Bool} {w : Nat} : ((List.range w).any fun j => !f j) = !((List.range w).all f) := by
  rw [List.not_all_eq_any_not]
theorem r_step {m o : Mc} {w : Nat} {S : Store} {ps : List (Int × Int)} {p : Int × Int} {t5 : T} (gm : Gd m w) (go : Gd o w) (cl : Cl S) :
    ∃ junk, Cl (S ++ junk) ∧ rBody [m.T, o.T, .tup (ps.map pairT), .int p.1, .int p.2, t5] S = if pairOk m o w ps p = true then .nx [m.T, o.T, .tup (ps.map pairT), .int p.1, .int p.2, t5] (S ++ junk) else .rt (.bl false) (S ++ junk) := by
  have hp := pair_test (m := m) (o := o) (S := S) (e := [m.T, o.T, .tup (ps.map pairT), .int p.1, .int p.2, t5]) (i := 3) (j := 4) (p := p) gm.e go.e rfl rfl rfl rfl
  cases c1 : pairB m o p with
  | false =>
    rw [c1] at hp
    refine ⟨[], by rw [List.append_nil]; exact cl, ?_⟩
    rw [show pairOk m o w ps p = false by unfold pairOk; rw [c1]; rfl, if_neg (by decide), List.append_nil]
    exact v_seqR (v_ifT hp (v_ret v_lit))
  | true =>
    rw [c1] at hp
    obtain ⟨h1, h2⟩ := pairB_in c1
    have hc := any_test (ps := ps) (t5 := t5) cl h1 h2 (gm.row h1) (go.row h2) (by have := gm.ws; unfold LINE; omega)
    have ho : pairOk m o w ps p = ((List.range w).all fun j => decide (nxtP m o p j ∈ ps)) := by unfold pairOk; rw [c1]; rfl
    rw [any_not, ← ho] at hc
    have hcl := cl_bools (f := fun j => !decide (nxtP m o p j ∈ ps)) (l := List.range w) cl
    generalize [O.lst ((List.range w).map fun j => T.bl (!decide (nxtP m o p j ∈ ps)))] = junk at hc hcl
    refine ⟨junk, hcl, ?_⟩
    refine v_seq (v_ifF hp rfl) ?_
    cases c2 : pairOk m o w ps p with
    | true =>
      rw [c2] at hc
      rw [if_pos rfl]
      exact v_ifF hc rfl
    | false =>
      rw [c2] at hc
      rw [if_neg (by decide)]
      exact v_ifT hc (v_ret v_lit)
theorem r_loop {m o : Mc} {w : Nat} {S : Store} {ps : List (Int × Int)} {t3 t4 t5 : T} (gm : Gd m w) (go : Gd o w) (cl : Cl S) (hl : ps.length < LINE) :
    ∃ junk e1, Cl (S ++ junk) ∧ dFor (dItT (dVar 2)) (gTupD 2 (gConsD (gNam 3) (gConsD (gNam 4) gNilD))) rBody [m.T, o.T, .tup (ps.map pairT), t3, t4, t5] S = if ps.all (pairOk m o w ps) = true then .nx e1 (S ++ junk) else .rt (.bl false) (S ++ junk) := by
  have key := forL_inv (it := iTs (ps.map pairT)) (g := gTupD 2 (gConsD (gNam 3) (gConsD (gNam 4) gNilD))) (b := rBody)
    (P := fun i e S' => (∃ z3 z4 z5, e = [m.T, o.T, .tup (ps.map pairT), z3, z4, z5]) ∧ (∃ junk, S' = S ++ junk ∧ Cl S') ∧ ∀ s, s < i → pairOk m o w ps (ps.getD s (0, 0)) = true)
    (Z := fun r => ∃ junk e1, Cl (S ++ junk) ∧ r = if ps.all (pairOk m o w ps) = true then .nx e1 (S ++ junk) else .rt (.bl false) (S ++ junk)) ps.length ?_ ?_ FUEL 0 [m.T, o.T, .tup (ps.map pairT), t3, t4, t5] S ⟨⟨_, _, _, rfl⟩, ⟨[], by simp, cl⟩, fun s h => absurd h (Nat.not_lt_zero s)⟩ (Nat.zero_le _) (fuel_ok hl)
  · obtain ⟨junk, e1, h1, h2⟩ := key
    exact ⟨junk, e1, h1, v_for (v_itT (v_var rfl nh_tup)) h2⟩
  · rintro i e S' hi ⟨⟨z3, z4, z5, rfl⟩, ⟨junk, rfl, cl'⟩, ok⟩
    obtain ⟨j2, c2, h2⟩ := r_step (p := ps.getD i (0, 0)) (ps := ps) (t5 := z5) gm go cl'
    rw [List.append_assoc] at c2 h2
    have hit : iTs (ps.map pairT) i (S ++ junk) = .item (pairT (ps.getD i (0, 0))) := by
      rw [ts_item (by simpa using hi)]
      simp [hi]
    refine ⟨_, hit, ?_⟩
    have hg : (gTupD 2 (gConsD (gNam 3) (gConsD (gNam 4) gNilD)) (pairT (ps.getD i (0, 0))) [m.T, o.T, .tup (ps.map pairT), z3, z4, z5] (S ++ junk)).toS rBody = rBody [m.T, o.T, .tup (ps.map pairT), .int (ps.getD i (0, 0)).1, .int (ps.getD i (0, 0)).2, z5] (S ++ junk) := g_two (show (3 : Nat) < 6 by decide) (show (4 : Nat) < 6 by decide)
    rw [hg, h2]
    by_cases c : pairOk m o w ps (ps.getD i (0, 0)) = true
    · rw [if_pos c]
      refine .inl ⟨_, _, rfl, ⟨_, _, _, rfl⟩, ⟨_, rfl, c2⟩, fun s hs => ?_⟩
      by_cases e : s = i
      · subst e; exact c
      · exact ok s (by omega)
    · rw [if_neg c]
      refine .inr (.inr (.inr (.inl ⟨_, _, rfl, junk ++ j2, [], c2, ?_⟩)))
      have : ps.all (pairOk m o w ps) = false := by
        cases q : ps.all (pairOk m o w ps) with
        | false => rfl
        | true =>
          refine absurd (List.all_eq_true.mp q _ ?_) c
          rw [List.getD_eq_getElem?_getD, List.getElem?_eq_getElem hi]
          exact List.getElem_mem hi
      rw [this, if_neg (by decide)]
  · rintro e S' ⟨⟨z3, z4, z5, rfl⟩, ⟨junk, rfl, cl'⟩, ok⟩
    refine ⟨by have := ts_stop (ts := ps.map pairT) (S := S ++ junk); rwa [List.length_map] at this, junk, [m.T, o.T, .tup (ps.map pairT), z3, z4, z5], cl', ?_⟩
    have : ps.all (pairOk m o w ps) = true := List.all_eq_true.mpr fun p hp => by
      obtain ⟨s, hs, e⟩ := List.getElem_of_mem hp
      have := ok s hs
      rw [List.getD_eq_getElem?_getD, List.getElem?_eq_getElem hs] at this
      rw [← e]; exact this
    rw [if_pos this]
theorem cl_pairs {S : Store} {ps : List (Int × Int)} (cl : Cl S) : Cl (S ++ [.lst (ps.map pairT)]) :=
  cl_snoc cl (lows_iff.mpr fun t ht => by
    obtain ⟨k, _, e⟩ := List.mem_map.mp ht
    rw [← e]
    rfl)
theorem right_ok {m o : Mc} {w : Nat} {S : Store} {ps : List (Int × Int)} (gm : Gd m w) (go : Gd o w) (cl : Cl S) (hl : ps.length < 64) : F__law_right [m.T, o.T, .tup (ps.map pairT)] S = .ok (.bl (judgeB m o ps)) S := by
  have h1 := srt_test (S := S) (ps := ps) (e := [m.T, o.T, .tup (ps.map pairT), .hole, .hole, .hole]) rfl hl
  have cl1 : Cl (S ++ [.lst (ps.map pairT), .lst ((srtP (dedP ps)).map pairT)]) := by
    have := cl_pairs (ps := srtP (dedP ps)) (cl_pairs (ps := ps) cl)
    simpa using this
  generalize [O.lst (ps.map pairT), O.lst ((srtP (dedP ps)).map pairT)] = j1 at h1 cl1
  have hw : m.b ^ m.t = w := gm.we.symm
  cases c0 : asc ps with
  | false =>
    rw [c0] at h1
    rw [show judgeB m o ps = false by unfold judgeB; rw [c0]; simp]
    exact runD_ok rfl (v_seqR (v_ifT (v_orT h1) (v_ret v_lit))) rfl (fin_bl cl)
  | true =>
    rw [c0] at h1
    have h0 := mem_pairs (q := (0, 0)) (S := S ++ j1) (ps := ps) (neg := true)
    rw [Bool.xor_true] at h0
    have h2 : dBin (nIn true) (dTup (dCons (dLit (.int 0)) (dCons (dLit (.int 0)) dNil))) (dVar 2) [m.T, o.T, .tup (ps.map pairT), .hole, .hole, .hole] (S ++ j1) = .ok (.bl (!decide (((0 : Int), (0 : Int)) ∈ ps))) (S ++ j1) := v_bin (v_tup (v_cons v_lit (v_cons v_lit v_nil)) rfl (by unfold LINE; decide)) (v_var (t := .tup (ps.map pairT)) rfl nh_tup) h0
    have h3 := v_orF h1 h2
    cases c1 : decide (((0 : Int), (0 : Int)) ∈ ps) with
    | false =>
      rw [c1] at h3
      rw [show judgeB m o ps = false by unfold judgeB; rw [c1]; rfl]
      exact runD_ok rfl (v_seqR (v_ifT h3 (v_ret v_lit))) rfl (fin_bl cl)
    | true =>
      rw [c1] at h3
      obtain ⟨j2, e1, cl2, h4⟩ := r_loop (ps := ps) (t3 := .hole) (t4 := .hole) (t5 := .hole) gm go cl1 (by unfold LINE; omega)
      rw [List.append_assoc] at h4
      rw [show judgeB m o ps = ps.all (pairOk m o w ps) by unfold judgeB; rw [c0, c1, hw]; simp]
      cases c2 : ps.all (pairOk m o w ps) with
      | true =>
        rw [c2, if_pos rfl] at h4
        exact runD_ok rfl (v_seq (v_ifF h3 rfl) (v_seq h4 (v_ret v_lit))) rfl (fin_bl cl)
      | false =>
        rw [c2, if_neg (by decide)] at h4
        exact runD_ok rfl (v_seq (v_ifF h3 rfl) (v_seqR h4)) rfl (fin_bl cl)
end K02
set_option Elab.async false
set_option linter.all false
namespace K02
/-! the law's least machine, in plain Lean -/
theorem nodup_le {α : Type} [DecidableEq α] : ∀ {l l' : List α}, l.Nodup → (∀ x ∈ l, x ∈ l') → l.length ≤ l'.length
  | [], _, _, _ => Nat.zero_le _
  | a :: l, l', nd, h => by
    have ha : a ∈ l' := h a (List.mem_cons_self)
    have nd' := List.nodup_cons.mp nd
    have e := nodup_le (l := l) (l' := l'.erase a) nd'.2 fun x hx => (List.mem_erase_of_ne (by intro z; subst z; exact nd'.1 hx)).mpr (h x (List.mem_cons_of_mem _ hx))
    rw [List.length_erase_of_mem ha] at e
    have := List.length_pos_of_mem ha
    rw [List.length_cons]
    omega
/-- two lists in step -/
def RL (R : Nat → Nat → Prop) : List Nat → List Nat → Prop
  | [], [] => True
  | a :: l, b :: m => R a b ∧ RL R l m
  | _, _ => False
theorem RL.len {R} : ∀ {l m}, RL R l m → l.length = m.length
  | [], [], _ => rfl
  | a :: l, b :: m, h => by rw [List.length_cons, List.length_cons, RL.len h.2]
  | [], _ :: _, h => h.elim
  | _ :: _, [], h => h.elim
theorem RL.app {R} {a b : Nat} (hab : R a b) : ∀ {l m}, RL R l m → RL R (l ++ [a]) (m ++ [b])
  | [], [], _ => ⟨hab, trivial⟩
  | a :: l, b :: m, h => ⟨h.1, RL.app hab h.2⟩
  | [], _ :: _, h => h.elim
  | _ :: _, [], h => h.elim
theorem RL.get {R} : ∀ {l m}, RL R l m → ∀ i, i < l.length → R (l.getD i 0) (m.getD i 0)
  | a :: l, b :: m, h, 0, _ => h.1
  | a :: l, b :: m, h, i + 1, hi => by simpa using RL.get h.2 i (by simpa using hi)
  | [], [], _, i, hi => absurd hi (Nat.not_lt_zero i)
  | [], _ :: _, h, _, _ => h.elim
  | _ :: _, [], h, _, _ => h.elim
theorem RL.of {R} : ∀ {l m : List Nat}, l.length = m.length → (∀ i, i < l.length → R (l.getD i 0) (m.getD i 0)) → RL R l m
  | [], [], _, _ => trivial
  | a :: l, b :: m, h, g => ⟨by simpa using g 0 (by simp), RL.of (by simpa using h) fun i hi => by simpa using g (i + 1) (by simpa using hi)⟩
  | [], _ :: _, h, _ => by simp at h
  | _ :: _, [], h, _ => by simp at h
theorem RL.map_eq {R : Nat → Nat → Prop} {f g : Nat → Nat} (hR : ∀ x y, R x y → f x = g y) : ∀ {l m}, RL R l m → l.map f = m.map g
  | [], [], _ => rfl
  | a :: l, b :: m, h => by rw [List.map_cons, List.map_cons, hR _ _ h.1, RL.map_eq hR h.2]
  | [], _ :: _, h => h.elim
  | _ :: _, [], h => h.elim
theorem RL.of_map {f : Nat → Nat} : ∀ {l m : List Nat}, l.map f = m.map f → RL (fun x y => f x = f y) l m
  | [], [], _ => trivial
  | a :: l, b :: m, h => by
    rw [List.map_cons, List.map_cons] at h
    injection h with h1 h2
    exact ⟨h1, RL.of_map h2⟩
  | [], _ :: _, h => by simp at h
  | _ :: _, [], h => by simp at h

/-! ### the numbering -/
def pl (κ : Nat → Nat) (line : List Nat) (a : Nat) : Nat := (line.map κ).idxOf (κ a)
def visit (κ : Nat → Nat) (line : List Nat) (a : Nat) : List Nat := if pl κ line a < line.length then line else line ++ [a]
def rowF (κ : Nat → Nat) : List Nat → List Nat → List Nat → List Nat × List Nat
  | [], line, row => (line, row)
  | a :: as, line, row => rowF κ as (visit κ line a) (row ++ [pl κ line a])
def bfsN (κ : Nat → Nat) (mv : Nat → List Nat) : Nat → List Nat × List (List Nat)
  | 0 => ([0], [])
  | n + 1 => if n < (bfsN κ mv n).1.length then ((rowF κ (mv ((bfsN κ mv n).1.getD n 0)) (bfsN κ mv n).1 []).1, (bfsN κ mv n).2 ++ [(rowF κ (mv ((bfsN κ mv n).1.getD n 0)) (bfsN κ mv n).1 []).2]) else bfsN κ mv n
theorem pl_le {κ line a} : pl κ line a ≤ line.length := by
  unfold pl
  have := List.idxOf_le_length (a := κ a) (l := line.map κ)
  rwa [List.length_map] at this
theorem pl_lt {κ line a} : pl κ line a < line.length ↔ κ a ∈ line.map κ := by
  unfold pl
  have := List.idxOf_lt_length_iff (a := κ a) (l := line.map κ)
  rwa [List.length_map] at this
theorem pl_get {κ line a} (h : pl κ line a < line.length) : κ (line.getD (pl κ line a) 0) = κ a := by
  have h' : (line.map κ).idxOf (κ a) < (line.map κ).length := by rw [List.length_map]; exact h
  have e := List.getElem_idxOf h'
  rw [List.getElem_map] at e
  have : line.getD (pl κ line a) 0 = line[(line.map κ).idxOf (κ a)]'h := by
    rw [List.getD_eq_getElem?_getD, List.getElem?_eq_getElem h]
    rfl
  rw [this]
  exact e
theorem visit_len {κ line a} : pl κ line a < (visit κ line a).length ∧ line.length ≤ (visit κ line a).length := by
  unfold visit
  have := pl_le (κ := κ) (line := line) (a := a)
  split
  · exact ⟨by assumption, Nat.le_refl _⟩
  · rw [List.length_append, List.length_singleton]; omega
theorem visit_pre {κ line a i} (h : i < line.length) : (visit κ line a).getD i 0 = line.getD i 0 := by
  unfold visit
  split
  · rfl
  · rw [List.getD_eq_getElem?_getD, List.getD_eq_getElem?_getD, List.getElem?_append_left h]
theorem visit_pl {κ : Nat → Nat} {line : List Nat} {a : Nat} : κ ((visit κ line a).getD (pl κ line a) 0) = κ a := by
  by_cases h : pl κ line a < line.length
  · rw [visit_pre h, pl_get h]
  · have e : pl κ line a = line.length := by have := pl_le (κ := κ) (line := line) (a := a); omega
    unfold visit
    rw [if_neg h, e]
    simp
/-- what holds of a line -/
structure LOk (κ : Nat → Nat) (st : List Nat) (line : List Nat) : Prop where
  nd : (line.map κ).Nodup
  ss : ∀ x ∈ line, x ∈ st
theorem LOk.visit {κ st line a} (h : LOk κ st line) (ha : a ∈ st) : LOk κ st (visit κ line a) := by
  unfold K02.visit
  split
  · exact h
  · rename_i hn
    refine ⟨?_, fun x hx => ?_⟩
    · rw [List.map_append, List.map_singleton]
      refine List.nodup_append.mpr ⟨h.nd, by simp, ?_⟩
      intro x hx y hy z
      rw [List.mem_singleton] at hy
      subst hy z
      exact hn (pl_lt.mpr hx)
    · rcases List.mem_append.mp hx with z | z
      · exact h.ss x z
      · rw [List.mem_singleton] at z; subst z; exact ha
theorem LOk.le {κ st line} (h : LOk κ st line) : line.length ≤ st.length := by
  have := nodup_le (l' := st.map κ) h.nd fun x hx => by
    obtain ⟨y, hy, e⟩ := List.mem_map.mp hx
    exact List.mem_map.mpr ⟨y, h.ss y hy, e⟩
  simpa using this
theorem rowF_ok {κ st} : ∀ {as line row}, LOk κ st line → (∀ a ∈ as, a ∈ st) →
    LOk κ st (rowF κ as line row).1 ∧ line.length ≤ (rowF κ as line row).1.length ∧ (∀ i, i < line.length → (rowF κ as line row).1.getD i 0 = line.getD i 0) ∧ (rowF κ as line row).2.length = row.length + as.length ∧ (∀ i, i < row.length → (rowF κ as line row).2.getD i 0 = row.getD i 0) ∧
      (∀ j, j < as.length → (rowF κ as line row).2.getD (row.length + j) 0 < (rowF κ as line row).1.length ∧ κ ((rowF κ as line row).1.getD ((rowF κ as line row).2.getD (row.length + j) 0) 0) = κ (as.getD j 0))
  | [], line, row, h, _ => ⟨h, Nat.le_refl _, fun _ _ => rfl, by simp [rowF], fun _ _ => rfl, fun j hj => absurd hj (Nat.not_lt_zero j)⟩
  | a :: as, line, row, h, ha => by
    obtain ⟨c1, c2, c3, c4, c5, c6⟩ := rowF_ok (κ := κ) (as := as) (line := visit κ line a) (row := row ++ [pl κ line a]) (h.visit (ha a List.mem_cons_self)) fun x hx => ha x (List.mem_cons_of_mem _ hx)
    have hv := visit_len (κ := κ) (line := line) (a := a)
    have er : rowF κ (a :: as) line row = rowF κ as (visit κ line a) (row ++ [pl κ line a]) := rfl
    rw [er]
    generalize rowF κ as (visit κ line a) (row ++ [pl κ line a]) = q at *
    rw [List.length_append, List.length_singleton] at c4 c5 c6
    refine ⟨c1, by omega, fun i hi => ?_, by rw [c4, List.length_cons]; omega, fun i hi => ?_, fun j hj => ?_⟩
    · rw [c3 i (by omega), visit_pre hi]
    · rw [c5 i (by omega), List.getD_eq_getElem?_getD, List.getElem?_append_left hi, List.getD_eq_getElem?_getD]
    · cases j with
      | zero =>
        have e : q.2.getD (row.length + 0) 0 = pl κ line a := by
          rw [Nat.add_zero, c5 _ (by omega), List.getD_eq_getElem?_getD]
          simp
        rw [e]
        refine ⟨by omega, ?_⟩
        rw [c3 _ hv.1, visit_pl (κ := κ) (line := line) (a := a)]
        simp
      | succ j =>
        have := c6 j (by simpa using hj)
        rw [show row.length + (j + 1) = row.length + 1 + j by omega]
        simpa using this
/-- what the numbering has made -/
theorem bfs_ok {κ : Nat → Nat} {mv : Nat → List Nat} {st : List Nat} (h0 : 0 ∈ st) (hc : ∀ x ∈ st, ∀ a ∈ mv x, a ∈ st) : ∀ n, LOk κ st (bfsN κ mv n).1 ∧ 0 < (bfsN κ mv n).1.length ∧ (bfsN κ mv n).1.getD 0 0 = 0 ∧ (bfsN κ mv n).2.length = min n (bfsN κ mv n).1.length ∧
    ∀ i, i < (bfsN κ mv n).2.length → ((bfsN κ mv n).2.getD i []).length = (mv ((bfsN κ mv n).1.getD i 0)).length ∧ ∀ j, j < ((bfsN κ mv n).2.getD i []).length → ((bfsN κ mv n).2.getD i []).getD j 0 < (bfsN κ mv n).1.length ∧ κ ((bfsN κ mv n).1.getD (((bfsN κ mv n).2.getD i []).getD j 0) 0) = κ ((mv ((bfsN κ mv n).1.getD i 0)).getD j 0)
  | 0 => ⟨⟨by simp [bfsN], by intro x hx; simp [bfsN] at hx; subst hx; exact h0⟩, by simp [bfsN], by simp [bfsN], by simp [bfsN], fun i hi => by simp [bfsN] at hi⟩
  | n + 1 => by
    obtain ⟨c1, c2, c3, c4, c5⟩ := bfs_ok h0 hc n
    unfold bfsN
    by_cases c : n < (bfsN κ mv n).1.length
    · rw [if_pos c]
      generalize bfsN κ mv n = p at *
      have hst : p.1.getD n 0 ∈ st := c1.ss _ (by rw [List.getD_eq_getElem?_getD, List.getElem?_eq_getElem c]; exact List.getElem_mem c)
      obtain ⟨d1, d2, d3, d4, d5, d6⟩ := rowF_ok (κ := κ) (row := []) c1 (hc _ hst)
      generalize rowF κ (mv (p.1.getD n 0)) p.1 [] = q at *
      have hlen : p.2.length = n := by omega
      refine ⟨d1, by show 0 < q.1.length; omega, ?_, by show (p.2 ++ [q.2]).length = min (n + 1) q.1.length; rw [List.length_append, List.length_singleton]; omega, fun i hi => ?_⟩
      · rw [d3 0 c2, c3]
      · simp only [List.length_append, List.length_singleton] at hi
        by_cases e : i < n
        · have e1 : (p.2 ++ [q.2]).getD i [] = p.2.getD i [] := by rw [List.getD_eq_getElem?_getD, List.getElem?_append_left (by omega), List.getD_eq_getElem?_getD]
          simp only [e1]
          obtain ⟨f1, f2⟩ := c5 i (by omega)
          rw [d3 i (by omega)]
          refine ⟨f1, fun j hj => ?_⟩
          obtain ⟨g1, g2⟩ := f2 j hj
          refine ⟨by omega, ?_⟩
          rw [d3 _ g1, g2]
        · have ei : i = n := by omega
          subst ei
          have e1 : (p.2 ++ [q.2]).getD i [] = q.2 := by rw [List.getD_eq_getElem?_getD, ← hlen]; simp
          simp only [e1]
          rw [d3 i c]
          simp only [List.length_nil, Nat.zero_add] at d4 d6
          exact ⟨d4, fun j hj => d6 j (by omega)⟩
    · rw [if_neg c]
      refine ⟨c1, c2, c3, by omega, c5⟩
theorem bfs_more {κ mv} {n : Nat} (h : (bfsN κ mv n).1.length ≤ n) : ∀ k, bfsN κ mv (n + k) = bfsN κ mv n
  | 0 => rfl
  | k + 1 => by
    have e := bfs_more h k
    show (if n + k < (bfsN κ mv (n + k)).1.length then ((rowF κ (mv ((bfsN κ mv (n + k)).1.getD (n + k) 0)) (bfsN κ mv (n + k)).1 []).1, (bfsN κ mv (n + k)).2 ++ [(rowF κ (mv ((bfsN κ mv (n + k)).1.getD (n + k) 0)) (bfsN κ mv (n + k)).1 []).2]) else bfsN κ mv (n + k)) = _
    rw [e, if_neg (by omega)]
/-- two numberings in step -/
structure Par (R : Nat → Nat → Prop) (κ κ' : Nat → Nat) (mv mv' : Nat → List Nat) : Prop where
  k : ∀ x x' y y', R x x' → R y y' → (κ x = κ y ↔ κ' x' = κ' y')
  m : ∀ x x', R x x' → RL R (mv x) (mv' x')
theorem pl_par {R κ κ' mv mv'} (p : Par R κ κ' mv mv') {a a'} (ha : R a a') : ∀ {line line'}, RL R line line' → pl κ line a = pl κ' line' a'
  | [], [], _ => rfl
  | x :: l, x' :: l', h => by
    unfold pl
    rw [List.map_cons, List.map_cons, List.idxOf_cons, List.idxOf_cons]
    have e := p.k _ _ _ _ h.1 ha
    have r := pl_par p ha h.2
    unfold pl at r
    rw [r]
    by_cases c : κ x = κ a
    · have c' := e.mp c
      simp [c, c']
    · have c' : ¬ κ' x' = κ' a' := fun z => c (e.mpr z)
      have b1 : (κ x == κ a) = false := by simp [c]
      have b2 : (κ' x' == κ' a') = false := by simp [c']
      rw [b1, b2]
  | [], _ :: _, h => h.elim
  | _ :: _, [], h => h.elim
theorem visit_par {R κ κ' mv mv'} (p : Par R κ κ' mv mv') {a a'} (ha : R a a') {line line'} (h : RL R line line') : RL R (visit κ line a) (visit κ' line' a') := by
  unfold visit
  rw [pl_par p ha h, h.len]
  split
  · exact h
  · exact h.app ha
theorem rowF_par {R κ κ' mv mv'} (p : Par R κ κ' mv mv') : ∀ {as as' line line' row}, RL R as as' → RL R line line' → RL R (rowF κ as line row).1 (rowF κ' as' line' row).1 ∧ (rowF κ as line row).2 = (rowF κ' as' line' row).2
  | [], [], _, _, _, _, h => ⟨h, rfl⟩
  | a :: as, a' :: as', line, line', row, ha, h => by
    unfold rowF
    rw [pl_par p ha.1 h]
    exact rowF_par p ha.2 (visit_par p ha.1 h)
  | [], _ :: _, _, _, _, h, _ => h.elim
  | _ :: _, [], _, _, _, h, _ => h.elim
theorem bfs_par {R κ κ' mv mv'} (p : Par R κ κ' mv mv') (h0 : R 0 0) : ∀ n, RL R (bfsN κ mv n).1 (bfsN κ' mv' n).1 ∧ (bfsN κ mv n).2 = (bfsN κ' mv' n).2
  | 0 => ⟨⟨h0, trivial⟩, rfl⟩
  | n + 1 => by
    obtain ⟨h1, h2⟩ := bfs_par p h0 n
    unfold bfsN
    rw [h1.len]
    split
    · rename_i c
      have hg := h1.get n (by rw [h1.len]; exact c)
      obtain ⟨q1, q2⟩ := rowF_par (row := []) p (p.m _ _ hg) h1
      exact ⟨q1, by rw [h2, q2]⟩
    · exact ⟨h1, h2⟩

/-! ### Moore's rounds -/
def keyM (mv : Nat → List Nat) (κ : Nat → Nat) (x : Nat) : List Nat := κ x :: (mv x).map κ
def keysM (mv : Nat → List Nat) (κ : Nat → Nat) : List Nat → List (List Nat) → List (List Nat)
  | [], ks => ks
  | x :: st, ks => keysM mv κ st (if keyM mv κ x ∈ ks then ks else ks ++ [keyM mv κ x])
def roundM (mv : Nat → List Nat) (st : List Nat) (κ : Nat → Nat) (x : Nat) : Nat := (keysM mv κ st []).idxOf (keyM mv κ x)
def mooreM (mv : Nat → List Nat) (st : List Nat) : Nat → (Nat → Nat) → Nat → Nat → Nat
  | 0, κ, _ => κ
  | n + 1, κ, many => if (keysM mv κ st []).length = many then roundM mv st κ else mooreM mv st n (roundM mv st κ) (keysM mv κ st []).length
theorem keysM_mem {mv κ k} : ∀ {st ks}, k ∈ keysM mv κ st ks ↔ k ∈ ks ∨ ∃ x ∈ st, keyM mv κ x = k
  | [], ks => by simp [keysM]
  | x :: st, ks => by
    unfold keysM
    rw [keysM_mem]
    split
    · rename_i h
      constructor
      · rintro (a | ⟨y, hy, e⟩)
        · exact .inl a
        · exact .inr ⟨y, List.mem_cons_of_mem _ hy, e⟩
      · rintro (a | ⟨y, hy, e⟩)
        · exact .inl a
        · rcases List.mem_cons.mp hy with z | z
          · subst z e; exact .inl h
          · exact .inr ⟨y, z, e⟩
    · constructor
      · rintro (a | ⟨y, hy, e⟩)
        · rcases List.mem_append.mp a with b | b
          · exact .inl b
          · rw [List.mem_singleton] at b; exact .inr ⟨x, List.mem_cons_self, b.symm⟩
        · exact .inr ⟨y, List.mem_cons_of_mem _ hy, e⟩
      · rintro (a | ⟨y, hy, e⟩)
        · exact .inl (List.mem_append_left _ a)
        · rcases List.mem_cons.mp hy with z | z
          · subst z e; exact .inl (by simp)
          · exact .inr ⟨y, z, e⟩
theorem keysM_len {mv κ} : ∀ {st ks}, (keysM mv κ st ks).length ≤ ks.length + st.length
  | [], ks => by simp [keysM]
  | x :: st, ks => by
    unfold keysM
    have := keysM_len (mv := mv) (κ := κ) (st := st) (ks := if keyM mv κ x ∈ ks then ks else ks ++ [keyM mv κ x])
    rw [List.length_cons]
    split at this
    · rename_i h; rw [if_pos h]; omega
    · rename_i h; rw [if_neg h]; rw [List.length_append, List.length_singleton] at this; omega
theorem keysM_nodup {mv κ} : ∀ {st ks}, ks.Nodup → (keysM mv κ st ks).Nodup
  | [], ks, h => h
  | x :: st, ks, h => by
    unfold keysM
    refine keysM_nodup ?_
    split
    · exact h
    · rename_i c
      refine List.nodup_append.mpr ⟨h, by simp, ?_⟩
      intro a ha b hb z
      rw [List.mem_singleton] at hb
      subst hb z
      exact c ha
theorem idxOf_inj {ks : List (List Nat)} {k k' : List Nat} (h : k ∈ ks) (e : ks.idxOf k = ks.idxOf k') : k = k' := by
  have h1 := List.idxOf_lt_length_iff.mpr h
  have h2 : ks.idxOf k' < ks.length := by rw [← e]; exact h1
  have g1 := List.getElem_idxOf h1
  have g2 := List.getElem_idxOf h2
  rw [← g1, ← g2]
  simp only [e]
theorem roundM_eq {mv st κ x y} (hx : x ∈ st) : roundM mv st κ x = roundM mv st κ y ↔ keyM mv κ x = keyM mv κ y := by
  constructor
  · intro e
    exact idxOf_inj (keysM_mem.mpr (.inr ⟨x, hx, rfl⟩)) e
  · intro e
    unfold roundM
    rw [e]
theorem pigeon {n : Nat} {ks : List (List Nat)} {k1 k2 : List Nat} (h1 : k1 ∈ ks) (h2 : k2 ∈ ks) (ne : k1 ≠ k2) (hh : k1.headD 0 = k2.headD 0) (hc : ∀ i, i < n → ∃ k ∈ ks, k.headD 0 = i) : n < ks.length := by
  have := nodup_le (l := List.range n) (l' := (ks.erase k2).map fun k => k.headD 0) List.nodup_range fun i hi => by
    obtain ⟨k, hk, e⟩ := hc i (List.mem_range.mp hi)
    by_cases c : k = k2
    · subst c
      exact List.mem_map.mpr ⟨k1, (List.mem_erase_of_ne ne).mpr h1, by rw [hh, e]⟩
    · exact List.mem_map.mpr ⟨k, (List.mem_erase_of_ne c).mpr hk, e⟩
  rw [List.length_range, List.length_map, List.length_erase_of_mem h2] at this
  have := List.length_pos_of_mem h2
  omega
theorem cover_le {n : Nat} {ks : List (List Nat)} (hc : ∀ i, i < n → ∃ k ∈ ks, k.headD 0 = i) : n ≤ ks.length := by
  have := nodup_le (l := List.range n) (l' := ks.map fun k => k.headD 0) List.nodup_range fun i hi => by
    obtain ⟨k, hk, e⟩ := hc i (List.mem_range.mp hi)
    exact List.mem_map.mpr ⟨k, hk, e⟩
  simpa using this
/-- no two states of one kind part -/
def Stable (mv : Nat → List Nat) (en : Nat → Nat) (st : List Nat) (κ : Nat → Nat) : Prop := ∀ x ∈ st, ∀ y ∈ st, κ x = κ y → en x = en y ∧ (mv x).map κ = (mv y).map κ
theorem moore_stable {mv : Nat → List Nat} {en : Nat → Nat} {st : List Nat} (hc : ∀ x ∈ st, ∀ a ∈ mv x, a ∈ st) : ∀ (n : Nat) (κ : Nat → Nat) (many : Nat), (∀ x ∈ st, ∀ y ∈ st, κ x = κ y → en x = en y) → (∀ i, i < many → ∃ x ∈ st, κ x = i) → st.length + 1 ≤ n + many → Stable mv en st (mooreM mv st n κ many)
  | 0, κ, many, he, hm, hn => by
    exfalso
    have := nodup_le (l := List.range many) (l' := st.map κ) List.nodup_range fun i hi => by
      obtain ⟨x, hx, e⟩ := hm i (List.mem_range.mp hi)
      exact List.mem_map.mpr ⟨x, hx, e⟩
    simp at this
    omega
  | n + 1, κ, many, he, hm, hn => by
    have hcov : ∀ i, i < many → ∃ k ∈ keysM mv κ st [], k.headD 0 = i := fun i hi => by
      obtain ⟨x, hx, e⟩ := hm i hi
      exact ⟨keyM mv κ x, keysM_mem.mpr (.inr ⟨x, hx, rfl⟩), e⟩
    have hle := cover_le hcov
    have he' : ∀ x ∈ st, ∀ y ∈ st, roundM mv st κ x = roundM mv st κ y → en x = en y := fun x hx y hy e => by
      have := (roundM_eq hx).mp e
      unfold keyM at this
      injection this with a b
      exact he x hx y hy a
    unfold mooreM
    split
    · rename_i c
      have inj : ∀ x ∈ st, ∀ y ∈ st, κ x = κ y → keyM mv κ x = keyM mv κ y := fun x hx y hy e => by
        refine Classical.byContradiction fun ne => ?_
        have := pigeon (keysM_mem.mpr (.inr ⟨x, hx, rfl⟩)) (keysM_mem.mpr (.inr ⟨y, hy, rfl⟩)) ne (by simpa [keyM] using e) hcov
        omega
      intro x hx y hy e
      refine ⟨he' x hx y hy e, ?_⟩
      have k := (roundM_eq hx).mp e
      unfold keyM at k
      injection k with a b
      have r := RL.of_map b
      have : RL (fun u v => roundM mv st κ u = roundM mv st κ v) (mv x) (mv y) := by
        refine RL.of r.len fun i hi => ?_
        have g := r.get i hi
        have mx : (mv x).getD i 0 ∈ st := hc x hx _ (by rw [List.getD_eq_getElem?_getD, List.getElem?_eq_getElem hi]; exact List.getElem_mem hi)
        have hi' : i < (mv y).length := by rw [← r.len]; exact hi
        have my : (mv y).getD i 0 ∈ st := hc y hy _ (by rw [List.getD_eq_getElem?_getD, List.getElem?_eq_getElem hi']; exact List.getElem_mem hi')
        exact (roundM_eq mx).mpr (inj _ mx _ my g)
      exact RL.map_eq (fun _ _ z => z) this
    · rename_i c
      refine moore_stable hc n _ _ he' (fun i hi => ?_) (by omega)
      have hmem : (keysM mv κ st [])[i] ∈ keysM mv κ st [] := List.getElem_mem hi
      obtain (z | ⟨x, hx, e⟩) := keysM_mem.mp hmem
      · cases z
      · refine ⟨x, hx, ?_⟩
        unfold roundM
        rw [e]
        exact List.Nodup.idxOf_getElem (keysM_nodup List.nodup_nil) i hi
theorem moore_coarse {mv : Nat → List Nat} {st : List Nat} {B : Nat → Nat → Prop} (hB : ∀ x y, B x y → RL B (mv x) (mv y)) : ∀ (n : Nat) (κ : Nat → Nat) (many : Nat), (∀ x y, B x y → κ x = κ y) → ∀ x y, B x y → mooreM mv st n κ many x = mooreM mv st n κ many y := by
  have hr : ∀ κ : Nat → Nat, (∀ x y, B x y → κ x = κ y) → ∀ x y, B x y → roundM mv st κ x = roundM mv st κ y := fun κ h x y b => by
    unfold roundM keyM
    rw [h x y b, RL.map_eq h (hB x y b)]
  intro n
  induction n with
  | zero => intro κ many h; exact h
  | succ n ih =>
    intro κ many h
    unfold mooreM
    split
    · exact hr κ h
    · exact ih _ _ (hr κ h)
end K02
set_option Elab.async false
set_option linter.all false
namespace K02
/-- the kinds behind all rounds -/
def kM (mv : Nat → List Nat) (en : Nat → Nat) (st : List Nat) : Nat → Nat := mooreM mv st (st.length + 1) en 0
def leastRows (mv : Nat → List Nat) (en : Nat → Nat) (st : List Nat) : List (List Nat) := (bfsN (kM mv en st) mv st.length).2
def leastEnds (mv : Nat → List Nat) (en : Nat → Nat) (st : List Nat) : List Nat := (bfsN (kM mv en st) mv st.length).1.map en
/-- what the law asks of what is reached -/
structure Rch (mv : Nat → List Nat) (st : List Nat) : Prop where
  h0 : 0 ∈ st
  hc : ∀ x ∈ st, ∀ a ∈ mv x, a ∈ st
theorem getD_mem {l : List Nat} {i : Nat} (h : i < l.length) : l.getD i 0 ∈ l := by
  rw [List.getD_eq_getElem?_getD, List.getElem?_eq_getElem h]
  exact List.getElem_mem h
theorem kM_stable {mv en st} (h : Rch mv st) : Stable mv en st (kM mv en st) := moore_stable h.hc _ _ _ (fun x _ y _ e => e) (fun i hi => absurd hi (Nat.not_lt_zero i)) (by omega)
theorem RL.mem {R : Nat → Nat → Prop} {S S' : Nat → Prop} : ∀ {l m}, RL R l m → (∀ x ∈ l, S x) → (∀ x ∈ m, S' x) → RL (fun x y => R x y ∧ S x ∧ S' y) l m
  | [], [], _, _, _ => trivial
  | a :: l, b :: m, h, g, g' => ⟨⟨h.1, g a List.mem_cons_self, g' b List.mem_cons_self⟩, RL.mem h.2 (fun x hx => g x (List.mem_cons_of_mem _ hx)) fun x hx => g' x (List.mem_cons_of_mem _ hx)⟩
  | [], _ :: _, h, _, _ => h.elim
  | _ :: _, [], h, _, _ => h.elim
theorem RL.join {R : Nat → Nat → Prop} {κ : Nat → Nat} : ∀ {l l' m m' : List Nat}, RL R l m → RL R l' m' → l.map κ = l'.map κ → RL (fun u v => ∃ x y, R x u ∧ R y v ∧ κ x = κ y) m m'
  | [], [], [], [], _, _, _ => trivial
  | a :: l, a' :: l', b :: m, b' :: m', h, h', e => by
    rw [List.map_cons, List.map_cons] at e
    injection e with e1 e2
    exact ⟨⟨a, a', h.1, h'.1, e1⟩, RL.join h.2 h'.2 e2⟩
  | [], _ :: _, _, _, _, _, e => by simp at e
  | _ :: _, [], _, _, _, _, e => by simp at e
  | [], [], _ :: _, _, h, _, _ => h.elim
  | [], [], [], _ :: _, _, h, _ => h.elim
  | _ :: _, _ :: _, [], _, h, _, _ => h.elim
  | _ :: _, _ :: _, _ :: _, [], _, h, _ => h.elim
theorem kM_half {mv mv' : Nat → List Nat} {en en' : Nat → Nat} {st st' : List Nat} {R : Nat → Nat → Prop} (h : Rch mv st) (hR : ∀ x x', R x x' → x ∈ st ∧ en x = en' x' ∧ RL R (mv x) (mv' x')) {x x' y y' : Nat} (hx : R x x') (hy : R y y') (e : kM mv en st x = kM mv en st y) : kM mv' en' st' x' = kM mv' en' st' y' := by
  have hs := kM_stable (en := en) h
  refine moore_coarse (B := fun u v => ∃ x y, R x u ∧ R y v ∧ kM mv en st x = kM mv en st y) (fun u v => ?_) _ _ _ (fun u v => ?_) x' y' ⟨x, y, hx, hy, e⟩
  · rintro ⟨x, y, a, b, c⟩
    obtain ⟨a1, a2, a3⟩ := hR _ _ a
    obtain ⟨b1, b2, b3⟩ := hR _ _ b
    exact RL.join a3 b3 (hs x a1 y b1 c).2
  · rintro ⟨x, y, a, b, c⟩
    obtain ⟨a1, a2, a3⟩ := hR _ _ a
    obtain ⟨b1, b2, b3⟩ := hR _ _ b
    rw [← a2, ← b2]
    exact (hs x a1 y b1 c).1
theorem RL.flip {R : Nat → Nat → Prop} : ∀ {l m}, RL R l m → RL (fun x y => R y x) m l
  | [], [], _ => trivial
  | a :: l, b :: m, h => ⟨h.1, RL.flip h.2⟩
  | [], _ :: _, h => h.elim
  | _ :: _, [], h => h.elim
/-- machines that go in step have one least machine -/
theorem least_eq {mv mv' : Nat → List Nat} {en en' : Nat → Nat} {st st' : List Nat} {R : Nat → Nat → Prop} (h : Rch mv st) (h' : Rch mv' st') (hR : ∀ x x', R x x' → en x = en' x' ∧ RL R (mv x) (mv' x')) (h0 : R 0 0) :
    leastRows mv en st = leastRows mv' en' st' ∧ leastEnds mv en st = leastEnds mv' en' st' := by
  have hS : ∀ x x', (R x x' ∧ x ∈ st ∧ x' ∈ st') → x ∈ st ∧ en x = en' x' ∧ RL (fun x x' => R x x' ∧ x ∈ st ∧ x' ∈ st') (mv x) (mv' x') := fun x x' ⟨a, b, c⟩ =>
    ⟨b, (hR _ _ a).1, RL.mem (hR _ _ a).2 (h.hc x b) (h'.hc x' c)⟩
  have hS' : ∀ x' x, (R x x' ∧ x ∈ st ∧ x' ∈ st') → x' ∈ st' ∧ en' x' = en x ∧ RL (fun x' x => R x x' ∧ x ∈ st ∧ x' ∈ st') (mv' x') (mv x) := fun x' x a =>
    ⟨a.2.2, (hS _ _ a).2.1.symm, RL.flip (hS _ _ a).2.2⟩
  have p : Par (fun x x' => R x x' ∧ x ∈ st ∧ x' ∈ st') (kM mv en st) (kM mv' en' st') mv mv' := ⟨fun x x' y y' a b => ⟨fun e => kM_half h hS a b e, fun e => kM_half (R := fun x' x => R x x' ∧ x ∈ st ∧ x' ∈ st') h' hS' a b e⟩, fun x x' a => (hS x x' a).2.2⟩
  have z0 : R 0 0 ∧ 0 ∈ st ∧ 0 ∈ st' := ⟨h0, h.h0, h'.h0⟩
  have l1 := (bfs_ok (κ := kM mv en st) h.h0 h.hc st.length).1.le
  have l2 := (bfs_ok (κ := kM mv' en' st') h'.h0 h'.hc st'.length).1.le
  have e1 := bfs_more l1 st'.length
  have e2 := bfs_more l2 st.length
  rw [Nat.add_comm] at e2
  obtain ⟨q1, q2⟩ := bfs_par p z0 (st.length + st'.length)
  rw [e1, e2] at q1 q2
  exact ⟨q2, RL.map_eq (fun x x' a => (hS x x' a).2.1) q1⟩
/-- what the least machine keeps -/
theorem least_good {mv : Nat → List Nat} {en : Nat → Nat} {st : List Nat} (h : Rch mv st) {w : Nat} (hw : ∀ x ∈ st, (mv x).length = w) (hz : ∀ x ∈ st, en ((mv x).getD 0 0) = en x) (hw0 : 0 < w) :
    0 < (leastRows mv en st).length ∧ (leastRows mv en st).length ≤ st.length ∧ (leastEnds mv en st).length = (leastRows mv en st).length ∧ (∀ i, i < (leastRows mv en st).length → ((leastRows mv en st).getD i []).length = w ∧ (∀ j, j < w → ((leastRows mv en st).getD i []).getD j 0 < (leastRows mv en st).length) ∧ (leastEnds mv en st).getD (((leastRows mv en st).getD i []).getD 0 0) 0 = (leastEnds mv en st).getD i 0) ∧
      ∀ i, i < (leastEnds mv en st).length → ∃ x ∈ st, (leastEnds mv en st).getD i 0 = en x := by
  have hs := kM_stable (en := en) h
  unfold leastRows leastEnds
  generalize kM mv en st = κ at *
  obtain ⟨c1, c2, c3, c4, c5⟩ := bfs_ok (κ := κ) h.h0 h.hc st.length
  have cl := c1.le
  generalize bfsN κ mv st.length = p at *
  have hlen : p.2.length = p.1.length := by omega
  have hin : ∀ i, i < p.1.length → p.1.getD i 0 ∈ st := fun i hi => c1.ss _ (by rw [List.getD_eq_getElem?_getD, List.getElem?_eq_getElem hi]; exact List.getElem_mem hi)
  have hen : ∀ i, i < p.1.length → (p.1.map en).getD i 0 = en (p.1.getD i 0) := fun i hi => by simp [hi]
  refine ⟨by omega, by omega, by rw [List.length_map]; omega, fun i hi => ?_, fun i hi => ?_⟩
  · obtain ⟨d1, d2⟩ := c5 i hi
    have hx := hin i (by omega)
    have dw : (p.2.getD i []).length = w := by rw [d1, hw _ hx]
    refine ⟨dw, fun j hj => by have := (d2 j (by omega)).1; omega, ?_⟩
    obtain ⟨g1, g2⟩ := d2 0 (by omega)
    rw [hen _ g1, hen _ (by omega)]
    have ha : (mv (p.1.getD i 0)).getD 0 0 ∈ st := h.hc _ hx _ (getD_mem (by rw [hw _ hx]; exact hw0))
    rw [(hs _ (hin _ g1) _ ha g2).1, hz _ hx]
  · rw [List.length_map] at hi
    exact ⟨_, hin i hi, hen i hi⟩
end K02
set_option Elab.async false
set_option linter.all false
set_option maxRecDepth 100000
set_option maxHeartbeats 4000000
namespace K02
open PySem PySem.Spec PyProof.Rows L2 DD
theorem set_snd {S : Store} {x y z : O} : (S ++ [x, y]).set (S.length + 1) z = S ++ [x, z] := by
  have h := set_mid (a := S ++ [x]) (b := []) (x := y) (y := z) (n := S.length + 1) (by simp)
  simpa using h
/-- what _law_reach holds: found and known -/
structure Fnd (mv : List (List Nat)) (f : List Nat) (kv : List (Key × T)) : Prop where
  k : ∀ a : Nat, (getK kv (.inl (a : Int))).isSome = decide (a ∈ f)
  l : kv.length = f.length
  nd : f.Nodup
  lt : ∀ x ∈ f, x < mv.length
  z : 0 ∈ f
theorem Fnd.le {mv f kv} (h : Fnd mv f kv) : f.length ≤ mv.length := by
  have := nodup_le (l' := List.range mv.length) h.nd fun x hx => List.mem_range.mpr (h.lt x hx)
  rwa [List.length_range] at this
abbrev rchRow : DS := dIf (dBin (nIn true) (dVar 4) (dVar 2)) (dSeq (dAsg (dLit (.bl true)) (gSubD nSetA (dVar 2) (dVar 4))) (dExpr (dMeth isL nApp (dVar 1) (dCons (dVar 4) dNil)))) dSkip
theorem reach_step {mv : List (List Nat)} {S : Store} {f : List Nat} {kv : List (Key × T)} {a : Nat} {t0 t3 : T} (h : Fnd mv f kv) (ha : a < mv.length) (hn : mv.length < LINE) :
    ∃ f' kv', Fnd mv f' kv' ∧ (∃ g, f' = f ++ g) ∧ a ∈ f' ∧ rchRow [t0, .ref S.length, .ref (S.length + 1), t3, natT a] (S ++ [.lst (f.map natT), .dct kv]) = .nx [t0, .ref S.length, .ref (S.length + 1), t3, natT a] (S ++ [.lst (f'.map natT), .dct kv']) := by
  have e1 : (S ++ [O.lst (f.map natT), .dct kv])[S.length + 1]? = some (.dct kv) := by simp
  have h1 := nIn_d (x := (a : Int)) (neg := true) e1
  rw [h.k a, Bool.xor_true] at h1
  have h2 : dBin (nIn true) (dVar 4) (dVar 2) [t0, .ref S.length, .ref (S.length + 1), t3, natT a] (S ++ [.lst (f.map natT), .dct kv]) = .ok (.bl (!decide (a ∈ f))) (S ++ [.lst (f.map natT), .dct kv]) := v_bin (v_var (t := natT a) rfl nh_int) (v_var rfl nh_ref) h1
  have hle := h.le
  by_cases c : a ∈ f
  · rw [decide_eq_true c] at h2
    exact ⟨f, kv, h, ⟨[], by simp⟩, c, v_ifF h2 rfl⟩
  · rw [decide_eq_false c] at h2
    have g0 : getK kv (.inl (a : Int)) = none := by
      have := h.k a
      rw [decide_eq_false c] at this
      cases q : getK kv (.inl (a : Int)) with
      | none => rfl
      | some z => rw [q] at this; cases this
    have s1 : (S ++ [O.lst (f.map natT), .dct kv]).set (S.length + 1) (.dct (putT kv (.inl (a : Int)) (.bl true))) = S ++ [O.lst (f.map natT), .dct (putT kv (.inl (a : Int)) (.bl true))] := by
      exact set_snd
    have h3 := nSet_d (x := (a : Int)) (v := .bl true) e1 rfl (by rw [h.l]; omega)
    rw [s1] at h3
    have e2 : (S ++ [O.lst (f.map natT), .dct (putT kv (.inl (a : Int)) (.bl true))])[S.length]? = some (.lst (f.map natT)) := at_mid rfl
    have s2 : (S ++ [O.lst (f.map natT), .dct (putT kv (.inl (a : Int)) (.bl true))]).set S.length (.lst (f.map natT ++ [natT a])) = S ++ [O.lst ((f ++ [a]).map natT), .dct (putT kv (.inl (a : Int)) (.bl true))] := by
      rw [set_mid rfl]; simp
    have h4 := nApp_l (t := natT a) e2 rfl (by rw [List.length_map]; omega)
    rw [s2] at h4
    refine ⟨f ++ [a], putT kv (.inl (a : Int)) (.bl true), ⟨fun b => ?_, ?_, ?_, fun x hx => ?_, List.mem_append_left _ h.z⟩, ⟨[a], rfl⟩, by simp, ?_⟩
    · rw [getK_putT]
      by_cases d : a = b
      · subst d; simp
      · have d2 : ¬ (Sum.inl (a : Int) : Key) = .inl (b : Int) := fun z => d (by injection z with z; omega)
        have d3 : ¬ b = a := fun z => d z.symm
        rw [if_neg d2, h.k b]
        simp [d3]
    · rw [putT_len, g0, List.length_append]
      simp [h.l]
    · refine List.nodup_append.mpr ⟨h.nd, by simp, ?_⟩
      intro x hx y hy z
      rw [List.mem_singleton] at hy
      subst hy z
      exact c hx
    · rcases List.mem_append.mp hx with z | z
      · exact h.lt x z
      · rw [List.mem_singleton] at z; subst z; exact ha
    · exact v_ifT h2 (v_seq (v_asgG v_lit (v_gsub (v_var rfl nh_ref) (v_var (t := natT a) rfl nh_int) h3)) (v_expr (v_meth (v_var rfl nh_ref) (isL_l e2) (v_cons (v_var (t := natT a) rfl nh_int) v_nil) h4)))
theorem reach_row {mv : List (List Nat)} {S : Store} {f : List Nat} {kv : List (Key × T)} {row : List Nat} {at' : DE} {t0 t3 t4 : T} (h : Fnd mv f kv) (ha : ∀ a ∈ row, a < mv.length) (hn : mv.length < LINE) (hl : row.length < LINE)
    (hat : at' [t0, .ref S.length, .ref (S.length + 1), t3, t4] (S ++ [.lst (f.map natT), .dct kv]) = .ok (rowT row) (S ++ [.lst (f.map natT), .dct kv])) :
    ∃ f' kv' t4', Fnd mv f' kv' ∧ (∃ g, f' = f ++ g) ∧ (∀ a ∈ row, a ∈ f') ∧ dFor (dItT at') (gNam 4) rchRow [t0, .ref S.length, .ref (S.length + 1), t3, t4] (S ++ [.lst (f.map natT), .dct kv]) = .nx [t0, .ref S.length, .ref (S.length + 1), t3, t4'] (S ++ [.lst (f'.map natT), .dct kv']) := by
  have key := forL_inv (it := iTs (row.map natT)) (g := gNam 4) (b := rchRow)
    (P := fun i e S' => ∃ f' kv' t4', Fnd mv f' kv' ∧ (∃ g, f' = f ++ g) ∧ (∀ s, s < i → row.getD s 0 ∈ f') ∧ e = [t0, .ref S.length, .ref (S.length + 1), t3, t4'] ∧ S' = S ++ [.lst (f'.map natT), .dct kv'])
    (Z := fun r => ∃ f' kv' t4', Fnd mv f' kv' ∧ (∃ g, f' = f ++ g) ∧ (∀ a ∈ row, a ∈ f') ∧ r = .nx [t0, .ref S.length, .ref (S.length + 1), t3, t4'] (S ++ [.lst (f'.map natT), .dct kv'])) row.length ?_ ?_ FUEL 0 _ _ ⟨f, kv, t4, h, ⟨[], by simp⟩, fun s hs => absurd hs (Nat.not_lt_zero s), rfl, rfl⟩ (Nat.zero_le _) (fuel_ok hl)
  · obtain ⟨f', kv', t4', q1, q2, q3, q4⟩ := key
    exact ⟨f', kv', t4', q1, q2, q3, v_for (v_itT hat) q4⟩
  · rintro i e S' hi ⟨f', kv', t4', q1, ⟨g, rfl⟩, q3, rfl, rfl⟩
    have hm : row.getD i 0 ∈ row := getD_mem hi
    obtain ⟨f2, kv2, r1, ⟨g2, rfl⟩, r3, r4⟩ := reach_step (t0 := t0) (t3 := t3) (S := S) q1 (ha _ hm) hn
    have hit : iTs (row.map natT) i (S ++ [.lst ((f ++ g).map natT), .dct kv']) = .item (natT (row.getD i 0)) := by
      rw [ts_item (by simpa using hi)]
      simp [hi]
    refine ⟨_, hit, .inl ⟨_, _, ?_, f ++ g ++ g2, kv2, natT (row.getD i 0), r1, ⟨g ++ g2, by simp⟩, fun s hs => ?_, rfl, rfl⟩⟩
    · rw [g_nam (show 4 < 5 by decide)]
      simp only [List.set_cons_succ, List.set_cons_zero]
      exact r4
    · by_cases c : s = i
      · subst c; exact r3
      · exact List.mem_append_left _ (q3 s (by omega))
  · rintro e S' ⟨f', kv', t4', q1, q2, q3, rfl, rfl⟩
    refine ⟨by have := ts_stop (ts := row.map natT) (S := S ++ [.lst (f'.map natT), .dct kv']); rwa [List.length_map] at this, f', kv', t4', q1, q2, fun a ha => ?_, rfl⟩
    obtain ⟨s, hs, e⟩ := List.getElem_of_mem ha
    have := q3 s hs
    rw [List.getD_eq_getElem?_getD, List.getElem?_eq_getElem hs] at this
    rw [← e]; exact this
theorem getD_app {l g : List Nat} {i : Nat} (h : i < l.length) : (l ++ g).getD i 0 = l.getD i 0 := by
  rw [List.getD_eq_getElem?_getD, List.getD_eq_getElem?_getD, List.getElem?_append_left h]
theorem reach_ok {mv : List (List Nat)} {S : Store} (cl : Cl S) (h0 : 1 ≤ mv.length) (hn : mv.length < LINE) (hr : ∀ i, i < mv.length → ∀ a ∈ mv.getD i [], a < mv.length) (hl : ∀ i, i < mv.length → (mv.getD i []).length < LINE) :
    ∃ st, F__law_reach [.tup (mv.map rowT)] S = .ok (.ref S.length) (S ++ [.lst (st.map natT)]) ∧ Rch (fun x => mv.getD x []) st ∧ (∀ x ∈ st, x < mv.length) ∧ st.length ≤ mv.length := by
  have h1 : dAsg (dLst (dCons (dLit (.int 0)) dNil)) (gNam 1) [.tup (mv.map rowT), .hole, .hole, .hole, .hole] S = .nx [.tup (mv.map rowT), .ref S.length, .hole, .hole, .hole] (S ++ [.lst [natT 0]]) := v_asg (v_lst (v_cons v_lit v_nil) rfl (by unfold LINE; decide)) (show 1 < 5 by decide)
  have hlen : (S ++ [O.lst [natT 0]]).length = S.length + 1 := by simp
  have h2 : dAsg (dDisp1 (.inl 0) (dLit (.bl true))) (gNam 2) [.tup (mv.map rowT), .ref S.length, .hole, .hole, .hole] (S ++ [.lst [natT 0]]) = .nx [.tup (mv.map rowT), .ref S.length, .ref (S.length + 1), .hole, .hole] (S ++ [.lst [natT 0]] ++ [.dct [(.inl 0, .bl true)]]) := by
    have := v_asg (i := 2) (e := [.tup (mv.map rowT), .ref S.length, .hole, .hole, .hole]) (v_disp1 (k := .inl 0) (S := S ++ [.lst [natT 0]]) (t := .bl true) (dv := dLit (.bl true)) (e := [.tup (mv.map rowT), .ref S.length, .hole, .hole, .hole]) v_lit rfl) (show 2 < 5 by decide)
    rw [hlen] at this
    exact this
  have e0 : S ++ [O.lst [natT 0]] ++ [.dct [(.inl 0, .bl true)]] = S ++ [.lst ([0].map natT), .dct [(.inl 0, .bl true)]] := by simp
  rw [e0] at h2
  have i0 : Fnd mv [0] [(.inl 0, .bl true)] := ⟨fun a => by
    cases a with
    | zero => rfl
    | succ a =>
      have : ¬ (Sum.inl 0 : Key) = .inl ((a + 1 : Nat) : Int) := fun z => by injection z with z; omega
      have h2 : ¬ (0 : Int) = (a : Int) + 1 := by omega
      simp [getK, h2], rfl, by simp, fun x hx => by rw [List.mem_singleton] at hx; omega, by simp⟩
  have key := forL_inv (it := iRng 0 1 mv.length) (g := gNam 3) (b := dIf (dBin nLt (dVar 3) (dCallF nLenA (dCons (dVar 1) dNil))) (dFor (dItT (dBin nIx (dVar 0) (dBin nIx (dVar 1) (dVar 3)))) (gNam 4) rchRow) dSkip)
    (P := fun i e S' => ∃ f kv t3 t4, Fnd mv f kv ∧ (∀ s, s < i → s < f.length → ∀ a ∈ mv.getD (f.getD s 0) [], a ∈ f) ∧ e = [.tup (mv.map rowT), .ref S.length, .ref (S.length + 1), t3, t4] ∧ S' = S ++ [.lst (f.map natT), .dct kv])
    (Z := fun r => ∃ f kv t3 t4, Fnd mv f kv ∧ (∀ s, s < f.length → ∀ a ∈ mv.getD (f.getD s 0) [], a ∈ f) ∧ r = .nx [.tup (mv.map rowT), .ref S.length, .ref (S.length + 1), t3, t4] (S ++ [.lst (f.map natT), .dct kv])) mv.length ?_ ?_ FUEL 0 _ _ ⟨[0], _, .hole, .hole, i0, fun s hs => absurd hs (Nat.not_lt_zero s), rfl, rfl⟩ (Nat.zero_le _) (fuel_ok hn)
  · obtain ⟨f, kv, t3, t4, q1, q2, q3⟩ := key
    have hd : dRng1 (dCons (dCallF nLenA (dCons (dVar 0) dNil)) dNil) [.tup (mv.map rowT), .ref S.length, .ref (S.length + 1), .hole, .hole] (S ++ [.lst ([0].map natT), .dct [(.inl 0, .bl true)]]) = .ok (iRng 0 1 mv.length) (S ++ [.lst ([0].map natT), .dct [(.inl 0, .bl true)]]) := by
      refine v_rng1 (v_cons (v_callF (v_cons (v_var rfl nh_tup) v_nil) ?_) v_nil) hn
      have := nLen_t (ts := mv.map rowT) (S := S ++ [.lst ([0].map natT), .dct [(.inl 0, .bl true)]])
      rwa [List.length_map] at this
    refine ⟨f, runD_ok rfl (v_seq h1 (v_seq h2 (v_seq (v_for hd q3) (v_ret (v_var rfl nh_ref))))) rfl (fin_lst rfl cl (lows_iff.mpr fun t ht => ?_)), ⟨q1.z, fun x hx a ha => ?_⟩, q1.lt, q1.le⟩
    · obtain ⟨k, _, e⟩ := List.mem_map.mp ht
      rw [← e]
      rfl
    · obtain ⟨s, hs, e⟩ := List.getElem_of_mem hx
      have := q2 s hs
      rw [List.getD_eq_getElem?_getD (l := f), List.getElem?_eq_getElem hs] at this
      rw [← e] at ha
      exact this a ha
  · rintro i e S' hi ⟨f, kv, t3, t4, q1, q2, rfl, rfl⟩
    have g1 : (S ++ [O.lst (f.map natT), .dct kv])[S.length]? = some (.lst (f.map natT)) := at_mid rfl
    have c1 : dBin nLt (dVar 3) (dCallF nLenA (dCons (dVar 1) dNil)) [.tup (mv.map rowT), .ref S.length, .ref (S.length + 1), natT i, t4] (S ++ [.lst (f.map natT), .dct kv]) = .ok (.bl (decide (i < f.length))) (S ++ [.lst (f.map natT), .dct kv]) := by
      have hl2 := nLen_l g1
      rw [List.length_map] at hl2
      have := v_bin (f := nLt) (v_var (i := 3) (e := [.tup (mv.map rowT), .ref S.length, .ref (S.length + 1), natT i, t4]) (t := natT i) (S := S ++ [.lst (f.map natT), .dct kv]) rfl nh_int) (v_callF (v_cons (v_var (i := 1) rfl nh_ref) v_nil) hl2) nLt_i
      have q : decide (((i : Nat) : Int) < ((f.length : Nat) : Int)) = decide (i < f.length) := by rw [decide_eq_decide]; omega
      rw [q] at this
      exact this
    refine ⟨natT i, by rw [rng_item hi, Int.zero_add]; rfl, .inl ?_⟩
    rw [g_nam (show 3 < 5 by decide)]
    simp only [List.set_cons_succ, List.set_cons_zero]
    by_cases c : i < f.length
    · rw [decide_eq_true c] at c1
      have hx := q1.lt _ (getD_mem c)
      have a1 : nIx (.ref S.length) (natT i) (S ++ [.lst (f.map natT), .dct kv]) = .ok (natT (f.getD i 0)) (S ++ [.lst (f.map natT), .dct kv]) := nIx_l g1 (getD_map c)
      have a2 : nIx (.tup (mv.map rowT)) (natT (f.getD i 0)) (S ++ [.lst (f.map natT), .dct kv]) = .ok (rowT (mv.getD (f.getD i 0) [])) (S ++ [.lst (f.map natT), .dct kv]) := nIx_t (getD_map hx)
      obtain ⟨f', kv', t4', r1, ⟨g, rfl⟩, r3, r4⟩ := reach_row (mv := mv) (S := S) (row := mv.getD (f.getD i 0) []) (at' := dBin nIx (dVar 0) (dBin nIx (dVar 1) (dVar 3))) (t0 := .tup (mv.map rowT)) (t3 := natT i) (t4 := t4) q1 (hr _ hx) hn (hl _ hx) (v_bin (v_var rfl nh_tup) (v_bin (v_var rfl nh_ref) (v_var (t := natT i) rfl nh_int) a1) a2)
      refine ⟨_, _, v_ifT c1 r4, f ++ g, kv', natT i, t4', r1, fun s hs hs2 a ha => ?_, rfl, rfl⟩
      by_cases d : s = i
      · subst d
        rw [getD_app c] at ha
        exact r3 a ha
      · have d2 : s < f.length := by omega
        rw [getD_app d2] at ha
        exact List.mem_append_left _ (q2 s (by omega) d2 a ha)
    · rw [decide_eq_false c] at c1
      refine ⟨_, _, v_ifF c1 rfl, f, kv, natT i, t4, q1, fun s hs hs2 => q2 s (by omega) hs2, rfl, rfl⟩
  · rintro e S' ⟨f, kv, t3, t4, q1, q2, rfl, rfl⟩
    exact ⟨rng_stop, f, kv, t3, t4, q1, fun s hs => q2 s (by have := q1.le; omega) hs, rfl⟩
end K02
set_option Elab.async false
set_option linter.all false
set_option maxRecDepth 100000
set_option maxHeartbeats 4000000
namespace K02
open PySem PySem.Spec PyProof.Rows L2 DD
section
variable {S B : Store} {n m : Nat} {o x : O}
theorem ix_ne (h : S[n]? = some o) (e : m ≠ n) : (S.set m x)[n]? = some o := by rw [List.getElem?_set_ne e]; exact h
theorem ix_eq (h : S[n]? = some o) : (S.set n x)[n]? = some x := by rw [List.getElem?_set_self (List.getElem?_eq_some_iff.mp h).1]
theorem ix_app {j : Store} (h : S[n]? = some o) : (S ++ j)[n]? = some o := ExtS.app _ _ h
theorem ix_lt (h : S[n]? = some o) : n < S.length := (List.getElem?_eq_some_iff.mp h).1
theorem ix_new : (S ++ [x])[S.length]? = some x := by simp
end
def Pre (B S : Store) : Prop := ∃ j, S = B ++ j
theorem Pre.refl {B : Store} : Pre B B := ⟨[], by simp⟩
theorem Pre.app {B S j : Store} (h : Pre B S) : Pre B (S ++ j) := by
  obtain ⟨i, rfl⟩ := h
  exact ⟨i ++ j, by simp⟩
theorem Pre.set {B S : Store} {n : Nat} {x : O} (h : Pre B S) (hn : B.length ≤ n) : Pre B (S.set n x) := by
  obtain ⟨i, rfl⟩ := h
  refine ⟨i.set (n - B.length) x, List.ext_getElem? fun k => ?_⟩
  by_cases hk : k < B.length
  · rw [List.getElem?_set_ne (by omega), List.getElem?_append_left hk, List.getElem?_append_left hk]
  · rw [List.getElem?_append_right (by omega)]
    by_cases e : n = k
    · subst e
      rw [List.getElem?_set, if_pos rfl, List.getElem?_set, if_pos rfl, List.length_append]
      by_cases c : n < B.length + i.length
      · rw [if_pos c, if_pos (by omega)]
      · rw [if_neg c, if_neg (by omega)]
    · rw [List.getElem?_set_ne e, List.getElem?_set_ne (by omega), List.getElem?_append_right (by omega)]
theorem Pre.get {B S : Store} {n : Nat} {o : O} (h : Pre B S) (e : B[n]? = some o) : S[n]? = some o := by
  obtain ⟨i, rfl⟩ := h
  exact ix_app e
theorem Pre.len {B S : Store} (h : Pre B S) : B.length ≤ S.length := by
  obtain ⟨i, rfl⟩ := h
  simp
theorem Pre.trans {A B S : Store} (h : Pre A B) (g : Pre B S) : Pre A S := by
  obtain ⟨i, rfl⟩ := h
  exact ⟨i ++ g.choose, by rw [← List.append_assoc]; exact g.choose_spec⟩
/-- dicts of ints -/
def NumD (kv : List (Key × T)) : Prop := ∀ p ∈ kv, ∃ k : Nat, p.2 = natT k
theorem NumD.put {kv : List (Key × T)} {k : Key} {a : Nat} (h : NumD kv) : NumD (putT kv k (natT a)) := fun p hp => by
  rcases putT_mem hp with z | z
  · exact ⟨a, z⟩
  · exact h p z
theorem NumD.low {kv : List (Key × T)} {n : Nat} (h : NumD kv) : O.low n (.dct kv) = true := lows_iff.mpr fun t ht => by
  obtain ⟨p, hp, e⟩ := List.mem_map.mp ht
  obtain ⟨k, hk⟩ := h p hp
  rw [← e, hk]
  rfl
theorem low_nats {l : List Nat} {n : Nat} : O.low n (.lst (l.map natT)) = true := lows_iff.mpr fun t ht => by
  obtain ⟨p, _, e⟩ := List.mem_map.mp ht
  rw [← e]
  rfl
theorem low_row {r : List Nat} {n : Nat} : (rowT r).low n = true := lows_iff.mpr fun t ht => by
  obtain ⟨p, _, e⟩ := List.mem_map.mp ht
  rw [← e]
  rfl
theorem low_rows {l : List (List Nat)} {n : Nat} : O.low n (.lst (l.map rowT)) = true := lows_iff.mpr fun t ht => by
  obtain ⟨p, _, e⟩ := List.mem_map.mp ht
  rw [← e]
  exact low_row
/-- a dict that tells the place of each number of a list -/
structure IxD (kv : List (Key × T)) (ks : List Nat) : Prop where
  g : ∀ k : Nat, getK kv (.inl (k : Int)) = if k ∈ ks then some (natT (ks.idxOf k)) else none
  l : kv.length = ks.length
  n : NumD kv
theorem IxD.add {kv ks} {k : Nat} (h : IxD kv ks) (hk : k ∉ ks) : IxD (putT kv (.inl (k : Int)) (natT ks.length)) (ks ++ [k]) := by
  have g0 : getK kv (.inl (k : Int)) = none := by rw [h.g k, if_neg hk]
  refine ⟨fun a => ?_, ?_, h.n.put⟩
  · rw [getK_putT]
    by_cases d : k = a
    · subst d
      rw [if_pos rfl, if_pos (by simp), List.idxOf_append, if_neg hk]
      simp
    · have d2 : ¬ (Sum.inl (k : Int) : Key) = .inl (a : Int) := fun z => d (by injection z with z; omega)
      rw [if_neg d2, h.g a]
      by_cases c : a ∈ ks
      · rw [if_pos c, if_pos (List.mem_append_left _ c), List.idxOf_append, if_pos c]
      · have c2 : a ∉ ks ++ [k] := fun z => by
          rcases List.mem_append.mp z with z | z
          · exact c z
          · rw [List.mem_singleton] at z; exact d z.symm
        rw [if_neg c, if_neg c2]
  · rw [putT_len, g0, List.length_append, h.l]
    rfl
def keyNat (l : List Nat) : NestedKey := .tup (l.map fun n : Nat => NestedKey.num (n : Int))
theorem keyNs_nat : ∀ l : List Nat, keyNs (l.map natT) = some (l.map fun n : Nat => NestedKey.num (n : Int))
  | [] => rfl
  | a :: l => by
    show (keyN (natT a)).bind _ = _
    have : keyN (natT a) = some (.num (a : Int)) := rfl
    rw [this]
    show ((keyNs (l.map natT)).map (NestedKey.num (a : Int) :: ·)) = _
    rw [keyNs_nat l]
    rfl
theorem keyN_nat {l : List Nat} : keyN (rowT l) = some (keyNat l) := by
  show (keyNs (l.map natT)).map NestedKey.tup = _
  rw [keyNs_nat]
  rfl
theorem depth_nat : ∀ l : List Nat, NestedKey.depthAll (l.map fun n : Nat => NestedKey.num (n : Int)) = 0
  | [] => by simp [NestedKey.depthAll]
  | a :: l => by simp [NestedKey.depthAll, NestedKey.depth, depth_nat l]
theorem keyT_nat {l : List Nat} : keyT (rowT l) = some (keyNat l) := by
  have h : keyN (.tup (l.map natT)) = some (keyNat l) := keyN_nat
  have hd : (keyNat l).depth ≤ 8 := by
    unfold keyNat
    simp only [NestedKey.depth, depth_nat]
    omega
  show (keyN (.tup (l.map natT))).bind (fun k => if k.depth ≤ 8 then some k else none) = _
  rw [h]
  show (if (keyNat l).depth ≤ 8 then some (keyNat l) else none) = some (keyNat l)
  rw [if_pos hd]
theorem keyNat_inj : ∀ {l l' : List Nat}, keyNat l = keyNat l' → l = l' := by
  have h : ∀ {l l' : List Nat}, (l.map fun n : Nat => NestedKey.num (n : Int)) = (l'.map fun n : Nat => NestedKey.num (n : Int)) → l = l' := by
    intro l
    induction l with
    | nil => intro l' h; cases l' with | nil => rfl | cons _ _ => simp at h
    | cons a l ih =>
      intro l' h
      cases l' with
      | nil => simp at h
      | cons b l' =>
        rw [List.map_cons, List.map_cons] at h
        injection h with h1 h2
        injection h1 with h1
        rw [ih h2, show a = b by omega]
  intro l l' e
  unfold keyNat at e
  injection e with e
  exact h e
structure IxN (kv : List (T × T)) (ks : List (List Nat)) : Prop where
  g : ∀ k : List Nat, getN kv (keyNat k) = if k ∈ ks then some (natT (ks.idxOf k)) else none
  l : kv.length = ks.length
  n : ∀ p ∈ kv, (∃ l, p.1 = rowT l) ∧ ∃ k : Nat, p.2 = natT k
theorem IxN.add {kv ks} {k : List Nat} (h : IxN kv ks) (hk : k ∉ ks) : IxN (putN kv (rowT k) (keyNat k) (natT ks.length)) (ks ++ [k]) := by
  have g0 : getN kv (keyNat k) = none := by rw [h.g k, if_neg hk]
  have e : putN kv (rowT k) (keyNat k) (natT ks.length) = kv ++ [(rowT k, natT ks.length)] := by
    unfold putN
    rw [g0, if_neg (by decide)]
  refine ⟨fun a => ?_, ?_, ?_⟩
  · rw [getN_put keyN_nat]
    by_cases d : k = a
    · subst d
      rw [if_pos rfl, if_pos (by simp), List.idxOf_append, if_neg hk]
      simp
    · have d2 : ¬ keyNat k = keyNat a := fun z => d (keyNat_inj z)
      rw [if_neg d2, h.g a]
      by_cases c : a ∈ ks
      · rw [if_pos c, if_pos (List.mem_append_left _ c), List.idxOf_append, if_pos c]
      · have c2 : a ∉ ks ++ [k] := fun z => by
          rcases List.mem_append.mp z with z | z
          · exact c z
          · rw [List.mem_singleton] at z; exact d z.symm
        rw [if_neg c, if_neg c2]
  · rw [e, List.length_append, List.length_append, h.l]
    rfl
  · rw [e]
    intro p hp
    rcases List.mem_append.mp hp with z | z
    · exact h.n p z
    · rw [List.mem_singleton] at z; rw [z]; exact ⟨⟨k, rfl⟩, _, rfl⟩
theorem IxN.low {kv ks} {n : Nat} (h : IxN kv ks) : O.low n (.dtp kv) = true := by
  simp only [O.low, Bool.and_eq_true]
  refine ⟨lows_iff.mpr fun t ht => ?_, lows_iff.mpr fun t ht => ?_⟩
  · obtain ⟨p, hp, e⟩ := List.mem_map.mp ht
    obtain ⟨⟨l, hl⟩, _⟩ := h.n p hp
    rw [← e, hl]; exact low_row
  · obtain ⟨p, hp, e⟩ := List.mem_map.mp ht
    obtain ⟨_, k, hk⟩ := h.n p hp
    rw [← e, hk]; rfl
theorem lst_item {S : Store} {n i : Nat} {l : List Nat} (h : S[n]? = some (.lst (l.map natT))) (hi : i < l.length) : iLst n i S = .item (natT (l.getD i 0)) := by
  unfold iLst
  rw [lstAt_l h]
  show (match (l.map natT)[i]? with | some t => NX.item t | none => .stop) = _
  rw [getD_map hi]
theorem lst_stop {S : Store} {n : Nat} {l : List Nat} (h : S[n]? = some (.lst (l.map natT))) : iLst n l.length S = .stop := by
  unfold iLst
  rw [lstAt_l h]
  show (match (l.map natT)[l.length]? with | some t => NX.item t | none => .stop) = _
  rw [List.getElem?_eq_none (by rw [List.length_map]; exact Nat.le_refl _)]
theorem v_itL {a : DE} {e : EnvT} {S S1 : Store} {n : Nat} {l : List T} (h1 : a e S = .ok (.ref n) S1) (h2 : S1[n]? = some (.lst l)) : dItL a e S = .ok (iLst n) S1 := by
  unfold dItL
  rw [h1]
  show (if (lstAt S1 n).isSome then _ else _) = _
  rw [lstAt_l h2]
  rfl
theorem fin_natT {S junk : Store} {k : Nat} (cl : Cl S) : fin S.length (natT k) (S ++ junk) = .ok (natT k) S := fin_val rfl cl rfl
end K02
set_option Elab.async false
set_option linter.all false
set_option maxRecDepth 100000
set_option maxHeartbeats 4000000
namespace K02
open PySem PySem.Spec PyProof.Rows L2 DD
def mvF (m : Mc) (x : Nat) : List Nat := m.mv.getD x []
def enF (m : Mc) (x : Nat) : Nat := m.en.getD x 0
abbrev lE (m : Mc) (t5 t6 t7 t8 t9 t10 t11 t12 t13 t14 t15 t16 t17 t18 : T) : EnvT := [m.T, .int m.b, .int m.t, .tup (m.mv.map rowT), .tup (m.en.map natT), t5, t6, t7, t8, t9, t10, t11, t12, t13, t14, t15, t16, t17, t18]
/-- what the law's machines have, as far as _law_least needs it -/
structure Lo (m : Mc) (w : Nat) : Prop where
  n : 1 ≤ m.mv.length ∧ m.mv.length < 1000
  e : m.en.length = m.mv.length
  ww : ∀ i, i < m.mv.length → (mvF m i).length = w
  w0 : 1 ≤ w ∧ w < 10000
  r : ∀ i, i < m.mv.length → ∀ a ∈ mvF m i, a < m.mv.length
theorem range_getD {β : Type} {f : Nat → β} : ∀ {l : List Nat}, (List.range l.length).map (fun i => f (l.getD i 0)) = l.map f := by
  intro l
  refine List.ext_getElem (by simp) fun i h1 h2 => ?_
  simp at h1
  simp [h1]
abbrev kKey : DE := dBin nAdd (dTup (dCons (dBin nIx (dVar 6) (dVar 7)) dNil)) (dCallF nTup (dCons (dLC [12] (dItT (dBin nIx (dVar 3) (dVar 7))) (gNam 12) (dLit (.bl true)) (dBin nIx (dVar 6) (dVar 12))) dNil))
theorem key_ok {m : Mc} {w : Nat} {κ : Nat → Nat} {S : Store} {rk x : Nat} {kv : List (Key × T)} {t5 t8 t9 t10 t11 t12 t13 t14 t15 t16 t17 t18 : T} (L : Lo m w) (cl : Cl S) (hk : S[rk]? = some (.dct kv)) (hx : x < m.mv.length) (g : getK kv (.inl (x : Int)) = some (natT (κ x))) (gs : ∀ y ∈ mvF m x, getK kv (.inl (y : Int)) = some (natT (κ y))) :
    ∃ o, Cl (S ++ [o]) ∧ kKey (lE m t5 (.ref rk) (natT x) t8 t9 t10 t11 t12 t13 t14 t15 t16 t17 t18) S = .ok (rowT (keyM (mvF m) κ x)) (S ++ [o]) := by
  have hw := L.ww x hx
  have hw0 := L.w0
  have h1 : dBin nIx (dVar 6) (dVar 7) (lE m t5 (.ref rk) (natT x) t8 t9 t10 t11 t12 t13 t14 t15 t16 t17 t18) S = .ok (natT (κ x)) S := v_bin (v_var rfl nh_ref) (v_var (t := natT x) rfl nh_int) (nIx_d hk g)
  have hd : dItT (dBin nIx (dVar 3) (dVar 7)) (lE m t5 (.ref rk) (natT x) t8 t9 t10 t11 t12 t13 t14 t15 t16 t17 t18) S = .ok (iTs ((mvF m x).map natT)) S := v_itT (v_bin (v_var rfl nh_tup) (v_var (t := natT x) rfl nh_int) (nIx_t (getD_map (d := []) hx)))
  have h2 := lc_pure (own := [12]) (g := gNam 12) (te := dBin nIx (dVar 6) (dVar 12)) (n := w) (x := fun i => natT ((mvF m x).getD i 0)) (y := fun i => natT (κ ((mvF m x).getD i 0))) (E := fun i => lE m t5.noLam (.ref rk) (natT x) t8.noLam t9.noLam t10.noLam t11.noLam (natT ((mvF m x).getD i 0)) t13.noLam t14.noLam t15.noLam t16.noLam t17.noLam t18.noLam) cl hd (by unfold LINE; omega)
    (fun i S' hi _ => by
      rw [ts_item (by rw [List.length_map, hw]; exact hi)]
      simp [hw, hi]) (fun S' _ => by
      have := ts_stop (ts := (mvF m x).map natT) (S := S')
      rwa [List.length_map, hw] at this) (fun i S' hi => rfl) (fun i S' hi ex => v_bin (v_var rfl nh_ref) (v_var (t := natT ((mvF m x).getD i 0)) rfl nh_int) (nIx_d (ex _ _ hk) (gs _ (getD_mem (by rw [hw]; exact hi))))) fun i hi => ⟨rfl, rfl⟩
  have e1 : (List.range w).map (fun i => natT (κ ((mvF m x).getD i 0))) = ((mvF m x).map κ).map natT := by
    rw [← hw, List.map_map]
    exact range_getD (f := fun a => natT (κ a))
  rw [e1] at h2
  refine ⟨.lst (((mvF m x).map κ).map natT), cl_snoc cl low_nats, ?_⟩
  refine v_bin (v_tup (v_cons h1 v_nil) rfl (by show 1 ≤ LINE; unfold LINE; decide)) (v_callF (v_cons h2 v_nil) (r := .ok (.tup (((mvF m x).map κ).map natT)) (S ++ [.lst (((mvF m x).map κ).map natT)])) ?_) ?_
  · show (match lstAt (S ++ [O.lst (((mvF m x).map κ).map natT)]) S.length with
      | some ts => R.ok (T.tup ts) (S ++ [O.lst (((mvF m x).map κ).map natT)])
      | none => .bad) = _
    rw [lstAt_l ix_new]
  · show (if [natT (κ x)].length + (((mvF m x).map κ).map natT).length ≤ LINE then R.ok (T.tup ([natT (κ x)] ++ ((mvF m x).map κ).map natT)) _ else .bad) = _
    rw [if_pos (by rw [List.length_map, List.length_map, hw, List.length_singleton]; unfold LINE; omega)]
    rfl
/-- the store of a round -/
structure KS (B : Store) (rk rK rF : Nat) (kv : List (Key × T)) (kvn : List (T × T)) (kvf : List (Key × T)) (S : Store) : Prop where
  cl : Cl S
  pre : Pre B S
  k : S[rk]? = some (.dct kv)
  K : S[rK]? = some (.dtp kvn)
  F : S[rF]? = some (.dct kvf)
  d1 : rk ≠ rK
  d2 : rk ≠ rF
  d3 : rK ≠ rF
  b1 : B.length ≤ rK
  b2 : B.length ≤ rF
theorem KS.app {B rk rK rF kv kvn kvf S} {j : Store} (h : KS B rk rK rF kv kvn kvf S) (cl : Cl (S ++ j)) : KS B rk rK rF kv kvn kvf (S ++ j) := ⟨cl, h.pre.app, ix_app h.k, ix_app h.K, ix_app h.F, h.d1, h.d2, h.d3, h.b1, h.b2⟩
theorem KS.setK {B rk rK rF kv kvn kvf S} {kvn' : List (T × T)} (h : KS B rk rK rF kv kvn kvf S) (lo : O.low S.length (.dtp kvn') = true) : KS B rk rK rF kv kvn' kvf (S.set rK (.dtp kvn')) := ⟨cl_set h.cl lo, h.pre.set h.b1, ix_ne h.k h.d1.symm, ix_eq h.K, ix_ne h.F h.d3, h.d1, h.d2, h.d3, h.b1, h.b2⟩
theorem KS.setF {B rk rK rF kv kvn kvf S} {kvf' : List (Key × T)} (h : KS B rk rK rF kv kvn kvf S) (lo : O.low S.length (.dct kvf') = true) : KS B rk rK rF kv kvn kvf' (S.set rF (.dct kvf')) := ⟨cl_set h.cl lo, h.pre.set h.b2, ix_ne h.k h.d2.symm, ix_ne h.K h.d3.symm, ix_eq h.F, h.d1, h.d2, h.d3, h.b1, h.b2⟩
abbrev kBody : DS := (dSeq (dAsg kKey (gNam 13)) (dSeq (dIf (dBin (nIn true) (dVar 13) (dVar 10)) (dAsg (dCallF nLenA (dCons (dVar 10) dNil)) (gSubD nSetA (dVar 10) (dVar 13))) dSkip) (dAsg (dBin nIx (dVar 10) (dVar 13)) (gSubD nSetA (dVar 11) (dVar 7)))))
theorem nh_row {r : List Nat} : rowT r ≠ .hole := by unfold rowT; intro z; cases z
theorem k_step {m : Mc} {w : Nat} {κ : Nat → Nat} {B S : Store} {rk rK rF x : Nat} {kv : List (Key × T)} {kvn : List (T × T)} {kvf : List (Key × T)} {ks : List (List Nat)} {t5 t8 t9 t12 t13 t14 t15 t16 t17 t18 : T} (L : Lo m w) (h : KS B rk rK rF kv kvn kvf S) (hx : x < m.mv.length) (g : getK kv (.inl (x : Int)) = some (natT (κ x))) (gs : ∀ y ∈ mvF m x, getK kv (.inl (y : Int)) = some (natT (κ y)))
    (hi : IxN kvn ks) (hks : ks.length < LINE) (hn : NumD kvf) (hkf : kvf.length < LINE) :
    ∃ kvn' S' t13', IxN kvn' (if keyM (mvF m) κ x ∈ ks then ks else ks ++ [keyM (mvF m) κ x]) ∧ KS B rk rK rF kv kvn' (putT kvf (.inl (x : Int)) (natT ((if keyM (mvF m) κ x ∈ ks then ks else ks ++ [keyM (mvF m) κ x]).idxOf (keyM (mvF m) κ x)))) S' ∧
      kBody (lE m t5 (.ref rk) (natT x) t8 t9 (.ref rK) (.ref rF) t12 t13 t14 t15 t16 t17 t18) S = .nx (lE m t5 (.ref rk) (natT x) t8 t9 (.ref rK) (.ref rF) t12 t13' t14 t15 t16 t17 t18) S' := by
  obtain ⟨o, clo, h1⟩ := key_ok (t5 := t5) (t8 := t8) (t9 := t9) (t10 := .ref rK) (t11 := .ref rF) (t12 := t12) (t13 := t13) (t14 := t14) (t15 := t15) (t16 := t16) (t17 := t17) (t18 := t18) L h.cl h.k hx g gs
  have h' := h.app clo
  generalize S ++ [o] = S1 at h1 h'
  generalize keyM (mvF m) κ x = key at h1 ⊢
  have a1 : dAsg kKey (gNam 13) (lE m t5 (.ref rk) (natT x) t8 t9 (.ref rK) (.ref rF) t12 t13 t14 t15 t16 t17 t18) S = .nx (lE m t5 (.ref rk) (natT x) t8 t9 (.ref rK) (.ref rF) t12 (rowT key) t14 t15 t16 t17 t18) S1 := v_asg h1 (show 13 < 19 by decide)
  have c1 := nIn_n (neg := true) h'.K (keyT_nat (l := key))
  rw [hi.g key, Bool.xor_true] at c1
  have c2 : dBin (nIn true) (dVar 13) (dVar 10) (lE m t5 (.ref rk) (natT x) t8 t9 (.ref rK) (.ref rF) t12 (rowT key) t14 t15 t16 t17 t18) S1 = _ := v_bin (v_var (t := rowT key) rfl nh_row) (v_var rfl nh_ref) c1
  have tail : ∀ (kvn' : List (T × T)) (ks' : List (List Nat)) (S2 : Store), IxN kvn' ks' → key ∈ ks' → KS B rk rK rF kv kvn' kvf S2 → ∃ S3, KS B rk rK rF kv kvn' (putT kvf (.inl (x : Int)) (natT (ks'.idxOf key))) S3 ∧
      dAsg (dBin nIx (dVar 10) (dVar 13)) (gSubD nSetA (dVar 11) (dVar 7)) (lE m t5 (.ref rk) (natT x) t8 t9 (.ref rK) (.ref rF) t12 (rowT key) t14 t15 t16 t17 t18) S2 = .nx (lE m t5 (.ref rk) (natT x) t8 t9 (.ref rK) (.ref rF) t12 (rowT key) t14 t15 t16 t17 t18) S3 := fun kvn' ks' S2 i2 hm q => by
    have gg := i2.g key
    rw [if_pos hm] at gg
    exact ⟨_, q.setF hn.put.low, v_asgG (v_bin (v_var rfl nh_ref) (v_var (t := rowT key) rfl nh_row) (nIx_n q.K keyT_nat gg)) (v_gsub (v_var rfl nh_ref) (v_var (t := natT x) rfl nh_int) (nSet_d (x := (x : Int)) q.F rfl hkf))⟩
  by_cases c : key ∈ ks
  · rw [if_pos c] at c2 ⊢
    obtain ⟨S3, q1, q2⟩ := tail kvn ks S1 hi c h'
    exact ⟨kvn, S3, rowT key, hi, q1, v_seq a1 (v_seq (v_ifF c2 rfl) q2)⟩
  · rw [if_neg c] at c2 ⊢
    have hA := hi.add c
    have st := nSet_n (v := natT ks.length) h'.K (keyT_nat (l := key)) rfl (by rw [hi.l]; exact hks)
    have ln := nLen_n h'.K
    rw [hi.l] at ln
    obtain ⟨S3, q1, q2⟩ := tail _ _ _ hA (by simp) (h'.setK hA.low)
    refine ⟨_, S3, rowT key, hA, q1, v_seq a1 (v_seq (v_ifT c2 ?_) q2)⟩
    exact v_asgG (v_callF (v_cons (v_var rfl nh_ref) v_nil) ln) (v_gsub (v_var rfl nh_ref) (v_var (t := rowT key) rfl nh_row) st)
end K02
set_option Elab.async false
set_option linter.all false
set_option maxRecDepth 100000
set_option maxHeartbeats 4000000
namespace K02
open PySem PySem.Spec PyProof.Rows L2 DD
theorem keysM_step {mv : Nat → List Nat} {κ : Nat → Nat} {st : List Nat} {ks : List (List Nat)} {i : Nat} (hi : i < st.length) : keysM mv κ (st.drop i) ks = keysM mv κ (st.drop (i + 1)) (if keyM mv κ (st.getD i 0) ∈ ks then ks else ks ++ [keyM mv κ (st.getD i 0)]) := by
  have hd : st.drop i = st.getD i 0 :: st.drop (i + 1) := by
    rw [List.drop_eq_getElem_cons hi, List.getD_eq_getElem?_getD, List.getElem?_eq_getElem hi]
    rfl
  rw [hd]
  rfl
theorem k_loop {m : Mc} {w : Nat} {κ : Nat → Nat} {B S : Store} {rs rk rK rF : Nat} {kv : List (Key × T)} {st : List Nat} {t7 t8 t9 t12 t13 t14 t15 t16 t17 t18 : T} (L : Lo m w) (R : Rch (mvF m) st) (hst : ∀ x ∈ st, x < m.mv.length) (hn : st.length < 10000) (hB : B[rs]? = some (.lst (st.map natT))) (h : KS B rk rK rF kv [] [] S) (g : ∀ x ∈ st, getK kv (.inl (x : Int)) = some (natT (κ x))) :
    ∃ kvn kvf S' t7' t13', IxN kvn (keysM (mvF m) κ st []) ∧ KS B rk rK rF kv kvn kvf S' ∧ (∀ x ∈ st, getK kvf (.inl (x : Int)) = some (natT (roundM (mvF m) st κ x))) ∧
      dFor (dItL (dVar 5)) (gNam 7) kBody (lE m (.ref rs) (.ref rk) t7 t8 t9 (.ref rK) (.ref rF) t12 t13 t14 t15 t16 t17 t18) S = .nx (lE m (.ref rs) (.ref rk) t7' t8 t9 (.ref rK) (.ref rF) t12 t13' t14 t15 t16 t17 t18) S' := by
  have key := forL_inv (it := iLst rs) (g := gNam 7) (b := kBody)
    (P := fun i e S' => ∃ kvn kvf ks t7' t13', e = lE m (.ref rs) (.ref rk) t7' t8 t9 (.ref rK) (.ref rF) t12 t13' t14 t15 t16 t17 t18 ∧ KS B rk rK rF kv kvn kvf S' ∧ IxN kvn ks ∧ keysM (mvF m) κ (st.drop i) ks = keysM (mvF m) κ st [] ∧ ks.length ≤ i ∧ NumD kvf ∧ kvf.length ≤ i ∧
      ∀ s, s < i → keyM (mvF m) κ (st.getD s 0) ∈ ks ∧ getK kvf (.inl ((st.getD s 0 : Nat) : Int)) = some (natT (ks.idxOf (keyM (mvF m) κ (st.getD s 0)))))
    (Z := fun r => ∃ kvn kvf S' t7' t13', IxN kvn (keysM (mvF m) κ st []) ∧ KS B rk rK rF kv kvn kvf S' ∧ (∀ x ∈ st, getK kvf (.inl (x : Int)) = some (natT (roundM (mvF m) st κ x))) ∧ r = .nx (lE m (.ref rs) (.ref rk) t7' t8 t9 (.ref rK) (.ref rF) t12 t13' t14 t15 t16 t17 t18) S') st.length ?_ ?_ FUEL 0 _ _
    ⟨[], [], [], t7, t13, rfl, h, ⟨fun k => by simp [getN], rfl, fun p hp => by cases hp⟩, rfl, Nat.le_refl _, (fun p hp => by cases hp), Nat.le_refl _, fun s hs => absurd hs (Nat.not_lt_zero s)⟩ (Nat.zero_le _) (fuel_ok (by unfold LINE; omega))
  · obtain ⟨kvn, kvf, S', t7', t13', q1, q2, q3, q4⟩ := key
    exact ⟨kvn, kvf, S', t7', t13', q1, q2, q3, v_for (v_itL (v_var rfl nh_ref) (h.pre.get hB)) q4⟩
  · rintro i e S' hi ⟨kvn, kvf, ks, t7', t13', rfl, q1, q2, q3, q4, q5, q6, q7⟩
    have hm := getD_mem hi
    have hx := hst _ hm
    refine ⟨natT (st.getD i 0), lst_item (q1.pre.get hB) hi, .inl ?_⟩
    rw [g_nam (show 7 < 19 by decide)]
    simp only [List.set_cons_succ, List.set_cons_zero]
    obtain ⟨kvn2, S2, t13'', r1, r2, r3⟩ := k_step (t5 := .ref rs) (t8 := t8) (t9 := t9) (t12 := t12) (t13 := t13') (t14 := t14) (t15 := t15) (t16 := t16) (t17 := t17) (t18 := t18) L q1 hx (g _ hm) (fun y hy => g y (R.hc _ hm y hy)) q2 (by unfold LINE; omega) q5 (by unfold LINE; omega)
    rw [keysM_step hi] at q3
    have ext : ∀ k, k ∈ ks → k ∈ (if keyM (mvF m) κ (st.getD i 0) ∈ ks then ks else ks ++ [keyM (mvF m) κ (st.getD i 0)]) ∧ (if keyM (mvF m) κ (st.getD i 0) ∈ ks then ks else ks ++ [keyM (mvF m) κ (st.getD i 0)]).idxOf k = ks.idxOf k := fun k hk => by
      split
      · exact ⟨hk, rfl⟩
      · exact ⟨List.mem_append_left _ hk, by rw [List.idxOf_append, if_pos hk]⟩
    have self : keyM (mvF m) κ (st.getD i 0) ∈ (if keyM (mvF m) κ (st.getD i 0) ∈ ks then ks else ks ++ [keyM (mvF m) κ (st.getD i 0)]) := by
      split
      · assumption
      · simp
    have len : (if keyM (mvF m) κ (st.getD i 0) ∈ ks then ks else ks ++ [keyM (mvF m) κ (st.getD i 0)]).length ≤ i + 1 := by
      split
      · omega
      · rw [List.length_append, List.length_singleton]; omega
    generalize (if keyM (mvF m) κ (st.getD i 0) ∈ ks then ks else ks ++ [keyM (mvF m) κ (st.getD i 0)]) = ks' at *
    refine ⟨_, S2, r3, kvn2, _, ks', natT (st.getD i 0), t13'', rfl, r2, r1, q3, len, q5.put, ?_, fun s hs => ?_⟩
    · rw [putT_len]; split <;> omega
    · rw [getK_putT]
      by_cases d : st.getD i 0 = st.getD s 0
      · rw [d] at self ⊢
        rw [if_pos rfl]
        exact ⟨self, rfl⟩
      · have d2 : ¬ (Sum.inl ((st.getD i 0 : Nat) : Int) : Key) = .inl ((st.getD s 0 : Nat) : Int) := fun z => d (by injection z with z; omega)
        rw [if_neg d2]
        have hs' : s < i := by
          refine Classical.byContradiction fun c => d ?_
          rw [show s = i by omega]
        obtain ⟨u1, u2⟩ := q7 s hs'
        obtain ⟨v1, v2⟩ := ext _ u1
        rw [v2]
        exact ⟨v1, u2⟩
  · rintro e S' ⟨kvn, kvf, ks, t7', t13', rfl, q1, q2, q3, q4, q5, q6, q7⟩
    rw [List.drop_length] at q3
    have q3' : ks = keysM (mvF m) κ st [] := q3
    refine ⟨lst_stop (q1.pre.get hB), kvn, kvf, S', t7', t13', by rw [← q3']; exact q2, q1, fun x hx => ?_, rfl⟩
    obtain ⟨s, hs, e⟩ := List.getElem_of_mem hx
    have := (q7 s hs).2
    rw [List.getD_eq_getElem?_getD, List.getElem?_eq_getElem hs] at this
    unfold roundM
    rw [← q3', ← e]
    exact this
/-- the store between rounds -/
structure KR (B : Store) (rk : Nat) (st : List Nat) (κ : Nat → Nat) (S : Store) : Prop where
  cl : Cl S
  pre : Pre B S
  kb : B.length ≤ rk
  k : ∃ kv, S[rk]? = some (.dct kv) ∧ ∀ x ∈ st, getK kv (.inl (x : Int)) = some (natT (κ x))
abbrev kRound : DS := (dSeq (dAsg dNewN (gNam 10)) (dSeq (dAsg dNewK (gNam 11)) (dSeq (dFor (dItL (dVar 5)) (gNam 7) kBody) (dSeq (dAsg (dVar 11) (gNam 6)) (dSeq (dIf (dBin nEq (dCallF nLenA (dCons (dVar 10) dNil)) (dVar 8)) dBrk dSkip) (dAsg (dCallF nLenA (dCons (dVar 10) dNil)) (gNam 8)))))))
theorem k_round {m : Mc} {w : Nat} {κ : Nat → Nat} {B S : Store} {rs rk many : Nat} {st : List Nat} {t7 t9 t10 t11 t12 t13 t14 t15 t16 t17 t18 : T} (L : Lo m w) (R : Rch (mvF m) st) (hst : ∀ x ∈ st, x < m.mv.length) (hn : st.length < 10000) (hB : B[rs]? = some (.lst (st.map natT))) (h : KR B rk st κ S) :
    ∃ rk' S' t7' t10' t11' t13', KR B rk' st (roundM (mvF m) st κ) S' ∧ kRound (lE m (.ref rs) (.ref rk) t7 (natT many) t9 t10 t11 t12 t13 t14 t15 t16 t17 t18) S =
      if (keysM (mvF m) κ st []).length = many then .bk (lE m (.ref rs) (.ref rk') t7' (natT many) t9 t10' t11' t12 t13' t14 t15 t16 t17 t18) S' else .nx (lE m (.ref rs) (.ref rk') t7' (natT (keysM (mvF m) κ st []).length) t9 t10' t11' t12 t13' t14 t15 t16 t17 t18) S' := by
  obtain ⟨kv, hk, g⟩ := h.k
  have hkl := ix_lt hk
  have hpl := h.pre.len
  have a1 : dAsg dNewN (gNam 10) (lE m (.ref rs) (.ref rk) t7 (natT many) t9 t10 t11 t12 t13 t14 t15 t16 t17 t18) S = .nx (lE m (.ref rs) (.ref rk) t7 (natT many) t9 (.ref S.length) t11 t12 t13 t14 t15 t16 t17 t18) (S ++ [.dtp []]) := v_asg (v_new rfl) (show 10 < 19 by decide)
  have hlen : (S ++ [O.dtp []]).length = S.length + 1 := by simp
  have a2 : dAsg dNewK (gNam 11) (lE m (.ref rs) (.ref rk) t7 (natT many) t9 (.ref S.length) t11 t12 t13 t14 t15 t16 t17 t18) (S ++ [.dtp []]) = .nx (lE m (.ref rs) (.ref rk) t7 (natT many) t9 (.ref S.length) (.ref (S.length + 1)) t12 t13 t14 t15 t16 t17 t18) (S ++ [.dtp []] ++ [.dct []]) := by
    have := v_asg (i := 11) (e := lE m (.ref rs) (.ref rk) t7 (natT many) t9 (.ref S.length) t11 t12 t13 t14 t15 t16 t17 t18) (v_new (d := dNewK) (S := S ++ [.dtp []]) rfl) (show 11 < 19 by decide)
    rw [hlen] at this
    exact this
  have c1 : Cl (S ++ [.dtp []]) := cl_snoc h.cl (by simp [O.low, T.lows])
  have c2 : Cl (S ++ [.dtp []] ++ [.dct []]) := cl_snoc c1 (by simp [O.low, T.lows])
  have ks : KS B rk S.length (S.length + 1) kv [] [] (S ++ [.dtp []] ++ [.dct []]) := ⟨c2, h.pre.app.app, ix_app (ix_app hk), ix_app ix_new, by rw [← hlen]; exact ix_new, by omega, by omega, by omega, hpl, by omega⟩
  obtain ⟨kvn, kvf, S', t7', t13', q1, q2, q3, q4⟩ := k_loop (t7 := t7) (t8 := natT many) (t9 := t9) (t12 := t12) (t13 := t13) (t14 := t14) (t15 := t15) (t16 := t16) (t17 := t17) (t18 := t18) L R hst hn hB ks g
  have a3 : dAsg (dVar 11) (gNam 6) (lE m (.ref rs) (.ref rk) t7' (natT many) t9 (.ref S.length) (.ref (S.length + 1)) t12 t13' t14 t15 t16 t17 t18) S' = .nx (lE m (.ref rs) (.ref (S.length + 1)) t7' (natT many) t9 (.ref S.length) (.ref (S.length + 1)) t12 t13' t14 t15 t16 t17 t18) S' := v_asg (v_var rfl nh_ref) (show 6 < 19 by decide)
  have ln := nLen_n q2.K
  rw [q1.l] at ln
  have b1 : dCallF nLenA (dCons (dVar 10) dNil) (lE m (.ref rs) (.ref (S.length + 1)) t7' (natT many) t9 (.ref S.length) (.ref (S.length + 1)) t12 t13' t14 t15 t16 t17 t18) S' = .ok (natT (keysM (mvF m) κ st []).length) S' := v_callF (v_cons (v_var rfl nh_ref) v_nil) ln
  have b2 : dBin nEq (dCallF nLenA (dCons (dVar 10) dNil)) (dVar 8) (lE m (.ref rs) (.ref (S.length + 1)) t7' (natT many) t9 (.ref S.length) (.ref (S.length + 1)) t12 t13' t14 t15 t16 t17 t18) S' = .ok (.bl (decide ((keysM (mvF m) κ st []).length = many))) S' := by
    have := v_bin (f := nEq) b1 (v_var (i := 8) (t := natT many) rfl nh_int) nEq_i
    have q : decide (((keysM (mvF m) κ st []).length : Int) = (many : Int)) = decide ((keysM (mvF m) κ st []).length = many) := by rw [decide_eq_decide]; omega
    rw [q] at this
    exact this
  refine ⟨S.length + 1, S', t7', .ref S.length, .ref (S.length + 1), t13', ⟨q2.cl, q2.pre, by omega, kvf, q2.F, q3⟩, ?_⟩
  by_cases c : (keysM (mvF m) κ st []).length = many
  · rw [decide_eq_true c] at b2
    rw [if_pos c]
    exact v_seq a1 (v_seq a2 (v_seq q4 (v_seq a3 (by
      unfold dSeq
      rw [v_ifT b2 rfl]
      rfl))))
  · rw [decide_eq_false c] at b2
    rw [if_neg c]
    exact v_seq a1 (v_seq a2 (v_seq q4 (v_seq a3 (v_seq (v_ifF b2 rfl) (v_asg b1 (show 8 < 19 by decide))))))
theorem k_rounds {m : Mc} {w : Nat} {B S : Store} {rs rk : Nat} {st : List Nat} {t7 t9 t10 t11 t12 t13 t14 t15 t16 t17 t18 : T} (L : Lo m w) (R : Rch (mvF m) st) (hst : ∀ x ∈ st, x < m.mv.length) (hn : st.length < 10000) (hB : B[rs]? = some (.lst (st.map natT))) (h : KR B rk st (enF m) S) :
    ∃ rk' S' t7' t8' t9' t10' t11' t13', KR B rk' st (kM (mvF m) (enF m) st) S' ∧ dFor (dRng1 (dCons (dBin nAdd (dCallF nLenA (dCons (dVar 5) dNil)) (dLit (.int 1))) dNil)) (gNam 9) kRound (lE m (.ref rs) (.ref rk) t7 (natT 0) t9 t10 t11 t12 t13 t14 t15 t16 t17 t18) S = .nx (lE m (.ref rs) (.ref rk') t7' t8' t9' t10' t11' t12 t13' t14 t15 t16 t17 t18) S' := by
  have hls := h.pre.get hB
  have hd : dRng1 (dCons (dBin nAdd (dCallF nLenA (dCons (dVar 5) dNil)) (dLit (.int 1))) dNil) (lE m (.ref rs) (.ref rk) t7 (natT 0) t9 t10 t11 t12 t13 t14 t15 t16 t17 t18) S = .ok (iRng 0 1 (st.length + 1)) S := by
    have ln := nLen_l hls
    rw [List.length_map] at ln
    refine v_rng1 (v_cons (v_bin (v_callF (v_cons (v_var rfl nh_ref) v_nil) ln) v_lit nAdd_i) v_nil) (by unfold LINE; omega)
  have key := forL_inv (it := iRng 0 1 (st.length + 1)) (g := gNam 9) (b := kRound)
    (P := fun i e S' => ∃ rk' κ many t7' t9' t10' t11' t13', KR B rk' st κ S' ∧ mooreM (mvF m) st (st.length + 1 - i) κ many = kM (mvF m) (enF m) st ∧ e = lE m (.ref rs) (.ref rk') t7' (natT many) t9' t10' t11' t12 t13' t14 t15 t16 t17 t18)
    (Z := fun r => ∃ rk' S' t7' t8' t9' t10' t11' t13', KR B rk' st (kM (mvF m) (enF m) st) S' ∧ r = .nx (lE m (.ref rs) (.ref rk') t7' t8' t9' t10' t11' t12 t13' t14 t15 t16 t17 t18) S') (st.length + 1) ?_ ?_ FUEL 0 _ _ ⟨rk, enF m, 0, t7, t9, t10, t11, t13, h, rfl, rfl⟩ (Nat.zero_le _) (fuel_ok (by unfold LINE; omega))
  · obtain ⟨rk', S', t7', t8', t9', t10', t11', t13', q1, q2⟩ := key
    exact ⟨rk', S', t7', t8', t9', t10', t11', t13', q1, v_for hd q2⟩
  · rintro i e S' hi ⟨rk', κ, many, t7', t9', t10', t11', t13', q1, q2, rfl⟩
    refine ⟨natT i, by rw [rng_item hi, Int.zero_add]; rfl, ?_⟩
    rw [g_nam (show 9 < 19 by decide)]
    simp only [List.set_cons_succ, List.set_cons_zero]
    obtain ⟨rk2, S2, u7, u10, u11, u13, r1, r2⟩ := k_round (t7 := t7') (t9 := natT i) (t10 := t10') (t11 := t11') (t12 := t12) (t13 := t13') (t14 := t14) (t15 := t15) (t16 := t16) (t17 := t17) (t18 := t18) (many := many) L R hst hn hB q1
    rw [show st.length + 1 - i = (st.length - i) + 1 by omega] at q2
    unfold mooreM at q2
    rw [r2]
    by_cases c : (keysM (mvF m) κ st []).length = many
    · rw [if_pos c] at q2
      refine .inr (.inr (.inl ⟨_, _, by rw [if_pos c], rk2, S2, u7, natT many, natT i, u10, u11, u13, by rw [← q2]; exact r1, rfl⟩))
    · rw [if_neg c] at q2
      refine .inl ⟨_, _, by rw [if_neg c], rk2, _, _, u7, natT i, u10, u11, u13, r1, ?_, rfl⟩
      rw [show st.length + 1 - (i + 1) = st.length - i by omega]
      exact q2
  · rintro e S' ⟨rk', κ, many, t7', t9', t10', t11', t13', q1, q2, rfl⟩
    refine ⟨rng_stop, rk', S', t7', natT many, t9', t10', t11', t13', ?_, rfl⟩
    rw [Nat.sub_self] at q2
    rw [← q2]
    exact q1
end K02
set_option Elab.async false
set_option linter.all false
set_option maxRecDepth 100000
set_option maxHeartbeats 4000000
namespace K02
open PySem PySem.Spec PyProof.Rows L2 DD
theorem k_init {m : Mc} {w : Nat} {B : Store} {rs : Nat} {st : List Nat} {t7 t8 t9 t10 t11 t12 t13 t14 t15 t16 t17 t18 : T} (L : Lo m w) (hst : ∀ x ∈ st, x < m.mv.length) (hn : st.length < 10000) (cl : Cl B) (hB : B[rs]? = some (.lst (st.map natT))) :
    ∃ S' t7', KR B B.length st (enF m) S' ∧ dFor (dItL (dVar 5)) (gNam 7) (dAsg (dBin nIx (dVar 4) (dVar 7)) (gSubD nSetA (dVar 6) (dVar 7))) (lE m (.ref rs) (.ref B.length) t7 t8 t9 t10 t11 t12 t13 t14 t15 t16 t17 t18) (B ++ [.dct []]) = .nx (lE m (.ref rs) (.ref B.length) t7' t8 t9 t10 t11 t12 t13 t14 t15 t16 t17 t18) S' := by
  have key := forL_inv (it := iLst rs) (g := gNam 7) (b := dAsg (dBin nIx (dVar 4) (dVar 7)) (gSubD nSetA (dVar 6) (dVar 7)))
    (P := fun i e S' => ∃ kv t7', e = lE m (.ref rs) (.ref B.length) t7' t8 t9 t10 t11 t12 t13 t14 t15 t16 t17 t18 ∧ Cl S' ∧ Pre B S' ∧ S'[B.length]? = some (.dct kv) ∧ NumD kv ∧ kv.length ≤ i ∧ ∀ s, s < i → getK kv (.inl ((st.getD s 0 : Nat) : Int)) = some (natT (enF m (st.getD s 0))))
    (Z := fun r => ∃ S' t7', KR B B.length st (enF m) S' ∧ r = .nx (lE m (.ref rs) (.ref B.length) t7' t8 t9 t10 t11 t12 t13 t14 t15 t16 t17 t18) S') st.length ?_ ?_ FUEL 0 _ _
    ⟨[], t7, rfl, cl_snoc cl (by simp [O.low, T.lows]), Pre.refl.app, ix_new, (fun p hp => by cases hp), Nat.le_refl _, fun s hs => absurd hs (Nat.not_lt_zero s)⟩ (Nat.zero_le _) (fuel_ok (by unfold LINE; omega))
  · obtain ⟨S', t7', q1, q2⟩ := key
    exact ⟨S', t7', q1, v_for (v_itL (v_var rfl nh_ref) (ix_app hB)) q2⟩
  · rintro i e S' hi ⟨kv, t7', rfl, q1, q2, q3, q4, q5, q6⟩
    have hx := hst _ (getD_mem hi)
    refine ⟨natT (st.getD i 0), lst_item (q2.get hB) hi, .inl ?_⟩
    rw [g_nam (show 7 < 19 by decide)]
    simp only [List.set_cons_succ, List.set_cons_zero]
    have h1 : nIx (.tup (m.en.map natT)) (natT (st.getD i 0)) S' = .ok (natT (enF m (st.getD i 0))) S' := nIx_t (getD_map (by rw [L.e]; exact hx))
    have h2 := nSet_d (x := ((st.getD i 0 : Nat) : Int)) (v := natT (enF m (st.getD i 0))) q3 rfl (by unfold LINE; omega)
    refine ⟨_, _, v_asgG (v_bin (v_var rfl nh_tup) (v_var (t := natT (st.getD i 0)) rfl nh_int) h1) (v_gsub (v_var rfl nh_ref) (v_var (t := natT (st.getD i 0)) rfl nh_int) h2), _, _, rfl, cl_set q1 q4.put.low, q2.set (Nat.le_refl _), ix_eq q3, q4.put, ?_, fun s hs => ?_⟩
    · rw [putT_len]; split <;> omega
    · rw [getK_putT]
      by_cases d : st.getD i 0 = st.getD s 0
      · rw [d, if_pos rfl]
      · have d2 : ¬ (Sum.inl ((st.getD i 0 : Nat) : Int) : Key) = .inl ((st.getD s 0 : Nat) : Int) := fun z => d (by injection z with z; omega)
        rw [if_neg d2]
        refine q6 s ?_
        refine Classical.byContradiction fun c => d ?_
        rw [show s = i by omega]
  · rintro e S' ⟨kv, t7', rfl, q1, q2, q3, q4, q5, q6⟩
    refine ⟨lst_stop (q2.get hB), S', t7', ⟨q1, q2, Nat.le_refl _, kv, q3, fun x hx => ?_⟩, rfl⟩
    obtain ⟨s, hs, e⟩ := List.getElem_of_mem hx
    have := q6 s hs
    rw [List.getD_eq_getElem?_getD, List.getElem?_eq_getElem hs] at this
    rw [← e]
    exact this
/-- the store of the numbering -/
structure VS (B : Store) (rk rl rp rr rw : Nat) (kv : List (Key × T)) (line : List Nat) (kvp : List (Key × T)) (rows : List (List Nat)) (row : List Nat) (S : Store) : Prop where
  cl : Cl S
  pre : Pre B S
  k : S[rk]? = some (.dct kv)
  l : S[rl]? = some (.lst (line.map natT))
  p : S[rp]? = some (.dct kvp)
  r : S[rr]? = some (.lst (rows.map rowT))
  w : S[rw]? = some (.lst (row.map natT))
  d : rk < rl ∧ rl < rp ∧ rp < rr ∧ rr < rw
  b : B.length ≤ rl
theorem snoc_nat {l : List Nat} {a : Nat} : l.map natT ++ [natT a] = (l ++ [a]).map natT := by simp
theorem VS.setL {B rk rl rp rr rw kv line kvp rows row S} {a : Nat} (h : VS B rk rl rp rr rw kv line kvp rows row S) : VS B rk rl rp rr rw kv (line ++ [a]) kvp rows row (S.set rl (.lst (line.map natT ++ [natT a]))) := by
  rw [snoc_nat]
  have := h.d
  have := h.b
  exact ⟨cl_set h.cl low_nats, h.pre.set h.b, ix_ne h.k (by omega), ix_eq h.l, ix_ne h.p (by omega), ix_ne h.r (by omega), ix_ne h.w (by omega), h.d, h.b⟩
theorem VS.setP {B rk rl rp rr rw kv line kvp rows row S} {kvp' : List (Key × T)} (h : VS B rk rl rp rr rw kv line kvp rows row S) (hn : NumD kvp') : VS B rk rl rp rr rw kv line kvp' rows row (S.set rp (.dct kvp')) := by
  have := h.d
  have := h.b
  exact ⟨cl_set h.cl hn.low, h.pre.set (by omega), ix_ne h.k (by omega), ix_ne h.l (by omega), ix_eq h.p, ix_ne h.r (by omega), ix_ne h.w (by omega), h.d, h.b⟩
theorem VS.setW {B rk rl rp rr rw kv line kvp rows row S} {a : Nat} (h : VS B rk rl rp rr rw kv line kvp rows row S) : VS B rk rl rp rr rw kv line kvp rows (row ++ [a]) (S.set rw (.lst (row.map natT ++ [natT a]))) := by
  rw [snoc_nat]
  have := h.d
  have := h.b
  exact ⟨cl_set h.cl low_nats, h.pre.set (by omega), ix_ne h.k (by omega), ix_ne h.l (by omega), ix_ne h.p (by omega), ix_ne h.r (by omega), ix_eq h.w, h.d, h.b⟩
theorem VS.setR {B rk rl rp rr rw kv line kvp rows row S} {r : List Nat} (h : VS B rk rl rp rr rw kv line kvp rows row S) : VS B rk rl rp rr rw kv line kvp (rows ++ [r]) row (S.set rr (.lst (rows.map rowT ++ [rowT r]))) := by
  have e : rows.map rowT ++ [rowT r] = (rows ++ [r]).map rowT := by simp
  rw [e]
  have := h.d
  have := h.b
  exact ⟨cl_set h.cl low_rows, h.pre.set (by omega), ix_ne h.k (by omega), ix_ne h.l (by omega), ix_ne h.p (by omega), ix_eq h.r, ix_ne h.w (by omega), h.d, h.b⟩
abbrev vBody : DS := (dSeq (dIf (dBin (nIn true) (dBin nIx (dVar 6) (dVar 12)) (dVar 15)) (dSeq (dAsg (dCallF nLenA (dCons (dVar 14) dNil)) (gSubD nSetA (dVar 15) (dBin nIx (dVar 6) (dVar 12)))) (dExpr (dMeth isL nApp (dVar 14) (dCons (dVar 12) dNil)))) dSkip) (dExpr (dMeth isL nApp (dVar 18) (dCons (dBin nIx (dVar 15) (dBin nIx (dVar 6) (dVar 12))) dNil))))
theorem visit_idx {κ : Nat → Nat} {line : List Nat} {a : Nat} : κ a ∈ (visit κ line a).map κ ∧ ((visit κ line a).map κ).idxOf (κ a) = pl κ line a := by
  unfold visit
  split
  · rename_i h
    exact ⟨pl_lt.mp h, rfl⟩
  · rename_i h
    have hn : κ a ∉ line.map κ := fun z => h (pl_lt.mpr z)
    rw [List.map_append, List.map_singleton]
    refine ⟨by simp, ?_⟩
    rw [List.idxOf_append, if_neg hn]
    have := pl_le (κ := κ) (line := line) (a := a)
    simp
    omega
theorem v_step {m : Mc} {κ : Nat → Nat} {B S : Store} {rk rl rp rr rw a : Nat} {kv kvp : List (Key × T)} {line row : List Nat} {rows : List (List Nat)} {t5 t7 t8 t9 t10 t11 t13 t17 : T} (h : VS B rk rl rp rr rw kv line kvp rows row S) (g : getK kv (.inl (a : Int)) = some (natT (κ a))) (hi : IxD kvp (line.map κ)) (h1 : line.length < LINE) (h2 : row.length < LINE) :
    ∃ kvp' S', VS B rk rl rp rr rw kv (visit κ line a) kvp' rows (row ++ [pl κ line a]) S' ∧ IxD kvp' ((visit κ line a).map κ) ∧
      vBody (lE m t5 (.ref rk) t7 t8 t9 t10 t11 (natT a) t13 (.ref rl) (.ref rp) (.ref rr) t17 (.ref rw)) S = .nx (lE m t5 (.ref rk) t7 t8 t9 t10 t11 (natT a) t13 (.ref rl) (.ref rp) (.ref rr) t17 (.ref rw)) S' := by
  have hk : ∀ {S : Store} {line kvp row}, VS B rk rl rp rr rw kv line kvp rows row S → dBin nIx (dVar 6) (dVar 12) (lE m t5 (.ref rk) t7 t8 t9 t10 t11 (natT a) t13 (.ref rl) (.ref rp) (.ref rr) t17 (.ref rw)) S = .ok (natT (κ a)) S := fun h => v_bin (v_var rfl nh_ref) (v_var (t := natT a) rfl nh_int) (nIx_d h.k g)
  have tail : ∀ {S2 : Store} {line2 : List Nat} {kvp2 : List (Key × T)}, VS B rk rl rp rr rw kv line2 kvp2 rows row S2 → IxD kvp2 (line2.map κ) → κ a ∈ line2.map κ → (line2.map κ).idxOf (κ a) = pl κ line a → ∃ S3, VS B rk rl rp rr rw kv line2 kvp2 rows (row ++ [pl κ line a]) S3 ∧
      dExpr (dMeth isL nApp (dVar 18) (dCons (dBin nIx (dVar 15) (dBin nIx (dVar 6) (dVar 12))) dNil)) (lE m t5 (.ref rk) t7 t8 t9 t10 t11 (natT a) t13 (.ref rl) (.ref rp) (.ref rr) t17 (.ref rw)) S2 = .nx (lE m t5 (.ref rk) t7 t8 t9 t10 t11 (natT a) t13 (.ref rl) (.ref rp) (.ref rr) t17 (.ref rw)) S3 := fun {S2 line2 kvp2} v ix hm he => by
    have gg := ix.g (κ a)
    rw [if_pos hm, he] at gg
    exact ⟨_, v.setW, v_expr (v_meth (v_var rfl nh_ref) (isL_l v.w) (v_cons (v_bin (v_var rfl nh_ref) (hk v) (nIx_d (x := ((κ a : Nat) : Int)) v.p gg)) v_nil) (nApp_l (t := natT (pl κ line a)) v.w rfl (by rw [List.length_map]; exact h2)))⟩
  have c1 := nIn_d (x := ((κ a : Nat) : Int)) (neg := true) h.p
  rw [hi.g (κ a), Bool.xor_true] at c1
  have c2 : dBin (nIn true) (dBin nIx (dVar 6) (dVar 12)) (dVar 15) (lE m t5 (.ref rk) t7 t8 t9 t10 t11 (natT a) t13 (.ref rl) (.ref rp) (.ref rr) t17 (.ref rw)) S = _ := v_bin (hk h) (v_var rfl nh_ref) c1
  have hv := visit_idx (κ := κ) (line := line) (a := a)
  by_cases c : κ a ∈ line.map κ
  · rw [if_pos c] at c2
    have ev : visit κ line a = line := by unfold visit; rw [if_pos (pl_lt.mpr c)]
    rw [ev] at hv ⊢
    obtain ⟨S3, q1, q2⟩ := tail h hi hv.1 hv.2
    exact ⟨kvp, S3, q1, hi, v_seq (v_ifF c2 rfl) q2⟩
  · rw [if_neg c] at c2
    have ev : visit κ line a = line ++ [a] := by unfold visit; rw [if_neg fun z => c (pl_lt.mp z)]
    rw [ev] at hv ⊢
    have hA := hi.add c
    rw [List.length_map] at hA
    have em : line.map κ ++ [κ a] = (line ++ [a]).map κ := by simp
    rw [em] at hA
    have p1 := h.setP hA.n
    have p2 := p1.setL (a := a)
    obtain ⟨S3, q1, q2⟩ := tail p2 hA hv.1 hv.2
    refine ⟨_, S3, q1, hA, v_seq (v_ifT c2 (v_seq (v_asgG (t := natT line.length) (v_callF (v_cons (v_var rfl nh_ref) v_nil) ?_) (v_gsub (v_var rfl nh_ref) (hk h) (nSet_d (x := ((κ a : Nat) : Int)) h.p rfl ?_))) (v_expr (v_meth (v_var rfl nh_ref) (isL_l p1.l) (v_cons (v_var (t := natT a) rfl nh_int) v_nil) (nApp_l (t := natT a) p1.l rfl ?_))))) q2⟩
    · have := nLen_l h.l
      rwa [List.length_map] at this
    · rw [hi.l, List.length_map]; exact h1
    · rw [List.length_map]; exact h1
end K02
set_option Elab.async false
set_option linter.all false
set_option maxRecDepth 100000
set_option maxHeartbeats 4000000
namespace K02
open PySem PySem.Spec PyProof.Rows L2 DD
theorem v_rowL {m : Mc} {κ : Nat → Nat} {B S : Store} {rk rl rp rr rw : Nat} {kv kvp : List (Key × T)} {line : List Nat} {rows : List (List Nat)} {as st : List Nat} {d : DE} {t5 t7 t8 t9 t10 t11 t12 t13 t17 : T} (h : VS B rk rl rp rr rw kv line kvp rows [] S) (g : ∀ a ∈ as, a ∈ st ∧ getK kv (.inl (a : Int)) = some (natT (κ a))) (hi : IxD kvp (line.map κ)) (lo : LOk κ st line) (hs : st.length < 10000) (hl : as.length < LINE)
    (hd : d (lE m t5 (.ref rk) t7 t8 t9 t10 t11 t12 t13 (.ref rl) (.ref rp) (.ref rr) t17 (.ref rw)) S = .ok (rowT as) S) :
    ∃ kvp' S' t12', VS B rk rl rp rr rw kv (rowF κ as line []).1 kvp' rows (rowF κ as line []).2 S' ∧ IxD kvp' ((rowF κ as line []).1.map κ) ∧
      dFor (dItT d) (gNam 12) vBody (lE m t5 (.ref rk) t7 t8 t9 t10 t11 t12 t13 (.ref rl) (.ref rp) (.ref rr) t17 (.ref rw)) S = .nx (lE m t5 (.ref rk) t7 t8 t9 t10 t11 t12' t13 (.ref rl) (.ref rp) (.ref rr) t17 (.ref rw)) S' := by
  have key := forL_inv (it := iTs (as.map natT)) (g := gNam 12) (b := vBody)
    (P := fun i e S' => ∃ line2 row2 kvp2 t12', e = lE m t5 (.ref rk) t7 t8 t9 t10 t11 t12' t13 (.ref rl) (.ref rp) (.ref rr) t17 (.ref rw) ∧ VS B rk rl rp rr rw kv line2 kvp2 rows row2 S' ∧ IxD kvp2 (line2.map κ) ∧ LOk κ st line2 ∧ row2.length = i ∧ rowF κ (as.drop i) line2 row2 = rowF κ as line [])
    (Z := fun r => ∃ kvp' S' t12', VS B rk rl rp rr rw kv (rowF κ as line []).1 kvp' rows (rowF κ as line []).2 S' ∧ IxD kvp' ((rowF κ as line []).1.map κ) ∧ r = .nx (lE m t5 (.ref rk) t7 t8 t9 t10 t11 t12' t13 (.ref rl) (.ref rp) (.ref rr) t17 (.ref rw)) S') as.length ?_ ?_ FUEL 0 _ _
    ⟨line, [], kvp, t12, rfl, h, hi, lo, rfl, rfl⟩ (Nat.zero_le _) (fuel_ok hl)
  · obtain ⟨kvp', S', t12', q1, q2, q3⟩ := key
    exact ⟨kvp', S', t12', q1, q2, v_for (v_itT hd) q3⟩
  · rintro i e S' hi ⟨line2, row2, kvp2, t12', rfl, q1, q2, q3, q4, q5⟩
    have hm := getD_mem hi
    refine ⟨natT (as.getD i 0), by rw [ts_item (by simpa using hi)]; simp [hi], .inl ?_⟩
    rw [g_nam (show 12 < 19 by decide)]
    simp only [List.set_cons_succ, List.set_cons_zero]
    obtain ⟨kvp3, S3, r1, r2, r3⟩ := v_step (m := m) (t5 := t5) (t7 := t7) (t8 := t8) (t9 := t9) (t10 := t10) (t11 := t11) (t13 := t13) (t17 := t17) q1 (g _ hm).2 q2 (by have := q3.le; unfold LINE; omega) (by omega)
    have hd : as.drop i = as.getD i 0 :: as.drop (i + 1) := by
      rw [List.drop_eq_getElem_cons hi, List.getD_eq_getElem?_getD, List.getElem?_eq_getElem hi]
      rfl
    rw [hd] at q5
    exact ⟨_, S3, r3, _, _, kvp3, natT (as.getD i 0), rfl, r1, r2, q3.visit (g _ hm).1, by rw [List.length_append, q4]; rfl, q5⟩
  · rintro e S' ⟨line2, row2, kvp2, t12', rfl, q1, q2, q3, q4, q5⟩
    rw [List.drop_length] at q5
    have q6 : (line2, row2) = rowF κ as line [] := q5
    refine ⟨by have := ts_stop (ts := as.map natT) (S := S'); rwa [List.length_map] at this, kvp2, S', t12', ?_, ?_, rfl⟩
    · rw [← q6]; exact q1
    · rw [← q6]; exact q2
/-- the store of the numbering, between rows -/
structure NS (B : Store) (rk rl rp rr : Nat) (kv : List (Key × T)) (line : List Nat) (kvp : List (Key × T)) (rows : List (List Nat)) (S : Store) : Prop where
  cl : Cl S
  pre : Pre B S
  k : S[rk]? = some (.dct kv)
  l : S[rl]? = some (.lst (line.map natT))
  p : S[rp]? = some (.dct kvp)
  r : S[rr]? = some (.lst (rows.map rowT))
  d : rk < rl ∧ rl < rp ∧ rp < rr
  b : B.length ≤ rl
theorem NS.new {B rk rl rp rr kv line kvp rows S} (h : NS B rk rl rp rr kv line kvp rows S) : VS B rk rl rp rr S.length kv line kvp rows [] (S ++ [.lst []]) :=
  ⟨cl_snoc h.cl rfl, h.pre.app, ix_app h.k, ix_app h.l, ix_app h.p, ix_app h.r, ix_new, ⟨h.d.1, h.d.2.1, h.d.2.2, ix_lt h.r⟩, h.b⟩
theorem VS.old {B rk rl rp rr rw kv line kvp rows row S} (h : VS B rk rl rp rr rw kv line kvp rows row S) : NS B rk rl rp rr kv line kvp rows S :=
  ⟨h.cl, h.pre, h.k, h.l, h.p, h.r, ⟨h.d.1, h.d.2.1, h.d.2.2.1⟩, h.b⟩
abbrev nBody : DS := (dIf (dBin nLt (dVar 17) (dCallF nLenA (dCons (dVar 14) dNil))) (dSeq (dAsg (dLst dNil) (gNam 18)) (dSeq (dFor (dItT (dBin nIx (dVar 3) (dBin nIx (dVar 14) (dVar 17)))) (gNam 12) vBody) (dExpr (dMeth isL nApp (dVar 16) (dCons (dCallF nTup (dCons (dVar 18) dNil)) dNil))))) dSkip)
theorem n_loop {m : Mc} {w : Nat} {κ : Nat → Nat} {B S : Store} {rs rk rl rp rr : Nat} {kv kvp : List (Key × T)} {st : List Nat} {t7 t8 t9 t10 t11 t12 t13 t17 t18 : T} (L : Lo m w) (R : Rch (mvF m) st) (hst : ∀ x ∈ st, x < m.mv.length) (hn : st.length < 10000) (hB : B[rs]? = some (.lst (st.map natT)))
    (h : NS B rk rl rp rr kv [0] kvp [] S) (hi : IxD kvp ([0].map κ)) (g : ∀ x ∈ st, getK kv (.inl (x : Int)) = some (natT (κ x))) :
    ∃ kvp' S' t12' t17' t18', NS B rk rl rp rr kv (bfsN κ (mvF m) st.length).1 kvp' (bfsN κ (mvF m) st.length).2 S' ∧
      dFor (dRng1 (dCons (dCallF nLenA (dCons (dVar 5) dNil)) dNil)) (gNam 17) nBody (lE m (.ref rs) (.ref rk) t7 t8 t9 t10 t11 t12 t13 (.ref rl) (.ref rp) (.ref rr) t17 t18) S = .nx (lE m (.ref rs) (.ref rk) t7 t8 t9 t10 t11 t12' t13 (.ref rl) (.ref rp) (.ref rr) t17' t18') S' := by
  have hd : dRng1 (dCons (dCallF nLenA (dCons (dVar 5) dNil)) dNil) (lE m (.ref rs) (.ref rk) t7 t8 t9 t10 t11 t12 t13 (.ref rl) (.ref rp) (.ref rr) t17 t18) S = .ok (iRng 0 1 st.length) S := by
    have ln := nLen_l (h.pre.get hB)
    rw [List.length_map] at ln
    exact v_rng1 (v_cons (v_callF (v_cons (v_var rfl nh_ref) v_nil) ln) v_nil) (by unfold LINE; omega)
  have key := forL_inv (it := iRng 0 1 st.length) (g := gNam 17) (b := nBody)
    (P := fun i e S' => ∃ kvp' t12' t17' t18', e = lE m (.ref rs) (.ref rk) t7 t8 t9 t10 t11 t12' t13 (.ref rl) (.ref rp) (.ref rr) t17' t18' ∧ NS B rk rl rp rr kv (bfsN κ (mvF m) i).1 kvp' (bfsN κ (mvF m) i).2 S' ∧ IxD kvp' ((bfsN κ (mvF m) i).1.map κ))
    (Z := fun r => ∃ kvp' S' t12' t17' t18', NS B rk rl rp rr kv (bfsN κ (mvF m) st.length).1 kvp' (bfsN κ (mvF m) st.length).2 S' ∧ r = .nx (lE m (.ref rs) (.ref rk) t7 t8 t9 t10 t11 t12' t13 (.ref rl) (.ref rp) (.ref rr) t17' t18') S') st.length ?_ ?_ FUEL 0 _ _
    ⟨kvp, t12, t17, t18, rfl, h, hi⟩ (Nat.zero_le _) (fuel_ok (by unfold LINE; omega))
  · obtain ⟨kvp', S', t12', t17', t18', q1, q2⟩ := key
    exact ⟨kvp', S', t12', t17', t18', q1, v_for hd q2⟩
  · rintro i e S' hi ⟨kvp', t12', t17', t18', rfl, q1, q2⟩
    obtain ⟨c1, c2, c3, c4, c5⟩ := bfs_ok (κ := κ) R.h0 R.hc i
    have eb : bfsN κ (mvF m) (i + 1) = if i < (bfsN κ (mvF m) i).1.length then ((rowF κ (mvF m ((bfsN κ (mvF m) i).1.getD i 0)) (bfsN κ (mvF m) i).1 []).1, (bfsN κ (mvF m) i).2 ++ [(rowF κ (mvF m ((bfsN κ (mvF m) i).1.getD i 0)) (bfsN κ (mvF m) i).1 []).2]) else bfsN κ (mvF m) i := rfl
    refine ⟨natT i, by rw [rng_item hi, Int.zero_add]; rfl, .inl ?_⟩
    rw [g_nam (show 17 < 19 by decide)]
    simp only [List.set_cons_succ, List.set_cons_zero]
    rw [eb]
    generalize bfsN κ (mvF m) i = p at *
    have cond : dBin nLt (dVar 17) (dCallF nLenA (dCons (dVar 14) dNil)) (lE m (.ref rs) (.ref rk) t7 t8 t9 t10 t11 t12' t13 (.ref rl) (.ref rp) (.ref rr) (natT i) t18') S' = .ok (.bl (decide (i < p.1.length))) S' := by
      have ln := nLen_l q1.l
      rw [List.length_map] at ln
      have := v_bin (f := nLt) (v_var (i := 17) (e := lE m (.ref rs) (.ref rk) t7 t8 t9 t10 t11 t12' t13 (.ref rl) (.ref rp) (.ref rr) (natT i) t18') (t := natT i) (S := S') rfl nh_int) (v_callF (v_cons (v_var (i := 14) rfl nh_ref) v_nil) ln) nLt_i
      have q : decide (((i : Nat) : Int) < ((p.1.length : Nat) : Int)) = decide (i < p.1.length) := by rw [decide_eq_decide]; omega
      rw [q] at this
      exact this
    by_cases c : i < p.1.length
    · rw [decide_eq_true c] at cond
      rw [if_pos c]
      have hx := c1.ss _ (getD_mem c)
      have hx2 := hst _ hx
      have a1 : dAsg (dLst dNil) (gNam 18) (lE m (.ref rs) (.ref rk) t7 t8 t9 t10 t11 t12' t13 (.ref rl) (.ref rp) (.ref rr) (natT i) t18') S' = .nx (lE m (.ref rs) (.ref rk) t7 t8 t9 t10 t11 t12' t13 (.ref rl) (.ref rp) (.ref rr) (natT i) (.ref S'.length)) (S' ++ [.lst []]) := v_asg (v_lst v_nil rfl (by unfold LINE; decide)) (show 18 < 19 by decide)
      have v := q1.new
      have a2 : dBin nIx (dVar 3) (dBin nIx (dVar 14) (dVar 17)) (lE m (.ref rs) (.ref rk) t7 t8 t9 t10 t11 t12' t13 (.ref rl) (.ref rp) (.ref rr) (natT i) (.ref S'.length)) (S' ++ [.lst []]) = .ok (rowT (mvF m (p.1.getD i 0))) (S' ++ [.lst []]) :=
        v_bin (v_var rfl nh_tup) (v_bin (v_var rfl nh_ref) (v_var (t := natT i) rfl nh_int) (nIx_l v.l (getD_map (d := 0) c))) (nIx_t (getD_map (d := []) hx2))
      obtain ⟨kvp2, S2, u12, r1, r2, r3⟩ := v_rowL (st := st) (d := dBin nIx (dVar 3) (dBin nIx (dVar 14) (dVar 17))) v (fun a ha => ⟨R.hc _ hx a ha, g a (R.hc _ hx a ha)⟩) q2 c1 hn (by rw [L.ww _ hx2]; have := L.w0; unfold LINE; omega) a2
      generalize rowF κ (mvF m (p.1.getD i 0)) p.1 [] = q at *
      refine ⟨_, _, v_ifT cond (v_seq a1 (v_seq r3 (v_expr (v_meth (v_var rfl nh_ref) (isL_l r1.r) (v_cons (v_callF (r := .ok (rowT q.2) S2) (v_cons (v_var rfl nh_ref) v_nil) ?_) v_nil) (nApp_l (t := rowT q.2) r1.r rfl ?_))))), kvp2, u12, natT i, .ref S'.length, rfl, r1.setR.old, r2⟩
      · show (match lstAt S2 S'.length with
          | some ts => DD.R.ok (T.tup ts) S2
          | none => DD.R.bad) = _
        rw [lstAt_l r1.w]
        rfl
      · rw [List.length_map]; unfold LINE; omega
    · rw [decide_eq_false c] at cond
      rw [if_neg c]
      exact ⟨_, _, v_ifF cond rfl, kvp', t12', natT i, t18', rfl, q1, q2⟩
  · rintro e S' ⟨kvp', t12', t17', t18', rfl, q1, q2⟩
    exact ⟨rng_stop, kvp', S', t12', t17', t18', q1, rfl⟩
/-- what _law_least makes, by what is reached -/
def leastM (m : Mc) (st : List Nat) : Mc := ⟨m.b, m.t, leastRows (mvF m) (enF m) st, leastEnds (mvF m) (enF m) st⟩
theorem four_line {x y z w : T} : [x, y, z, w].length ≤ LINE := by
  show 4 ≤ LINE
  unfold LINE
  decide
theorem mc_low {m : Mc} {n : Nat} : m.T.low n = true := by
  have h1 : (T.tup (m.mv.map rowT)).low n = true := low_rows (l := m.mv) (n := n)
  have h2 : (T.tup (m.en.map natT)).low n = true := low_nats (l := m.en) (n := n)
  show T.lows n [.int m.b, .int m.t, .tup (m.mv.map rowT), .tup (m.en.map natT)] = true
  refine lows_iff.mpr fun t ht => ?_
  simp only [List.mem_cons, List.not_mem_nil, or_false] at ht
  rcases ht with h | h | h | h
  · rw [h]; rfl
  · rw [h]; rfl
  · rw [h]; exact h1
  · rw [h]; exact h2
theorem least_ok {m : Mc} {w : Nat} {S : Store} (L : Lo m w) (cl : Cl S) : ∃ st, Rch (mvF m) st ∧ (∀ x ∈ st, x < m.mv.length) ∧ st.length ≤ m.mv.length ∧ F__law_least [m.T] S = .ok (leastM m st).T S := by
  have hn := L.n
  have hw := L.w0
  obtain ⟨st, h1, R', hst, hsl⟩ := reach_ok (mv := m.mv) (S := S) cl hn.1 (by unfold LINE; omega) L.r (fun i hi => by have := L.ww i hi; unfold mvF at this; unfold LINE; omega)
  have R : Rch (mvF m) st := R'
  refine ⟨st, R, hst, hsl, ?_⟩
  have a0 : dAsg (dVar 0) (gTupD 4 (gConsD (gNam 1) (gConsD (gNam 2) (gConsD (gNam 3) (gConsD (gNam 4) gNilD))))) [m.T, .hole, .hole, .hole, .hole, .hole, .hole, .hole, .hole, .hole, .hole, .hole, .hole, .hole, .hole, .hole, .hole, .hole, .hole] S = .nx (lE m .hole .hole .hole .hole .hole .hole .hole .hole .hole .hole .hole .hole .hole .hole) S :=
    v_asgT (v_var (t := m.T) rfl nh_tup) (g_four (show (1 : Nat) < 19 by decide) (show (2 : Nat) < 19 by decide) (show (3 : Nat) < 19 by decide) (show (4 : Nat) < 19 by decide))
  have a1 : dAsg (dCall F__law_reach (dCons (dVar 3) dNil)) (gNam 5) (lE m .hole .hole .hole .hole .hole .hole .hole .hole .hole .hole .hole .hole .hole .hole) S = .nx (lE m (.ref S.length) .hole .hole .hole .hole .hole .hole .hole .hole .hole .hole .hole .hole .hole) (S ++ [.lst (st.map natT)]) :=
    v_asg (v_call (v_cons (v_var rfl nh_tup) v_nil) rfl h1) (show 5 < 19 by decide)
  have clB : Cl (S ++ [.lst (st.map natT)]) := cl_snoc cl low_nats
  have hB : (S ++ [O.lst (st.map natT)])[S.length]? = some (.lst (st.map natT)) := ix_new
  have preB : Pre S (S ++ [.lst (st.map natT)]) := Pre.refl.app
  generalize S ++ [O.lst (st.map natT)] = B at a1 clB hB preB
  have hst2 : st.length < 10000 := by omega
  have a2 : dAsg dNewK (gNam 6) (lE m (.ref S.length) .hole .hole .hole .hole .hole .hole .hole .hole .hole .hole .hole .hole .hole) B = .nx (lE m (.ref S.length) (.ref B.length) .hole .hole .hole .hole .hole .hole .hole .hole .hole .hole .hole .hole) (B ++ [.dct []]) := v_asg (v_new rfl) (show 6 < 19 by decide)
  obtain ⟨S1, t7, k1, a3⟩ := k_init (t7 := .hole) (t8 := .hole) (t9 := .hole) (t10 := .hole) (t11 := .hole) (t12 := .hole) (t13 := .hole) (t14 := .hole) (t15 := .hole) (t16 := .hole) (t17 := .hole) (t18 := .hole) L hst hst2 clB hB
  have a4 : dAsg (dLit (.int 0)) (gNam 8) (lE m (.ref S.length) (.ref B.length) t7 .hole .hole .hole .hole .hole .hole .hole .hole .hole .hole .hole) S1 = .nx (lE m (.ref S.length) (.ref B.length) t7 (natT 0) .hole .hole .hole .hole .hole .hole .hole .hole .hole .hole) S1 := v_asg v_lit (show 8 < 19 by decide)
  obtain ⟨rk, S2, u7, u8, u9, u10, u11, u13, k2, a5⟩ := k_rounds (t7 := t7) (t9 := .hole) (t10 := .hole) (t11 := .hole) (t12 := .hole) (t13 := .hole) (t14 := .hole) (t15 := .hole) (t16 := .hole) (t17 := .hole) (t18 := .hole) L R hst hst2 hB k1
  obtain ⟨kv, hk, g⟩ := k2.k
  have hkl := ix_lt hk
  have hpl := k2.pre.len
  have a6 : dAsg (dLst (dCons (dLit (.int 0)) dNil)) (gNam 14) (lE m (.ref S.length) (.ref rk) u7 u8 u9 u10 u11 .hole u13 .hole .hole .hole .hole .hole) S2 = .nx (lE m (.ref S.length) (.ref rk) u7 u8 u9 u10 u11 .hole u13 (.ref S2.length) .hole .hole .hole .hole) (S2 ++ [.lst ([0].map natT)]) := v_asg (v_lst (v_cons v_lit v_nil) rfl (by unfold LINE; decide)) (show 14 < 19 by decide)
  have c1 : Cl (S2 ++ [.lst ([0].map natT)]) := cl_snoc k2.cl low_nats
  have l1 : (S2 ++ [O.lst ([0].map natT)]).length = S2.length + 1 := by simp
  have g1 : (S2 ++ [O.lst ([0].map natT)])[S2.length]? = some (.lst ([0].map natT)) := ix_new
  have hk1 : (S2 ++ [O.lst ([0].map natT)])[rk]? = some (.dct kv) := ix_app hk
  have p1 : Pre B (S2 ++ [.lst ([0].map natT)]) := k2.pre.app
  generalize S2 ++ [O.lst ([0].map natT)] = S3 at a6 c1 l1 g1 hk1 p1
  have a7 : dAsg dNewK (gNam 15) (lE m (.ref S.length) (.ref rk) u7 u8 u9 u10 u11 .hole u13 (.ref S2.length) .hole .hole .hole .hole) S3 = .nx (lE m (.ref S.length) (.ref rk) u7 u8 u9 u10 u11 .hole u13 (.ref S2.length) (.ref S3.length) .hole .hole .hole) (S3 ++ [.dct []]) := v_asg (v_new rfl) (show 15 < 19 by decide)
  have c2 : Cl (S3 ++ [.dct []]) := cl_snoc c1 (by simp [O.low, T.lows])
  have l2 : (S3 ++ [O.dct []]).length = S3.length + 1 := by simp
  have g2 : (S3 ++ [O.dct []])[S3.length]? = some (.dct []) := ix_new
  have e1 : (S3 ++ [O.dct []])[S2.length]? = some (.lst ([0].map natT)) := ix_app g1
  have hk2 : (S3 ++ [O.dct []])[rk]? = some (.dct kv) := ix_app hk1
  have p2 : Pre B (S3 ++ [.dct []]) := p1.app
  generalize S3 ++ [O.dct []] = S4 at a7 c2 l2 g2 e1 hk2 p2
  have d0 := nSet_d (x := ((kM (mvF m) (enF m) st 0 : Nat) : Int)) (v := natT 0) g2 rfl (by unfold LINE; decide)
  have i0 : IxD (putT [] (.inl ((kM (mvF m) (enF m) st 0 : Nat) : Int)) (natT 0)) ([0].map (kM (mvF m) (enF m) st)) := by
    have := IxD.add (kv := []) (ks := []) (k := kM (mvF m) (enF m) st 0) ⟨fun k => by simp [getK], rfl, fun p hp => by cases hp⟩ (by simp)
    exact this
  have a8 : dAsg (dLit (.int 0)) (gSubD nSetA (dVar 15) (dBin nIx (dVar 6) (dLit (.int 0)))) (lE m (.ref S.length) (.ref rk) u7 u8 u9 u10 u11 .hole u13 (.ref S2.length) (.ref S3.length) .hole .hole .hole) S4 = .nx (lE m (.ref S.length) (.ref rk) u7 u8 u9 u10 u11 .hole u13 (.ref S2.length) (.ref S3.length) .hole .hole .hole) (S4.set S3.length (.dct (putT [] (.inl ((kM (mvF m) (enF m) st 0 : Nat) : Int)) (natT 0)))) :=
    v_asgG v_lit (v_gsub (v_var rfl nh_ref) (v_bin (v_var rfl nh_ref) v_lit (nIx_d (x := ((0 : Nat) : Int)) hk2 (g 0 R.h0))) d0)
  have c3 : Cl (S4.set S3.length (.dct (putT [] (.inl ((kM (mvF m) (enF m) st 0 : Nat) : Int)) (natT 0)))) := cl_set c2 i0.n.low
  have g3 : (S4.set S3.length (.dct (putT [] (.inl ((kM (mvF m) (enF m) st 0 : Nat) : Int)) (natT 0))))[S3.length]? = some (.dct (putT [] (.inl ((kM (mvF m) (enF m) st 0 : Nat) : Int)) (natT 0))) := ix_eq g2
  have e2 : (S4.set S3.length (.dct (putT [] (.inl ((kM (mvF m) (enF m) st 0 : Nat) : Int)) (natT 0))))[S2.length]? = some (.lst ([0].map natT)) := ix_ne e1 (by omega)
  have hk3 : (S4.set S3.length (.dct (putT [] (.inl ((kM (mvF m) (enF m) st 0 : Nat) : Int)) (natT 0))))[rk]? = some (.dct kv) := ix_ne hk2 (by omega)
  have p3 : Pre B (S4.set S3.length (.dct (putT [] (.inl ((kM (mvF m) (enF m) st 0 : Nat) : Int)) (natT 0)))) := p2.set (by omega)
  have l3 : (S4.set S3.length (.dct (putT [] (.inl ((kM (mvF m) (enF m) st 0 : Nat) : Int)) (natT 0)))).length = S4.length := by simp
  generalize S4.set S3.length (.dct (putT [] (.inl ((kM (mvF m) (enF m) st 0 : Nat) : Int)) (natT 0))) = S5 at a8 c3 g3 e2 hk3 p3 l3
  generalize putT [] (.inl ((kM (mvF m) (enF m) st 0 : Nat) : Int)) (natT 0) = kvp at g3 i0
  have a9 : dAsg (dLst dNil) (gNam 16) (lE m (.ref S.length) (.ref rk) u7 u8 u9 u10 u11 .hole u13 (.ref S2.length) (.ref S3.length) .hole .hole .hole) S5 = .nx (lE m (.ref S.length) (.ref rk) u7 u8 u9 u10 u11 .hole u13 (.ref S2.length) (.ref S3.length) (.ref S5.length) .hole .hole) (S5 ++ [.lst []]) := v_asg (v_lst v_nil rfl (by unfold LINE; decide)) (show 16 < 19 by decide)
  have ns : NS B rk S2.length S3.length S5.length kv [0] kvp [] (S5 ++ [.lst []]) := ⟨cl_snoc c3 rfl, p3.app, ix_app hk3, ix_app e2, ix_app g3, ix_new, ⟨by omega, by omega, by omega⟩, by omega⟩
  obtain ⟨kvp', S6, u12, u17, u18, n1, a10⟩ := n_loop (κ := kM (mvF m) (enF m) st) (t7 := u7) (t8 := u8) (t9 := u9) (t10 := u10) (t11 := u11) (t12 := .hole) (t13 := u13) (t17 := .hole) (t18 := .hole) L R hst hst2 hB ns i0 g
  obtain ⟨f1, f2, f3, f4, f5⟩ := bfs_ok (κ := kM (mvF m) (enF m) st) R.h0 R.hc st.length
  have fle := f1.le
  have lc := lc_pure (own := [7]) (di := dItL (dVar 14)) (g := gNam 7) (te := dBin nIx (dVar 4) (dVar 7)) (e := lE m (.ref S.length) (.ref rk) u7 u8 u9 u10 u11 u12 u13 (.ref S2.length) (.ref S3.length) (.ref S5.length) u17 u18) (n := (bfsN (kM (mvF m) (enF m) st) (mvF m) st.length).1.length) (x := fun i => natT ((bfsN (kM (mvF m) (enF m) st) (mvF m) st.length).1.getD i 0)) (y := fun i => natT (enF m ((bfsN (kM (mvF m) (enF m) st) (mvF m) st.length).1.getD i 0)))
    (E := fun i => lE m (.ref S.length) (.ref rk) (natT ((bfsN (kM (mvF m) (enF m) st) (mvF m) st.length).1.getD i 0)) u8.noLam u9.noLam u10.noLam u11.noLam u12.noLam u13.noLam (.ref S2.length) (.ref S3.length) (.ref S5.length) u17.noLam u18.noLam) n1.cl (v_itL (v_var rfl nh_ref) n1.l) (by unfold LINE; omega)
    (fun i S' hi ex => lst_item (ex _ _ n1.l) hi) (fun S' ex => lst_stop (ex _ _ n1.l)) (fun i S' hi => rfl)
    (fun i S' hi ex => v_bin (v_var rfl nh_tup) (v_var (t := natT _) rfl nh_int) (nIx_t (getD_map (d := 0) (by rw [L.e]; exact hst _ (f1.ss _ (getD_mem hi)))))) (fun i hi => ⟨rfl, rfl⟩)
  rw [range_getD (f := fun a => natT (enF m a))] at lc
  have ee : (bfsN (kM (mvF m) (enF m) st) (mvF m) st.length).1.map (fun a => natT (enF m a)) = (leastEnds (mvF m) (enF m) st).map natT := by
    unfold leastEnds
    rw [List.map_map]
    rfl
  rw [ee] at lc
  have tupL : ∀ {S : Store} {n : Nat} {ts : List T}, S[n]? = some (.lst ts) → nTup [.ref n] S = .ok (.tup ts) S := fun {S n ts} h => by
    show (match lstAt S n with
      | some ts => DD.R.ok (T.tup ts) S
      | none => DD.R.bad) = _
    rw [lstAt_l h]
  have ret := v_tup (v_cons (v_var (i := 1) (e := lE m (.ref S.length) (.ref rk) u7 u8 u9 u10 u11 u12 u13 (.ref S2.length) (.ref S3.length) (.ref S5.length) u17 u18) (S := S6) rfl nh_int) (v_cons (v_var (i := 2) rfl nh_int) (v_cons (v_callF (v_cons (v_var (i := 16) rfl nh_ref) v_nil) (tupL n1.r)) (v_cons (v_callF (v_cons lc v_nil) (tupL ix_new)) v_nil)))) rfl four_line
  have pS := (preB.trans n1.pre).app (j := [.lst ((leastEnds (mvF m) (enF m) st).map natT)])
  obtain ⟨junk, hj⟩ := pS
  rw [hj] at ret
  exact runD_ok rfl (v_seq a0 (v_seq a1 (v_seq a2 (v_seq a3 (v_seq a4 (v_seq a5 (v_seq a6 (v_seq a7 (v_seq a8 (v_seq a9 (v_seq a10 (v_ret ret))))))))))))
    rfl (fin_val rfl cl (mc_low (m := leastM m st)))
end K02
set_option Elab.async false
set_option linter.all false
namespace K02
/-! the marks of _law_drawn: after so many rounds as there are states, a mark goes with its state -/
def mkStep (f : Nat → Nat) (l : List Nat) (k : Nat) : List Nat := (l.set k (if l.getD (f k) 0 < l.getD k 0 then l.getD (f k) 0 else l.getD k 0)).set (f k) (if l.getD (f k) 0 < l.getD k 0 then l.getD (f k) 0 else l.getD k 0)
def mkRound (f : Nat → Nat) : Nat → List Nat → List Nat
  | 0, l => l
  | j + 1, l => mkStep f (mkRound f j l) j
def mkAll (f : Nat → Nat) (n : Nat) : Nat → List Nat → List Nat
  | 0, l => l
  | t + 1, l => mkRound f n (mkAll f n t l)
theorem getD_set {l : List Nat} {i x a : Nat} : (l.set i a).getD x 0 = if i = x ∧ x < l.length then a else l.getD x 0 := by
  rw [List.getD_eq_getElem?_getD, List.getElem?_set, List.getD_eq_getElem?_getD]
  by_cases h : i = x
  · subst h
    by_cases c : i < l.length
    · simp [c]
    · simp [c]
  · simp [h]
theorem mkStep_len {f l k} : (mkStep f l k).length = l.length := by simp [mkStep]
theorem mkRound_len {f l} : ∀ {j}, (mkRound f j l).length = l.length
  | 0 => rfl
  | j + 1 => by
    show (mkStep f (mkRound f j l) j).length = _
    rw [mkStep_len, mkRound_len]
theorem mkAll_len {f n l} : ∀ {t}, (mkAll f n t l).length = l.length
  | 0 => rfl
  | t + 1 => by
    show (mkRound f n (mkAll f n t l)).length = _
    rw [mkRound_len, mkAll_len]
theorem mkStep_le {f : Nat → Nat} {l : List Nat} {k x : Nat} : (mkStep f l k).getD x 0 ≤ l.getD x 0 := by
  have e1 : (if l.getD (f k) 0 < l.getD k 0 then l.getD (f k) 0 else l.getD k 0) ≤ l.getD k 0 := by split <;> omega
  have e2 : (if l.getD (f k) 0 < l.getD k 0 then l.getD (f k) 0 else l.getD k 0) ≤ l.getD (f k) 0 := by split <;> omega
  unfold mkStep
  generalize (if l.getD (f k) 0 < l.getD k 0 then l.getD (f k) 0 else l.getD k 0) = a at e1 e2
  rw [getD_set, getD_set]
  split
  · rename_i h
    rw [← h.1]
    exact e2
  · split
    · rename_i h
      rw [← h.1]
      exact e1
    · exact Nat.le_refl _
theorem mkStep_both {f : Nat → Nat} {l : List Nat} {k v : Nat} (hk : k < l.length) (hf : f k < l.length) (h : l.getD k 0 ≤ v ∨ l.getD (f k) 0 ≤ v) : (mkStep f l k).getD k 0 ≤ v ∧ (mkStep f l k).getD (f k) 0 ≤ v := by
  have e : (if l.getD (f k) 0 < l.getD k 0 then l.getD (f k) 0 else l.getD k 0) ≤ v := by split <;> omega
  unfold mkStep
  generalize (if l.getD (f k) 0 < l.getD k 0 then l.getD (f k) 0 else l.getD k 0) = a at e
  constructor
  · rw [getD_set, getD_set]
    split
    · exact e
    · rw [if_pos ⟨rfl, hk⟩]; exact e
  · rw [getD_set, if_pos ⟨rfl, by rw [List.length_set]; exact hf⟩]; exact e
theorem mkRound_le {f : Nat → Nat} {l : List Nat} {x : Nat} : ∀ {j}, (mkRound f j l).getD x 0 ≤ l.getD x 0
  | 0 => Nat.le_refl _
  | j + 1 => Nat.le_trans (mkStep_le (l := mkRound f j l)) mkRound_le
theorem mkRound_both {f : Nat → Nat} {l : List Nat} {k v : Nat} (hk : k < l.length) (hf : f k < l.length) (h : l.getD k 0 ≤ v ∨ l.getD (f k) 0 ≤ v) : ∀ {j}, k < j → (mkRound f j l).getD k 0 ≤ v ∧ (mkRound f j l).getD (f k) 0 ≤ v
  | 0, hj => absurd hj (Nat.not_lt_zero k)
  | j + 1, hj => by
    show (mkStep f (mkRound f j l) j).getD k 0 ≤ v ∧ (mkStep f (mkRound f j l) j).getD (f k) 0 ≤ v
    by_cases c : k < j
    · obtain ⟨a, b⟩ := mkRound_both hk hf h c
      exact ⟨Nat.le_trans mkStep_le a, Nat.le_trans mkStep_le b⟩
    · have e : k = j := by omega
      subst e
      refine mkStep_both (by rw [mkRound_len]; exact hk) (by rw [mkRound_len]; exact hf) ?_
      have h1 := mkRound_le (f := f) (l := l) (x := k) (j := k)
      have h2 := mkRound_le (f := f) (l := l) (x := f k) (j := k)
      omega
/-- no edge leaves those marked v or less -/
def Shut (f : Nat → Nat) (n v : Nat) (l : List Nat) : Prop := ∀ k, k < n → (l.getD k 0 ≤ v ↔ l.getD (f k) 0 ≤ v)
theorem Shut.step {f n v l} {k : Nat} (h : Shut f n v l) (hl : l.length = n) (hk : k < n) (hf : f k < n) : ∀ x, ((mkStep f l k).getD x 0 ≤ v ↔ l.getD x 0 ≤ v) := fun x => by
  have hk' := h k hk
  have e : (if l.getD (f k) 0 < l.getD k 0 then l.getD (f k) 0 else l.getD k 0) ≤ v ↔ l.getD k 0 ≤ v := by split <;> omega
  unfold mkStep
  generalize (if l.getD (f k) 0 < l.getD k 0 then l.getD (f k) 0 else l.getD k 0) = a at e
  rw [getD_set, getD_set]
  split
  · rename_i c
    rw [← c.1, e, hk']
  · split
    · rename_i c
      rw [← c.1, e]
    · exact Iff.rfl
theorem Shut.round {f n v l} (h : Shut f n v l) (hl : l.length = n) (hf : ∀ k, k < n → f k < n) : ∀ j, j ≤ n → ∀ x, ((mkRound f j l).getD x 0 ≤ v ↔ l.getD x 0 ≤ v)
  | 0, _ => fun x => Iff.rfl
  | j + 1, hj => fun x => by
    have ih := Shut.round h hl hf j (by omega)
    have hs : Shut f n v (mkRound f j l) := fun k hk => by rw [ih, ih]; exact h k hk
    show (mkStep f (mkRound f j l) j).getD x 0 ≤ v ↔ _
    rw [hs.step (by rw [mkRound_len]; exact hl) (by omega) (hf j (by omega)), ih]
def cntM (n v : Nat) (l : List Nat) : List Nat := (List.range n).filter fun x => decide (l.getD x 0 ≤ v)
theorem mem_cntM {n v l x} : x ∈ cntM n v l ↔ x < n ∧ l.getD x 0 ≤ v := by simp [cntM]
theorem nodup_cntM {n v l} : (cntM n v l).Nodup := List.Nodup.sublist (List.filter_sublist) List.nodup_range
theorem cntM_le {n v l} : (cntM n v l).length ≤ n := by
  have := List.length_filter_le (fun x => decide (l.getD x 0 ≤ v)) (List.range n)
  rwa [List.length_range] at this
theorem mkAll_shut {f : Nat → Nat} {n v : Nat} {l : List Nat} (hl : l.length = n) (hf : ∀ k, k < n → f k < n) : ∀ t, Shut f n v (mkAll f n t l) ∨ t + 1 ≤ (cntM n v (mkAll f n t l)).length
  | 0 => by
    by_cases c : ∃ x, x < n ∧ l.getD x 0 ≤ v
    · obtain ⟨x, hx⟩ := c
      exact .inr (List.length_pos_of_mem (mem_cntM.mpr hx))
    · refine .inl fun k hk => ⟨fun z => absurd ⟨k, hk, z⟩ c, fun z => absurd ⟨f k, hf k hk, z⟩ c⟩
  | t + 1 => by
    show Shut f n v (mkRound f n (mkAll f n t l)) ∨ t + 1 + 1 ≤ (cntM n v (mkRound f n (mkAll f n t l))).length
    have ih := mkAll_shut hl hf t (v := v)
    have hl2 : (mkAll f n t l).length = n := by rw [mkAll_len]; exact hl
    generalize mkAll f n t l = l2 at *
    by_cases s : Shut f n v l2
    · have := s.round hl2 hf n (Nat.le_refl _)
      exact .inl fun k hk => by rw [this, this]; exact s k hk
    · have ih2 : t + 1 ≤ (cntM n v l2).length := by
        rcases ih with z | z
        · exact absurd z s
        · exact z
      right
      obtain ⟨k, hk, hne⟩ : ∃ k, k < n ∧ ¬ (l2.getD k 0 ≤ v ↔ l2.getD (f k) 0 ≤ v) := Classical.byContradiction fun c => s fun k hk => Classical.byContradiction fun d => c ⟨k, hk, d⟩
      have hor : l2.getD k 0 ≤ v ∨ l2.getD (f k) 0 ≤ v := by
        rcases Nat.lt_or_ge v (l2.getD k 0) with a | a
        · rcases Nat.lt_or_ge v (l2.getD (f k) 0) with b | b
          · exact absurd ⟨fun z => by omega, fun z => by omega⟩ hne
          · exact .inr b
        · exact .inl a
      obtain ⟨b1, b2⟩ := mkRound_both (by rw [hl2]; exact hk) (by rw [hl2]; exact hf k hk) hor hk
      obtain ⟨x, hx1, hx2, hx3⟩ : ∃ x, x < n ∧ ¬ l2.getD x 0 ≤ v ∧ (mkRound f n l2).getD x 0 ≤ v := by
        by_cases c : l2.getD k 0 ≤ v
        · exact ⟨f k, hf k hk, fun z => hne ⟨fun _ => z, fun _ => c⟩, b2⟩
        · exact ⟨k, hk, c, b1⟩
      have := nodup_le (l := x :: cntM n v l2) (l' := cntM n v (mkRound f n l2)) (List.nodup_cons.mpr ⟨fun z => hx2 (mem_cntM.mp z).2, nodup_cntM⟩) fun y hy => by
        rcases List.mem_cons.mp hy with z | z
        · rw [z]; exact mem_cntM.mpr ⟨hx1, hx3⟩
        · obtain ⟨u1, u2⟩ := mem_cntM.mp z
          exact mem_cntM.mpr ⟨u1, Nat.le_trans mkRound_le u2⟩
      rw [List.length_cons] at this
      omega
/-- behind n rounds a mark goes with its state -/
theorem marks_ok {f : Nat → Nat} {n : Nat} {l : List Nat} (hl : l.length = n) (hf : ∀ k, k < n → f k < n) {k : Nat} (hk : k < n) : (mkAll f n n l).getD k 0 = (mkAll f n n l).getD (f k) 0 := by
  have h : ∀ v, Shut f n v (mkAll f n n l) := fun v => by
    rcases mkAll_shut (v := v) hl hf n with z | z
    · exact z
    · have := cntM_le (n := n) (v := v) (l := mkAll f n n l)
      omega
  have a := (h ((mkAll f n n l).getD k 0) k hk).mp (Nat.le_refl _)
  have b := (h ((mkAll f n n l).getD (f k) 0) k hk).mpr (Nat.le_refl _)
  omega
theorem mkAll_lt {f : Nat → Nat} {n b : Nat} {l : List Nat} (h : ∀ x, l.getD x 0 < b) : ∀ t x, (mkAll f n t l).getD x 0 < b
  | 0, x => h x
  | t + 1, x => Nat.lt_of_le_of_lt (mkRound_le (l := mkAll f n t l)) (mkAll_lt h t x)
end K02
set_option Elab.async false
set_option linter.all false
set_option maxRecDepth 100000
set_option maxHeartbeats 4000000
namespace K02
open PySem PySem.Spec PyProof.Rows L2 DD
theorem Gd.lo {m : Mc} {w : Nat} (h : Gd m w) : Lo m w := by
  have hn := h.n
  have hw := h.ws
  refine ⟨by omega, h.e, h.w1, by omega, fun i hi a ha => ?_⟩
  obtain ⟨j, hj, e⟩ := List.getElem_of_mem ha
  have h1 := h.w1 i hi
  have := h.r i hi j (by unfold mvF at hj; omega)
  have e2 : (m.mv.getD i []).getD j 0 = (mvF m i)[j] := by
    show (mvF m i).getD j 0 = _
    rw [List.getD_eq_getElem?_getD, List.getElem?_eq_getElem hj]
    rfl
  rw [e2, e] at this
  exact this
theorem leastM_good {m : Mc} {w : Nat} {st : List Nat} (h : Gd m w) (R : Rch (mvF m) st) (hst : ∀ x ∈ st, x < m.mv.length) (hsl : st.length ≤ m.mv.length) : Gd (leastM m st) w ∧ (leastM m st).mv.length ≤ m.mv.length := by
  have hn := h.n
  have hw := h.ws
  obtain ⟨g1, g2, g3, g4, g5⟩ := least_good (en := enF m) R (w := w) (fun x hx => h.w1 x (hst x hx)) (fun x hx => h.z x (hst x hx)) (by omega)
  have e1 : (leastM m st).mv = leastRows (mvF m) (enF m) st := rfl
  have e2 : (leastM m st).en = leastEnds (mvF m) (enF m) st := rfl
  refine ⟨⟨h.b, h.t, by rw [e1]; omega, g3, fun i hi => ?_, h.we, fun i hi => (g4 i hi).1, fun i hi => (g4 i hi).2.1, fun i hi => (g4 i hi).2.2⟩, by rw [e1]; omega⟩
  rw [e1] at hi
  rw [e2]
  obtain ⟨x, hx, e⟩ := g5 i (by omega)
  rw [e]
  exact h.e1 x (hst x hx)
theorem leastM_eq {m o : Mc} {w : Nat} {st st' : List Nat} {ps : List (Int × Int)} (gm : Gd m w) (go : Gd o w) (hb : m.b = o.b) (ht : m.t = o.t) (R : Rch (mvF m) st) (R' : Rch (mvF o) st') (hj : judgeB m o ps = true) : leastM m st = leastM o st' := by
  unfold judgeB at hj
  rw [← gm.we] at hj
  simp only [Bool.and_eq_true, decide_eq_true_eq, List.all_eq_true] at hj
  obtain ⟨⟨h0, _⟩, hp⟩ := hj
  have key := least_eq (en := enF m) (en' := enF o) (R := fun x x' => ((x : Int), (x' : Int)) ∈ ps) R R' (fun x x' hx => by
    have hh := hp _ hx
    unfold pairOk at hh
    simp only [Bool.and_eq_true, List.all_eq_true, List.mem_range, decide_eq_true_eq] at hh
    obtain ⟨h1, h2⟩ := hh
    obtain ⟨i1, i2⟩ := pairB_in h1
    have l1 := gm.row i1
    have l2 := go.row i2
    unfold pairB at h1
    simp only [Bool.and_eq_true, decide_eq_true_eq, Int.toNat_natCast] at h1 l1 l2
    refine ⟨h1.2, RL.of (by unfold mvF; rw [l1, l2]) fun i hi => ?_⟩
    have := h2 i (by unfold mvF at hi; rw [l1] at hi; exact hi)
    unfold nxtP at this
    simpa [mvF] using this) (by simpa using h0)
  unfold leastM
  rw [key.1, key.2, hb, ht]
/-! ### the drawer in a store with more behind it -/
theorem set_app {S j : Store} {n : Nat} {x : O} (h : n < S.length) : (S ++ j).set n x = S.set n x ++ j := List.set_append_left _ _ h
theorem Dr.app {S s nu nums c} (d : Dr S s nu nums c) (j : Store) : Dr (S ++ j) s nu nums c := ⟨ix_app d.st, ix_app d.nm, d.ne, d.bd, d.cb, d.lg, d.sn⟩
theorem drS_app {S j : Store} {s nu c : Nat} (h : s < S.length) : drS (S ++ j) s nu c = drS S s nu c ++ j := by
  unfold drS
  exact set_app h
theorem Dr.cl {S s nu nums c c'} (d : Dr S s nu nums c) (h : Cl S) : Cl (drS S s nu c') := by
  unfold drS
  refine cl_set h ?_
  have := d.lt.2
  show T.lows S.length [.ref nu, .int c'] = true
  simp [T.lows, T.low, this]
theorem next_at {S j : Store} {s nu : Nat} {nums : List Int} {c0 c : Nat} {many : Int} (d : Dr S s nu nums c0) (hc : c < 1000000000) (hm : 0 < many) : ∃ v : Nat, (v : Int) < many ∧ F__law_next [.ref s, .int many] (drS S s nu c ++ j) = .ok (natT v) (drS S s nu (c + 1) ++ j) := by
  obtain ⟨v, h1, h2, h3⟩ := next_ok (many := many) ((d.drawn hc).app j) hm
  obtain ⟨n, rfl⟩ : ∃ n : Nat, v = n := ⟨v.toNat, by omega⟩
  refine ⟨n, h2, ?_⟩
  rw [drS_app (by rw [drS_len]; exact d.lt.1), drS_drS] at h3
  exact h3
/-- _law_next(state, k) -/
theorem v_next {S j : Store} {s nu c : Nat} {v : Nat} {many : Int} {e : EnvT} {i : Nat} {b : DE} (he : e[i]? = some (.ref s)) (hb : b e (drS S s nu c ++ j) = .ok (.int many) (drS S s nu c ++ j)) (h : F__law_next [.ref s, .int many] (drS S s nu c ++ j) = .ok (natT v) (drS S s nu (c + 1) ++ j)) :
    dCall F__law_next (dCons (dVar i) (dCons b dNil)) e (drS S s nu c ++ j) = .ok (natT v) (drS S s nu (c + 1) ++ j) :=
  v_call (v_cons (v_var he nh_ref) (v_cons hb v_nil)) rfl h
end K02
set_option Elab.async false
set_option linter.all false
set_option maxRecDepth 100000
set_option maxHeartbeats 4000000
namespace K02
open PySem PySem.Spec PyProof.Rows L2 DD
theorem lpow_ok {b t : Nat} {S : Store} (hb : b < 1000) (ht : t < 1000) : F__law_power [.int b, .int t] S = .ok (.int (b ^ t : Nat)) S := power_ok' hb ht
theorem cl_len {S : Store} {n : Nat} (h : Cl S) (e : S.length = n) : S.all (O.low n) = true := by subst e; exact h
theorem lows_nats {l : List Nat} {n : Nat} : T.lows n (l.map natT) = true := low_nats (l := l)
abbrev dwEl : DE := (dBin nIx (dLst (dCons (dCall F__law_next (dCons (dVar 0) (dCons (dVar 3) dNil))) (dCons (dVar 4) dNil))) (dCallF nInt (dCons (dBin nEq (dCall F__law_next (dCons (dVar 0) (dCons (dLit (.int 4)) dNil))) (dLit (.int 0))) dNil)))
/-- one move drawn -/
theorem dw_el {S j : Store} {s nu c0 c n k : Nat} {nums : List Int} {t1 t2 t5 t6 t7 t8 t9 : T} (d : Dr S s nu nums c0) (hc : c + 2 < 1000000000) (hk : k < n) : ∃ (v : Nat) (o : O), v < n ∧ o.low 0 = true ∧ dwEl [.ref s, t1, t2, natT n, natT k, t5, t6, t7, t8, t9] (drS S s nu c ++ j) = .ok (natT v) (drS S s nu (c + 2) ++ (j ++ [o])) := by
  obtain ⟨v1, h1, h2⟩ := next_at (j := j) (c := c) (many := (n : Int)) d (by omega) (by omega)
  obtain ⟨v2, h3, h4⟩ := next_at (j := j ++ [.lst [natT v1, natT k]]) (c := c + 1) (many := 4) d (by omega) (by omega)
  have a1 : dLst (dCons (dCall F__law_next (dCons (dVar 0) (dCons (dVar 3) dNil))) (dCons (dVar 4) dNil)) [.ref s, t1, t2, natT n, natT k, t5, t6, t7, t8, t9] (drS S s nu c ++ j) = .ok (.ref (drS S s nu (c + 1) ++ j).length) (drS S s nu (c + 1) ++ (j ++ [.lst [natT v1, natT k]])) := by
    rw [← List.append_assoc]
    exact v_lst (v_cons (v_next rfl (v_var (t := natT n) rfl nh_int) h2) (v_cons (v_var (t := natT k) rfl nh_int) v_nil)) rfl two_line
  have a2 : dCallF nInt (dCons (dBin nEq (dCall F__law_next (dCons (dVar 0) (dCons (dLit (.int 4)) dNil))) (dLit (.int 0))) dNil) [.ref s, t1, t2, natT n, natT k, t5, t6, t7, t8, t9] (drS S s nu (c + 1) ++ (j ++ [.lst [natT v1, natT k]])) = .ok (natT (if v2 = 0 then 1 else 0)) (drS S s nu (c + 1 + 1) ++ (j ++ [.lst [natT v1, natT k]])) := by
    refine v_callF (v_cons (v_bin (v_next rfl v_lit h4) v_lit nEq_i) v_nil) ?_
    show DD.R.ok (T.int (if decide ((v2 : Int) = 0) = true then 1 else 0)) _ = _
    by_cases e : v2 = 0
    · subst e; rfl
    · have e2 : ¬ (v2 : Int) = 0 := by omega
      rw [decide_eq_false e2, if_neg e]
      rfl
  have hl : (drS S s nu (c + 1) ++ j).length = (drS S s nu (c + 1 + 1) ++ j).length := by rw [List.length_append, List.length_append, drS_len, drS_len]
  rw [hl] at a1
  have g : (drS S s nu (c + 1 + 1) ++ (j ++ [O.lst [natT v1, natT k]]))[(drS S s nu (c + 1 + 1) ++ j).length]? = some (.lst [natT v1, natT k]) := by
    rw [← List.append_assoc]; exact ix_new
  refine ⟨if v2 = 0 then k else v1, .lst [natT v1, natT k], ?_, rfl, v_bin a1 a2 (nIx_l g ?_)⟩
  · split
    · exact hk
    · omega
  · split <;> rfl
theorem dr_here {S : Store} {s nu c c' : Nat} {nums : List Int} (d : Dr S s nu nums c) (h : c' < 1000000000) (j : Store) : Dr (drS S s nu c' ++ j) s nu nums c' := (d.drawn h).app j
abbrev dwRow : DE := (dCallF nTup (dCons (dLC [9] (dRng1 (dCons (dCall F__law_power (dCons (dVar 1) (dCons (dVar 2) dNil))) dNil)) (gNam 9) (dLit (.bl true)) dwEl) dNil))
theorem tup_at {S : Store} {n : Nat} {ts : List T} (h : S[n]? = some (.lst ts)) : nTup [.ref n] S = .ok (.tup ts) S := by
  show (match lstAt S n with
    | some ts => DD.R.ok (T.tup ts) S
    | none => DD.R.bad) = _
  rw [lstAt_l h]
/-- one row drawn -/
theorem dw_row {S : Store} {s nu c n k b t : Nat} {nums : List Int} {t5 t6 t7 t8 t9 : T} (d : Dr S s nu nums c) (cl : Cl S) (hb : 2 ≤ b ∧ b ≤ 10) (ht : 1 ≤ t ∧ t ≤ 3) (hc : c + 2 * b ^ t < 1000000000) (hk : k < n) : ∃ (r : List Nat) (c' : Nat), r.length = b ^ t ∧ (∀ a ∈ r, a < n) ∧ c' ≤ c + 2 * b ^ t ∧
    dwRow [.ref s, natT b, natT t, natT n, natT k, t5, t6, t7, t8, t9] S = .ok (rowT r) (drS S s nu c' ++ [.lst (r.map natT)]) := by
  have hp := pow_small hb ht
  have hd : dRng1 (dCons (dCall F__law_power (dCons (dVar 1) (dCons (dVar 2) dNil))) dNil) [.ref s, natT b, natT t, natT n, natT k, t5, t6, t7, t8, t9] S = .ok (iRng 0 1 (b ^ t)) S := v_rng1 (v_cons (v_call (v_cons (v_var (t := natT b) rfl nh_int) (v_cons (v_var (t := natT t) rfl nh_int) v_nil)) rfl (lpow_ok (by omega) (by omega))) v_nil) (by unfold LINE; omega)
  obtain ⟨Sp, ys, junk, ⟨r, c', q1, q2, q3, q4, q5⟩, h⟩ := lc_sj (own := [9]) (g := gNam 9) (te := dwEl) hd rfl (fun i Sp ys junk => ∃ (r : List Nat) (c' : Nat), ys = r.map natT ∧ r.length = i ∧ (∀ a ∈ r, a < n) ∧ Sp = drS S s nu c' ∧ c' ≤ c + 2 * i)
    ⟨[], c, rfl, rfl, (fun a ha => by cases ha), (drS_self d).symm, by omega⟩ (fun i Sp ys junk ⟨r, c', q1, q2, q3, q4, q5⟩ => by
      subst q1 q4
      exact ⟨drS_len, cl_len (d.cl cl) drS_len, lows_nats, by rw [List.length_map]; omega⟩) (n := b ^ t) (by unfold LINE; omega) (fun i Sp ys junk hi ⟨r, c', q1, q2, q3, q4, q5⟩ => by
      subst q1 q4
      obtain ⟨v, o, hv, ho, h⟩ := dw_el (j := .lst (r.map natT) :: junk) (c := c') (n := n) (k := k) (t1 := natT b) (t2 := natT t) (t5 := t5.noLam) (t6 := t6.noLam) (t7 := t7.noLam) (t8 := t8.noLam) (t9 := natT i) d (by omega) hk
      refine ⟨natT i, _, natT v, drS S s nu (c' + 2), junk ++ [o], by rw [rng_item hi, Int.zero_add]; rfl, rfl, h, rfl, r ++ [v], c' + 2, snoc_nat, by rw [List.length_append, q2]; rfl, fun a ha => ?_, rfl, by omega⟩
      rcases List.mem_append.mp ha with z | z
      · exact q3 a z
      · rw [List.mem_singleton] at z; rw [z]; exact hv) (fun Sp ys junk _ => rng_stop)
  subst q1 q4
  refine ⟨r, c', q2, q3, q5, v_callF (v_cons h v_nil) (tup_at ?_)⟩
  exact at_mid drS_len.symm
end K02
set_option Elab.async false
set_option linter.all false
set_option maxRecDepth 100000
set_option maxHeartbeats 4000000
namespace K02
open PySem PySem.Spec PyProof.Rows L2 DD
theorem cl_put {A j : Store} {x y : O} (h : Cl (A ++ x :: j)) (ho : y.low (A ++ x :: j).length = true) : Cl (A ++ y :: j) := by
  have := cl_set (n := A.length) h ho
  rwa [set_mid rfl] at this
theorem snoc_row {l : List (List Nat)} {a : List Nat} : l.map rowT ++ [rowT a] = (l ++ [a]).map rowT := by simp
theorem lows_rows {l : List (List Nat)} {n : Nat} : T.lows n (l.map rowT) = true := low_rows (l := l)
/-- all moves drawn -/
theorem dw_rows {S : Store} {s nu c n b t : Nat} {nums : List Int} {t4 t5 t6 t7 t8 t9 : T} (d : Dr S s nu nums c) (cl : Cl S) (hb : 2 ≤ b ∧ b ≤ 10) (ht : 1 ≤ t ∧ t ≤ 3) (hn : n ≤ 200) (hc : c + 1000000 < 1000000000) : ∃ (rows : List (List Nat)) (c' : Nat), rows.length = n ∧ (∀ r ∈ rows, r.length = b ^ t ∧ ∀ a ∈ r, a < n) ∧ c' ≤ c + 2000 * n ∧
    dCallF nTup (dCons (dLC [4] (dRng1 (dCons (dVar 3) dNil)) (gNam 4) (dLit (.bl true)) dwRow) dNil) [.ref s, natT b, natT t, natT n, t4, t5, t6, t7, t8, t9] S = .ok (.tup (rows.map rowT)) (drS S s nu c' ++ [.lst (rows.map rowT)]) := by
  have hp := pow_small hb ht
  have hd : dRng1 (dCons (dVar 3) dNil) [.ref s, natT b, natT t, natT n, t4, t5, t6, t7, t8, t9] S = .ok (iRng 0 1 n) S := v_rng1 (v_cons (v_var (t := natT n) rfl nh_int) v_nil) (by unfold LINE; omega)
  obtain ⟨Sp, ys, junk, ⟨r, c', q1, q2, q3, q4, q5, q6⟩, h⟩ := lc_sj (own := [4]) (g := gNam 4) (te := dwRow) hd rfl (fun i Sp ys junk => ∃ (rows : List (List Nat)) (c' : Nat), ys = rows.map rowT ∧ rows.length = i ∧ (∀ r ∈ rows, r.length = b ^ t ∧ ∀ a ∈ r, a < n) ∧ Sp = drS S s nu c' ∧ c' ≤ c + 2000 * i ∧ Cl (Sp ++ .lst ys :: junk))
    ⟨[], c, rfl, rfl, (fun a ha => by cases ha), (drS_self d).symm, by omega, cl_snoc cl rfl⟩ (fun i Sp ys junk ⟨r, c', q1, q2, q3, q4, q5, q6⟩ => by
      subst q1 q4
      exact ⟨drS_len, cl_len (d.cl cl) drS_len, lows_rows, by rw [List.length_map]; omega⟩) (n := n) (by unfold LINE; omega) (fun i Sp ys junk hi ⟨r, c', q1, q2, q3, q4, q5, q6⟩ => by
      subst q1 q4
      have d1 := dr_here (c' := c') d (by omega) (.lst (r.map rowT) :: junk)
      obtain ⟨row, c2, u1, u2, u3, u4⟩ := dw_row (n := n) (k := i) (t5 := t5.noLam) (t6 := t6.noLam) (t7 := t7.noLam) (t8 := t8.noLam) (t9 := t9.noLam) d1 q6 hb ht (by omega) hi
      have cl2 : Cl (drS (drS S s nu c' ++ .lst (r.map rowT) :: junk) s nu c2 ++ [.lst (row.map natT)]) := cl_snoc (d1.cl q6) low_nats
      rw [drS_app (by rw [drS_len]; exact d.lt.1), drS_drS] at u4 cl2
      have e : drS S s nu c2 ++ O.lst (r.map rowT) :: junk ++ [.lst (row.map natT)] = drS S s nu c2 ++ O.lst (r.map rowT) :: (junk ++ [.lst (row.map natT)]) := by simp
      rw [e] at u4 cl2
      refine ⟨natT i, [T.ref s, natT b, natT t, natT n, natT i, t5.noLam, t6.noLam, t7.noLam, t8.noLam, t9.noLam], rowT row, drS S s nu c2, junk ++ [O.lst (row.map natT)], by rw [rng_item hi, Int.zero_add]; rfl, rfl, u4, rfl, r ++ [row], c2, snoc_row, by rw [List.length_append, q2]; rfl, fun a ha => ?_, rfl, by omega, ?_⟩
      · rcases List.mem_append.mp ha with z | z
        · exact q3 a z
        · rw [List.mem_singleton] at z; rw [z]; exact ⟨u1, u2⟩
      · rw [snoc_row]
        exact cl_put cl2 low_rows) (fun Sp ys junk _ => rng_stop)
  subst q1 q4
  refine ⟨r, c', q2, q3, q5, v_callF (v_cons h v_nil) (tup_at ?_)⟩
  exact at_mid drS_len.symm
theorem set_last {A : Store} {x y : O} : (A ++ [x]).set A.length y = A ++ [y] := set_mid rfl
abbrev mkBody : DS := (dSeq (dAsg (dCallF nMin2 (dCons (dBin nIx (dVar 6) (dVar 4)) (dCons (dBin nIx (dVar 6) (dBin nIx (dBin nIx (dVar 5) (dVar 4)) (dLit (.int 0)))) dNil))) (gSubD nSetA (dVar 6) (dVar 4))) (dAsg (dBin nIx (dVar 6) (dVar 4)) (gSubD nSetA (dVar 6) (dBin nIx (dBin nIx (dVar 5) (dVar 4)) (dLit (.int 0))))))
def fstF (rows : List (List Nat)) (k : Nat) : Nat := (rows.getD k []).getD 0 0
theorem mk_step {A : Store} {rows : List (List Nat)} {l : List Nat} {k : Nat} {t0 t1 t2 t3 t7 t8 t9 : T} (hk : k < l.length) (hr : k < rows.length) (hw : 0 < (rows.getD k []).length) (hf : fstF rows k < l.length) :
    mkBody [t0, t1, t2, t3, natT k, .tup (rows.map rowT), .ref A.length, t7, t8, t9] (A ++ [.lst (l.map natT)]) = .nx [t0, t1, t2, t3, natT k, .tup (rows.map rowT), .ref A.length, t7, t8, t9] (A ++ [.lst ((mkStep (fstF rows) l k).map natT)]) := by
  have hrow : ∀ S : Store, dBin nIx (dBin nIx (dVar 5) (dVar 4)) (dLit (.int 0)) [t0, t1, t2, t3, natT k, .tup (rows.map rowT), .ref A.length, t7, t8, t9] S = .ok (natT (fstF rows k)) S := fun S =>
    v_bin (v_bin (v_var rfl nh_tup) (v_var (t := natT k) rfl nh_int) (nIx_t (getD_map (d := []) hr))) v_lit (nIx_t (i := 0) (getD_map (d := 0) hw))
  have hm : ∀ (l : List Nat) (x : Nat), x < l.length → nIx (.ref A.length) (natT x) (A ++ [.lst (l.map natT)]) = .ok (natT (l.getD x 0)) (A ++ [.lst (l.map natT)]) := fun l x hx => nIx_l ix_new (getD_map hx)
  have hs : ∀ (l : List Nat) (x v : Nat), x < l.length → nSetA (.ref A.length) (natT x) (natT v) (A ++ [.lst (l.map natT)]) = .ok () (A ++ [.lst ((l.set x v).map natT)]) := fun l x v hx => by
    have := nSet_l (i := x) (t := natT v) (S := A ++ [.lst (l.map natT)]) (n := A.length) ix_new (by rw [List.length_map]; exact hx) rfl
    rw [set_last] at this
    rw [List.map_set]
    exact this
  have h1 : dCallF nMin2 (dCons (dBin nIx (dVar 6) (dVar 4)) (dCons (dBin nIx (dVar 6) (dBin nIx (dBin nIx (dVar 5) (dVar 4)) (dLit (.int 0)))) dNil)) [t0, t1, t2, t3, natT k, .tup (rows.map rowT), .ref A.length, t7, t8, t9] (A ++ [.lst (l.map natT)]) =
      .ok (natT (if l.getD (fstF rows k) 0 < l.getD k 0 then l.getD (fstF rows k) 0 else l.getD k 0)) (A ++ [.lst (l.map natT)]) := by
    refine v_callF (v_cons (v_bin (v_var rfl nh_ref) (v_var (t := natT k) rfl nh_int) (hm l k hk)) (v_cons (v_bin (v_var rfl nh_ref) (hrow _) (hm l _ hf)) v_nil)) ?_
    show DD.R.ok (T.int (if ((l.getD (fstF rows k) 0 : Nat) : Int) < ((l.getD k 0 : Nat) : Int) then ((l.getD (fstF rows k) 0 : Nat) : Int) else ((l.getD k 0 : Nat) : Int))) _ = _
    by_cases c : l.getD (fstF rows k) 0 < l.getD k 0
    · rw [if_pos (by omega), if_pos c]
      rfl
    · rw [if_neg (by omega), if_neg c]
      rfl
  unfold mkStep
  generalize (if l.getD (fstF rows k) 0 < l.getD k 0 then l.getD (fstF rows k) 0 else l.getD k 0) = a at h1
  have e : (l.set k a).getD k 0 = a := by rw [getD_set, if_pos ⟨rfl, hk⟩]
  have h2 := hm (l.set k a) k (by rw [List.length_set]; exact hk)
  rw [e] at h2
  exact v_seq (v_asgG h1 (v_gsub (v_var rfl nh_ref) (v_var (t := natT k) rfl nh_int) (hs l k a hk))) (v_asgG (v_bin (v_var rfl nh_ref) (v_var (t := natT k) rfl nh_int) h2) (v_gsub (v_var rfl nh_ref) (hrow _) (hs (l.set k a) _ a (by rw [List.length_set]; exact hf))))
theorem mk_round {A : Store} {rows : List (List Nat)} {l : List Nat} {n : Nat} {t0 t1 t2 t4 t7 t8 t9 : T} (hl : l.length = n) (hr : rows.length = n) (hw : ∀ k, k < n → 0 < (rows.getD k []).length) (hf : ∀ k, k < n → fstF rows k < n) (hn : n < LINE) :
    ∃ t4', dFor (dRng1 (dCons (dVar 3) dNil)) (gNam 4) mkBody [t0, t1, t2, natT n, t4, .tup (rows.map rowT), .ref A.length, t7, t8, t9] (A ++ [.lst (l.map natT)]) = .nx [t0, t1, t2, natT n, t4', .tup (rows.map rowT), .ref A.length, t7, t8, t9] (A ++ [.lst ((mkRound (fstF rows) n l).map natT)]) := by
  have key := forL_inv (it := iRng 0 1 n) (g := gNam 4) (b := mkBody)
    (P := fun i e S' => ∃ t4', e = [t0, t1, t2, natT n, t4', .tup (rows.map rowT), .ref A.length, t7, t8, t9] ∧ S' = A ++ [.lst ((mkRound (fstF rows) i l).map natT)])
    (Z := fun r => ∃ t4', r = .nx [t0, t1, t2, natT n, t4', .tup (rows.map rowT), .ref A.length, t7, t8, t9] (A ++ [.lst ((mkRound (fstF rows) n l).map natT)])) n ?_ ?_ FUEL 0 _ _ ⟨t4, rfl, rfl⟩ (Nat.zero_le _) (fuel_ok hn)
  · obtain ⟨t4', h⟩ := key
    exact ⟨t4', v_for (v_rng1 (v_cons (v_var (t := natT n) rfl nh_int) v_nil) hn) h⟩
  · rintro i e S' hi ⟨t4', rfl, rfl⟩
    refine ⟨natT i, by rw [rng_item hi, Int.zero_add]; rfl, .inl ⟨_, _, ?_, natT i, rfl, rfl⟩⟩
    rw [g_nam (show 4 < 10 by decide)]
    simp only [List.set_cons_succ, List.set_cons_zero]
    exact mk_step (by rw [mkRound_len, hl]; exact hi) (by omega) (hw i hi) (by rw [mkRound_len, hl]; exact hf i hi)
  · rintro e S' ⟨t4', rfl, rfl⟩
    exact ⟨rng_stop, t4', rfl⟩
theorem mk_all {A : Store} {rows : List (List Nat)} {l : List Nat} {n : Nat} {t0 t1 t2 t4 t7 t8 t9 : T} (hl : l.length = n) (hr : rows.length = n) (hw : ∀ k, k < n → 0 < (rows.getD k []).length) (hf : ∀ k, k < n → fstF rows k < n) (hn : n < LINE) :
    ∃ t4' t7', dFor (dRng1 (dCons (dVar 3) dNil)) (gNam 7) (dFor (dRng1 (dCons (dVar 3) dNil)) (gNam 4) mkBody) [t0, t1, t2, natT n, t4, .tup (rows.map rowT), .ref A.length, t7, t8, t9] (A ++ [.lst (l.map natT)]) = .nx [t0, t1, t2, natT n, t4', .tup (rows.map rowT), .ref A.length, t7', t8, t9] (A ++ [.lst ((mkAll (fstF rows) n n l).map natT)]) := by
  have key := forL_inv (it := iRng 0 1 n) (g := gNam 7) (b := dFor (dRng1 (dCons (dVar 3) dNil)) (gNam 4) mkBody)
    (P := fun i e S' => ∃ t4' t7', e = [t0, t1, t2, natT n, t4', .tup (rows.map rowT), .ref A.length, t7', t8, t9] ∧ S' = A ++ [.lst ((mkAll (fstF rows) n i l).map natT)])
    (Z := fun r => ∃ t4' t7', r = .nx [t0, t1, t2, natT n, t4', .tup (rows.map rowT), .ref A.length, t7', t8, t9] (A ++ [.lst ((mkAll (fstF rows) n n l).map natT)])) n ?_ ?_ FUEL 0 _ _ ⟨t4, t7, rfl, rfl⟩ (Nat.zero_le _) (fuel_ok hn)
  · obtain ⟨t4', t7', h⟩ := key
    exact ⟨t4', t7', v_for (v_rng1 (v_cons (v_var (t := natT n) rfl nh_int) v_nil) hn) h⟩
  · rintro i e S' hi ⟨t4', t7', rfl, rfl⟩
    obtain ⟨u4, h⟩ := mk_round (A := A) (rows := rows) (l := mkAll (fstF rows) n i l) (t0 := t0) (t1 := t1) (t2 := t2) (t4 := t4') (t7 := natT i) (t8 := t8) (t9 := t9) (by rw [mkAll_len]; exact hl) hr hw hf hn
    refine ⟨natT i, by rw [rng_item hi, Int.zero_add]; rfl, .inl ⟨_, _, ?_, u4, natT i, rfl, rfl⟩⟩
    rw [g_nam (show 7 < 10 by decide)]
    simp only [List.set_cons_succ, List.set_cons_zero]
    exact h
  · rintro e S' ⟨t4', t7', rfl, rfl⟩
    exact ⟨rng_stop, t4', t7', rfl⟩
end K02
set_option Elab.async false
set_option linter.all false
set_option maxRecDepth 100000
set_option maxHeartbeats 4000000
namespace K02
open PySem PySem.Spec PyProof.Rows L2 DD
theorem listRng_ok {n : Nat} {S : Store} (hn : n < 1000000) : nListRng [natT n] S = .ok (.ref S.length) (S ++ [.lst ((List.range n).map natT)]) := by
  show (if inB (n : Int) && decide ((n : Int).toNat ≤ LINE) then newO (.lst ((intsUp 0 (n : Int).toNat).map T.int)) S else DD.R.bad) = _
  have h1 : inB (n : Int) = true := by
    simp only [inB, Bool.and_eq_true, decide_eq_true_eq]
    unfold BIG
    omega
  have h2 : (n : Int).toNat ≤ LINE := by unfold LINE; omega
  have h3 : (intsUp 0 (n : Int).toNat).map T.int = (List.range n).map natT := by simp [intsUp, natT]
  rw [h1, decide_eq_true h2, h3]
  rfl
/-- the machine that is drawn -/
def dwM (b t : Nat) (rows : List (List Nat)) (n : Nat) (es : List Nat) : Mc := ⟨b, t, rows, (List.range n).map fun k => es.getD ((mkAll (fstF rows) n n (List.range n)).getD k 0) 0⟩
theorem range_getD0 {n x : Nat} (h : x < n) : (List.range n).getD x 0 = x := by simp [h]
theorem dwM_good {b t n : Nat} {rows : List (List Nat)} {es : List Nat} (hb : 2 ≤ b ∧ b ≤ 10) (ht : 1 ≤ t ∧ t ≤ 3) (hn : 1 ≤ n ∧ n ≤ 200) (hr : rows.length = n) (hrow : ∀ r ∈ rows, r.length = b ^ t ∧ ∀ a ∈ r, a < n) (hes : es.length = n ∧ ∀ a ∈ es, a < 2) : Gd (dwM b t rows n es) (b ^ t) := by
  have hp := pow_small hb ht
  have hi : ∀ i, i < n → (rows.getD i []).length = b ^ t ∧ ∀ a ∈ rows.getD i [], a < n := fun i hi => hrow _ (by
    rw [List.getD_eq_getElem?_getD, List.getElem?_eq_getElem (by omega)]
    exact List.getElem_mem _)
  have hf : ∀ k, k < n → fstF rows k < n := fun k hk => (hi k hk).2 _ (getD_mem (by rw [(hi k hk).1]; omega))
  have hen : ∀ i, i < n → (dwM b t rows n es).en.getD i 0 = es.getD ((mkAll (fstF rows) n n (List.range n)).getD i 0) 0 := fun i hi => by
    unfold dwM
    simp [hi]
  have hlt : ∀ x, (mkAll (fstF rows) n n (List.range n)).getD x 0 < n := mkAll_lt (fun x => by
    by_cases c : x < n
    · rw [range_getD0 c]; exact c
    · rw [List.getD_eq_getElem?_getD, List.getElem?_eq_none (by simp; omega)]
      show 0 < n
      omega) n
  have hmv : (dwM b t rows n es).mv = rows := rfl
  refine ⟨hb, ht, by rw [hmv]; omega, by rw [hmv, hr]; simp [dwM], fun i hi => ?_, rfl, fun i h => (hi i (by rw [hmv] at h; omega)).1, fun i h j hj => ?_, fun i h => ?_⟩
  · rw [hmv, hr] at hi
    rw [hen i hi]
    have := hes.2 _ (getD_mem (l := es) (i := (mkAll (fstF rows) n n (List.range n)).getD i 0) (by rw [hes.1]; exact hlt i))
    omega
  · rw [hmv] at h ⊢
    rw [hr] at h ⊢
    exact (hi i h).2 _ (getD_mem (by rw [(hi i h).1]; exact hj))
  · rw [hmv] at h ⊢
    rw [hr] at h
    have : (rows.getD i []).getD 0 0 = fstF rows i := rfl
    rw [this, hen _ (hf i h), hen _ h, ← marks_ok (List.length_range) hf h]
theorem drawn_ok {S : Store} {s nu c n b t : Nat} {nums : List Int} (d : Dr S s nu nums c) (cl : Cl S) (hb : 2 ≤ b ∧ b ≤ 10) (ht : 1 ≤ t ∧ t ≤ 3) (hn : 1 ≤ n ∧ n ≤ 6) (hc : c + 2000000 < 1000000000) : ∃ (m : Mc) (c' : Nat), Gd m (b ^ t) ∧ m.b = b ∧ m.t = t ∧ m.mv.length = n ∧ c' ≤ c + 20000 ∧
    F__law_drawn [.ref s, natT b, natT t, natT n] S = .ok m.T (drS S s nu c') := by
  have hp := pow_small hb ht
  obtain ⟨rows, c1, r1, r2, r3, h1⟩ := dw_rows (n := n) (t4 := .hole) (t5 := .hole) (t6 := .hole) (t7 := .hole) (t8 := .hole) (t9 := .hole) d cl hb ht (by omega) (by omega)
  have a1 : dAsg (dCallF nTup (dCons (dLC [4] (dRng1 (dCons (dVar 3) dNil)) (gNam 4) (dLit (.bl true)) dwRow) dNil)) (gNam 5) [.ref s, natT b, natT t, natT n, .hole, .hole, .hole, .hole, .hole, .hole] S = .nx [.ref s, natT b, natT t, natT n, .hole, .tup (rows.map rowT), .hole, .hole, .hole, .hole] (drS S s nu c1 ++ [.lst (rows.map rowT)]) := v_asg h1 (show 5 < 10 by decide)
  have clA : Cl (drS S s nu c1 ++ [.lst (rows.map rowT)]) := cl_snoc (d.cl cl) low_rows
  generalize hA : drS S s nu c1 ++ [O.lst (rows.map rowT)] = A at a1 clA
  have a2 : dAsg (dCallF nListRng (dCons (dVar 3) dNil)) (gNam 6) [.ref s, natT b, natT t, natT n, .hole, .tup (rows.map rowT), .hole, .hole, .hole, .hole] A = .nx [.ref s, natT b, natT t, natT n, .hole, .tup (rows.map rowT), .ref A.length, .hole, .hole, .hole] (A ++ [.lst ((List.range n).map natT)]) := v_asg (v_callF (v_cons (v_var (t := natT n) rfl nh_int) v_nil) (listRng_ok (by omega))) (show 6 < 10 by decide)
  have hi : ∀ i, i < n → (rows.getD i []).length = b ^ t ∧ ∀ a ∈ rows.getD i [], a < n := fun i hi => r2 _ (by
    rw [List.getD_eq_getElem?_getD, List.getElem?_eq_getElem (by omega)]
    exact List.getElem_mem _)
  obtain ⟨t4, t7, a3⟩ := mk_all (A := A) (rows := rows) (l := List.range n) (n := n) (t0 := .ref s) (t1 := natT b) (t2 := natT t) (t4 := .hole) (t7 := .hole) (t8 := .hole) (t9 := .hole) List.length_range r1 (fun k hk => by rw [(hi k hk).1]; omega) (fun k hk => (hi k hk).2 _ (getD_mem (by rw [(hi k hk).1]; omega))) (by unfold LINE; omega)
  have clB : Cl (A ++ [.lst ((mkAll (fstF rows) n n (List.range n)).map natT)]) := cl_snoc clA low_nats
  have mlt : ∀ x, (mkAll (fstF rows) n n (List.range n)).getD x 0 < n := mkAll_lt (fun x => by
    by_cases c : x < n
    · rw [range_getD0 c]; exact c
    · rw [List.getD_eq_getElem?_getD, List.getElem?_eq_none (by simp; omega)]
      show 0 < n
      omega) n
  have mlen : (mkAll (fstF rows) n n (List.range n)).length = n := by rw [mkAll_len, List.length_range]
  have hdw : (dwM b t rows n) = fun es => (⟨b, t, rows, (List.range n).map fun k => es.getD ((mkAll (fstF rows) n n (List.range n)).getD k 0) 0⟩ : Mc) := rfl
  generalize hmk : mkAll (fstF rows) n n (List.range n) = mk at a3 clB mlt mlen hdw
  have gm : (A ++ [O.lst (mk.map natT)])[A.length]? = some (.lst (mk.map natT)) := ix_new
  have hX : A ++ [O.lst (mk.map natT)] = drS S s nu c1 ++ [.lst (rows.map rowT), .lst (mk.map natT)] := by rw [← hA]; simp
  have dX : Dr (A ++ [O.lst (mk.map natT)]) s nu nums c1 := by rw [hX]; exact dr_here d (by omega) _
  have hXl : ∀ c2, drS (A ++ [O.lst (mk.map natT)]) s nu c2 = drS S s nu c2 ++ [.lst (rows.map rowT), .lst (mk.map natT)] := fun c2 => by
    rw [hX, drS_app (by rw [drS_len]; exact d.lt.1), drS_drS]
  have gX : ∀ c2, (drS (A ++ [O.lst (mk.map natT)]) s nu c2)[A.length]? = some (.lst (mk.map natT)) := fun c2 => by
    unfold drS
    refine ix_ne gm ?_
    have := d.lt.1
    have hl : A.length = S.length + 1 := by rw [← hA, List.length_append, drS_len]; rfl
    omega
  generalize A ++ [O.lst (mk.map natT)] = X at a3 clB gm dX hXl gX
  have hd : dRng1 (dCons (dVar 3) dNil) [.ref s, natT b, natT t, natT n, t4, .tup (rows.map rowT), .ref A.length, t7, .hole, .hole] X = .ok (iRng 0 1 n) X := v_rng1 (v_cons (v_var (t := natT n) rfl nh_int) v_nil) (by unfold LINE; omega)
  obtain ⟨Sp, ys, junk, ⟨es, c2, q1, q2, q3, q4, q5⟩, h4⟩ := lc_sj (own := [4]) (g := gNam 4) (te := dCall F__law_next (dCons (dVar 0) (dCons (dLit (.int 2)) dNil))) hd rfl (fun i Sp ys junk => ∃ (es : List Nat) (c' : Nat), ys = es.map natT ∧ es.length = i ∧ (∀ a ∈ es, a < 2) ∧ Sp = drS X s nu c' ∧ c' ≤ c1 + i)
    ⟨[], c1, rfl, rfl, (fun a ha => by cases ha), (drS_self dX).symm, by omega⟩ (fun i Sp ys junk ⟨r, c', q1, q2, q3, q4, q5⟩ => by
      subst q1 q4
      exact ⟨drS_len, cl_len (dX.cl clB) drS_len, lows_nats, by rw [List.length_map]; omega⟩) (n := n) (by unfold LINE; omega) (fun i Sp ys junk hi ⟨es, c', q1, q2, q3, q4, q5⟩ => by
      subst q1 q4
      obtain ⟨v, hv, h⟩ := next_at (j := .lst (es.map natT) :: junk) (c := c') (many := 2) dX (by omega) (by omega)
      refine ⟨natT i, [T.ref s, natT b, natT t, natT n, natT i, .tup (rows.map rowT), .ref A.length, t7.noLam, .hole, .hole], natT v, drS X s nu (c' + 1), junk, by rw [rng_item hi, Int.zero_add]; rfl, rfl, v_next rfl v_lit h, rfl, es ++ [v], c' + 1, snoc_nat, by rw [List.length_append, q2]; rfl, fun a ha => ?_, rfl, by omega⟩
      rcases List.mem_append.mp ha with z | z
      · exact q3 a z
      · rw [List.mem_singleton] at z; rw [z]; omega) (fun Sp ys junk _ => rng_stop)
  subst q1 q4
  have a4 : dAsg (dLC [4] (dRng1 (dCons (dVar 3) dNil)) (gNam 4) (dLit (.bl true)) (dCall F__law_next (dCons (dVar 0) (dCons (dLit (.int 2)) dNil)))) (gNam 8) [.ref s, natT b, natT t, natT n, t4, .tup (rows.map rowT), .ref A.length, t7, .hole, .hole] X = .nx [.ref s, natT b, natT t, natT n, t4, .tup (rows.map rowT), .ref A.length, t7, .ref X.length, .hole] (drS X s nu c2 ++ [.lst (es.map natT)]) := v_asg h4 (show 8 < 10 by decide)
  have clC : Cl (drS X s nu c2 ++ [.lst (es.map natT)]) := cl_snoc (dX.cl clB) low_nats
  have g1 : (drS X s nu c2 ++ [O.lst (es.map natT)])[X.length]? = some (.lst (es.map natT)) := at_mid drS_len.symm
  have g2 : (drS X s nu c2 ++ [O.lst (es.map natT)])[A.length]? = some (.lst (mk.map natT)) := ix_app (gX c2)
  have hY : drS X s nu c2 ++ [O.lst (es.map natT)] = drS S s nu c2 ++ [.lst (rows.map rowT), .lst (mk.map natT), .lst (es.map natT)] := by rw [hXl]; simp
  generalize drS X s nu c2 ++ [O.lst (es.map natT)] = Y at a4 clC g1 g2 hY
  have lc := lc_pure (own := [4]) (di := dRng1 (dCons (dVar 3) dNil)) (g := gNam 4) (te := dBin nIx (dVar 8) (dBin nIx (dVar 6) (dVar 4))) (e := [.ref s, natT b, natT t, natT n, t4, .tup (rows.map rowT), .ref A.length, t7, .ref X.length, .hole]) (S := Y) (n := n) (x := fun i => natT i) (y := fun i => natT (es.getD (mk.getD i 0) 0))
    (E := fun i => [.ref s, natT b, natT t, natT n, natT i, .tup (rows.map rowT), .ref A.length, t7.noLam, .ref X.length, .hole]) clC (v_rng1 (v_cons (v_var (t := natT n) rfl nh_int) v_nil) (by unfold LINE; omega)) (by unfold LINE; omega)
    (fun i S' hi _ => by rw [rng_item hi, Int.zero_add]; rfl) (fun S' _ => rng_stop) (fun i S' hi => rfl)
    (fun i S' hi ex => v_bin (v_var rfl nh_ref) (v_bin (v_var rfl nh_ref) (v_var (t := natT i) rfl nh_int) (nIx_l (ex _ _ g2) (getD_map (d := 0) (by omega)))) (nIx_l (ex _ _ g1) (getD_map (d := 0) (by have := mlt i; omega)))) (fun i hi => ⟨rfl, rfl⟩)
  have el : (List.range n).map (fun i => natT (es.getD (mk.getD i 0) 0)) = ((List.range n).map fun k => es.getD (mk.getD k 0) 0).map natT := by rw [List.map_map]; rfl
  rw [el] at lc
  have ret := v_tup (v_cons (v_var (i := 1) (e := [.ref s, natT b, natT t, natT n, t4, .tup (rows.map rowT), .ref A.length, t7, .ref X.length, .hole]) (t := natT b) (S := Y) rfl nh_int) (v_cons (v_var (i := 2) (t := natT t) rfl nh_int) (v_cons (v_var (i := 5) rfl nh_tup) (v_cons (v_callF (v_cons lc v_nil) (tup_at ix_new)) v_nil)))) rfl four_line
  have gd := dwM_good hb ht (by omega) r1 r2 ⟨q2, q3⟩
  refine ⟨dwM b t rows n es, c2, gd, rfl, rfl, r1, by omega, ?_⟩
  rw [hdw]
  rw [hY, List.append_assoc] at ret
  exact runD_ok rfl (v_seq a1 (v_seq a2 (v_seq a3 (v_seq a4 (v_ret (by rw [hY]; exact ret)))))) rfl (fin_val drS_len (cl_len (d.cl cl) drS_len) (mc_low (m := ⟨b, t, rows, (List.range n).map fun k => es.getD (mk.getD k 0) 0⟩)))
theorem machine_ok {S : Store} {s nu c b t : Nat} {nums : List Int} (d : Dr S s nu nums c) (cl : Cl S) (hb : 2 ≤ b ∧ b ≤ 10) (ht : 1 ≤ t ∧ t ≤ 3) (hc : c + 3000000 < 1000000000) : ∃ (m : Mc) (c' : Nat), Gd m (b ^ t) ∧ m.b = b ∧ m.t = t ∧ m.mv.length ≤ 6 ∧ c' ≤ c + 30000 ∧
    F__law_machine [.ref s, natT b, natT t] S = .ok m.T (drS S s nu c') := by
  have e0 : S = drS S s nu c ++ [] := by rw [drS_self d, List.append_nil]
  obtain ⟨v1, h1, h2⟩ := next_at (j := [.lst [natT 3, natT 6]]) (c := c) (many := 2) d (by omega) (by omega)
  have hq : ∃ q : Nat, 0 < q ∧ q ≤ 6 ∧ [natT 3, natT 6][v1]? = some (natT q) := by
    obtain rfl | rfl : v1 = 0 ∨ v1 = 1 := by omega
    · exact ⟨3, by omega, by omega, rfl⟩
    · exact ⟨6, by omega, by omega, rfl⟩
  obtain ⟨q, q0, q6, hq⟩ := hq
  obtain ⟨v2, h3, h4⟩ := next_at (j := [.lst [natT 3, natT 6]]) (c := c + 1) (many := (q : Int)) d (by omega) (by omega)
  have hS : ∀ c', drS S s nu c' ++ [O.lst [natT 3, natT 6]] = drS (S ++ [.lst [natT 3, natT 6]]) s nu c' := fun c' => (drS_app d.lt.1).symm
  have lenA : (S ++ [O.lst [natT 3, natT 6]])[S.length]? = some (.lst [natT 3, natT 6]) := ix_new
  have g1 : (drS S s nu (c + 1) ++ [O.lst [natT 3, natT 6]])[S.length]? = some (.lst [natT 3, natT 6]) := at_mid drS_len.symm
  have a1 : dLst (dCons (dLit (.int 3)) (dCons (dLit (.int 6)) dNil)) [.ref s, natT b, natT t] S = .ok (.ref S.length) (drS S s nu c ++ [.lst [natT 3, natT 6]]) := by
    rw [drS_self d]
    exact v_lst (v_cons v_lit (v_cons v_lit v_nil)) rfl two_line
  have a2 := v_bin a1 (v_next (i := 0) rfl v_lit h2) (nIx_l g1 hq)
  have a3 : dCall F__law_next (dCons (dVar 0) (dCons (dBin nIx (dLst (dCons (dLit (.int 3)) (dCons (dLit (.int 6)) dNil))) (dCall F__law_next (dCons (dVar 0) (dCons (dLit (.int 2)) dNil)))) dNil)) [.ref s, natT b, natT t] S = .ok (natT v2) (drS S s nu (c + 1 + 1) ++ [.lst [natT 3, natT 6]]) :=
    v_call (v_cons (v_var rfl nh_ref) (v_cons a2 v_nil)) rfl h4
  have a4 : dBin nAdd (dLit (.int 1)) (dCall F__law_next (dCons (dVar 0) (dCons (dBin nIx (dLst (dCons (dLit (.int 3)) (dCons (dLit (.int 6)) dNil))) (dCall F__law_next (dCons (dVar 0) (dCons (dLit (.int 2)) dNil)))) dNil))) [.ref s, natT b, natT t] S = .ok (natT (1 + v2)) (drS S s nu (c + 1 + 1) ++ [.lst [natT 3, natT 6]]) := by
    refine v_bin v_lit a3 ?_
    show DD.R.ok (T.int (1 + (v2 : Int))) _ = _
    have : (1 + (v2 : Int)) = ((1 + v2 : Nat) : Int) := by omega
    rw [this]
    rfl
  have d2 := dr_here (c' := c + 1 + 1) d (by omega) [.lst [natT 3, natT 6]]
  have cl2 : Cl (drS S s nu (c + 1 + 1) ++ [.lst [natT 3, natT 6]]) := cl_snoc (d.cl cl) (low_nats (l := [3, 6]))
  obtain ⟨m, c', k1, k2, k3, k4, k5, k6⟩ := drawn_ok (n := 1 + v2) d2 cl2 hb ht (by omega) (by omega)
  rw [drS_app (by rw [drS_len]; exact d.lt.1), drS_drS] at k6
  refine ⟨m, c', k1, k2, k3, by omega, by omega, runD_ok rfl (v_ret (v_call (v_cons (v_var rfl nh_ref) (v_cons (v_var (t := natT b) rfl nh_int) (v_cons (v_var (t := natT t) rfl nh_int) (v_cons a4 v_nil)))) rfl k6)) rfl (fin_val drS_len (cl_len (d.cl cl) drS_len) mc_low)⟩
end K02
set_option Elab.async false
set_option linter.all false
set_option maxRecDepth 100000
set_option maxHeartbeats 4000000
namespace K02
open PySem PySem.Spec PyProof.Rows L2 DD
def codeP (p : Int × Int) : Nat := p.1.toNat * 6 + p.2.toNat
/-- pairs of states that have been met -/
structure MetL (a b : Nat) (L : List (Int × Int)) : Prop where
  nd : (L.map codeP).Nodup
  inn : ∀ p ∈ L, inR p.1 a = true ∧ inR p.2 b = true
theorem MetL.le {a b L} (h : MetL a b L) (ha : a ≤ 6) (hb : b ≤ 6) : L.length ≤ 36 := by
  have := nodup_le (l' := List.range 36) h.nd fun x hx => by
    obtain ⟨p, hp, e⟩ := List.mem_map.mp hx
    obtain ⟨h1, h2⟩ := h.inn p hp
    simp only [inR, Bool.and_eq_true, decide_eq_true_eq] at h1 h2
    unfold codeP at e
    rw [List.mem_range]
    omega
  rwa [List.length_map, List.length_range] at this
theorem MetL.add {a b L} {q : Int × Int} (h : MetL a b L) (ha : a ≤ 6) (hb : b ≤ 6) (h1 : inR q.1 a = true) (h2 : inR q.2 b = true) (hq : q ∉ L) : MetL a b (L ++ [q]) := by
  refine ⟨?_, fun p hp => ?_⟩
  · rw [List.map_append, List.map_singleton]
    refine List.nodup_append.mpr ⟨h.nd, by simp, ?_⟩
    intro x hx y hy z
    rw [List.mem_singleton] at hy
    subst hy z
    obtain ⟨p, hp, e⟩ := List.mem_map.mp hx
    obtain ⟨g1, g2⟩ := h.inn p hp
    simp only [inR, Bool.and_eq_true, decide_eq_true_eq] at h1 h2 g1 g2
    unfold codeP at e
    refine hq ?_
    have : p = q := Prod.ext (by omega) (by omega)
    rw [← this]; exact hp
  · rcases List.mem_append.mp hp with z | z
    · exact h.inn p z
    · rw [List.mem_singleton] at z; rw [z]; exact ⟨h1, h2⟩
theorem mem_lst {S : Store} {n : Nat} {q : Int × Int} {ps : List (Int × Int)} {neg : Bool} (h : S[n]? = some (.lst (ps.map pairT))) : nIn neg (pairT q) (.ref n) S = .ok (.bl (decide (q ∈ ps) ^^ neg)) S := by
  show (match S[n]? with
    | some (.dct kvs) => _
    | some (.dtp kvs) => _
    | some (.lst xs) => _
    | some (.frl xs) => _
    | _ => _) = _
  rw [h]
  exact mem_pairs
theorem snoc_pair {L : List (Int × Int)} {q : Int × Int} : L.map pairT ++ [pairT q] = (L ++ [q]).map pairT := by simp
abbrev metBody : DS := (dSeq (dAsg (dTup (dCons (dBin nIx (dBin nIx (dBin nIx (dVar 0) (dLit (.int 2))) (dVar 4)) (dVar 6)) (dCons (dBin nIx (dBin nIx (dBin nIx (dVar 1) (dLit (.int 2))) (dVar 5)) (dVar 6)) dNil))) (gNam 7)) (dIf (dBin (nIn true) (dVar 7) (dVar 2)) (dExpr (dMeth isL nApp (dVar 2) (dCons (dVar 7) dNil))) dSkip))
theorem inR_nat {x n : Nat} (h : x < n) : inR (x : Int) n = true := by
  simp only [inR, Bool.and_eq_true, decide_eq_true_eq]
  omega
theorem inR_row {m : Mc} {w : Nat} (g : Gd m w) {x : Int} (h : inR x m.mv.length = true) {j : Nat} (hj : j < w) : (m.mv.getD x.toNat []).getD j 0 < m.mv.length := by
  simp only [inR, Bool.and_eq_true, decide_eq_true_eq] at h
  exact g.r _ (by omega) j hj
theorem met_step {m o : Mc} {w j : Nat} {A : Store} {L : List (Int × Int)} {p : Int × Int} {t3 t7 : T} (gm : Gd m w) (go : Gd o w) (hm : m.mv.length ≤ 6) (ho : o.mv.length ≤ 6) (h : MetL m.mv.length o.mv.length L) (h1 : inR p.1 m.mv.length = true) (h2 : inR p.2 o.mv.length = true) (hj : j < w) :
    ∃ L', MetL m.mv.length o.mv.length L' ∧ (∃ g, L' = L ++ g) ∧ ∃ t7', metBody [m.T, o.T, .ref A.length, t3, .int p.1, .int p.2, natT j, t7] (A ++ [.lst (L.map pairT)]) = .nx [m.T, o.T, .ref A.length, t3, .int p.1, .int p.2, natT j, t7'] (A ++ [.lst (L'.map pairT)]) := by
  have g : ∀ (r : List Nat), r.length = w → nIx (rowT r) (natT j) (A ++ [.lst (L.map pairT)]) = .ok (natT (r.getD j 0)) (A ++ [.lst (L.map pairT)]) := fun r hr => nIx_t (getD_map (by omega))
  have a1 := v_bin (v_row (m := m) (S := A ++ [.lst (L.map pairT)]) (e := [m.T, o.T, .ref A.length, t3, .int p.1, .int p.2, natT j, t7]) (i := 0) (j := 4) rfl rfl h1) (v_var (i := 6) (t := natT j) rfl nh_int) (g (m.mv.getD p.1.toNat []) (gm.row h1))
  have a2 := v_bin (v_row (m := o) (S := A ++ [.lst (L.map pairT)]) (e := [m.T, o.T, .ref A.length, t3, .int p.1, .int p.2, natT j, t7]) (i := 1) (j := 5) rfl rfl h2) (v_var (i := 6) (t := natT j) rfl nh_int) (g (o.mv.getD p.2.toNat []) (go.row h2))
  have a3 := v_asg (i := 7) (v_tup (v_cons a1 (v_cons a2 v_nil)) rfl two_line) (show 7 < 8 by decide)
  have i1 := inR_nat (inR_row gm h1 hj)
  have i2 := inR_nat (inR_row go h2 hj)
  have c1 := mem_lst (q := nxtP m o p j) (neg := true) (ix_new (S := A) (x := .lst (L.map pairT)))
  rw [Bool.xor_true] at c1
  have c2 : dBin (nIn true) (dVar 7) (dVar 2) [m.T, o.T, .ref A.length, t3, .int p.1, .int p.2, natT j, pairT (nxtP m o p j)] (A ++ [.lst (L.map pairT)]) = _ := v_bin (v_var (t := pairT (nxtP m o p j)) rfl nh_pair) (v_var rfl nh_ref) c1
  by_cases c : nxtP m o p j ∈ L
  · rw [decide_eq_true c] at c2
    exact ⟨L, h, ⟨[], by simp⟩, pairT (nxtP m o p j), v_seq a3 (v_ifF c2 rfl)⟩
  · rw [decide_eq_false c] at c2
    have ap := nApp_l (t := pairT (nxtP m o p j)) (ix_new (S := A) (x := .lst (L.map pairT))) rfl (by rw [List.length_map]; have := h.le hm ho; unfold LINE; omega)
    rw [set_last, snoc_pair] at ap
    exact ⟨L ++ [nxtP m o p j], h.add hm ho i1 i2 c, ⟨_, rfl⟩, pairT (nxtP m o p j), v_seq a3 (v_ifT c2 (v_expr (v_meth (v_var rfl nh_ref) (isL_l ix_new) (v_cons (v_var (t := pairT (nxtP m o p j)) rfl nh_pair) v_nil) ap)))⟩
theorem met_row {m o : Mc} {w : Nat} {A : Store} {L : List (Int × Int)} {p : Int × Int} {t3 t6 t7 : T} (gm : Gd m w) (go : Gd o w) (hm : m.mv.length ≤ 6) (ho : o.mv.length ≤ 6) (h : MetL m.mv.length o.mv.length L) (h1 : inR p.1 m.mv.length = true) (h2 : inR p.2 o.mv.length = true) :
    ∃ L', MetL m.mv.length o.mv.length L' ∧ (∃ g, L' = L ++ g) ∧ ∃ t6' t7', dFor (dRng1 (dCons (dCallF nLenA (dCons (dBin nIx (dBin nIx (dVar 0) (dLit (.int 2))) (dVar 4)) dNil)) dNil)) (gNam 6) metBody [m.T, o.T, .ref A.length, t3, .int p.1, .int p.2, t6, t7] (A ++ [.lst (L.map pairT)]) = .nx [m.T, o.T, .ref A.length, t3, .int p.1, .int p.2, t6', t7'] (A ++ [.lst (L'.map pairT)]) := by
  have hw := gm.ws
  have hd : dRng1 (dCons (dCallF nLenA (dCons (dBin nIx (dBin nIx (dVar 0) (dLit (.int 2))) (dVar 4)) dNil)) dNil) [m.T, o.T, .ref A.length, t3, .int p.1, .int p.2, t6, t7] (A ++ [.lst (L.map pairT)]) = .ok (iRng 0 1 w) (A ++ [.lst (L.map pairT)]) := by
    refine v_rng1 (v_cons (v_callF (v_cons (v_row (i := 0) (j := 4) rfl rfl h1) v_nil) ?_) v_nil) (by unfold LINE; omega)
    have := nLen_t (ts := (m.mv.getD p.1.toNat []).map natT) (S := A ++ [.lst (L.map pairT)])
    rw [List.length_map, gm.row h1] at this
    exact this
  have key := forL_inv (it := iRng 0 1 w) (g := gNam 6) (b := metBody)
    (P := fun i e S' => ∃ L' t6' t7', MetL m.mv.length o.mv.length L' ∧ (∃ g, L' = L ++ g) ∧ e = [m.T, o.T, .ref A.length, t3, .int p.1, .int p.2, t6', t7'] ∧ S' = A ++ [.lst (L'.map pairT)])
    (Z := fun r => ∃ L', MetL m.mv.length o.mv.length L' ∧ (∃ g, L' = L ++ g) ∧ ∃ t6' t7', r = .nx [m.T, o.T, .ref A.length, t3, .int p.1, .int p.2, t6', t7'] (A ++ [.lst (L'.map pairT)])) w ?_ ?_ FUEL 0 _ _ ⟨L, t6, t7, h, ⟨[], by simp⟩, rfl, rfl⟩ (Nat.zero_le _) (fuel_ok (by unfold LINE; omega))
  · obtain ⟨L', q1, q2, t6', t7', q3⟩ := key
    exact ⟨L', q1, q2, t6', t7', v_for hd q3⟩
  · rintro i e S' hi ⟨L', t6', t7', q1, ⟨g, rfl⟩, rfl, rfl⟩
    obtain ⟨L2, r1, ⟨g2, rfl⟩, u7, r3⟩ := met_step (A := A) (j := i) (t3 := t3) (t7 := t7') gm go hm ho q1 h1 h2 hi
    refine ⟨natT i, by rw [rng_item hi, Int.zero_add]; rfl, .inl ⟨_, _, ?_, _, natT i, u7, r1, ⟨g ++ g2, by simp⟩, rfl, rfl⟩⟩
    rw [g_nam (show 6 < 8 by decide)]
    simp only [List.set_cons_succ, List.set_cons_zero]
    exact r3
  · rintro e S' ⟨L', t6', t7', q1, q2, rfl, rfl⟩
    exact ⟨rng_stop, L', q1, q2, t6', t7', rfl⟩
theorem met_ok {m o : Mc} {w : Nat} {S : Store} (gm : Gd m w) (go : Gd o w) (hm : m.mv.length ≤ 6) (ho : o.mv.length ≤ 6) (cl : Cl S) : ∃ ps : List (Int × Int), ps.length ≤ 36 ∧ F__law_met [m.T, o.T] S = .ok (.tup (ps.map pairT)) S := by
  have nm := gm.n
  have no := go.n
  have a1 : dAsg (dLst (dCons (dTup (dCons (dLit (.int 0)) (dCons (dLit (.int 0)) dNil))) dNil)) (gNam 2) [m.T, o.T, .hole, .hole, .hole, .hole, .hole, .hole] S = .nx [m.T, o.T, .ref S.length, .hole, .hole, .hole, .hole, .hole] (S ++ [.lst ([(0, 0)].map pairT)]) :=
    v_asg (v_lst (v_cons (v_tup (v_cons v_lit (v_cons v_lit v_nil)) rfl two_line) v_nil) rfl (by show 1 ≤ LINE; unfold LINE; decide)) (show 2 < 8 by decide)
  have i0 : MetL m.mv.length o.mv.length [(0, 0)] := ⟨by simp, fun p hp => by
    rw [List.mem_singleton] at hp
    subst hp
    exact ⟨inR_nat (x := 0) (by omega), inR_nat (x := 0) (by omega)⟩⟩
  have hd : dRng1 (dCons (dLit (.int 400)) dNil) [m.T, o.T, .ref S.length, .hole, .hole, .hole, .hole, .hole] (S ++ [.lst ([(0, 0)].map pairT)]) = .ok (iRng 0 1 400) (S ++ [.lst ([(0, 0)].map pairT)]) := v_rng1 (j := 400) (v_cons v_lit v_nil) (by unfold LINE; omega)
  have key := forL_inv (it := iRng 0 1 400) (g := gNam 3) (b := (dIf (dBin nLt (dVar 3) (dCallF nLenA (dCons (dVar 2) dNil))) (dSeq (dAsg (dBin nIx (dVar 2) (dVar 3)) (gTupD 2 (gConsD (gNam 4) (gConsD (gNam 5) gNilD)))) (dFor (dRng1 (dCons (dCallF nLenA (dCons (dBin nIx (dBin nIx (dVar 0) (dLit (.int 2))) (dVar 4)) dNil)) dNil)) (gNam 6) metBody)) dSkip))
    (P := fun i e S' => ∃ L t3 t4 t5 t6 t7, MetL m.mv.length o.mv.length L ∧ e = [m.T, o.T, .ref S.length, t3, t4, t5, t6, t7] ∧ S' = S ++ [.lst (L.map pairT)])
    (Z := fun r => ∃ L t3 t4 t5 t6 t7, MetL m.mv.length o.mv.length L ∧ r = .nx [m.T, o.T, .ref S.length, t3, t4, t5, t6, t7] (S ++ [.lst (L.map pairT)])) 400 ?_ ?_ FUEL 0 _ _ ⟨[(0, 0)], .hole, .hole, .hole, .hole, .hole, i0, rfl, rfl⟩ (Nat.zero_le _) (fuel_ok (by unfold LINE; omega))
  · obtain ⟨L, t3, t4, t5, t6, t7, q1, q2⟩ := key
    have hl := q1.le hm ho
    have so : nSorted [.ref S.length] (S ++ [.lst (L.map pairT)]) = .ok (.ref (S ++ [O.lst (L.map pairT)]).length) (S ++ [.lst (L.map pairT)] ++ [.lst ((srtP L).map pairT)]) := by
      show (match lstAt (S ++ [O.lst (L.map pairT)]) S.length with
        | some xs => (match pairsT xs with
          | some ps => if xs.length ≤ LINE then newO (.lst ((srtP ps).map pairT)) (S ++ [O.lst (L.map pairT)]) else DD.R.bad
          | none => DD.R.bad)
        | none => DD.R.bad) = _
      rw [lstAt_l ix_new]
      show (match pairsT (L.map pairT) with
          | some ps => if (L.map pairT).length ≤ LINE then newO (.lst ((srtP ps).map pairT)) (S ++ [O.lst (L.map pairT)]) else DD.R.bad
          | none => DD.R.bad) = _
      rw [pairsT_map]
      show (if (L.map pairT).length ≤ LINE then _ else _) = _
      rw [if_pos (by rw [List.length_map]; unfold LINE; omega)]
      rfl
    refine ⟨srtP L, by rw [(srtP_perm L).length_eq]; exact hl, runD_ok rfl (v_seq a1 (v_seq (v_for hd q2) (v_ret (v_callF (v_cons (v_callF (v_cons (v_var rfl nh_ref) v_nil) so) v_nil) (tup_at ix_new))))) rfl ?_⟩
    rw [List.append_assoc]
    exact fin_val rfl cl (lows_iff.mpr fun t ht => by
      obtain ⟨k, _, e⟩ := List.mem_map.mp ht
      rw [← e]
      rfl)
  · rintro i e S' hi ⟨L, t3, t4, t5, t6, t7, q1, rfl, rfl⟩
    refine ⟨natT i, by rw [rng_item hi, Int.zero_add]; rfl, .inl ?_⟩
    rw [g_nam (show 3 < 8 by decide)]
    simp only [List.set_cons_succ, List.set_cons_zero]
    have g1 : (S ++ [O.lst (L.map pairT)])[S.length]? = some (.lst (L.map pairT)) := ix_new
    have c1 : dBin nLt (dVar 3) (dCallF nLenA (dCons (dVar 2) dNil)) [m.T, o.T, .ref S.length, natT i, t4, t5, t6, t7] (S ++ [.lst (L.map pairT)]) = .ok (.bl (decide (i < L.length))) (S ++ [.lst (L.map pairT)]) := by
      have hl2 := nLen_l g1
      rw [List.length_map] at hl2
      have := v_bin (f := nLt) (v_var (i := 3) (e := [m.T, o.T, .ref S.length, natT i, t4, t5, t6, t7]) (t := natT i) (S := S ++ [.lst (L.map pairT)]) rfl nh_int) (v_callF (v_cons (v_var (i := 2) rfl nh_ref) v_nil) hl2) nLt_i
      have q : decide (((i : Nat) : Int) < ((L.length : Nat) : Int)) = decide (i < L.length) := by rw [decide_eq_decide]; omega
      rw [q] at this
      exact this
    by_cases c : i < L.length
    · rw [decide_eq_true c] at c1
      have hm2 : L[i] ∈ L := List.getElem_mem c
      obtain ⟨h1, h2⟩ := q1.inn _ hm2
      have a2 : dAsg (dBin nIx (dVar 2) (dVar 3)) (gTupD 2 (gConsD (gNam 4) (gConsD (gNam 5) gNilD))) [m.T, o.T, .ref S.length, natT i, t4, t5, t6, t7] (S ++ [.lst (L.map pairT)]) = .nx [m.T, o.T, .ref S.length, natT i, .int L[i].1, .int L[i].2, t6, t7] (S ++ [.lst (L.map pairT)]) :=
        v_asgT (t := pairT L[i]) (v_bin (v_var rfl nh_ref) (v_var (t := natT i) rfl nh_int) (nIx_l g1 (by simp [c]))) (g_two (show (4 : Nat) < 8 by decide) (show (5 : Nat) < 8 by decide))
      obtain ⟨L', r1, r2, u6, u7, r3⟩ := met_row (A := S) (t3 := natT i) (t6 := t6) (t7 := t7) gm go hm ho q1 h1 h2
      exact ⟨_, _, v_ifT c1 (v_seq a2 r3), L', natT i, _, _, u6, u7, r1, rfl, rfl⟩
    · rw [decide_eq_false c] at c1
      exact ⟨_, _, v_ifF c1 rfl, L, natT i, t4, t5, t6, t7, q1, rfl, rfl⟩
  · rintro e S' ⟨L, t3, t4, t5, t6, t7, q1, rfl, rfl⟩
    exact ⟨rng_stop, L, t3, t4, t5, t6, t7, q1, rfl⟩
end K02
set_option Elab.async false
set_option linter.all false
set_option maxRecDepth 100000
set_option maxHeartbeats 4000000
namespace K02
open PySem PySem.Spec PyProof.Rows L2 DD
theorem v_slcL {f : T → Option Int → Option Int → Store → DD.R T} {a h : DE} {e : EnvT} {S : Store} {t : T} {k : Int} {r : DD.R T} (h1 : a e S = .ok t S) (h2 : h e S = .ok (.int k) S) (h3 : f t (some k) none S = r) : dSlc f a (some h) none e S = r := by
  simp only [dSlc, h1, R.bind, dPart, h2]
  exact h3
theorem cut_take {α : Type} {xs : List α} {k : Nat} : cutT xs none (some (k : Int)) = xs.take k := by
  unfold cutT
  have e1 : HT.sIx xs.length 0 none = 0 := rfl
  rw [e1, HT.sIx_nat, List.drop_zero, Nat.sub_zero]
  by_cases h : k ≤ xs.length
  · rw [Nat.min_eq_left h]
  · rw [Nat.min_eq_right (by omega), List.take_length, List.take_of_length_le (by omega)]
theorem cut_drop {α : Type} {xs : List α} {k : Nat} : cutT xs (some (k : Int)) none = xs.drop k := by
  unfold cutT
  have e1 : HT.sIx xs.length xs.length none = xs.length := rfl
  rw [e1, HT.sIx_nat]
  by_cases h : k ≤ xs.length
  · rw [Nat.min_eq_left h, List.take_of_length_le (by rw [List.length_drop]; omega)]
  · rw [Nat.min_eq_right (by omega), List.drop_eq_nil_of_le (Nat.le_refl _), List.drop_eq_nil_of_le (by omega), List.take_nil]
theorem slc_take {S : Store} {ps : List (Int × Int)} {k : Nat} : nSlc (.tup (ps.map pairT)) none (some (k : Int)) S = .ok (.tup ((ps.take k).map pairT)) S := by
  show DD.R.ok (T.tup (cutT (ps.map pairT) none (some (k : Int)))) S = _
  rw [cut_take, List.map_take]
theorem slc_drop {S : Store} {ps : List (Int × Int)} {k : Nat} : nSlc (.tup (ps.map pairT)) (some (k : Int)) none S = .ok (.tup ((ps.drop k).map pairT)) S := by
  show DD.R.ok (T.tup (cutT (ps.map pairT) (some (k : Int)) none)) S = _
  rw [cut_drop, List.map_drop]
theorem add_pairs {S : Store} {ps qs : List (Int × Int)} (h : ps.length + qs.length < 10000) : nAdd (.tup (ps.map pairT)) (.tup (qs.map pairT)) S = .ok (.tup ((ps ++ qs).map pairT)) S := by
  show (if (ps.map pairT).length + (qs.map pairT).length ≤ LINE then DD.R.ok (T.tup (ps.map pairT ++ qs.map pairT)) S else DD.R.bad) = _
  rw [if_pos (by rw [List.length_map, List.length_map]; unfold LINE; omega), List.map_append]
theorem len_mac {m : Mc} {S : Store} {e : EnvT} {i : Nat} (h : e[i]? = some m.T) : dCallF nLenA (dCons (dBin nIx (dVar i) (dLit (.int 2))) dNil) e S = .ok (natT m.mv.length) S := by
  refine v_callF (v_cons (v_bin (v_var (t := m.T) h nh_tup) v_lit mac_mv) v_nil) ?_
  have := nLen_t (ts := m.mv.map rowT) (S := S)
  rw [List.length_map] at this
  exact this
def pT (ps : List (Int × Int)) : T := .tup (ps.map pairT)
theorem nh_pT {ps : List (Int × Int)} : pT ps ≠ .hole := by unfold pT; intro z; cases z
theorem low_pT {ps : List (Int × Int)} {n : Nat} : (pT ps).low n = true := lows_iff.mpr fun t ht => by
  obtain ⟨k, _, e⟩ := List.mem_map.mp ht
  rw [← e]
  rfl
theorem low_pTs {l : List (List (Int × Int))} {n : Nat} : O.low n (.lst (l.map pT)) = true := lows_iff.mpr fun t ht => by
  obtain ⟨k, _, e⟩ := List.mem_map.mp ht
  rw [← e]
  exact low_pT
theorem low_pairs {l : List (Int × Int)} {n : Nat} : O.low n (.lst (l.map pairT)) = true := lows_iff.mpr fun t ht => by
  obtain ⟨k, _, e⟩ := List.mem_map.mp ht
  rw [← e]
  rfl
theorem getD_all {α : Type} {P : α → Prop} {d : α} {l : List α} {i : Nat} (h : ∀ x ∈ l, P x) (hi : i < l.length) : P (l.getD i d) := by
  rw [List.getD_eq_getElem?_getD, List.getElem?_eq_getElem hi]
  exact h _ (List.getElem_mem hi)
theorem set_3 {A : Store} {x y j k : O} : (A ++ [x] ++ [j] ++ [k]).set A.length y = A ++ y :: [j, k] := by
  have h := set_mid (a := A) (b := [j, k]) (x := x) (y := y) (n := A.length) rfl
  rw [← h]
  simp
theorem bent_ok {m o : Mc} {w : Nat} {S : Store} {s nu c : Nat} {nums : List Int} {ps : List (Int × Int)} (d : Dr S s nu nums c) (cl : Cl S) (gm : Gd m w) (go : Gd o w) (hp : ps.length < 60) (hc : c + 100 < 1000000000) :
    ∃ (qs : List (Int × Int)) (c' : Nat), qs.length < 62 ∧ c' ≤ c + 10 ∧ F__law_bent [.ref s, m.T, o.T, pT ps] S = .ok (pT qs) (drS S s nu c') := by
  have hlen : ∀ (e : EnvT) (S : Store), e[3]? = some (pT ps) → dCallF nLenA (dCons (dVar 3) dNil) e S = .ok (natT ps.length) S := fun e S he => by
    refine v_callF (v_cons (v_var (t := pT ps) he nh_pT) v_nil) ?_
    have := nLen_t (ts := ps.map pairT) (S := S)
    rw [List.length_map] at this
    exact this
  have t1 : dBin nEq (dCallF nLenA (dCons (dVar 3) dNil)) (dLit (.int 0)) [.ref s, m.T, o.T, pT ps, .hole, .hole, .hole, .hole, .hole] S = .ok (.bl (decide (ps.length = 0))) S := by
    have := v_bin (f := nEq) (hlen [.ref s, m.T, o.T, pT ps, .hole, .hole, .hole, .hole, .hole] S rfl) v_lit (nEq_i (y := 0))
    have q : decide (((ps.length : Nat) : Int) = 0) = decide (ps.length = 0) := by rw [decide_eq_decide]; omega
    rw [q] at this
    exact this
  by_cases c0 : ps.length = 0
  · rw [decide_eq_true c0] at t1
    refine ⟨[(0, 0)], c, by decide, by omega, ?_⟩
    rw [drS_self d]
    have := fin_val (S0 := S) (junk := []) (n0 := S.length) (t := pT [(0, 0)]) rfl cl low_pT
    rw [List.append_nil] at this
    exact runD_ok rfl (v_seqR (v_ifT t1 (v_ret (v_tup (v_cons (v_tup (v_cons v_lit (v_cons v_lit v_nil)) rfl two_line) v_nil) rfl (by show 1 ≤ LINE; unfold LINE; decide))))) rfl this
  rw [decide_eq_false c0] at t1
  have nm := gm.n
  have no := go.n
  -- at
  obtain ⟨at', hat, e1⟩ := next_at (j := []) (c := c) (many := (ps.length : Int)) d (by omega) (by omega)
  have a1 : dAsg (dCall F__law_next (dCons (dVar 0) (dCons (dCallF nLenA (dCons (dVar 3) dNil)) dNil))) (gNam 4) [.ref s, m.T, o.T, pT ps, .hole, .hole, .hole, .hole, .hole] S = .nx [.ref s, m.T, o.T, pT ps, natT at', .hole, .hole, .hole, .hole] (drS S s nu (c + 1) ++ []) := by
    have := v_asg (i := 4) (v_next (i := 0) (e := [.ref s, m.T, o.T, pT ps, .hole, .hole, .hole, .hole, .hole]) rfl (hlen _ _ rfl) e1) (show 4 < 9 by decide)
    rw [drS_self d, List.append_nil] at this
    exact this
  -- pair
  obtain ⟨v1, hv1, e2⟩ := next_at (j := []) (c := c + 1) (many := (m.mv.length : Int)) d (by omega) (by omega)
  obtain ⟨v2, hv2, e3⟩ := next_at (j := []) (c := c + 2) (many := (o.mv.length : Int)) d (by omega) (by omega)
  obtain ⟨v3, hv3, e4⟩ := next_at (j := [.lst ([((v1 : Int), (v2 : Int)), ((m.mv.length : Int), 0), (0, (o.mv.length : Int)), (-1, 0)].map pairT)]) (c := c + 3) (many := 4) d (by omega) (by omega)
  have b1 : dLst (dCons (dTup (dCons (dCall F__law_next (dCons (dVar 0) (dCons (dCallF nLenA (dCons (dBin nIx (dVar 1) (dLit (.int 2))) dNil)) dNil))) (dCons (dCall F__law_next (dCons (dVar 0) (dCons (dCallF nLenA (dCons (dBin nIx (dVar 2) (dLit (.int 2))) dNil)) dNil))) dNil))) (dCons (dTup (dCons (dCallF nLenA (dCons (dBin nIx (dVar 1) (dLit (.int 2))) dNil)) (dCons (dLit (.int 0)) dNil))) (dCons (dTup (dCons (dLit (.int 0)) (dCons (dCallF nLenA (dCons (dBin nIx (dVar 2) (dLit (.int 2))) dNil)) dNil))) (dCons (dTup (dCons (dUn nNeg (dLit (.int 1))) (dCons (dLit (.int 0)) dNil))) dNil)))) [.ref s, m.T, o.T, pT ps, natT at', .hole, .hole, .hole, .hole] (drS S s nu (c + 1) ++ []) =
      .ok (.ref S.length) (drS S s nu (c + 3) ++ [.lst ([((v1 : Int), (v2 : Int)), ((m.mv.length : Int), 0), (0, (o.mv.length : Int)), (-1, 0)].map pairT)]) := by
    have := v_lst (v_cons (v_tup (v_cons (v_next (i := 0) (e := [.ref s, m.T, o.T, pT ps, natT at', .hole, .hole, .hole, .hole]) rfl (len_mac (i := 1) (m := m) rfl) e2) (v_cons (v_next (i := 0) rfl (len_mac (i := 2) (m := o) rfl) e3) v_nil)) rfl two_line) (v_cons (v_tup (v_cons (len_mac (i := 1) (m := m) rfl) (v_cons (v_lit (t := .int 0)) v_nil)) rfl two_line) (v_cons (v_tup (v_cons (v_lit (t := .int 0)) (v_cons (len_mac (i := 2) (m := o) rfl) v_nil)) rfl two_line) (v_cons (v_tup (v_cons (v_un (f := nNeg) (a := dLit (.int 1)) (r := .ok (.int (-1)) _) v_lit rfl) (v_cons (v_lit (t := .int 0)) v_nil)) rfl two_line) v_nil)))) rfl four_line
    simp only [List.append_nil, drS_len] at this ⊢
    exact this
  have g1 : (drS S s nu (c + 3 + 1) ++ [O.lst ([((v1 : Int), (v2 : Int)), ((m.mv.length : Int), 0), (0, (o.mv.length : Int)), (-1, 0)].map pairT)])[S.length]? = some (.lst ([((v1 : Int), (v2 : Int)), ((m.mv.length : Int), 0), (0, (o.mv.length : Int)), (-1, 0)].map pairT)) := at_mid drS_len.symm
  have cl1 : Cl (drS S s nu (c + 3 + 1) ++ [O.lst ([((v1 : Int), (v2 : Int)), ((m.mv.length : Int), 0), (0, (o.mv.length : Int)), (-1, 0)].map pairT)]) := cl_snoc (d.cl cl) low_pairs
  have hl4 : v3 < [((v1 : Int), (v2 : Int)), ((m.mv.length : Int), 0), (0, (o.mv.length : Int)), (-1, 0)].length := by show v3 < 4; omega
  have b2 := v_asg (i := 5) (v_bin b1 (v_next (i := 0) rfl v_lit e4) (nIx_l g1 (getD_map (d := (0, 0)) hl4))) (show 5 < 9 by decide)
  simp only [List.set_cons_succ, List.set_cons_zero] at b2
  generalize ([((v1 : Int), (v2 : Int)), ((m.mv.length : Int), 0), (0, (o.mv.length : Int)), (-1, 0)].getD v3 (0, 0)) = pr at b2
  generalize [O.lst ([((v1 : Int), (v2 : Int)), ((m.mv.length : Int), 0), (0, (o.mv.length : Int)), (-1, 0)].map pairT)] = j1 at b2 cl1
  -- bents
  have E5 : ∀ (S : Store) (t6 : T), dTup (dCons (dVar 5) dNil) [.ref s, m.T, o.T, pT ps, natT at', pairT pr, t6, .hole, .hole] S = .ok (pT [pr]) S := fun S t6 => v_tup (v_cons (v_var (t := pairT pr) rfl nh_pair) v_nil) rfl (by show 1 ≤ LINE; unfold LINE; decide)
  have T3 : ∀ (S : Store) (t6 : T), dVar 3 [.ref s, m.T, o.T, pT ps, natT at', pairT pr, t6, .hole, .hole] S = .ok (pT ps) S := fun S t6 => v_var rfl nh_pT
  have T4 : ∀ (S : Store) (t6 : T), dVar 4 [.ref s, m.T, o.T, pT ps, natT at', pairT pr, t6, .hole, .hole] S = .ok (natT at') S := fun S t6 => v_var rfl nh_int
  have T41 : ∀ (S : Store) (t6 : T), dBin nAdd (dVar 4) (dLit (.int 1)) [.ref s, m.T, o.T, pT ps, natT at', pairT pr, t6, .hole, .hole] S = .ok (natT (at' + 1)) S := fun S t6 => v_bin (T4 S t6) v_lit nAdd_i
  have U1 : ∀ (S : Store) (t6 : T), dSlc nSlc (dVar 3) none (some (dVar 4)) [.ref s, m.T, o.T, pT ps, natT at', pairT pr, t6, .hole, .hole] S = .ok (pT (ps.take at')) S := fun S t6 => v_slcU (T3 S t6) (T4 S t6) slc_take
  have U2 : ∀ (S : Store) (t6 : T), dSlc nSlc (dVar 3) (some (dBin nAdd (dVar 4) (dLit (.int 1)))) none [.ref s, m.T, o.T, pT ps, natT at', pairT pr, t6, .hole, .hole] S = .ok (pT (ps.drop (at' + 1))) S := fun S t6 => v_slcL (T3 S t6) (T41 S t6) slc_drop
  have U3 : ∀ (S : Store) (t6 : T), dSlc nSlc (dVar 3) none (some (dBin nAdd (dVar 4) (dLit (.int 1)))) [.ref s, m.T, o.T, pT ps, natT at', pairT pr, t6, .hole, .hole] S = .ok (pT (ps.take (at' + 1))) S := fun S t6 => v_slcU (T3 S t6) (T41 S t6) slc_take
  have U4 : ∀ (S : Store) (t6 : T), dSlc nSlc (dVar 3) (some (dVar 4)) none [.ref s, m.T, o.T, pT ps, natT at', pairT pr, t6, .hole, .hole] S = .ok (pT (ps.drop at')) S := fun S t6 => v_slcL (T3 S t6) (T4 S t6) slc_drop
  have lt : ∀ k, (ps.take k).length ≤ ps.length := fun k => by rw [List.length_take]; omega
  have ld : ∀ k, (ps.drop k).length ≤ ps.length := fun k => by rw [List.length_drop]; omega
  have lt' : ∀ k, (ps.take k).length ≤ k := fun k => by rw [List.length_take]; omega
  have ld' : ∀ k, (ps.drop k).length = ps.length - k := fun k => by rw [List.length_drop]
  have X2 : ∀ (A : Store), dCallF nTup (dCons (dCallF nSortSet (dCons (dBin nAdd (dVar 3) (dTup (dCons (dVar 5) dNil))) dNil)) dNil) [.ref s, m.T, o.T, pT ps, natT at', pairT pr, .hole, .hole, .hole] A = .ok (pT (srtP (dedP (ps ++ [pr])))) (A ++ [.lst ((srtP (dedP (ps ++ [pr]))).map pairT)]) := fun A =>
    v_callF (v_cons (v_callF (v_cons (v_bin (T3 A _) (E5 A _) (add_pairs (by rw [List.length_singleton]; omega))) v_nil) (sortSet_ok (by rw [List.length_append, List.length_singleton]; omega))) v_nil) (tup_at ix_new)
  have b3 : ∀ (A : Store), dAsg (dLst (dCons (dBin nAdd (dSlc nSlc (dVar 3) none (some (dVar 4))) (dSlc nSlc (dVar 3) (some (dBin nAdd (dVar 4) (dLit (.int 1)))) none)) (dCons (dCallF nTup (dCons (dCallF nSortSet (dCons (dBin nAdd (dVar 3) (dTup (dCons (dVar 5) dNil))) dNil)) dNil)) (dCons (dBin nAdd (dSlc nSlc (dVar 3) none (some (dBin nAdd (dVar 4) (dLit (.int 1))))) (dSlc nSlc (dVar 3) (some (dVar 4)) none)) (dCons (dUn nRev (dVar 3)) dNil))))) (gNam 6) [.ref s, m.T, o.T, pT ps, natT at', pairT pr, .hole, .hole, .hole] A =
      .nx [.ref s, m.T, o.T, pT ps, natT at', pairT pr, .ref (A.length + 1), .hole, .hole] (A ++ [.lst ((srtP (dedP (ps ++ [pr]))).map pairT)] ++ [.lst ([ps.take at' ++ ps.drop (at' + 1), srtP (dedP (ps ++ [pr])), ps.take (at' + 1) ++ ps.drop at', ps.reverse].map pT)]) := fun A => by
    have r4 : ∀ (B : Store), dUn nRev (dVar 3) [.ref s, m.T, o.T, pT ps, natT at', pairT pr, .hole, .hole, .hole] B = .ok (pT ps.reverse) B := fun B => v_un (T3 B _) (by
      show DD.R.ok (T.tup (ps.map pairT).reverse) B = _
      rw [← List.map_reverse]
      rfl)
    have := v_asg (i := 6) (v_lst (v_cons (v_bin (U1 A _) (U2 A _) (add_pairs (by have := lt at'; have := ld (at' + 1); omega))) (v_cons (X2 A) (v_cons (v_bin (U3 _ _) (U4 _ _) (add_pairs (by have := lt (at' + 1); have := ld at'; omega))) (v_cons (r4 _) v_nil)))) rfl four_line) (show 6 < 9 by decide)
    rw [List.length_append, List.length_singleton] at this
    exact this
  -- extend
  have Q : ∀ x ∈ ([ps.take at' ++ ps.drop (at' + 1), srtP (dedP (ps ++ [pr])), ps.take (at' + 1) ++ ps.drop at', ps.reverse] ++ [ps.map (fun p : Int × Int => (p.2, p.1)), ps.take at' ++ [pr] ++ ps.drop (at' + 1)] : List (List (Int × Int))), x.length < 62 := by
    have k1 := lt at'
    have k2 := ld (at' + 1)
    have k3 := lt (at' + 1)
    have k4 := ld at'
    have k5 := lt' at'
    have k6 := lt' (at' + 1)
    have k7 := ld' at'
    have k8 := ld' (at' + 1)
    have k9 : (srtP (dedP (ps ++ [pr]))).length ≤ ps.length + 1 := by
      rw [(srtP_perm _).length_eq]
      have := dedP_len (ps := ps ++ [pr])
      rwa [List.length_append, List.length_singleton] at this
    intro x hx
    simp only [List.cons_append, List.nil_append, List.mem_cons, List.not_mem_nil, or_false] at hx
    rcases hx with h | h | h | h | h | h
    · rw [h, List.length_append]; omega
    · rw [h]; omega
    · rw [h, List.length_append]; omega
    · rw [h, List.length_reverse]; omega
    · rw [h, List.length_map]; omega
    · rw [h, List.length_append, List.length_append, List.length_singleton]; omega
  have b3 := b3 (drS S s nu (c + 3 + 1) ++ j1)
  have cl2 : Cl (drS S s nu (c + 3 + 1) ++ j1 ++ [O.lst ((srtP (dedP (ps ++ [pr]))).map pairT)]) := cl_snoc cl1 low_pairs
  have hA : drS S s nu (c + 3 + 1) ++ j1 ++ [O.lst ((srtP (dedP (ps ++ [pr]))).map pairT)] = drS S s nu (c + 3 + 1) ++ (j1 ++ [O.lst ((srtP (dedP (ps ++ [pr]))).map pairT)]) := by simp
  have hAl : (drS S s nu (c + 3 + 1) ++ j1).length + 1 = (drS S s nu (c + 3 + 1) ++ j1 ++ [O.lst ((srtP (dedP (ps ++ [pr]))).map pairT)]).length := by rw [List.length_append (as := drS S s nu (c + 3 + 1) ++ j1)]; rfl
  rw [hAl] at b3
  generalize drS S s nu (c + 3 + 1) ++ j1 ++ [O.lst ((srtP (dedP (ps ++ [pr]))).map pairT)] = A at b3 cl2 hA
  have hBl : [ps.take at' ++ ps.drop (at' + 1), srtP (dedP (ps ++ [pr])), ps.take (at' + 1) ++ ps.drop at', ps.reverse].length = 4 := rfl
  generalize [ps.take at' ++ ps.drop (at' + 1), srtP (dedP (ps ++ [pr])), ps.take (at' + 1) ++ ps.drop at', ps.reverse] = B at b3 Q hBl
  have cl3 : Cl (A ++ [.lst (B.map pT)]) := cl_snoc cl2 low_pTs
  have lc := lc_pure (own := [7, 8]) (di := dItT (dVar 3)) (g := gTupD 2 (gConsD (gNam 7) (gConsD (gNam 8) gNilD))) (te := dTup (dCons (dVar 8) (dCons (dVar 7) dNil))) (e := [.ref s, m.T, o.T, pT ps, natT at', pairT pr, .ref A.length, .hole, .hole]) (n := ps.length) (x := fun i => pairT (ps.getD i (0, 0))) (y := fun i => pairT ((ps.getD i (0, 0)).2, (ps.getD i (0, 0)).1))
    (E := fun i => [.ref s, m.T, o.T, pT ps, natT at', pairT pr, .ref A.length, .int (ps.getD i (0, 0)).1, .int (ps.getD i (0, 0)).2]) cl3 (v_itT (T3 _ _)) (by unfold LINE; omega)
    (fun i S' hi _ => by
      rw [ts_item (by rw [List.length_map]; exact hi)]
      simp [hi]) (fun S' _ => by
      have := ts_stop (ts := ps.map pairT) (S := S')
      rwa [List.length_map] at this) (fun i S' hi => rfl) (fun i S' hi ex => v_tup (v_cons (v_var rfl nh_int) (v_cons (v_var rfl nh_int) v_nil)) rfl two_line) (fun i hi => ⟨rfl, rfl⟩)
  have el : (List.range ps.length).map (fun i => pairT ((ps.getD i (0, 0)).2, (ps.getD i (0, 0)).1)) = (ps.map fun p : Int × Int => (p.2, p.1)).map pairT := by
    rw [List.map_map]
    refine List.ext_getElem (by simp) fun i h1 h2 => ?_
    simp at h1
    simp [h1]
  rw [el] at lc
  have x6 : ∀ (C : Store), dBin nAdd (dBin nAdd (dSlc nSlc (dVar 3) none (some (dVar 4))) (dTup (dCons (dVar 5) dNil))) (dSlc nSlc (dVar 3) (some (dBin nAdd (dVar 4) (dLit (.int 1)))) none) [.ref s, m.T, o.T, pT ps, natT at', pairT pr, .ref A.length, .hole, .hole] C = .ok (pT (ps.take at' ++ [pr] ++ ps.drop (at' + 1))) C := fun C =>
    v_bin (v_bin (U1 C _) (E5 C _) (add_pairs (by have := lt at'; rw [List.length_singleton]; omega))) (U2 C _) (add_pairs (by have := lt at'; have := ld (at' + 1); rw [List.length_append, List.length_singleton]; omega))
  have l6 := v_lst (v_cons (v_callF (v_cons lc v_nil) (tup_at ix_new)) (v_cons (x6 _) v_nil)) rfl two_line
  have gB : (A ++ [O.lst (B.map pT)] ++ [O.lst ((ps.map fun p : Int × Int => (p.2, p.1)).map pairT)] ++ [O.lst ([ps.map (fun p : Int × Int => (p.2, p.1)), ps.take at' ++ [pr] ++ ps.drop (at' + 1)].map pT)])[A.length]? = some (.lst (B.map pT)) := ix_app (ix_app ix_new)
  have gC : (A ++ [O.lst (B.map pT)] ++ [O.lst ((ps.map fun p : Int × Int => (p.2, p.1)).map pairT)] ++ [O.lst ([ps.map (fun p : Int × Int => (p.2, p.1)), ps.take at' ++ [pr] ++ ps.drop (at' + 1)].map pT)])[(A ++ [O.lst (B.map pT)] ++ [O.lst ((ps.map fun p : Int × Int => (p.2, p.1)).map pairT)]).length]? = some (O.lst ([ps.map (fun p : Int × Int => (p.2, p.1)), ps.take at' ++ [pr] ++ ps.drop (at' + 1)].map pT)) := ix_new
  have ext : nExt (.ref A.length) [.ref (A ++ [O.lst (B.map pT)] ++ [O.lst ((ps.map fun p : Int × Int => (p.2, p.1)).map pairT)]).length] (A ++ [O.lst (B.map pT)] ++ [O.lst ((ps.map fun p : Int × Int => (p.2, p.1)).map pairT)] ++ [O.lst ([ps.map (fun p : Int × Int => (p.2, p.1)), ps.take at' ++ [pr] ++ ps.drop (at' + 1)].map pT)]) = .ok .non (A ++ O.lst ((B ++ [ps.map (fun p : Int × Int => (p.2, p.1)), ps.take at' ++ [pr] ++ ps.drop (at' + 1)]).map pT) :: [O.lst ((ps.map fun p : Int × Int => (p.2, p.1)).map pairT), O.lst ([ps.map (fun p : Int × Int => (p.2, p.1)), ps.take at' ++ [pr] ++ ps.drop (at' + 1)].map pT)]) := by
    simp only [nExt, gB, gC]
    rw [if_pos (by rw [List.length_map, hBl]; show 4 + 2 ≤ LINE; unfold LINE; omega), set_3, ← List.map_append]
  have l6' := l6
  have b4 := v_expr (v_meth (cc := isL) (v_var (i := 6) (e := [.ref s, m.T, o.T, pT ps, natT at', pairT pr, .ref A.length, .hole, .hole]) (S := A ++ [.lst (B.map pT)]) rfl nh_ref) (isL_l ix_new) (v_cons l6 v_nil) ext)
  have hCl : (B ++ [ps.map (fun p : Int × Int => (p.2, p.1)), ps.take at' ++ [pr] ++ ps.drop (at' + 1)]).length = 6 := by rw [List.length_append, hBl]; rfl
  generalize [O.lst ((ps.map fun p : Int × Int => (p.2, p.1)).map pairT), O.lst ([ps.map (fun p : Int × Int => (p.2, p.1)), ps.take at' ++ [pr] ++ ps.drop (at' + 1)].map pT)] = J at b4
  generalize B ++ [ps.map (fun p : Int × Int => (p.2, p.1)), ps.take at' ++ [pr] ++ ps.drop (at' + 1)] = C at b4 Q hCl
  generalize j1 ++ [O.lst ((srtP (dedP (ps ++ [pr]))).map pairT)] = j2 at hA
  have hF : A ++ .lst (C.map pT) :: J = drS S s nu (c + 3 + 1) ++ (j2 ++ .lst (C.map pT) :: J) := by rw [hA, List.append_assoc]
  rw [hF] at b4
  obtain ⟨v4, hv4, e5⟩ := next_at (j := j2 ++ .lst (C.map pT) :: J ++ [.lst ([0, 0, 1, 1, 2, 3, 4, 5].map natT)]) (c := c + 3 + 1) (many := 8) d (by omega) (by omega)
  have l8 : dLst (dCons (dLit (.int 0)) (dCons (dLit (.int 0)) (dCons (dLit (.int 1)) (dCons (dLit (.int 1)) (dCons (dLit (.int 2)) (dCons (dLit (.int 3)) (dCons (dLit (.int 4)) (dCons (dLit (.int 5)) dNil)))))))) [.ref s, m.T, o.T, pT ps, natT at', pairT pr, .ref A.length, .hole, .hole] (drS S s nu (c + 3 + 1) ++ (j2 ++ .lst (C.map pT) :: J)) = .ok (.ref (drS S s nu (c + 3 + 1 + 1) ++ (j2 ++ .lst (C.map pT) :: J)).length) (drS S s nu (c + 3 + 1) ++ (j2 ++ .lst (C.map pT) :: J ++ [.lst ([0, 0, 1, 1, 2, 3, 4, 5].map natT)])) := by
    have := v_lst (e := [.ref s, m.T, o.T, pT ps, natT at', pairT pr, .ref A.length, .hole, .hole]) (S := drS S s nu (c + 3 + 1) ++ (j2 ++ .lst (C.map pT) :: J)) (v_cons (v_lit (t := natT 0)) (v_cons (v_lit (t := natT 0)) (v_cons (v_lit (t := natT 1)) (v_cons (v_lit (t := natT 1)) (v_cons (v_lit (t := natT 2)) (v_cons (v_lit (t := natT 3)) (v_cons (v_lit (t := natT 4)) (v_cons (v_lit (t := natT 5)) v_nil)))))))) rfl (by show 8 ≤ LINE; unfold LINE; decide)
    have hl : (drS S s nu (c + 3 + 1) ++ (j2 ++ .lst (C.map pT) :: J)).length = (drS S s nu (c + 3 + 1 + 1) ++ (j2 ++ .lst (C.map pT) :: J)).length := by simp only [List.length_append, drS_len]
    rw [hl, List.append_assoc (drS S s nu (c + 3 + 1))] at this
    exact this
  have g8 : (drS S s nu (c + 3 + 1 + 1) ++ (j2 ++ .lst (C.map pT) :: J ++ [O.lst ([0, 0, 1, 1, 2, 3, 4, 5].map natT)]))[(drS S s nu (c + 3 + 1 + 1) ++ (j2 ++ .lst (C.map pT) :: J)).length]? = some (.lst ([0, 0, 1, 1, 2, 3, 4, 5].map natT)) := by
    rw [← List.append_assoc (drS S s nu (c + 3 + 1 + 1))]; exact ix_new
  have h8 : v4 < [0, 0, 1, 1, 2, 3, 4, 5].length := by show v4 < 8; omega
  have k6 : [0, 0, 1, 1, 2, 3, 4, 5].getD v4 0 < C.length := by
    rw [hCl]
    exact getD_all (P := fun x => x < 6) (by decide) h8
  have x8 := v_bin l8 (v_next (i := 0) rfl v_lit e5) (nIx_l g8 (getD_map (d := 0) h8))
  have gA : (drS S s nu (c + 3 + 1 + 1) ++ (j2 ++ .lst (C.map pT) :: J ++ [O.lst ([0, 0, 1, 1, 2, 3, 4, 5].map natT)]))[A.length]? = some (.lst (C.map pT)) := by
    have e : drS S s nu (c + 3 + 1 + 1) ++ (j2 ++ .lst (C.map pT) :: J ++ [O.lst ([0, 0, 1, 1, 2, 3, 4, 5].map natT)]) = (drS S s nu (c + 3 + 1 + 1) ++ j2) ++ .lst (C.map pT) :: (J ++ [O.lst ([0, 0, 1, 1, 2, 3, 4, 5].map natT)]) := by simp
    rw [e]
    exact at_mid (by rw [hA]; simp only [List.length_append, drS_len])
  have ret := v_ret (v_bin (v_var (i := 6) rfl nh_ref) x8 (nIx_l gA (getD_map (d := []) k6)))
  refine ⟨C.getD ([0, 0, 1, 1, 2, 3, 4, 5].getD v4 0) [], c + 3 + 1 + 1, getD_all (P := fun x => x.length < 62) Q k6, by omega, ?_⟩
  exact runD_ok rfl (v_seq (v_ifF t1 rfl) (v_seq a1 (v_seq b2 (v_seq b3 (v_seq b4 ret))))) rfl (fin_val drS_len (cl_len (d.cl cl) drS_len) low_pT)
end K02
set_option Elab.async false
set_option linter.all false
set_option maxRecDepth 100000
set_option maxHeartbeats 4000000
namespace K02
open PySem PySem.Spec PyProof.Rows L2 DD
theorem one_line {x : T} : [x].length ≤ LINE := by
  show 1 ≤ LINE
  unfold LINE
  decide
theorem mul_tup {S : Store} {x : T} {k : Nat} (h : 2 ≤ k ∧ k ≤ 1000) : nMul (.tup [x]) (natT k) S = .ok (.tup (List.replicate k x)) S := by
  show (if decide ([x] ≠ []) && decide (2 ≤ (k : Int)) && decide ((k : Int) ≤ 1000) && decide ([x].length ≤ 1000) then DD.R.ok (T.tup (List.replicate (k : Int).toNat [x]).flatten) S else DD.R.bad) = _
  rw [if_pos (by
    have h1 : (2 : Int) ≤ (k : Int) := by omega
    have h2 : (k : Int) ≤ 1000 := by omega
    rw [decide_eq_true h1, decide_eq_true h2, decide_eq_true (show [x] ≠ [] from fun z => by cases z)]
    rfl), Int.toNat_natCast, List.flatten_replicate_singleton]
theorem rep_row {k a : Nat} : T.tup (List.replicate k (natT a)) = rowT (List.replicate k a) := by unfold rowT; rw [List.map_replicate]
theorem cut_last {α : Type} {xs : List α} : cutT xs none (some (-1)) = xs.take (xs.length - 1) := by
  unfold cutT
  have e1 : HT.sIx xs.length 0 none = 0 := rfl
  have e2 : HT.sIx xs.length xs.length (some (-1)) = xs.length - 1 := by
    show (if (-1 : Int) < 0 then ((-1 : Int) + xs.length).toNat else min (-1 : Int).toNat xs.length) = _
    rw [if_pos (by omega)]
    omega
  rw [e1, e2, List.drop_zero, Nat.sub_zero]
/-- a machine of no form -/
structure Bd (x : Mc) : Prop where
  g : x.good = false
  r : ∀ row ∈ x.mv, row.length < LINE
  m : x.mv.length < LINE
  e : x.en.length < LINE
theorem not_good {x : Mc} (h : ¬ Gd x (x.b ^ x.t)) : x.good = false := by
  cases c : x.good with
  | false => rfl
  | true => exact absurd (good_iff.mp c) h
def wrongs (m : Mc) (w : Nat) : List Mc := [⟨1, 1, [[0]], [1]⟩, ⟨11, 1, [List.replicate 11 0], [1]⟩, ⟨2, 0, [[0]], [1]⟩, ⟨2, 4, [List.replicate 16 0], [1]⟩, ⟨m.b, m.t, [], []⟩] ++
  [⟨m.b, m.t, m.mv, m.en ++ [1]⟩, ⟨m.b, m.t, m.mv, m.en.take (m.en.length - 1) ++ [2]⟩] ++
  [⟨m.b, m.t, m.mv.take (m.mv.length - 1) ++ [m.mv.getD 0 [] ++ [0]], m.en⟩, ⟨m.b, m.t, m.mv.take (m.mv.length - 1) ++ [List.replicate w m.mv.length], m.en⟩, ⟨2, 1, [[1, 0], [1, 0]], [1, 0]⟩] ++
  [⟨m.b, m.t, List.replicate 201 (List.replicate w 0), List.replicate 201 1⟩]
theorem getD_last {α : Type} {l : List α} {x d : α} {n : Nat} (h : l.length = n) : (l ++ [x]).getD n d = x := by
  subst h
  rw [List.getD_eq_getElem?_getD]
  simp
theorem wrongs_bad {m : Mc} {w : Nat} (g : Gd m w) : ∀ x ∈ wrongs m w, Bd x := by
  have hn := g.n
  have hw := g.ws
  have hrl := g.row_le
  have he := g.e
  have L1 : 201 < LINE := by unfold LINE; decide
  have tk : (m.mv.take (m.mv.length - 1)).length = m.mv.length - 1 := by rw [List.length_take]; omega
  have tke : (m.en.take (m.en.length - 1)).length = m.mv.length - 1 := by rw [List.length_take]; omega
  have r0 : (m.mv.getD 0 []).length = w := g.w1 0 (by omega)
  intro x hx
  simp only [wrongs, List.cons_append, List.nil_append, List.mem_cons, List.not_mem_nil, or_false] at hx
  rcases hx with h | h | h | h | h | h | h | h | h | h | h
  · subst h
    exact ⟨by decide, by intro row hr; rw [List.mem_singleton] at hr; subst hr; show 1 < LINE; omega, by show 1 < LINE; omega, by show 1 < LINE; omega⟩
  · subst h
    exact ⟨by decide, by intro row hr; rw [List.mem_singleton] at hr; subst hr; show 11 < LINE; omega, by show 1 < LINE; omega, by show 1 < LINE; omega⟩
  · subst h
    exact ⟨by decide, by intro row hr; rw [List.mem_singleton] at hr; subst hr; show 1 < LINE; omega, by show 1 < LINE; omega, by show 1 < LINE; omega⟩
  · subst h
    exact ⟨by decide, by intro row hr; rw [List.mem_singleton] at hr; subst hr; show 16 < LINE; omega, by show 1 < LINE; omega, by show 1 < LINE; omega⟩
  · subst h
    exact ⟨not_good fun q => by have := q.n; simp at this, (by intro row hr; cases hr), by show 0 < LINE; omega, by show 0 < LINE; omega⟩
  · subst h
    refine ⟨not_good fun q => ?_, hrl, by show m.mv.length < LINE; omega, ?_⟩
    · have := q.e
      simp only [List.length_append, List.length_singleton] at this
      omega
    · show (m.en ++ [1]).length < LINE
      rw [List.length_append, List.length_singleton]
      omega
  · subst h
    refine ⟨not_good fun q => ?_, hrl, by show m.mv.length < LINE; omega, ?_⟩
    · have := q.e1 (m.mv.length - 1) (by show m.mv.length - 1 < m.mv.length; omega)
      have e : (m.en.take (m.en.length - 1) ++ [2]).getD (m.mv.length - 1) 0 = 2 := getD_last tke
      simp only [e] at this
      omega
    · show (m.en.take (m.en.length - 1) ++ [2]).length < LINE
      rw [List.length_append, List.length_singleton, tke]
      omega
  · subst h
    refine ⟨not_good fun q => ?_, fun row hr => ?_, ?_, by show m.en.length < LINE; omega⟩
    · have := q.w1 (m.mv.length - 1) (by show m.mv.length - 1 < (m.mv.take (m.mv.length - 1) ++ [m.mv.getD 0 [] ++ [0]]).length; rw [List.length_append, tk, List.length_singleton]; omega)
      have e : (m.mv.take (m.mv.length - 1) ++ [m.mv.getD 0 [] ++ [0]]).getD (m.mv.length - 1) [] = m.mv.getD 0 [] ++ [0] := getD_last tk
      simp only [e, List.length_append, List.length_singleton, r0] at this
      have := g.we
      omega
    · rcases List.mem_append.mp hr with z | z
      · exact hrl _ (List.mem_of_mem_take z)
      · rw [List.mem_singleton] at z
        subst z
        rw [List.length_append, r0, List.length_singleton]
        unfold LINE
        omega
    · show (m.mv.take (m.mv.length - 1) ++ [m.mv.getD 0 [] ++ [0]]).length < LINE
      rw [List.length_append, tk, List.length_singleton]
      omega
  · subst h
    have ln : (m.mv.take (m.mv.length - 1) ++ [List.replicate w m.mv.length]).length = m.mv.length := by rw [List.length_append, tk, List.length_singleton]; omega
    refine ⟨not_good fun q => ?_, fun row hr => ?_, ?_, by show m.en.length < LINE; omega⟩
    · have := q.r (m.mv.length - 1) (by show m.mv.length - 1 < (m.mv.take (m.mv.length - 1) ++ [List.replicate w m.mv.length]).length; omega) 0 (by show 0 < m.b ^ m.t; rw [← g.we]; omega)
      have e : (m.mv.take (m.mv.length - 1) ++ [List.replicate w m.mv.length]).getD (m.mv.length - 1) [] = List.replicate w m.mv.length := getD_last tk
      have e2 : (List.replicate w m.mv.length).getD 0 0 = m.mv.length := by
        rw [List.getD_eq_getElem?_getD, List.getElem?_replicate, if_pos (by omega)]
        rfl
      simp only [e, e2, ln] at this
      omega
    · rcases List.mem_append.mp hr with z | z
      · exact hrl _ (List.mem_of_mem_take z)
      · rw [List.mem_singleton] at z
        subst z
        rw [List.length_replicate]
        unfold LINE
        omega
    · show (m.mv.take (m.mv.length - 1) ++ [List.replicate w m.mv.length]).length < LINE
      omega
  · subst h
    refine ⟨by decide, fun row hr => ?_, by show 2 < LINE; omega, by show 2 < LINE; omega⟩
    have : row = [1, 0] := by
      simp only [List.mem_cons, List.not_mem_nil, or_false] at hr
      rcases hr with h | h <;> exact h
    subst this
    show 2 < LINE
    omega
  · subst h
    refine ⟨not_good fun q => ?_, fun row hr => ?_, ?_, ?_⟩
    · have := q.n
      simp only [List.length_replicate] at this
      omega
    · rw [(List.mem_replicate.mp hr).2, List.length_replicate]
      unfold LINE
      omega
    · show (List.replicate 201 (List.replicate w 0)).length < LINE
      rw [List.length_replicate]
      omega
    · show (List.replicate 201 1).length < LINE
      rw [List.length_replicate]
      omega
end K02
set_option Elab.async false
set_option linter.all false
set_option maxRecDepth 100000
set_option maxHeartbeats 4000000
namespace K02
open PySem PySem.Spec PyProof.Rows L2 DD
theorem add_rows {S : Store} {a b : List (List Nat)} (h : a.length + b.length ≤ LINE) : nAdd (.tup (a.map rowT)) (.tup (b.map rowT)) S = .ok (.tup ((a ++ b).map rowT)) S := by
  show (if (a.map rowT).length + (b.map rowT).length ≤ LINE then DD.R.ok (T.tup (a.map rowT ++ b.map rowT)) S else DD.R.bad) = _
  rw [if_pos (by rw [List.length_map, List.length_map]; exact h), List.map_append]
theorem add_nats {S : Store} {a b : List Nat} (h : a.length + b.length ≤ LINE) : nAdd (rowT a) (rowT b) S = .ok (rowT (a ++ b)) S := by
  show (if (a.map natT).length + (b.map natT).length ≤ LINE then DD.R.ok (T.tup (a.map natT ++ b.map natT)) S else DD.R.bad) = _
  rw [if_pos (by rw [List.length_map, List.length_map]; exact h), ← List.map_append]
  rfl
theorem slc_last {α : Type} {f : α → T} {S : Store} {l : List α} : nSlc (.tup (l.map f)) none (some (-1)) S = .ok (.tup ((l.take (l.length - 1)).map f)) S := by
  show DD.R.ok (T.tup (cutT (l.map f) none (some (-1)))) S = _
  rw [cut_last, List.length_map, List.map_take]
theorem mac_T {b t : Nat} {mv : List (List Nat)} {en : List Nat} : T.tup [.int b, .int t, .tup (mv.map rowT), rowT en] = (⟨b, t, mv, en⟩ : Mc).T := rfl
theorem ext_mac {S j : Store} {B C : List Mc} (h : B.length + C.length < 1000) : nExt (.ref S.length) [.ref (S ++ O.lst (B.map Mc.T) :: j).length] (S ++ O.lst (B.map Mc.T) :: j ++ [O.lst (C.map Mc.T)]) = .ok .non (S ++ O.lst ((B ++ C).map Mc.T) :: (j ++ [O.lst (C.map Mc.T)])) := by
  have g1 : (S ++ O.lst (B.map Mc.T) :: j ++ [O.lst (C.map Mc.T)])[S.length]? = some (.lst (B.map Mc.T)) := ix_app (at_mid rfl)
  have g2 : (S ++ O.lst (B.map Mc.T) :: j ++ [O.lst (C.map Mc.T)])[(S ++ O.lst (B.map Mc.T) :: j).length]? = some (.lst (C.map Mc.T)) := ix_new
  have g3 : (S ++ O.lst (B.map Mc.T) :: j ++ [O.lst (C.map Mc.T)]).set S.length (.lst ((B ++ C).map Mc.T)) = S ++ O.lst ((B ++ C).map Mc.T) :: (j ++ [O.lst (C.map Mc.T)]) := by
    have h := set_mid (a := S) (b := j ++ [O.lst (C.map Mc.T)]) (x := O.lst (B.map Mc.T)) (y := O.lst ((B ++ C).map Mc.T)) (n := S.length) rfl
    rw [← h]
    simp
  simp only [nExt, g1, g2]
  rw [if_pos (by rw [List.length_map, List.length_map]; unfold LINE; omega), ← List.map_append, g3]
theorem app_mac {S j : Store} {B : List Mc} {x : Mc} (h : B.length < 1000) : nApp (.ref S.length) [x.T] (S ++ O.lst (B.map Mc.T) :: j) = .ok .non (S ++ O.lst ((B ++ [x]).map Mc.T) :: j) := by
  have := nApp_l (t := x.T) (S := S ++ O.lst (B.map Mc.T) :: j) (n := S.length) (xs := B.map Mc.T) (at_mid rfl) rfl (by rw [List.length_map]; unfold LINE; omega)
  rw [set_mid rfl] at this
  rw [this]
  simp
theorem nh_mac {x : Mc} : x.T ≠ .hole := by unfold Mc.T; intro z; cases z
theorem wrong_ok {m : Mc} {w : Nat} {S : Store} {s nu c : Nat} {nums : List Int} (d : Dr S s nu nums c) (cl : Cl S) (g : Gd m w) (hc : c + 100 < 1000000000) : ∃ (x : Mc) (c' : Nat), Bd x ∧ c' ≤ c + 10 ∧ F__law_wrong [.ref s, m.T] S = .ok x.T (drS S s nu c') := by
  have hn := g.n
  have hw := g.ws
  have hb := g.b
  have ht := g.t
  have w2 : 2 ≤ w := by
    rw [g.we]
    have h1 : m.b ^ 1 ≤ m.b ^ m.t := Nat.pow_le_pow_right (by omega) (by omega)
    rw [Nat.pow_one] at h1
    omega
  have LL : 10000 < LINE := by unfold LINE; decide
  have a0 : dAsg (dVar 1) (gTupD 4 (gConsD (gNam 2) (gConsD (gNam 3) (gConsD (gNam 4) (gConsD (gNam 5) gNilD))))) [.ref s, m.T, .hole, .hole, .hole, .hole, .hole] S = .nx [.ref s, m.T, .int m.b, .int m.t, .tup (m.mv.map rowT), .tup (m.en.map natT), .hole] S :=
    v_asgT (v_var (t := m.T) rfl nh_tup) (g_four (show (2 : Nat) < 7 by decide) (show (3 : Nat) < 7 by decide) (show (4 : Nat) < 7 by decide) (show (5 : Nat) < 7 by decide))
  have V2 : ∀ (t6 : T) (A : Store), dVar 2 [.ref s, m.T, .int m.b, .int m.t, .tup (m.mv.map rowT), .tup (m.en.map natT), t6] A = .ok (natT m.b) A := fun t6 A => v_var rfl nh_int
  have V3 : ∀ (t6 : T) (A : Store), dVar 3 [.ref s, m.T, .int m.b, .int m.t, .tup (m.mv.map rowT), .tup (m.en.map natT), t6] A = .ok (natT m.t) A := fun t6 A => v_var rfl nh_int
  have V4 : ∀ (t6 : T) (A : Store), dVar 4 [.ref s, m.T, .int m.b, .int m.t, .tup (m.mv.map rowT), .tup (m.en.map natT), t6] A = .ok (.tup (m.mv.map rowT)) A := fun t6 A => v_var rfl nh_tup
  have V5 : ∀ (t6 : T) (A : Store), dVar 5 [.ref s, m.T, .int m.b, .int m.t, .tup (m.mv.map rowT), .tup (m.en.map natT), t6] A = .ok (rowT m.en) A := fun t6 A => v_var rfl nh_tup
  have Z1 : ∀ (k : Nat) (t6 : T) (A : Store), dTup (dCons (dLit (.int k)) dNil) [.ref s, m.T, .int m.b, .int m.t, .tup (m.mv.map rowT), .tup (m.en.map natT), t6] A = .ok (rowT [k]) A := fun k t6 A => v_tup (v_cons (v_lit (t := natT k)) v_nil) rfl one_line
  have ZR : ∀ (r : List Nat) (d : DE) (t6 : T) (A : Store), d [.ref s, m.T, .int m.b, .int m.t, .tup (m.mv.map rowT), .tup (m.en.map natT), t6] A = .ok (rowT r) A → dTup (dCons d dNil) [.ref s, m.T, .int m.b, .int m.t, .tup (m.mv.map rowT), .tup (m.en.map natT), t6] A = .ok (.tup ([r].map rowT)) A := fun r d t6 A h => v_tup (v_cons h v_nil) rfl one_line
  have ZM : ∀ (k : Nat) (t6 : T) (A : Store), 2 ≤ k ∧ k ≤ 1000 → ∀ a : Nat, dBin nMul (dTup (dCons (dLit (.int a)) dNil)) (dLit (.int k)) [.ref s, m.T, .int m.b, .int m.t, .tup (m.mv.map rowT), .tup (m.en.map natT), t6] A = .ok (rowT (List.replicate k a)) A := fun k t6 A hk a => by
    rw [← rep_row]
    exact v_bin (Z1 a t6 A) v_lit (mul_tup hk)
  have PW : ∀ (t6 : T) (A : Store), dCall F__law_power (dCons (dVar 2) (dCons (dVar 3) dNil)) [.ref s, m.T, .int m.b, .int m.t, .tup (m.mv.map rowT), .tup (m.en.map natT), t6] A = .ok (natT w) A := fun t6 A => by
    rw [g.we]
    exact v_call (v_cons (V2 t6 A) (v_cons (V3 t6 A) v_nil)) rfl (lpow_ok (by omega) (by omega))
  have MC : ∀ (x : Mc) (d1 d2 d3 d4 : DE) (t6 : T) (A : Store), d1 [.ref s, m.T, .int m.b, .int m.t, .tup (m.mv.map rowT), .tup (m.en.map natT), t6] A = .ok (natT x.b) A → d2 [.ref s, m.T, .int m.b, .int m.t, .tup (m.mv.map rowT), .tup (m.en.map natT), t6] A = .ok (natT x.t) A → d3 [.ref s, m.T, .int m.b, .int m.t, .tup (m.mv.map rowT), .tup (m.en.map natT), t6] A = .ok (.tup (x.mv.map rowT)) A → d4 [.ref s, m.T, .int m.b, .int m.t, .tup (m.mv.map rowT), .tup (m.en.map natT), t6] A = .ok (rowT x.en) A →
      dTup (dCons d1 (dCons d2 (dCons d3 (dCons d4 dNil)))) [.ref s, m.T, .int m.b, .int m.t, .tup (m.mv.map rowT), .tup (m.en.map natT), t6] A = .ok x.T A := fun x d1 d2 d3 d4 t6 A h1 h2 h3 h4 => v_tup (v_cons h1 (v_cons h2 (v_cons h3 (v_cons h4 v_nil)))) rfl four_line
  have neg : ∀ (t6 : T) (A : Store), dUn nNeg (dLit (.int 1)) [.ref s, m.T, .int m.b, .int m.t, .tup (m.mv.map rowT), .tup (m.en.map natT), t6] A = .ok (.int (-1)) A := fun t6 A => v_un v_lit rfl
  have SM : ∀ (t6 : T) (A : Store), dSlc nSlc (dVar 4) none (some (dUn nNeg (dLit (.int 1)))) [.ref s, m.T, .int m.b, .int m.t, .tup (m.mv.map rowT), .tup (m.en.map natT), t6] A = .ok (.tup ((m.mv.take (m.mv.length - 1)).map rowT)) A := fun t6 A => v_slcU (V4 t6 A) (neg t6 A) slc_last
  have SE : ∀ (t6 : T) (A : Store), dSlc nSlc (dVar 5) none (some (dUn nNeg (dLit (.int 1)))) [.ref s, m.T, .int m.b, .int m.t, .tup (m.mv.map rowT), .tup (m.en.map natT), t6] A = .ok (rowT (m.en.take (m.en.length - 1))) A := fun t6 A => v_slcU (V5 t6 A) (neg t6 A) (slc_last (f := natT))
  have lm : (m.mv.take (m.mv.length - 1)).length ≤ 200 := by rw [List.length_take]; omega
  have le : (m.en.take (m.en.length - 1)).length ≤ 200 := by rw [List.length_take]; have := g.e; omega
  have r0 : (m.mv.getD 0 []).length = w := g.w1 0 (by omega)
  have F0 : ∀ (t6 : T) (A : Store), dBin nAdd (dBin nIx (dVar 4) (dLit (.int 0))) (dTup (dCons (dLit (.int 0)) dNil)) [.ref s, m.T, .int m.b, .int m.t, .tup (m.mv.map rowT), .tup (m.en.map natT), t6] A = .ok (rowT (m.mv.getD 0 [] ++ [0])) A := fun t6 A =>
    v_bin (v_bin (V4 t6 A) v_lit (nIx_t (i := 0) (getD_map (d := []) (by omega)))) (Z1 0 t6 A) (add_nats (by rw [r0, List.length_singleton]; omega))
  have LM : ∀ (t6 : T) (A : Store), dTup (dCons (dCallF nLenA (dCons (dVar 4) dNil)) dNil) [.ref s, m.T, .int m.b, .int m.t, .tup (m.mv.map rowT), .tup (m.en.map natT), t6] A = .ok (.tup [natT m.mv.length]) A := fun t6 A => by
    refine v_tup (v_cons (v_callF (v_cons (V4 t6 A) v_nil) ?_) v_nil) rfl one_line
    have := nLen_t (ts := m.mv.map rowT) (S := A)
    rw [List.length_map] at this
    exact this
  have RM : ∀ (t6 : T) (A : Store), dBin nMul (dTup (dCons (dCallF nLenA (dCons (dVar 4) dNil)) dNil)) (dCall F__law_power (dCons (dVar 2) (dCons (dVar 3) dNil))) [.ref s, m.T, .int m.b, .int m.t, .tup (m.mv.map rowT), .tup (m.en.map natT), t6] A = .ok (rowT (List.replicate w m.mv.length)) A := fun t6 A => by
    rw [← rep_row]
    exact v_bin (LM t6 A) (PW t6 A) (mul_tup ⟨w2, hw.2⟩)
  have RZ : ∀ (t6 : T) (A : Store), dBin nMul (dTup (dCons (dLit (.int 0)) dNil)) (dCall F__law_power (dCons (dVar 2) (dCons (dVar 3) dNil))) [.ref s, m.T, .int m.b, .int m.t, .tup (m.mv.map rowT), .tup (m.en.map natT), t6] A = .ok (rowT (List.replicate w 0)) A := fun t6 A => by
    rw [← rep_row]
    exact v_bin (Z1 0 t6 A) (PW t6 A) (mul_tup ⟨w2, hw.2⟩)
  have R201 : ∀ (t6 : T) (A : Store), dBin nMul (dTup (dCons (dBin nMul (dTup (dCons (dLit (.int 0)) dNil)) (dCall F__law_power (dCons (dVar 2) (dCons (dVar 3) dNil)))) dNil)) (dLit (.int 201)) [.ref s, m.T, .int m.b, .int m.t, .tup (m.mv.map rowT), .tup (m.en.map natT), t6] A = .ok (.tup ((List.replicate 201 (List.replicate w 0)).map rowT)) A := fun t6 A => by
    rw [List.map_replicate]
    exact v_bin (v_tup (v_cons (RZ t6 A) v_nil) rfl one_line) v_lit (mul_tup (k := 201) (by omega))
  have dn : ∀ (t6 : T) (A : Store), dTup dNil [.ref s, m.T, .int m.b, .int m.t, .tup (m.mv.map rowT), .tup (m.en.map natT), t6] A = .ok (.tup []) A := fun t6 A => v_tup v_nil rfl (by show 0 ≤ LINE; omega)
  have L : ∀ (k : Nat) (t6 : T) (A : Store), dLit (.int k) [.ref s, m.T, .int m.b, .int m.t, .tup (m.mv.map rowT), .tup (m.en.map natT), t6] A = .ok (natT k) A := fun k t6 A => v_lit
  have Zp : ∀ (a b : Nat) (t6 : T) (A : Store), dTup (dCons (dLit (.int a)) (dCons (dLit (.int b)) dNil)) [.ref s, m.T, .int m.b, .int m.t, .tup (m.mv.map rowT), .tup (m.en.map natT), t6] A = .ok (rowT [a, b]) A := fun a b t6 A => v_tup (v_cons (v_lit (t := natT a)) (v_cons (v_lit (t := natT b)) v_nil)) rfl two_line
  -- the first five
  have x1 := fun (t6 : T) (A : Store) => MC ⟨1, 1, [[0]], [1]⟩ _ _ _ _ t6 A (L 1 t6 A) (L 1 t6 A) (ZR _ _ t6 A (Z1 0 t6 A)) (Z1 1 t6 A)
  have x2 := fun (t6 : T) (A : Store) => MC ⟨11, 1, [List.replicate 11 0], [1]⟩ _ _ _ _ t6 A (L 11 t6 A) (L 1 t6 A) (ZR _ _ t6 A (ZM 11 t6 A (by omega) 0)) (Z1 1 t6 A)
  have x3 := fun (t6 : T) (A : Store) => MC ⟨2, 0, [[0]], [1]⟩ _ _ _ _ t6 A (L 2 t6 A) (L 0 t6 A) (ZR _ _ t6 A (Z1 0 t6 A)) (Z1 1 t6 A)
  have x4 := fun (t6 : T) (A : Store) => MC ⟨2, 4, [List.replicate 16 0], [1]⟩ _ _ _ _ t6 A (L 2 t6 A) (L 4 t6 A) (ZR _ _ t6 A (ZM 16 t6 A (by omega) 0)) (Z1 1 t6 A)
  have x5 := fun (t6 : T) (A : Store) => MC ⟨m.b, m.t, [], []⟩ _ _ _ _ t6 A (V2 t6 A) (V3 t6 A) (dn t6 A) (dn t6 A)
  have x6 := fun (t6 : T) (A : Store) => MC ⟨m.b, m.t, m.mv, m.en ++ [1]⟩ _ _ _ _ t6 A (V2 t6 A) (V3 t6 A) (V4 t6 A) (v_bin (V5 t6 A) (Z1 1 t6 A) (add_nats (by rw [g.e, List.length_singleton]; omega)))
  have x7 := fun (t6 : T) (A : Store) => MC ⟨m.b, m.t, m.mv, m.en.take (m.en.length - 1) ++ [2]⟩ _ _ _ _ t6 A (V2 t6 A) (V3 t6 A) (V4 t6 A) (v_bin (SE t6 A) (Z1 2 t6 A) (add_nats (by rw [List.length_singleton]; omega)))
  have x8 := fun (t6 : T) (A : Store) => MC ⟨m.b, m.t, m.mv.take (m.mv.length - 1) ++ [m.mv.getD 0 [] ++ [0]], m.en⟩ _ _ _ _ t6 A (V2 t6 A) (V3 t6 A) (v_bin (SM t6 A) (ZR _ _ t6 A (F0 t6 A)) (add_rows (by rw [List.length_singleton]; omega))) (V5 t6 A)
  have x9 := fun (t6 : T) (A : Store) => MC ⟨m.b, m.t, m.mv.take (m.mv.length - 1) ++ [List.replicate w m.mv.length], m.en⟩ _ _ _ _ t6 A (V2 t6 A) (V3 t6 A) (v_bin (SM t6 A) (ZR _ _ t6 A (RM t6 A)) (add_rows (by rw [List.length_singleton]; omega))) (V5 t6 A)
  have x10 := fun (t6 : T) (A : Store) => MC ⟨2, 1, [[1, 0], [1, 0]], [1, 0]⟩ _ _ _ _ t6 A (L 2 t6 A) (L 1 t6 A) (v_tup (ts := [rowT [1, 0], rowT [1, 0]]) (v_cons (Zp 1 0 t6 A) (v_cons (Zp 1 0 t6 A) v_nil)) rfl two_line) (Zp 1 0 t6 A)
  have x11 := fun (t6 : T) (A : Store) => MC ⟨m.b, m.t, List.replicate 201 (List.replicate w 0), List.replicate 201 1⟩ _ _ _ _ t6 A (V2 t6 A) (V3 t6 A) (R201 t6 A) (ZM 201 t6 A (by omega) 1)
  have b1 := v_asg (i := 6) (v_lst (v_cons (x1 .hole S) (v_cons (x2 .hole S) (v_cons (x3 .hole S) (v_cons (x4 .hole S) (v_cons (x5 .hole S) v_nil))))) rfl (by show 5 ≤ LINE; omega)) (show 6 < 7 by decide)
  have W : wrongs m w = wrongs m w := rfl
  unfold wrongs at W
  have b2 := fun (j : Store) (B : List Mc) (hB : B.length < 100) => v_expr (v_meth (cc := isL) (v_var (i := 6) (e := [.ref s, m.T, .int m.b, .int m.t, .tup (m.mv.map rowT), .tup (m.en.map natT), .ref S.length]) (S := S ++ O.lst (B.map Mc.T) :: j) rfl nh_ref) (isL_l (at_mid rfl)) (v_cons (v_lst (v_cons (x6 (.ref S.length) (S ++ O.lst (B.map Mc.T) :: j)) (v_cons (x7 (.ref S.length) (S ++ O.lst (B.map Mc.T) :: j)) v_nil)) rfl two_line) v_nil) (ext_mac (C := [⟨m.b, m.t, m.mv, m.en ++ [1]⟩, ⟨m.b, m.t, m.mv, m.en.take (m.en.length - 1) ++ [2]⟩]) (by show B.length + 2 < 1000; omega)))
  have b3 := fun (j : Store) (B : List Mc) (hB : B.length < 100) => v_expr (v_meth (cc := isL) (v_var (i := 6) (e := [.ref s, m.T, .int m.b, .int m.t, .tup (m.mv.map rowT), .tup (m.en.map natT), .ref S.length]) (S := S ++ O.lst (B.map Mc.T) :: j) rfl nh_ref) (isL_l (at_mid rfl)) (v_cons (v_lst (v_cons (x8 (.ref S.length) (S ++ O.lst (B.map Mc.T) :: j)) (v_cons (x9 (.ref S.length) (S ++ O.lst (B.map Mc.T) :: j)) (v_cons (x10 (.ref S.length) (S ++ O.lst (B.map Mc.T) :: j)) v_nil))) rfl (by show 3 ≤ LINE; omega)) v_nil) (ext_mac (C := [⟨m.b, m.t, m.mv.take (m.mv.length - 1) ++ [m.mv.getD 0 [] ++ [0]], m.en⟩, ⟨m.b, m.t, m.mv.take (m.mv.length - 1) ++ [List.replicate w m.mv.length], m.en⟩, ⟨2, 1, [[1, 0], [1, 0]], [1, 0]⟩]) (by show B.length + 3 < 1000; omega)))
  have b4 := fun (j : Store) (B : List Mc) (hB : B.length < 100) => v_expr (v_meth (cc := isL) (v_var (i := 6) (e := [.ref s, m.T, .int m.b, .int m.t, .tup (m.mv.map rowT), .tup (m.en.map natT), .ref S.length]) (S := S ++ O.lst (B.map Mc.T) :: j) rfl nh_ref) (isL_l (at_mid rfl)) (v_cons (x11 (.ref S.length) (S ++ O.lst (B.map Mc.T) :: j)) v_nil) (app_mac (by omega)))
  have hwl : (wrongs m w).length = 11 := rfl
  have hbad := wrongs_bad g
  obtain ⟨v, hv, e1⟩ := next_at (j := .lst ((wrongs m w).map Mc.T) :: ([] ++ [O.lst ([⟨m.b, m.t, m.mv, m.en ++ [1]⟩, ⟨m.b, m.t, m.mv, m.en.take (m.en.length - 1) ++ [2]⟩].map Mc.T)] ++ [O.lst ([⟨m.b, m.t, m.mv.take (m.mv.length - 1) ++ [m.mv.getD 0 [] ++ [0]], m.en⟩, ⟨m.b, m.t, m.mv.take (m.mv.length - 1) ++ [List.replicate w m.mv.length], m.en⟩, ⟨2, 1, [[1, 0], [1, 0]], [1, 0]⟩].map Mc.T)])) (c := c) (many := 11) d (by omega) (by omega)
  have hv' : v < (wrongs m w).length := by rw [hwl]; omega
  have gB : ∀ j : Store, (drS S s nu (c + 1) ++ O.lst ((wrongs m w).map Mc.T) :: j)[S.length]? = some (.lst ((wrongs m w).map Mc.T)) := fun j => at_mid drS_len.symm
  have ret := v_ret (v_bin (v_var (i := 6) (e := [.ref s, m.T, .int m.b, .int m.t, .tup (m.mv.map rowT), .tup (m.en.map natT), .ref S.length]) rfl nh_ref) (v_next (i := 0) rfl v_lit e1) (nIx_l (gB _) (getD_map (d := ⟨0, 0, [], []⟩) hv')))
  rw [drS_self d] at ret
  refine ⟨(wrongs m w).getD v ⟨0, 0, [], []⟩, c + 1, getD_all (P := Bd) hbad hv', by omega, ?_⟩
  exact runD_ok rfl (v_seq a0 (v_seq b1 (v_seq (b2 [] [⟨1, 1, [[0]], [1]⟩, ⟨11, 1, [List.replicate 11 0], [1]⟩, ⟨2, 0, [[0]], [1]⟩, ⟨2, 4, [List.replicate 16 0], [1]⟩, ⟨m.b, m.t, [], []⟩] (by show 5 < 100; omega)) (v_seq (b3 _ _ (by show 7 < 100; omega)) (v_seq (b4 _ _ (by show 10 < 100; omega)) ret))))) rfl (fin_val drS_len (cl_len (d.cl cl) drS_len) mc_low)
end K02
set_option Elab.async false
set_option linter.all false
set_option maxRecDepth 100000
set_option maxHeartbeats 4000000
namespace K02
open PySem PySem.Spec PyProof.Rows L2 DD
/-- numbers as drawn -/
structure Nm (nums : List Int) (k : Nat) : Prop where
  b : ∀ z ∈ nums, 0 ≤ z ∧ z < 1009
  l : nums.length ≤ k
theorem Nm.add {nums k} {z : Int} (h : Nm nums k) (h0 : 0 ≤ z) (h1 : z < 1009) : Nm (nums ++ [z]) (k + 1) := ⟨fun x hx => by
  rcases List.mem_append.mp hx with q | q
  · exact h.b x q
  · rw [List.mem_singleton] at q; rw [q]; exact ⟨h0, h1⟩, by rw [List.length_append, List.length_singleton]; have := h.l; omega⟩
theorem Nm.mono {nums k k'} (h : Nm nums k) (hk : k ≤ k') : Nm nums k' := ⟨h.b, Nat.le_trans h.l hk⟩
theorem app_num {S j : Store} {nums : List Int} {k : Nat} {z : Int} (h : Nm nums k) (hk : k < 10000) : nApp (.ref S.length) [.int z] (S ++ O.lst (nums.map T.int) :: j) = .ok .non (S ++ O.lst ((nums ++ [z]).map T.int) :: j) := by
  have := nApp_l (t := .int z) (S := S ++ O.lst (nums.map T.int) :: j) (n := S.length) (xs := nums.map T.int) (at_mid rfl) rfl (by rw [List.length_map]; have := h.l; unfold LINE; omega)
  rw [set_mid rfl] at this
  rw [this]
  simp
theorem mod_b {a b : Int} (h : 0 < b) : 0 ≤ a % b ∧ a % b < b := ⟨Int.emod_nonneg _ (by omega), Int.emod_lt_of_pos _ h⟩
abbrev smA : DS := (dSeq (dExpr (dMeth isL nApp (dVar 1) (dCons (dBin nMod (dCallF nInt (dCons (dVar 3) dNil)) (dLit (.int 1009))) dNil))) (dSeq (dAsg (dBin nDiv (dVar 3) (dLit (.int 1009))) (gNam 3)) (dIf (dBin nEq (dVar 3) (dLit (.int 0))) dBrk dSkip)))
abbrev smB : DS := (dSeq (dAsg (dBin nMod (dCallF nInt (dCons (dBin nAdd (dBin nAdd (dBin nMul (dVar 5) (dLit (.int 48271))) (dBin nMul (dLit (.int 7)) (dVar 4))) (dLit (.int 11))) dNil)) (dLit (.int 2147483647))) (gNam 5)) (dExpr (dMeth isL nApp (dVar 1) (dCons (dBin nMod (dBin nMod (dCallF nInt (dCons (dBin nAdd (dBin nMul (dVar 5) (dLit (.int 69621))) (dVar 4)) dNil)) (dLit (.int 2147483629))) (dLit (.int 1009))) dNil))))
theorem small_lit {z : Int} (h : 0 ≤ z) (h2 : z < 1000000000) : small z = true := by simp only [small, Bool.and_eq_true, decide_eq_true_eq]; omega
theorem sm_A {S j : Store} {nums : List Int} {k : Nat} {rest : Int} {t0 t2 t4 t5 : T} (h : Nm nums k) (hk : k + 60 < 10000) : ∃ nums' rest' t4', Nm nums' (k + 60) ∧ dFor (dRng1 (dCons (dLit (.int 60)) dNil)) (gNam 4) smA [t0, .ref S.length, t2, .int rest, t4, t5] (S ++ O.lst (nums.map T.int) :: j) = .nx [t0, .ref S.length, t2, .int rest', t4', t5] (S ++ O.lst (nums'.map T.int) :: j) := by
  have key := forL_inv (it := iRng 0 1 60) (g := gNam 4) (b := smA)
    (P := fun i e S' => ∃ nums' rest' t4', Nm nums' (k + i) ∧ e = [t0, .ref S.length, t2, .int rest', t4', t5] ∧ S' = S ++ O.lst (nums'.map T.int) :: j)
    (Z := fun r => ∃ nums' rest' t4', Nm nums' (k + 60) ∧ r = .nx [t0, .ref S.length, t2, .int rest', t4', t5] (S ++ O.lst (nums'.map T.int) :: j)) 60 ?_ ?_ FUEL 0 _ _ ⟨nums, rest, t4, h, rfl, rfl⟩ (Nat.zero_le _) (fuel_ok (by unfold LINE; omega))
  · obtain ⟨nums', rest', t4', q1, q2⟩ := key
    exact ⟨nums', rest', t4', q1, v_for (v_rng1 (j := 60) (v_cons v_lit v_nil) (by unfold LINE; omega)) q2⟩
  · rintro i e S' hi ⟨nums', rest', t4', q1, rfl, rfl⟩
    refine ⟨natT i, by rw [rng_item hi, Int.zero_add]; rfl, ?_⟩
    rw [g_nam (show 4 < 6 by decide)]
    simp only [List.set_cons_succ, List.set_cons_zero]
    have mb := mod_b (a := rest') (b := 1009) (by omega)
    have s1 := v_expr (v_meth (cc := isL) (v_var (i := 1) (e := [t0, .ref S.length, t2, .int rest', natT i, t5]) (S := S ++ O.lst (nums'.map T.int) :: j) rfl nh_ref) (isL_l (at_mid rfl)) (v_cons (v_bin (v_callF (v_cons (v_var (i := 3) rfl nh_int) v_nil) nInt_i) v_lit (nMod_i (y := 1009) (by omega))) v_nil) (app_num (z := rest' % 1009) q1 (by omega)))
    have s2 := v_asg (i := 3) (v_bin (v_var (i := 3) (e := [t0, .ref S.length, t2, .int rest', natT i, t5]) (S := S ++ O.lst ((nums' ++ [rest' % 1009]).map T.int) :: j) rfl nh_int) v_lit (nDiv_i (x := rest') (y := 1009) (by omega) (by decide))) (show 3 < 6 by decide)
    simp only [List.set_cons_succ, List.set_cons_zero] at s2
    have s3 := v_bin (v_var (i := 3) (e := [t0, .ref S.length, t2, .int (rest' / 1009), natT i, t5]) (S := S ++ O.lst ((nums' ++ [rest' % 1009]).map T.int) :: j) rfl nh_int) v_lit (nEq_i (x := rest' / 1009) (y := 0))
    have n1 := q1.add mb.1 mb.2
    by_cases c : rest' / 1009 = 0
    · rw [decide_eq_true c] at s3
      exact .inr (.inr (.inl ⟨_, _, v_seq s1 (v_seq s2 (v_ifT s3 rfl)), _, _, natT i, n1.mono (by omega), rfl⟩))
    · rw [decide_eq_false c] at s3
      exact .inl ⟨_, _, v_seq s1 (v_seq s2 (v_ifF s3 rfl)), _, _, natT i, n1.mono (by omega), rfl, rfl⟩
  · rintro e S' ⟨nums', rest', t4', q1, rfl, rfl⟩
    exact ⟨rng_stop, nums', rest', t4', q1, rfl⟩
theorem sm_B {S j : Store} {nums : List Int} {k : Nat} {st : Int} {t0 t2 t3 t4 : T} (h : Nm nums k) (hk : k + 60 < 10000) : ∃ nums' st' t4', Nm nums' (k + 10) ∧ dFor (dRng1 (dCons (dLit (.int 10)) dNil)) (gNam 4) smB [t0, .ref S.length, t2, t3, t4, .int st] (S ++ O.lst (nums.map T.int) :: j) = .nx [t0, .ref S.length, t2, t3, t4', .int st'] (S ++ O.lst (nums'.map T.int) :: j) := by
  have key := forL_inv (it := iRng 0 1 10) (g := gNam 4) (b := smB)
    (P := fun i e S' => ∃ nums' st' t4', Nm nums' (k + i) ∧ e = [t0, .ref S.length, t2, t3, t4', .int st'] ∧ S' = S ++ O.lst (nums'.map T.int) :: j)
    (Z := fun r => ∃ nums' st' t4', Nm nums' (k + 10) ∧ r = .nx [t0, .ref S.length, t2, t3, t4', .int st'] (S ++ O.lst (nums'.map T.int) :: j)) 10 ?_ ?_ FUEL 0 _ _ ⟨nums, st, t4, h, rfl, rfl⟩ (Nat.zero_le _) (fuel_ok (by unfold LINE; omega))
  · obtain ⟨nums', st', t4', q1, q2⟩ := key
    exact ⟨nums', st', t4', q1, v_for (v_rng1 (j := 10) (v_cons v_lit v_nil) (by unfold LINE; omega)) q2⟩
  · rintro i e S' hi ⟨nums', st', t4', q1, rfl, rfl⟩
    refine ⟨natT i, by rw [rng_item hi, Int.zero_add]; rfl, .inl ?_⟩
    rw [g_nam (show 4 < 6 by decide)]
    simp only [List.set_cons_succ, List.set_cons_zero]
    have s1 := v_asg (i := 5) (v_bin (v_callF (v_cons (v_bin (v_bin (v_bin (v_var (i := 5) (e := [t0, .ref S.length, t2, t3, natT i, .int st']) (S := S ++ O.lst (nums'.map T.int) :: j) rfl nh_int) v_lit (nMul_i (x := st') (y := 48271) (.inr rfl))) (v_bin v_lit (v_var (i := 4) (t := natT i) rfl nh_int) (nMul_i (x := 7) (y := (i : Int)) (.inl rfl))) nAdd_i) v_lit (nAdd_i (y := 11))) v_nil) nInt_i) v_lit (nMod_i (y := 2147483647) (by omega))) (show 5 < 6 by decide)
    simp only [List.set_cons_succ, List.set_cons_zero] at s1
    generalize (st' * 48271 + 7 * (i : Int) + 11) % 2147483647 = st2 at s1
    have mb := mod_b (a := (st2 * 69621 + (i : Int)) % 2147483629) (b := 1009) (by omega)
    have s2 := v_expr (v_meth (cc := isL) (v_var (i := 1) (e := [t0, .ref S.length, t2, t3, natT i, .int st2]) (S := S ++ O.lst (nums'.map T.int) :: j) rfl nh_ref) (isL_l (at_mid rfl)) (v_cons (v_bin (v_bin (v_callF (v_cons (v_bin (v_bin (v_var (i := 5) rfl nh_int) v_lit (nMul_i (x := st2) (y := 69621) (.inr rfl))) (v_var (i := 4) (t := natT i) rfl nh_int) (nAdd_i (y := (i : Int)))) v_nil) nInt_i) v_lit (nMod_i (y := 2147483629) (by omega))) v_lit (nMod_i (y := 1009) (by omega))) v_nil) (app_num (z := (st2 * 69621 + (i : Int)) % 2147483629 % 1009) q1 (by omega)))
    exact ⟨_, _, v_seq s1 s2, _, _, natT i, (q1.add mb.1 mb.2).mono (by omega), rfl, rfl⟩
  · rintro e S' ⟨nums', st', t4', q1, rfl, rfl⟩
    exact ⟨rng_stop, nums', st', t4', q1, rfl⟩

theorem lst_itemT {S : Store} {n i : Nat} {l : List T} {t : T} (h : S[n]? = some (.lst l)) (hi : l[i]? = some t) : iLst n i S = .item t := by
  unfold iLst
  rw [lstAt_l h]
  show (match l[i]? with | some t => NX.item t | none => .stop) = _
  rw [hi]
theorem lst_stopT {S : Store} {n : Nat} {l : List T} (h : S[n]? = some (.lst l)) : iLst n l.length S = .stop := by
  unfold iLst
  rw [lstAt_l h]
  show (match l[l.length]? with | some t => NX.item t | none => .stop) = _
  rw [List.getElem?_eq_none (Nat.le_refl _)]
theorem lows_ints {l : List Int} {n : Nat} : T.lows n (l.map T.int) = true := lows_iff.mpr fun t ht => by
  obtain ⟨k, _, e⟩ := List.mem_map.mp ht
  rw [← e]
  rfl
theorem stream_ok {S : Store} {r : Nat} {ns : List Int} (cl : Cl S) (hr : S[r]? = some (.frl (ns.map T.int))) : ∃ nums : List Int, nums ≠ [] ∧ (∀ z ∈ nums, 0 ≤ z ∧ z < 1009) ∧ nums.length ≤ 4000 ∧ F__law_stream [.ref r] S = .ok (.ref S.length) (S ++ [.lst (nums.map T.int)]) := by
  have a1 : dAsg (dLst dNil) (gNam 1) [.ref r, .hole, .hole, .hole, .hole, .hole] S = .nx [.ref r, .ref S.length, .hole, .hole, .hole, .hole] (S ++ [.lst []]) := v_asg (v_lst v_nil rfl (by unfold LINE; decide)) (show 1 < 6 by decide)
  have hlr : lstAt (S ++ [.lst []]) r = some (ns.map T.int) := by
    unfold lstAt
    rw [ix_app hr]
  have hlen : (S ++ [O.lst []]).length = S.length + 1 := by simp
  have a2 : dSlc nSlc (dVar 0) none (some (dLit (.int 63))) [.ref r, .ref S.length, .hole, .hole, .hole, .hole] (S ++ [.lst []]) = .ok (.ref (S.length + 1)) (S ++ [.lst []] ++ [.lst ((ns.map T.int).take 63)]) := by
    refine v_slcU (v_var rfl nh_ref) v_lit ?_
    show (match lstAt (S ++ [O.lst []]) r with
      | some ts => newO (.lst (cutT ts none (some (63 : Int)))) (S ++ [O.lst []])
      | none => DD.R.bad) = _
    rw [hlr]
    show newO (.lst (cutT (ns.map T.int) none (some ((63 : Nat) : Int)))) _ = _
    rw [cut_take, ← hlen]
    rfl
  have eS : S ++ [O.lst []] ++ [.lst ((ns.map T.int).take 63)] = S ++ O.lst (([] : List Int).map T.int) :: [.lst ((ns.map T.int).take 63)] := by simp
  rw [eS] at a2
  have hcl : ((ns.map T.int).take 63).length ≤ 63 := by rw [List.length_take]; omega
  have hci : ∀ i, i < ((ns.map T.int).take 63).length → ∃ z, ((ns.map T.int).take 63)[i]? = some (.int z) := fun i hi => by
    refine ⟨ns[i]'(by rw [List.length_take, List.length_map] at hi; omega), ?_⟩
    rw [List.length_take, List.length_map] at hi
    rw [List.getElem?_take, if_pos (by omega), List.getElem?_map, List.getElem?_eq_getElem (by omega)]
    rfl
  generalize (ns.map T.int).take 63 = cells at a2 hcl hci
  have gC : ∀ nums : List Int, (S ++ O.lst (nums.map T.int) :: [.lst cells])[S.length + 1]? = some (.lst cells) := fun nums => by
    rw [List.getElem?_append_right (by omega)]
    simp
  have key := forL_inv (it := iLst (S.length + 1)) (g := gNam 2) (b := (dSeq (dAsg (dCallF nAbs (dCons (dCallF nInt (dCons (dVar 2) dNil)) dNil)) (gNam 3)) (dIf (dBin nGe (dVar 3) (dBin nPow (dLit (.int 10)) (dLit (.int 18)))) (dFor (dRng1 (dCons (dLit (.int 60)) dNil)) (gNam 4) smA) (dSeq (dAsg (dBin nMod (dCallF nInt (dCons (dVar 3) dNil)) (dLit (.int 2147483647))) (gNam 5)) (dFor (dRng1 (dCons (dLit (.int 10)) dNil)) (gNam 4) smB)))))
    (P := fun i e S' => ∃ nums t2 t3 t4 t5, Nm nums (60 * i) ∧ e = [.ref r, .ref S.length, t2, t3, t4, t5] ∧ S' = S ++ O.lst (nums.map T.int) :: [.lst cells])
    (Z := fun rs => ∃ nums t2 t3 t4 t5, Nm nums 3800 ∧ rs = .nx [.ref r, .ref S.length, t2, t3, t4, t5] (S ++ O.lst (nums.map T.int) :: [.lst cells])) cells.length ?_ ?_ FUEL 0 _ _ ⟨[], .hole, .hole, .hole, .hole, ⟨(fun z hz => by cases hz), Nat.le_refl _⟩, rfl, rfl⟩ (Nat.zero_le _) (fuel_ok (by unfold LINE; omega))
  · obtain ⟨nums, t2, t3, t4, t5, q1, q2⟩ := key
    have b1 : dItL (dSlc nSlc (dVar 0) none (some (dLit (.int 63)))) [.ref r, .ref S.length, .hole, .hole, .hole, .hole] (S ++ [.lst []]) = .ok (iLst (S.length + 1)) (S ++ O.lst (([] : List Int).map T.int) :: [.lst cells]) := v_itL a2 (gC [])
    have ln : nLenA [.ref S.length] (S ++ O.lst (nums.map T.int) :: [.lst cells]) = .ok (.int nums.length) (S ++ O.lst (nums.map T.int) :: [.lst cells]) := by
      have := nLen_l (S := S ++ O.lst (nums.map T.int) :: [.lst cells]) (n := S.length) (xs := nums.map T.int) (at_mid rfl)
      rwa [List.length_map] at this
    have c1 := v_bin (v_callF (v_cons (v_var (i := 1) (e := [.ref r, .ref S.length, t2, t3, t4, t5]) (S := S ++ O.lst (nums.map T.int) :: [.lst cells]) rfl nh_ref) v_nil) ln) v_lit (nEq_i (x := (nums.length : Int)) (y := 0))
    by_cases c : (nums.length : Int) = 0
    · rw [decide_eq_true c] at c1
      have n1 : Nm (nums ++ [0]) 3801 := q1.add (by omega) (by omega)
      have s1 := v_expr (v_meth (cc := isL) (v_var (i := 1) (e := [.ref r, .ref S.length, t2, t3, t4, t5]) (S := S ++ O.lst (nums.map T.int) :: [.lst cells]) rfl nh_ref) (isL_l (at_mid rfl)) (v_cons v_lit v_nil) (app_num (z := 0) q1 (by omega)))
      refine ⟨nums ++ [0], by simp, n1.b, by have := n1.l; omega, ?_⟩
      exact runD_ok rfl (v_seq a1 (v_seq (v_for b1 q2) (v_seq (v_ifT c1 s1) (v_ret (v_var (i := 1) rfl nh_ref))))) rfl (fin_lst rfl cl lows_ints)
    · rw [decide_eq_false c] at c1
      refine ⟨nums, fun z => c (by rw [z]; rfl), q1.b, by have := q1.l; omega, ?_⟩
      exact runD_ok rfl (v_seq a1 (v_seq (v_for b1 q2) (v_seq (v_ifF c1 rfl) (v_ret (v_var (i := 1) rfl nh_ref))))) rfl (fin_lst rfl cl lows_ints)
  · rintro i e S' hi ⟨nums, t2, t3, t4, t5, q1, rfl, rfl⟩
    obtain ⟨z, hz⟩ := hci i hi
    refine ⟨.int z, lst_itemT (gC nums) hz, .inl ?_⟩
    rw [g_nam (show 2 < 6 by decide)]
    simp only [List.set_cons_succ, List.set_cons_zero]
    have s1 := v_asg (i := 3) (v_callF (f := nAbs) (r := .ok (.int (if z < 0 then -z else z)) (S ++ O.lst (nums.map T.int) :: [.lst cells])) (v_cons (v_callF (v_cons (v_var (i := 2) (e := [.ref r, .ref S.length, .int z, t3, t4, t5]) (S := S ++ O.lst (nums.map T.int) :: [.lst cells]) rfl nh_int) v_nil) nInt_i) v_nil) rfl) (show 3 < 6 by decide)
    simp only [List.set_cons_succ, List.set_cons_zero] at s1
    generalize (if z < 0 then -z else z) = rest at s1
    have c1 : dBin nGe (dVar 3) (dBin nPow (dLit (.int 10)) (dLit (.int 18))) [.ref r, .ref S.length, .int z, .int rest, t4, t5] (S ++ O.lst (nums.map T.int) :: [.lst cells]) = .ok (.bl (decide ((10 : Int) ^ 18 ≤ rest))) (S ++ O.lst (nums.map T.int) :: [.lst cells]) := v_bin (v_var (i := 3) rfl nh_int) (v_bin (r := .ok (.int ((10 : Int) ^ 18)) _) v_lit v_lit rfl) rfl
    cases c : decide ((10 : Int) ^ 18 ≤ rest) with
    | true =>
      rw [c] at c1
      obtain ⟨nums', rest', t4', r1, r2⟩ := sm_A (S := S) (j := [.lst cells]) (rest := rest) (t0 := .ref r) (t2 := .int z) (t4 := t4) (t5 := t5) q1 (by omega)
      exact ⟨_, _, v_seq s1 (v_ifT c1 r2), nums', _, _, _, _, r1.mono (by omega), rfl, rfl⟩
    | false =>
      rw [c] at c1
      have s2 := v_asg (i := 5) (v_bin (v_callF (v_cons (v_var (i := 3) (e := [.ref r, .ref S.length, .int z, .int rest, t4, t5]) (S := S ++ O.lst (nums.map T.int) :: [.lst cells]) rfl nh_int) v_nil) nInt_i) v_lit (nMod_i (x := rest) (y := 2147483647) (by omega))) (show 5 < 6 by decide)
      simp only [List.set_cons_succ, List.set_cons_zero] at s2
      obtain ⟨nums', st', t4', r1, r2⟩ := sm_B (S := S) (j := [.lst cells]) (st := rest % 2147483647) (t0 := .ref r) (t2 := .int z) (t3 := .int rest) (t4 := t4) q1 (by omega)
      exact ⟨_, _, v_seq s1 (v_ifF c1 (v_seq s2 r2)), nums', _, _, _, _, r1.mono (by omega), rfl, rfl⟩
  · rintro e S' ⟨nums, t2, t3, t4, t5, q1, rfl, rfl⟩
    exact ⟨lst_stopT (gC nums), nums, t2, t3, t4, t5, q1.mono (by omega), rfl⟩
end K02
set_option Elab.async false
set_option linter.all false
set_option maxRecDepth 100000
set_option maxHeartbeats 4000000
namespace K02
open PySem PySem.Spec PyProof.Rows L2 DD
/-! ### what is shown -/
def strL (d : PyData) : Prop := ∀ c ∈ d.shown.cps.toList, c < 1114112
theorem strL_int {i : Int} : strL (.int i) := fun c hc => Classical.byContradiction fun h => shown_int_free' (k := c) ⟨by omega, .inr (by omega)⟩ i hc
theorem strL_tup {xs : List PyData} (h : ∀ x ∈ xs, strL x) : strL (.tuple xs) := fun c hc => Classical.byContradiction fun hn => by
  have hf := shownAll_free (k := c) (xs := xs) fun x hx z => hn (h x hx c z)
  rw [PyData.shown_tuple, ← PyData.shownAll_length xs] at hc
  change c ∈ ((("(" : String) : Str) ++ Str.join ", " (PyData.shownAll xs) ++ ((if (PyData.shownAll xs).length == 1 then ",)" else ")" : String) : Str)).cps.toList at hc
  rw [mem_cps_append, mem_cps_append, signs_lparen, mem_join, signs_tuple_end] at hc
  rcases hc with (hm | (⟨t, ht, hcc⟩ | ⟨hl, hs⟩)) | hm
  · rw [List.mem_singleton] at hm; omega
  · exact hf t ht hcc
  · rw [signs_sep] at hs
    simp only [List.mem_cons, List.not_mem_nil, or_false] at hs
    omega
  · split at hm
    · simp only [List.mem_cons, List.not_mem_nil, or_false] at hm
      omega
    · simp only [List.mem_cons, List.not_mem_nil, or_false] at hm
      omega
mutual
theorem it_strL : ∀ t : T, t.it = true → strL (tD t)
  | .int i, _ => strL_int
  | .tup ts, h => by
    unfold T.it at h
    unfold tD
    exact strL_tup (its_strL ts h)
  | .non, h | .bl _, h | .str _, h | .hole, h | .ref _, h | .fn _, h | .lam _, h | .clo _ _, h => by simp [T.it] at h
theorem its_strL : ∀ ts : List T, T.its ts = true → ∀ x ∈ tDs ts, strL x
  | [], _, x, hx => by simp [tDs] at hx
  | t :: ts, h, x, hx => by
    simp only [T.its, Bool.and_eq_true] at h
    unfold tDs at hx
    rcases List.mem_cons.mp hx with e | e
    · rw [e]; exact it_strL t h.1
    · exact its_strL ts h.2 x e
end
structure Sm (k : Nat) (d : PyData) : Prop where
  sh : d.showable = true
  cl : d.canLay0 = true
  is : d.intsShort 13 = true
  wt : d.weight ≤ k
structure SmL (k : Nat) (ds : List PyData) : Prop where
  sh : PyData.showableAll ds = true
  cl : PyData.canLayAll0 ds = true
  is : PyData.intsShortAll 13 ds = true
  wt : PyData.weightAll ds ≤ k
theorem SmL.nil : SmL 0 [] := ⟨by simp [PyData.showableAll], by simp [PyData.canLayAll0], by simp [PyData.intsShortAll], by simp [PyData.weightAll]⟩
theorem SmL.cons {a b d ds} (h : Sm a d) (g : SmL b ds) : SmL (a + 1 + b) (d :: ds) := ⟨by simp [PyData.showableAll, h.sh, g.sh], by simp [PyData.canLayAll0, h.cl, g.cl], by simp [PyData.intsShortAll, h.is, g.is], by
  have := h.wt
  have := g.wt
  simp only [PyData.weightAll]
  omega⟩
theorem SmL.tup {k ds} (h : SmL k ds) : Sm k (.tuple ds) := ⟨by simp [PyData.showable, h.sh], by simp [PyData.canLay0, h.cl], by simp [PyData.intsShort, h.is], by simp only [PyData.weight]; exact h.wt⟩
theorem SmL.map {α : Type} {f : α → T} {a : Nat} : ∀ {l : List α}, (∀ x ∈ l, Sm a (tD (f x))) → SmL ((a + 1) * l.length) (tDs (l.map f))
  | [], _ => SmL.nil
  | x :: l, h => by
    have := SmL.cons (h x List.mem_cons_self) (SmL.map (l := l) fun y hy => h y (List.mem_cons_of_mem _ hy))
    rw [List.length_cons, Nat.mul_succ, Nat.add_comm]
    exact this
theorem Sm.mono {a b d} (h : Sm a d) (hab : a ≤ b) : Sm b d := ⟨h.sh, h.cl, h.is, Nat.le_trans h.wt hab⟩
theorem sm_nat {n : Nat} (h : n < 20) : Sm 5 (tD (natT n)) := by
  have key : ∀ n, n < 20 → (PyData.int ((n : Nat) : Int)).showable = true ∧ (PyData.int ((n : Nat) : Int)).intsShort 13 = true ∧ (PyData.int ((n : Nat) : Int)).weight ≤ 5 := by decide +kernel
  obtain ⟨a, b, c⟩ := key n h
  exact ⟨a, rfl, b, c⟩
theorem sm_row {r : List Nat} (h : ∀ a ∈ r, a < 20) : Sm (6 * r.length) (tD (rowT r)) := (SmL.map (f := natT) (a := 5) fun a ha => sm_nat (h a ha)).tup
theorem mc_it {m : Mc} : m.T.it = true := by
  have hn : ∀ l : List Nat, T.its (l.map natT) = true := fun l => by
    induction l with
    | nil => rfl
    | cons a l ih => exact ih
  have hr : ∀ l : List (List Nat), T.its (l.map rowT) = true := fun l => by
    induction l with
    | nil => rfl
    | cons a l ih =>
      show (T.it (rowT a) && T.its (l.map rowT)) = true
      rw [show T.it (rowT a) = true from hn a, ih]
      rfl
  show (true && (true && (T.its (m.mv.map rowT) && (T.its (m.en.map natT) && true)))) = true
  rw [hr, hn]
  rfl
theorem mc_dep {m : Mc} : m.T.dep ≤ 4 := by
  have hn : ∀ l : List Nat, T.deps (l.map natT) = 0 := fun l => by
    induction l with
    | nil => rfl
    | cons a l ih =>
      show max 0 (T.deps (l.map natT)) = 0
      rw [ih]
      rfl
  have hr : ∀ l : List (List Nat), T.deps (l.map rowT) ≤ 1 := fun l => by
    induction l with
    | nil => simp [T.deps]
    | cons a l ih =>
      show max (T.deps (a.map natT) + 1) (T.deps (l.map rowT)) ≤ 1
      rw [hn]
      omega
  show max 0 (max 0 (max (T.deps (m.mv.map rowT) + 1) (max (T.deps (m.en.map natT) + 1) 0))) + 1 ≤ 4
  rw [hn]
  have := hr m.mv
  omega
/-- a small machine -/
structure Tn (m : Mc) : Prop where
  b : m.b < 20
  t : m.t < 20
  n : m.mv.length ≤ 6
  e : m.en.length ≤ 6
  r : ∀ r ∈ m.mv, r.length ≤ 1000 ∧ ∀ a ∈ r, a < 20
  en : ∀ a ∈ m.en, a < 20
theorem Tn.sm {m : Mc} (h : Tn m) : Sm 50000 (tD m.T) := by
  have r1 : SmL ((6000 + 1) * m.mv.length) (tDs (m.mv.map rowT)) := SmL.map fun r hr => (sm_row (h.r r hr).2).mono (by have := (h.r r hr).1; omega)
  have e1 := sm_row h.en
  have h1 := h.n
  have h2 := h.e
  exact (SmL.cons (sm_nat h.b) (SmL.cons (sm_nat h.t) (SmL.cons r1.tup (SmL.cons e1 SmL.nil)))).tup.mono (by omega)
theorem Gd.tn {m : Mc} {w : Nat} (g : Gd m w) (h : m.mv.length ≤ 6) : Tn m := by
  have hb := g.b
  have ht := g.t
  have hw := g.ws
  have he := g.e
  refine ⟨by omega, by omega, h, by omega, fun r hr => ?_, fun a ha => ?_⟩
  · obtain ⟨i, hi, e⟩ := List.getElem_of_mem hr
    have e2 : m.mv.getD i [] = r := by
      rw [List.getD_eq_getElem?_getD, List.getElem?_eq_getElem hi]
      exact e
    have w1 := g.w1 i hi
    rw [e2] at w1
    refine ⟨by omega, fun a ha => ?_⟩
    have := g.lo.r i hi a (by unfold mvF; rw [e2]; exact ha)
    omega
  · obtain ⟨i, hi, e⟩ := List.getElem_of_mem ha
    have := g.e1 i (by omega)
    rw [List.getD_eq_getElem?_getD, List.getElem?_eq_getElem hi] at this
    have e3 : m.en[i] ≤ 1 := this
    omega
/-- repr((machine, other)) -/
theorem repr_two {m o : Mc} (hm : Tn m) (ho : Tn o) : ∃ K : Str, shp (.str K) = true ∧ ∀ S : Store, nRepr [.tup [m.T, o.T]] S = .ok (.str K) S := by
  have sm := (SmL.cons hm.sm (SmL.cons ho.sm SmL.nil)).tup
  have hit : (T.tup [m.T, o.T]).it = true := by
    show (T.it m.T && (T.it o.T && true)) = true
    rw [mc_it, mc_it]
    rfl
  have hdep : (T.tup [m.T, o.T]).dep ≤ 5 := by
    show max m.T.dep (max o.T.dep 0) + 1 ≤ 5
    have := mc_dep (m := m)
    have := mc_dep (m := o)
    omega
  have e : tD (.tup [m.T, o.T]) = .tuple [tD m.T, tD o.T] := by simp [tD, tDs]
  have hd : (tD (.tup [m.T, o.T])).depth ≤ 60 := by rw [dep_eq]; omega
  have hl : PyData.layable0 (tD (.tup [m.T, o.T])) = true := by
    unfold PyData.layable0
    rw [Bool.and_eq_true, Bool.and_eq_true, decide_eq_true_eq, decide_eq_true_eq]
    refine ⟨⟨by rw [e]; exact sm.cl, by omega⟩, ?_⟩
    rw [e]
    have := sm.wt
    have e2 : (2 : Nat) ^ 20 = 1048576 := by decide
    omega
  have hs := shown_le13 hl (by rw [e]; exact sm.is)
  refine ⟨(tD (.tup [m.T, o.T])).shown, ?_, fun S => ?_⟩
  · have hc := it_strL (.tup [m.T, o.T]) hit
    unfold shp SeqAt.shaped
    have c1 : PyData.canLay0 (.str (tD (.tup [m.T, o.T])).shown) = true := by
      show PyData.strOk (tD (.tup [m.T, o.T])).shown = true
      unfold PyData.strOk
      rw [Array.all_eq_true_iff_forall_mem]
      intro c hm
      rw [decide_eq_true_eq]
      exact hc c (Array.mem_toList_iff.mpr hm)
    rw [c1]
    rfl
  · have hp := dat_pure (S := S) (T.it_pure _ hit)
    show (match dat S (.tup [m.T, o.T]) with
      | some d => if d.showable && !d.hasDict && decide (d.depth ≤ 60) && decide (d.shown.length ≤ LINE) then DD.R.ok (T.str d.shown) S else DD.R.bad
      | none => DD.R.bad) = _
    rw [hp]
    have h1 : (tD (.tup [m.T, o.T])).showable = true := by rw [e]; exact sm.sh
    have h2 : (tD (.tup [m.T, o.T])).hasDict = false := PyData.hasDict_of_canLay _ (by rw [e]; exact sm.cl)
    have h3 : (tD (.tup [m.T, o.T])).shown.length ≤ LINE := by unfold LINE; omega
    show (if (tD (.tup [m.T, o.T])).showable && !(tD (.tup [m.T, o.T])).hasDict && decide ((tD (.tup [m.T, o.T])).depth ≤ 60) && decide ((tD (.tup [m.T, o.T])).shown.length ≤ LINE) then DD.R.ok (T.str (tD (.tup [m.T, o.T])).shown) S else DD.R.bad) = _
    rw [h1, h2, decide_eq_true hd, decide_eq_true h3]
    rfl
end K02
set_option Elab.async false
set_option linter.all false
set_option maxRecDepth 100000
set_option maxHeartbeats 4000000
namespace K02
open PySem PySem.Spec PyProof.Rows L2 DD
def toldT (k : Bool) : T := .tup [.str "told", .bl k]
def refT : T := .tup [.str "refused"]
theorem told_ok {d : DE} {e : EnvT} {S : Store} {k : Bool} (h : d (e.map T.noLam) S = .ok (.bl k) S) : dTold d e S = .ok (toldT k) S := by
  unfold dTold
  rw [h]
  show (if (T.bl k).plain then fin S.length (.tup [.str "told", .bl k]) S else DD.R.bad) = _
  rw [if_pos (show (T.bl k).plain = true from rfl)]
  exact fin_id rfl rfl
theorem told_no {d : DE} {e : EnvT} {S : Store} (cl : Cl S) (h : d (e.map T.noLam) S = .exc 1 [] S) : dTold d e S = .ok refT S := by
  unfold dTold
  rw [h]
  show (if (S.take S.length).all (O.low S.length) && decide (S.length ≤ S.length) then DD.R.ok (T.tup [.str "refused"]) (S.take S.length) else DD.R.bad) = _
  rw [List.take_length]
  have h1 : S.all (O.low S.length) = true := cl
  rw [h1, decide_eq_true (Nat.le_refl _)]
  rfl
def toldD (k : Bool) : PyData := .list [.tuple [.str "told", .bool k]]
theorem told_repr {S : Store} {n : Nat} {k : Bool} (h : S[n]? = some (.lst [toldT k])) : nRepr [.ref n] S = .ok (.str (toldD k).shown) S := by
  have hd : dat S (.ref n) = some (toldD k) := by
    show datR 8 S n = _
    unfold datR
    rw [h]
    rfl
  show (match dat S (.ref n) with
      | some d => if d.showable && !d.hasDict && decide (d.depth ≤ 60) && decide (d.shown.length ≤ LINE) then DD.R.ok (T.str d.shown) S else DD.R.bad
      | none => DD.R.bad) = _
  rw [hd]
  have hc : ∀ k, ((toldD k).showable && !(toldD k).hasDict && decide ((toldD k).depth ≤ 60) && decide ((toldD k).shown.length ≤ LINE)) = true := by
    unfold LINE
    intro k
    cases k
    · decide +kernel
    · decide +kernel
  show (if (toldD k).showable && !(toldD k).hasDict && decide ((toldD k).depth ≤ 60) && decide ((toldD k).shown.length ≤ LINE) then DD.R.ok (T.str (toldD k).shown) S else DD.R.bad) = _
  rw [hc k]
  rfl
theorem nEq_str {S : Store} {x : Str} (h : shp (.str x) = true) : nEq (.str x) (.str x) S = .ok (.bl true) S := by
  show nEqD false (dat S (.str x)) (dat S (.str x)) S = _
  have e : dat S (.str x) = some (.str x) := rfl
  rw [e]
  unfold nEqD
  simp only [h, Bool.and_self, if_true, okB]
  simp [PyData.eqv]
theorem nNe_str {S : Store} {x : Str} (h : shp (.str x) = true) : nNe (.str x) (.str x) S = .ok (.bl false) S := by
  show nEqD true (dat S (.str x)) (dat S (.str x)) S = _
  have e : dat S (.str x) = some (.str x) := rfl
  rw [e]
  unfold nEqD
  simp only [h, Bool.and_self, if_true, okB]
  simp [PyData.eqv]
theorem nNe_ref {S : Store} : nNe refT refT S = .ok (.bl false) S := by
  show nEqD true (dat S refT) (dat S refT) S = _
  have e : dat S refT = some (.tuple [.str "refused"]) := rfl
  rw [e]
  unfold nEqD
  have h : shp (.tuple [.str "refused"]) = true := by decide +kernel
  simp only [h, Bool.and_self, if_true, okB]
  have h2 : PyData.eqv (.tuple [.str "refused"]) (.tuple [.str "refused"]) = true := by decide +kernel
  rw [h2]
  rfl
theorem nh_told {k : Bool} : toldT k ≠ .hole := by unfold toldT; intro z; cases z
theorem same_ok {S : Store} {k : Bool} (cl : Cl S) : F__law_same [toldT k, toldT k] S = .ok (.bl true) S := by
  have l1 : dLst (dCons (dVar 0) dNil) [toldT k, toldT k] S = .ok (.ref S.length) (S ++ [.lst [toldT k]]) := v_lst (v_cons (v_var rfl nh_told) v_nil) rfl one_line
  have l2 : dLst (dCons (dVar 1) dNil) [toldT k, toldT k] (S ++ [.lst [toldT k]]) = .ok (.ref (S ++ [O.lst [toldT k]]).length) (S ++ [.lst [toldT k]] ++ [.lst [toldT k]]) := v_lst (v_cons (v_var rfl nh_told) v_nil) rfl one_line
  have hs : ∀ k, shp (.str (toldD k).shown) = true := by
    intro k
    cases k
    · decide +kernel
    · decide +kernel
  have r := v_ret (v_bin (v_callF (v_cons l1 v_nil) (told_repr ix_new)) (v_callF (v_cons l2 v_nil) (told_repr ix_new)) (nEq_str (hs k)))
  refine runD_ok rfl r rfl ?_
  rw [List.append_assoc]
  exact fin_bl cl
end K02
set_option Elab.async false
set_option linter.all false
set_option maxRecDepth 100000
set_option maxHeartbeats 4000000
namespace K02
open PySem PySem.Spec PyProof.Rows L2 DD
abbrev wE (t0 : T) (s : Nat) (t2 t3 t4 t5 t6 t7 t8 t9 t10 t11 t12 t13 t14 t15 t16 : T) : EnvT := [t0, .ref s, t2, t3, t4, t5, t6, t7, t8, t9, t10, t11, t12, t13, t14, t15, t16]
theorem ext_pairs {S j : Store} {B C : List (Int × Int)} (h : B.length + C.length < 1000) : nExt (.ref S.length) [.ref (S ++ O.lst (B.map pairT) :: j).length] (S ++ O.lst (B.map pairT) :: j ++ [O.lst (C.map pairT)]) = .ok .non (S ++ O.lst ((B ++ C).map pairT) :: (j ++ [O.lst (C.map pairT)])) := by
  have g1 : (S ++ O.lst (B.map pairT) :: j ++ [O.lst (C.map pairT)])[S.length]? = some (.lst (B.map pairT)) := ix_app (at_mid rfl)
  have g2 : (S ++ O.lst (B.map pairT) :: j ++ [O.lst (C.map pairT)])[(S ++ O.lst (B.map pairT) :: j).length]? = some (.lst (C.map pairT)) := ix_new
  have g3 : (S ++ O.lst (B.map pairT) :: j ++ [O.lst (C.map pairT)]).set S.length (.lst ((B ++ C).map pairT)) = S ++ O.lst ((B ++ C).map pairT) :: (j ++ [O.lst (C.map pairT)]) := by
    have h := set_mid (a := S) (b := j ++ [O.lst (C.map pairT)]) (x := O.lst (B.map pairT)) (y := O.lst ((B ++ C).map pairT)) (n := S.length) rfl
    rw [← h]
    simp
  simp only [nExt, g1, g2]
  rw [if_pos (by rw [List.length_map, List.length_map]; unfold LINE; omega), ← List.map_append, g3]
abbrev evLoop : DS := (dFor (dRng1 (dCons (dCallF nLenA (dCons (dBin nIx (dVar 10) (dLit (.int 2))) dNil)) dNil)) (gNam 7) (dExpr (dMeth isL nExt (dVar 6) (dCons (dLC [16] (dRng1 (dCons (dCallF nLenA (dCons (dBin nIx (dVar 11) (dLit (.int 2))) dNil)) dNil)) (gNam 16) (dLit (.bl true)) (dTup (dCons (dVar 7) (dCons (dVar 16) dNil)))) dNil))))
theorem ev_loop {m o : Mc} {X : Store} {s : Nat} {t0 t2 t3 t4 t5 t7 t8 t9 t12 t13 t14 t15 t16 : T} (hm : m.mv.length ≤ 6) (ho : o.mv.length ≤ 6) (cl : Cl (X ++ [.lst []])) :
    ∃ (L : List (Int × Int)) (j : Store) (t7' : T), L.length ≤ 36 ∧ Cl (X ++ O.lst (L.map pairT) :: j) ∧ evLoop (wE t0 s t2 t3 t4 t5 (.ref X.length) t7 t8 t9 m.T o.T t12 t13 t14 t15 t16) (X ++ [.lst []]) = .nx (wE t0 s t2 t3 t4 t5 (.ref X.length) t7' t8 t9 m.T o.T t12 t13 t14 t15 t16) (X ++ O.lst (L.map pairT) :: j) := by
  have key := forL_inv (it := iRng 0 1 m.mv.length) (g := gNam 7) (b := (dExpr (dMeth isL nExt (dVar 6) (dCons (dLC [16] (dRng1 (dCons (dCallF nLenA (dCons (dBin nIx (dVar 11) (dLit (.int 2))) dNil)) dNil)) (gNam 16) (dLit (.bl true)) (dTup (dCons (dVar 7) (dCons (dVar 16) dNil)))) dNil))))
    (P := fun i e S' => ∃ (L : List (Int × Int)) (j : Store) (t7' : T), L.length ≤ 6 * i ∧ Cl (X ++ O.lst (L.map pairT) :: j) ∧ e = wE t0 s t2 t3 t4 t5 (.ref X.length) t7' t8 t9 m.T o.T t12 t13 t14 t15 t16 ∧ S' = X ++ O.lst (L.map pairT) :: j)
    (Z := fun r => ∃ (L : List (Int × Int)) (j : Store) (t7' : T), L.length ≤ 36 ∧ Cl (X ++ O.lst (L.map pairT) :: j) ∧ r = .nx (wE t0 s t2 t3 t4 t5 (.ref X.length) t7' t8 t9 m.T o.T t12 t13 t14 t15 t16) (X ++ O.lst (L.map pairT) :: j)) m.mv.length ?_ ?_ FUEL 0 _ _ ⟨[], [], t7, Nat.le_refl _, cl, rfl, rfl⟩ (Nat.zero_le _) (fuel_ok (by unfold LINE; omega))
  · obtain ⟨L, j, t7', q1, q2, q3⟩ := key
    exact ⟨L, j, t7', q1, q2, v_for (v_rng1 (v_cons (len_mac (i := 10) rfl) v_nil) (by unfold LINE; omega)) q3⟩
  · rintro i e S' hi ⟨L, j, t7', q1, q2, rfl, rfl⟩
    refine ⟨natT i, by rw [rng_item hi, Int.zero_add]; rfl, .inl ?_⟩
    rw [g_nam (show 7 < 17 by decide)]
    simp only [List.set_cons_succ, List.set_cons_zero]
    have lc := lc_pure (own := [16]) (di := dRng1 (dCons (dCallF nLenA (dCons (dBin nIx (dVar 11) (dLit (.int 2))) dNil)) dNil)) (g := gNam 16) (te := dTup (dCons (dVar 7) (dCons (dVar 16) dNil))) (e := wE t0 s t2 t3 t4 t5 (.ref X.length) (natT i) t8 t9 m.T o.T t12 t13 t14 t15 t16) (S := X ++ O.lst (L.map pairT) :: j) (n := o.mv.length) (x := fun k => natT k) (y := fun k => pairT ((i : Int), (k : Int)))
      (E := fun k => wE t0.noLam s t2.noLam t3.noLam t4.noLam t5.noLam (.ref X.length) (natT i) t8.noLam t9.noLam m.T o.T t12.noLam t13.noLam t14.noLam t15.noLam (natT k)) q2 (v_rng1 (v_cons (len_mac (i := 11) rfl) v_nil) (by unfold LINE; omega)) (by unfold LINE; omega)
      (fun k S' hk _ => by rw [rng_item hk, Int.zero_add]; rfl) (fun S' _ => rng_stop) (fun k S' hk => rfl) (fun k S' hk ex => v_tup (v_cons (v_var (t := natT i) rfl nh_int) (v_cons (v_var (t := natT k) rfl nh_int) v_nil)) rfl two_line) (fun k hk => ⟨rfl, rfl⟩)
    have el : (List.range o.mv.length).map (fun k : Nat => pairT ((i : Int), (k : Int))) = ((List.range o.mv.length).map fun k : Nat => ((i : Int), (k : Int))).map pairT := by rw [List.map_map]; rfl
    rw [el] at lc
    have hCl : ((List.range o.mv.length).map fun k : Nat => ((i : Int), (k : Int))).length = o.mv.length := by simp
    generalize ((List.range o.mv.length).map fun k : Nat => ((i : Int), (k : Int))) = C at lc hCl
    have ex := ext_pairs (S := X) (j := j) (B := L) (C := C) (by omega)
    refine ⟨_, _, v_expr (v_meth (v_var (i := 6) rfl nh_ref) (isL_l (at_mid rfl)) (v_cons lc v_nil) ex), L ++ C, j ++ [O.lst (C.map pairT)], natT i, by rw [List.length_append]; omega, ?_, rfl, rfl⟩
    have c2 : Cl (X ++ O.lst (L.map pairT) :: j ++ [O.lst (C.map pairT)]) := cl_snoc q2 low_pairs
    rw [List.append_assoc] at c2
    exact cl_put c2 low_pairs
  · rintro e S' ⟨L, j, t7', q1, q2, rfl, rfl⟩
    exact ⟨rng_stop, L, j, t7', by omega, q2, rfl⟩
abbrev bentEl : DE := dCall F__law_bent (dCons (dVar 1) (dCons (dVar 10) (dCons (dVar 11) (dCons (dBin nIx (dVar 13) (dCall F__law_next (dCons (dVar 1) (dCons (dLit (.int 2)) dNil)))) dNil))))
/-- the nine bent papers -/
theorem bents_ok {m o : Mc} {w : Nat} {X : Store} {s nu c rp : Nat} {nums : List Int} {Q : List (List (Int × Int))} {t0 t2 t3 t4 t5 t6 t7 t8 t9 t12 t14 t15 t16 : T} (d : Dr X s nu nums c) (cl : Cl X) (gm : Gd m w) (go : Gd o w) (hp : X[rp]? = some (.lst (Q.map pT))) (hQ : 2 ≤ Q.length) (hQ2 : ∀ x ∈ Q, x.length < 60) (hrs : rp ≠ s) (hc : c + 10000 < 1000000000) :
    ∃ (B : List (List (Int × Int))) (c' : Nat), (∀ x ∈ B, x.length < 62) ∧ B.length = 9 ∧ c' ≤ c + 200 ∧
      dLC [15] (dRng1 (dCons (dLit (.int 9)) dNil)) (gNam 15) (dLit (.bl true)) bentEl (wE t0 s t2 t3 t4 t5 t6 t7 t8 t9 m.T o.T t12 (.ref rp) t14 t15 t16) X = .ok (.ref X.length) (drS X s nu c' ++ [.lst (B.map pT)]) := by
  have hd : dRng1 (dCons (dLit (.int 9)) dNil) (wE t0 s t2 t3 t4 t5 t6 t7 t8 t9 m.T o.T t12 (.ref rp) t14 t15 t16) X = .ok (iRng 0 1 9) X := v_rng1 (j := 9) (v_cons v_lit v_nil) (by unfold LINE; omega)
  have hpd : ∀ (c2 : Nat) (j : Store), (drS X s nu c2 ++ j)[rp]? = some (.lst (Q.map pT)) := fun c2 j => ix_app (by unfold drS; exact ix_ne hp hrs.symm)
  obtain ⟨Sp, ys, junk, ⟨B, c', q1, q2, q3, q4, q5, q6⟩, h⟩ := lc_sj (own := [15]) (g := gNam 15) (te := bentEl) hd rfl (fun i Sp ys junk => ∃ (B : List (List (Int × Int))) (c' : Nat), ys = B.map pT ∧ B.length = i ∧ (∀ x ∈ B, x.length < 62) ∧ Sp = drS X s nu c' ∧ c' ≤ c + 20 * i ∧ Cl (Sp ++ .lst ys :: junk))
    ⟨[], c, rfl, rfl, (fun a ha => by cases ha), (drS_self d).symm, by omega, cl_snoc cl rfl⟩ (fun i Sp ys junk ⟨B, c', q1, q2, q3, q4, q5, q6⟩ => by
      subst q1 q4
      exact ⟨drS_len, cl_len (d.cl cl) drS_len, low_pTs (l := B), by rw [List.length_map]; omega⟩) (n := 9) (by unfold LINE; omega) (fun i Sp ys junk hi ⟨B, c', q1, q2, q3, q4, q5, q6⟩ => by
      subst q1 q4
      obtain ⟨v, hv, e1⟩ := next_at (j := .lst (B.map pT) :: junk) (c := c') (many := 2) d (by omega) (by omega)
      have d2 := dr_here (c' := c' + 1) d (by omega) (.lst (B.map pT) :: junk)
      have cl2 : Cl (drS X s nu (c' + 1) ++ .lst (B.map pT) :: junk) := by
        have := (dr_here (c' := c') d (by omega) (.lst (B.map pT) :: junk)).cl (c' := c' + 1) q6
        rwa [drS_app (by rw [drS_len]; exact d.lt.1), drS_drS] at this
      have hv2 : v < Q.length := by omega
      have hqv : (Q.getD v []).length < 60 := getD_all (P := fun x => x.length < 60) hQ2 hv2
      obtain ⟨qs, c3, u1, u2, u3⟩ := bent_ok (ps := Q.getD v []) d2 cl2 gm go hqv (by omega)
      rw [drS_app (by rw [drS_len]; exact d.lt.1), drS_drS] at u3
      refine ⟨natT i, wE t0.noLam s t2.noLam t3.noLam t4.noLam t5.noLam t6.noLam t7.noLam t8.noLam t9.noLam m.T o.T t12.noLam (.ref rp) t14.noLam (natT i) t16.noLam, pT qs, drS X s nu c3, junk, by rw [rng_item hi, Int.zero_add]; rfl, rfl,
        v_call (v_cons (v_var (i := 1) rfl nh_ref) (v_cons (v_var (i := 10) (t := m.T) rfl nh_mac) (v_cons (v_var (i := 11) (t := o.T) rfl nh_mac) (v_cons (v_bin (v_var (i := 13) rfl nh_ref) (v_next (i := 1) rfl v_lit e1) (nIx_l (hpd _ _) (getD_map (d := []) hv2))) v_nil)))) rfl u3, rfl, B ++ [qs], c3, by simp, by rw [List.length_append, q2]; rfl, fun a ha => ?_, rfl, by omega, ?_⟩
      · rcases List.mem_append.mp ha with z | z
        · exact q3 a z
        · rw [List.mem_singleton] at z; rw [z]; exact u1
      · have c5 : Cl (drS X s nu c3 ++ .lst (B.map pT) :: junk) := by
          have := d2.cl (c' := c3) cl2
          rwa [drS_app (by rw [drS_len]; exact d.lt.1), drS_drS] at this
        have e : B.map pT ++ [pT qs] = (B ++ [qs]).map pT := by simp
        rw [e]
        exact cl_put c5 low_pTs) (fun Sp ys junk _ => rng_stop)
  subst q1 q4
  exact ⟨B, c', q3, q2, by omega, h⟩
end K02
set_option Elab.async false
set_option linter.all false
set_option maxRecDepth 100000
set_option maxHeartbeats 4000000
namespace K02
open PySem PySem.Spec PyProof.Rows L2 DD
abbrev ppBody : DS := (dSeq (dAsg (dCall F__law_right (dCons (dVar 10) (dCons (dVar 11) (dCons (dVar 12) dNil)))) (gNam 9)) (dIf (dOr (dUn nNot (dCall F__law_same (dCons (dTold (dCall F_judge_alike (dCons (dVar 10) (dCons (dVar 11) (dCons (dVar 12) dNil))))) (dCons (dTup (dCons (dLit (.str "told")) (dCons (dVar 9) dNil))) dNil)))) (dAnd (dVar 9) (dUn nNot (dVar 8)))) (dRet (dLit (.bl false))) dSkip))
theorem pp_step {m o : Mc} {w : Nat} {X : Store} {s : Nat} {ps : List (Int × Int)} {al : Bool} {t0 t2 t3 t4 t5 t6 t7 t9 t13 t14 t15 t16 : T} (cl : Cl X) (gm : Gd m w) (go : Gd o w) (hlk : likeOk m o = true) (hl : ps.length < 64) (hal : judgeB m o ps = true → al = true) :
    ppBody (wE t0 s t2 t3 t4 t5 t6 t7 (.bl al) t9 m.T o.T (pT ps) t13 t14 t15 t16) X = .nx (wE t0 s t2 t3 t4 t5 t6 t7 (.bl al) (.bl (judgeB m o ps)) m.T o.T (pT ps) t13 t14 t15 t16) X := by
  have a1 : dAsg (dCall F__law_right (dCons (dVar 10) (dCons (dVar 11) (dCons (dVar 12) dNil)))) (gNam 9) (wE t0 s t2 t3 t4 t5 t6 t7 (.bl al) t9 m.T o.T (pT ps) t13 t14 t15 t16) X = .nx (wE t0 s t2 t3 t4 t5 t6 t7 (.bl al) (.bl (judgeB m o ps)) m.T o.T (pT ps) t13 t14 t15 t16) X :=
    v_asg (v_call (v_cons (v_var (i := 10) (t := m.T) rfl nh_mac) (v_cons (v_var (i := 11) (t := o.T) rfl nh_mac) (v_cons (v_var (i := 12) (t := pT ps) rfl nh_pT) v_nil))) rfl (right_ok gm go cl hl)) (show 9 < 17 by decide)
  have j1 : dCall F_judge_alike (dCons (dVar 10) (dCons (dVar 11) (dCons (dVar 12) dNil))) ((wE t0 s t2 t3 t4 t5 t6 t7 (.bl al) (.bl (judgeB m o ps)) m.T o.T (pT ps) t13 t14 t15 t16).map T.noLam) X = .ok (.bl (judgeB m o ps)) X :=
    v_call (v_cons (v_var (i := 10) (t := m.T) rfl nh_mac) (v_cons (v_var (i := 11) (t := o.T) rfl nh_mac) (v_cons (v_var (i := 12) (t := pT ps) rfl nh_pT) v_nil))) rfl (judge_ok cl hlk (by unfold LINE; omega))
  generalize judgeB m o ps = k at a1 j1 hal
  have s1 := v_not (v_call (v_cons (told_ok j1) (v_cons (v_tup (v_cons (v_lit (t := .str "told")) (v_cons (v_var (i := 9) (t := .bl k) rfl nh_bl) v_nil)) rfl two_line) v_nil)) rfl (same_ok (k := k) cl))
  cases k with
  | false => exact v_seq a1 (v_ifF (v_orF s1 (v_andF (v_var (i := 9) (t := .bl false) rfl nh_bl))) rfl)
  | true =>
    have := hal rfl
    subst this
    exact v_seq a1 (v_ifF (v_orF s1 (v_andT (v_var (i := 9) (t := .bl true) rfl nh_bl) (v_not (v_var (i := 8) (t := .bl true) rfl nh_bl)))) rfl)
theorem pp_loop {m o : Mc} {w : Nat} {X : Store} {s rp : Nat} {Q : List (List (Int × Int))} {al : Bool} {t0 t2 t3 t4 t5 t6 t7 t9 t12 t14 t15 t16 : T} (cl : Cl X) (gm : Gd m w) (go : Gd o w) (hlk : likeOk m o = true) (hp : X[rp]? = some (.lst (Q.map pT))) (hl : ∀ ps ∈ Q, ps.length < 64) (hal : ∀ ps, judgeB m o ps = true → al = true) (hQ : Q.length < 1000) :
    ∃ t9' t12', dFor (dItL (dVar 13)) (gNam 12) ppBody (wE t0 s t2 t3 t4 t5 t6 t7 (.bl al) t9 m.T o.T t12 (.ref rp) t14 t15 t16) X = .nx (wE t0 s t2 t3 t4 t5 t6 t7 (.bl al) t9' m.T o.T t12' (.ref rp) t14 t15 t16) X := by
  have key := forL_inv (it := iLst rp) (g := gNam 12) (b := ppBody)
    (P := fun i e S' => ∃ t9' t12', e = wE t0 s t2 t3 t4 t5 t6 t7 (.bl al) t9' m.T o.T t12' (.ref rp) t14 t15 t16 ∧ S' = X)
    (Z := fun r => ∃ t9' t12', r = .nx (wE t0 s t2 t3 t4 t5 t6 t7 (.bl al) t9' m.T o.T t12' (.ref rp) t14 t15 t16) X) Q.length ?_ ?_ FUEL 0 _ _ ⟨t9, t12, rfl, rfl⟩ (Nat.zero_le _) (fuel_ok (by unfold LINE; omega))
  · obtain ⟨t9', t12', q⟩ := key
    exact ⟨t9', t12', v_for (v_itL (v_var rfl nh_ref) hp) q⟩
  · rintro i e S' hi ⟨t9', t12', rfl, rfl⟩
    have hm : (Q.getD i []).length < 64 := getD_all (P := fun x => x.length < 64) hl hi
    refine ⟨pT (Q.getD i []), lst_itemT hp (getD_map (d := []) hi), .inl ⟨_, _, ?_, .bl (judgeB m o (Q.getD i [])), pT (Q.getD i []), rfl, rfl⟩⟩
    rw [g_nam (show 12 < 17 by decide)]
    simp only [List.set_cons_succ, List.set_cons_zero]
    exact pp_step cl gm go hlk hm (hal _)
  · rintro e S' ⟨t9', t12', rfl, rfl⟩
    have := lst_stopT hp
    rw [List.length_map] at this
    exact ⟨this, t9', t12', rfl⟩
theorem like_bad1 {x m : Mc} (h : Bd x) : likeOk x m = false := by unfold likeOk; rw [h.g]; rfl
theorem like_bad2 {x m : Mc} (h : Bd x) : likeOk m x = false := by unfold likeOk; rw [h.g]; simp
theorem Gd.good {m : Mc} {w : Nat} (g : Gd m w) : m.good = true := good_iff.mpr (by rw [← g.we]; exact g)
theorem Gd.like {m o : Mc} {w : Nat} (gm : Gd m w) (go : Gd o w) (hb : m.b = o.b) (ht : m.t = o.t) : likeOk m o = true := by
  unfold likeOk
  rw [gm.good, go.good, decide_eq_true ⟨hb, ht⟩]
  rfl
theorem judge_bad1 {x m : Mc} {w : Nat} {S : Store} {t : T} (cl : Cl S) (h : Bd x) (gm : Gd m w) (ht : t.noLamB = true) (hh : t ≠ .hole) : F_judge_alike [x.T, m.T, t] S = .exc 1 [] S :=
  judge_no (ps := []) cl (like_bad1 h) h.r h.m h.e gm.row_le (by have := gm.n; unfold LINE; omega) (by rw [gm.e]; have := gm.n; unfold LINE; omega) ht hh
theorem judge_bad2 {x m : Mc} {w : Nat} {S : Store} {t : T} (cl : Cl S) (h : Bd x) (gm : Gd m w) (ht : t.noLamB = true) (hh : t ≠ .hole) : F_judge_alike [m.T, x.T, t] S = .exc 1 [] S :=
  judge_no (ps := []) cl (like_bad2 h) gm.row_le (by have := gm.n; unfold LINE; omega) (by rw [gm.e]; have := gm.n; unfold LINE; omega) h.r h.m h.e ht hh
end K02
set_option Elab.async false
set_option linter.all false
set_option maxRecDepth 100000
set_option maxHeartbeats 4000000
namespace K02
open PySem PySem.Spec PyProof.Rows L2 DD
abbrev turnBody : DS := (dSeq (dAsg (dBin nIx (dLst (dCons (dTup (dCons (dLit (.int 2)) (dCons (dLit (.int 1)) dNil))) (dCons (dTup (dCons (dLit (.int 2)) (dCons (dLit (.int 2)) dNil))) (dCons (dTup (dCons (dLit (.int 3)) (dCons (dLit (.int 1)) dNil))) dNil)))) (dCall F__law_next (dCons (dVar 1) (dCons (dLit (.int 3)) dNil)))) (gTupD 2 (gConsD (gNam 3) (gConsD (gNam 4) gNilD)))) (dSeq (dAsg (dCall F__law_machine (dCons (dVar 1) (dCons (dVar 3) (dCons (dVar 4) dNil)))) (gNam 10)) (dSeq (dAsg (dBin nIx (dLst (dCons (dCall F__law_least (dCons (dVar 10) dNil)) (dCons (dVar 10) (dCons (dCall F__law_machine (dCons (dVar 1) (dCons (dVar 3) (dCons (dVar 4) dNil)))) dNil)))) (dCall F__law_next (dCons (dVar 1) (dCons (dLit (.int 3)) dNil)))) (gNam 11)) (dSeq (dAsg (dCallF nRepr (dCons (dTup (dCons (dVar 10) (dCons (dVar 11) dNil))) dNil)) (gNam 5)) (dSeq (dAsg (dLst dNil) (gNam 6)) (dSeq (dFor (dRng1 (dCons (dCallF nLenA (dCons (dBin nIx (dVar 10) (dLit (.int 2))) dNil)) dNil)) (gNam 7) (dExpr (dMeth isL nExt (dVar 6) (dCons (dLC [16] (dRng1 (dCons (dCallF nLenA (dCons (dBin nIx (dVar 11) (dLit (.int 2))) dNil)) dNil)) (gNam 16) (dLit (.bl true)) (dTup (dCons (dVar 7) (dCons (dVar 16) dNil)))) dNil)))) (dSeq (dAsg (dLst (dCons (dCall F__law_met (dCons (dVar 10) (dCons (dVar 11) dNil))) (dCons (dCallF nTup (dCons (dVar 6) dNil)) (dCons (dTup (dCons (dTup (dCons (dLit (.int 0)) (dCons (dLit (.int 0)) dNil))) dNil)) (dCons (dTup dNil) dNil))))) (gNam 13)) (dSeq (dAsg (dBin nAdd (dVar 13) (dLC [15] (dRng1 (dCons (dLit (.int 9)) dNil)) (gNam 15) (dLit (.bl true)) (dCall F__law_bent (dCons (dVar 1) (dCons (dVar 10) (dCons (dVar 11) (dCons (dBin nIx (dVar 13) (dCall F__law_next (dCons (dVar 1) (dCons (dLit (.int 2)) dNil)))) dNil))))))) (gNam 13)) (dSeq (dAsg (dBin nEq (dCall F__law_least (dCons (dVar 10) dNil)) (dCall F__law_least (dCons (dVar 11) dNil))) (gNam 8)) (dSeq (dFor (dItL (dVar 13)) (gNam 12) (dSeq (dAsg (dCall F__law_right (dCons (dVar 10) (dCons (dVar 11) (dCons (dVar 12) dNil)))) (gNam 9)) (dIf (dOr (dUn nNot (dCall F__law_same (dCons (dTold (dCall F_judge_alike (dCons (dVar 10) (dCons (dVar 11) (dCons (dVar 12) dNil))))) (dCons (dTup (dCons (dLit (.str "told")) (dCons (dVar 9) dNil))) dNil)))) (dAnd (dVar 9) (dUn nNot (dVar 8)))) (dRet (dLit (.bl false))) dSkip))) (dSeq (dAsg (dCall F__law_wrong (dCons (dVar 1) (dCons (dVar 10) dNil))) (gNam 14)) (dSeq (dIf (dBin nNe (dTold (dCall F_judge_alike (dCons (dVar 14) (dCons (dVar 10) (dCons (dBin nIx (dVar 13) (dLit (.int 0))) dNil))))) (dTup (dCons (dLit (.str "refused")) dNil))) (dRet (dLit (.bl false))) dSkip) (dIf (dOr (dBin nNe (dTold (dCall F_judge_alike (dCons (dVar 10) (dCons (dVar 14) (dCons (dBin nIx (dVar 13) (dLit (.int 0))) dNil))))) (dTup (dCons (dLit (.str "refused")) dNil))) (dBin nNe (dCallF nRepr (dCons (dTup (dCons (dVar 10) (dCons (dVar 11) dNil))) dNil)) (dVar 5))) (dRet (dLit (.bl false))) dSkip)))))))))))))
theorem three_line {x y z : T} : [x, y, z].length ≤ LINE := by
  show 3 ≤ LINE
  unfold LINE
  decide
/-- what a turn's machines have -/
structure Mt (b t : Nat) (m : Mc) : Prop where
  g : Gd m (b ^ t)
  b : m.b = b
  t : m.t = t
  n : m.mv.length ≤ 6
theorem turn_ok {X : Store} {s nu c : Nat} {nums : List Int} {t0 t2 t3 t4 t5 t6 t7 t8 t9 t10 t11 t12 t13 t14 t15 t16 : T} (d : Dr X s nu nums c) (cl : Cl X) (hc : c + 10000000 < 1000000000) :
    ∃ (X' : Store) (c' : Nat) (u3 u4 u5 u6 u7 u8 u9 u10 u11 u12 u13 u14 u15 u16 : T), Dr X' s nu nums c' ∧ Cl X' ∧ c' ≤ c + 1000000 ∧ turnBody (wE t0 s t2 t3 t4 t5 t6 t7 t8 t9 t10 t11 t12 t13 t14 t15 t16) X = .nx (wE t0 s t2 u3 u4 u5 u6 u7 u8 u9 u10 u11 u12 u13 u14 u15 u16) X' := by
  -- base, tracks
  obtain ⟨v, hv, e1⟩ := next_at (j := [.lst [.tup [natT 2, natT 1], .tup [natT 2, natT 2], .tup [natT 3, natT 1]]]) (c := c) (many := 3) d (by omega) (by omega)
  obtain ⟨b, t, hb, ht, hbt⟩ : ∃ b t : Nat, (2 ≤ b ∧ b ≤ 10) ∧ (1 ≤ t ∧ t ≤ 3) ∧ [T.tup [natT 2, natT 1], .tup [natT 2, natT 2], .tup [natT 3, natT 1]][v]? = some (.tup [natT b, natT t]) := by
    obtain rfl | rfl | rfl : v = 0 ∨ v = 1 ∨ v = 2 := by omega
    · exact ⟨2, 1, by omega, by omega, rfl⟩
    · exact ⟨2, 2, by omega, by omega, rfl⟩
    · exact ⟨3, 1, by omega, by omega, rfl⟩
  have l1 : dLst (dCons (dTup (dCons (dLit (.int 2)) (dCons (dLit (.int 1)) dNil))) (dCons (dTup (dCons (dLit (.int 2)) (dCons (dLit (.int 2)) dNil))) (dCons (dTup (dCons (dLit (.int 3)) (dCons (dLit (.int 1)) dNil))) dNil))) (wE t0 s t2 t3 t4 t5 t6 t7 t8 t9 t10 t11 t12 t13 t14 t15 t16) X = .ok (.ref X.length) (drS X s nu c ++ [.lst [.tup [natT 2, natT 1], .tup [natT 2, natT 2], .tup [natT 3, natT 1]]]) := by
    rw [drS_self d]
    exact v_lst (v_cons (v_tup (v_cons v_lit (v_cons v_lit v_nil)) rfl two_line) (v_cons (v_tup (v_cons v_lit (v_cons v_lit v_nil)) rfl two_line) (v_cons (v_tup (v_cons v_lit (v_cons v_lit v_nil)) rfl two_line) v_nil))) rfl three_line
  have g1 : (drS X s nu (c + 1) ++ [O.lst [.tup [natT 2, natT 1], .tup [natT 2, natT 2], .tup [natT 3, natT 1]]])[X.length]? = some (.lst [.tup [natT 2, natT 1], .tup [natT 2, natT 2], .tup [natT 3, natT 1]]) := at_mid drS_len.symm
  have s1 := v_asgT (g := gTupD 2 (gConsD (gNam 3) (gConsD (gNam 4) gNilD))) (v_bin l1 (v_next (i := 1) rfl v_lit e1) (nIx_l g1 hbt)) (g_two (show (3 : Nat) < 17 by decide) (show (4 : Nat) < 17 by decide))
  simp only [List.set_cons_succ, List.set_cons_zero] at s1
  have d1 := dr_here (c' := c + 1) d (by omega) [.lst [.tup [natT 2, natT 1], .tup [natT 2, natT 2], .tup [natT 3, natT 1]]]
  have cl1 : Cl (drS X s nu (c + 1) ++ [.lst [.tup [natT 2, natT 1], .tup [natT 2, natT 2], .tup [natT 3, natT 1]]]) := cl_snoc (d.cl cl) (low_rows (l := [[2, 1], [2, 2], [3, 1]]))
  generalize drS X s nu (c + 1) ++ [O.lst [.tup [natT 2, natT 1], .tup [natT 2, natT 2], .tup [natT 3, natT 1]]] = X1 at s1 d1 cl1
  -- machine
  obtain ⟨m, c2, m1, m2, m3, m4, m5, m6⟩ := machine_ok d1 cl1 hb ht (by omega)
  have Mm : Mt b t m := ⟨m1, m2, m3, m4⟩
  have s2 : dAsg (dCall F__law_machine (dCons (dVar 1) (dCons (dVar 3) (dCons (dVar 4) dNil)))) (gNam 10) (wE t0 s t2 (natT b) (natT t) t5 t6 t7 t8 t9 t10 t11 t12 t13 t14 t15 t16) X1 = .nx (wE t0 s t2 (natT b) (natT t) t5 t6 t7 t8 t9 m.T t11 t12 t13 t14 t15 t16) (drS X1 s nu c2) :=
    v_asg (v_call (v_cons (v_var (i := 1) rfl nh_ref) (v_cons (v_var (i := 3) (t := natT b) rfl nh_int) (v_cons (v_var (i := 4) (t := natT t) rfl nh_int) v_nil))) rfl m6) (show 10 < 17 by decide)
  have d2 := d1.drawn (c' := c2) (by omega)
  have cl2 := d1.cl (c' := c2) cl1
  generalize drS X1 s nu c2 = X2 at s2 d2 cl2
  -- other
  obtain ⟨st, R, hst, hsl, h3⟩ := least_ok Mm.g.lo cl2
  obtain ⟨gl, gn⟩ := leastM_good Mm.g R hst hsl
  obtain ⟨m', c3, n1, n2, n3, n4, n5, n6⟩ := machine_ok d2 cl2 hb ht (by omega)
  have Ml : Mt b t (leastM m st) := ⟨gl, m2, m3, by omega⟩
  have Mn : Mt b t m' := ⟨n1, n2, n3, n4⟩
  obtain ⟨v2, hv2, e2⟩ := next_at (j := [.lst ([leastM m st, m, m'].map Mc.T)]) (c := c3) (many := 3) d2 (by omega) (by omega)
  have hv2' : v2 < [leastM m st, m, m'].length := by show v2 < 3; omega
  have l2 : dLst (dCons (dCall F__law_least (dCons (dVar 10) dNil)) (dCons (dVar 10) (dCons (dCall F__law_machine (dCons (dVar 1) (dCons (dVar 3) (dCons (dVar 4) dNil)))) dNil))) (wE t0 s t2 (natT b) (natT t) t5 t6 t7 t8 t9 m.T t11 t12 t13 t14 t15 t16) X2 = .ok (.ref X2.length) (drS X2 s nu c3 ++ [.lst ([leastM m st, m, m'].map Mc.T)]) := by
    have := v_lst (v_cons (v_call (v_cons (v_var (i := 10) (e := wE t0 s t2 (natT b) (natT t) t5 t6 t7 t8 t9 m.T t11 t12 t13 t14 t15 t16) (t := m.T) rfl nh_mac) v_nil) rfl h3) (v_cons (v_var (i := 10) (t := m.T) rfl nh_mac) (v_cons (v_call (v_cons (v_var (i := 1) rfl nh_ref) (v_cons (v_var (i := 3) (t := natT b) rfl nh_int) (v_cons (v_var (i := 4) (t := natT t) rfl nh_int) v_nil))) rfl n6) v_nil))) rfl three_line
    rw [drS_len] at this
    exact this
  have g2 : (drS X2 s nu (c3 + 1) ++ [O.lst ([leastM m st, m, m'].map Mc.T)])[X2.length]? = some (.lst ([leastM m st, m, m'].map Mc.T)) := at_mid drS_len.symm
  have Mo : Mt b t ([leastM m st, m, m'].getD v2 ⟨0, 0, [], []⟩) := getD_all (P := Mt b t) (fun x hx => by
    simp only [List.mem_cons, List.not_mem_nil, or_false] at hx
    rcases hx with h | h | h
    · rw [h]; exact Ml
    · rw [h]; exact Mm
    · rw [h]; exact Mn) hv2'
  have s3 := v_asg (i := 11) (v_bin l2 (v_next (i := 1) rfl v_lit e2) (nIx_l g2 (getD_map (d := ⟨0, 0, [], []⟩) hv2'))) (show 11 < 17 by decide)
  simp only [List.set_cons_succ, List.set_cons_zero] at s3
  have d3 := dr_here (c' := c3 + 1) d2 (by omega) [.lst ([leastM m st, m, m'].map Mc.T)]
  have cl3 : Cl (drS X2 s nu (c3 + 1) ++ [.lst ([leastM m st, m, m'].map Mc.T)]) := cl_snoc (d2.cl cl2) (lows_iff.mpr fun t ht => by
    obtain ⟨k, _, e⟩ := List.mem_map.mp ht
    rw [← e]
    exact mc_low)
  generalize [leastM m st, m, m'].getD v2 ⟨0, 0, [], []⟩ = o at s3 Mo
  generalize drS X2 s nu (c3 + 1) ++ [O.lst ([leastM m st, m, m'].map Mc.T)] = X3 at s3 d3 cl3
  -- kept
  obtain ⟨K, hK, hrep⟩ := repr_two (Mm.g.tn Mm.n) (Mo.g.tn Mo.n)
  have rp : ∀ (t5 t6 t7 t8 t9 t12 t13 t14 t15 t16 : T) (A : Store), dCallF nRepr (dCons (dTup (dCons (dVar 10) (dCons (dVar 11) dNil))) dNil) (wE t0 s t2 (natT b) (natT t) t5 t6 t7 t8 t9 m.T o.T t12 t13 t14 t15 t16) A = .ok (.str K) A := fun t5 t6 t7 t8 t9 t12 t13 t14 t15 t16 A =>
    v_callF (v_cons (v_tup (v_cons (v_var (i := 10) (t := m.T) rfl nh_mac) (v_cons (v_var (i := 11) (t := o.T) rfl nh_mac) v_nil)) rfl two_line) v_nil) (hrep A)
  have s4 := v_asg (i := 5) (rp t5 t6 t7 t8 t9 t12 t13 t14 t15 t16 X3) (show 5 < 17 by decide)
  simp only [List.set_cons_succ, List.set_cons_zero] at s4
  -- everything
  have s5 : dAsg (dLst dNil) (gNam 6) (wE t0 s t2 (natT b) (natT t) (.str K) t6 t7 t8 t9 m.T o.T t12 t13 t14 t15 t16) X3 = .nx (wE t0 s t2 (natT b) (natT t) (.str K) (.ref X3.length) t7 t8 t9 m.T o.T t12 t13 t14 t15 t16) (X3 ++ [.lst []]) := v_asg (v_lst v_nil rfl (by unfold LINE; decide)) (show 6 < 17 by decide)
  obtain ⟨L, j, u7, L1, cl5, s6⟩ := ev_loop (s := s) (t0 := t0) (t2 := t2) (t3 := natT b) (t4 := natT t) (t5 := .str K) (t7 := t7) (t8 := t8) (t9 := t9) (t12 := t12) (t13 := t13) (t14 := t14) (t15 := t15) (t16 := t16) Mm.n Mo.n (cl_snoc (o := .lst []) cl3 rfl)
  have d5 := d3.app (O.lst (L.map pairT) :: j)
  have gE : (X3 ++ O.lst (L.map pairT) :: j)[X3.length]? = some (.lst (L.map pairT)) := at_mid rfl
  generalize hX5 : X3 ++ O.lst (L.map pairT) :: j = X5 at s6 cl5 d5 gE
  -- papers
  obtain ⟨ps, P1, P2⟩ := met_ok Mm.g Mo.g Mm.n Mo.n cl5
  have s7 : dAsg (dLst (dCons (dCall F__law_met (dCons (dVar 10) (dCons (dVar 11) dNil))) (dCons (dCallF nTup (dCons (dVar 6) dNil)) (dCons (dTup (dCons (dTup (dCons (dLit (.int 0)) (dCons (dLit (.int 0)) dNil))) dNil)) (dCons (dTup dNil) dNil))))) (gNam 13) (wE t0 s t2 (natT b) (natT t) (.str K) (.ref X3.length) u7 t8 t9 m.T o.T t12 t13 t14 t15 t16) X5 = .nx (wE t0 s t2 (natT b) (natT t) (.str K) (.ref X3.length) u7 t8 t9 m.T o.T t12 (.ref X5.length) t14 t15 t16) (X5 ++ [.lst ([ps, L, [(0, 0)], []].map pT)]) :=
    v_asg (v_lst (v_cons (v_call (v_cons (v_var (i := 10) (t := m.T) rfl nh_mac) (v_cons (v_var (i := 11) (t := o.T) rfl nh_mac) v_nil)) rfl P2) (v_cons (v_callF (v_cons (v_var (i := 6) rfl nh_ref) v_nil) (tup_at gE)) (v_cons (v_tup (v_cons (v_tup (v_cons v_lit (v_cons v_lit v_nil)) rfl two_line) v_nil) rfl one_line) (v_cons (v_tup v_nil rfl (by show 0 ≤ LINE; omega)) v_nil)))) rfl four_line) (show 13 < 17 by decide)
  have hQ : ∀ x ∈ [ps, L, [(0, 0)], []], x.length < 60 := fun x hx => by
    simp only [List.mem_cons, List.not_mem_nil, or_false] at hx
    rcases hx with h | h | h | h
    · rw [h]; omega
    · rw [h]; omega
    · rw [h]; decide
    · rw [h]; decide
  have hQ2 : [ps, L, [(0, 0)], []].length = 4 := rfl
  generalize [ps, L, [(0, 0)], []] = Q at s7 hQ hQ2
  have cl6 : Cl (X5 ++ [.lst (Q.map pT)]) := cl_snoc cl5 low_pTs
  have d6 := d5.app [O.lst (Q.map pT)]
  have gQ : (X5 ++ [O.lst (Q.map pT)])[X5.length]? = some (.lst (Q.map pT)) := ix_new
  have hs5 : X5.length ≠ s := by have := d5.lt.1; omega
  generalize hX6 : X5 ++ [O.lst (Q.map pT)] = X6 at s7 cl6 d6 gQ
  obtain ⟨B, c4, B1, B2, B3, B4⟩ := bents_ok (t0 := t0) (t2 := t2) (t3 := natT b) (t4 := natT t) (t5 := .str K) (t6 := .ref X3.length) (t7 := u7) (t8 := t8) (t9 := t9) (t12 := t12) (t14 := t14) (t15 := t15) (t16 := t16) d6 cl6 Mm.g Mo.g gQ (by omega) hQ hs5 (by omega)
  have gQ7 : (drS X6 s nu c4 ++ [O.lst (B.map pT)])[X5.length]? = some (.lst (Q.map pT)) := ix_app (by unfold drS; exact ix_ne gQ hs5.symm)
  have gB7 : (drS X6 s nu c4 ++ [O.lst (B.map pT)])[X6.length]? = some (.lst (B.map pT)) := at_mid drS_len.symm
  have cl7 : Cl (drS X6 s nu c4 ++ [O.lst (B.map pT)]) := cl_snoc (d6.cl cl6) low_pTs
  have d7 := dr_here (c' := c4) d6 (by omega) [O.lst (B.map pT)]
  generalize drS X6 s nu c4 ++ [O.lst (B.map pT)] = X7 at B4 gQ7 gB7 cl7 d7
  have add : nAdd (.ref X5.length) (.ref X6.length) X7 = .ok (.ref X7.length) (X7 ++ [.lst ((Q ++ B).map pT)]) := by
    simp only [nAdd, gQ7, gB7]
    rw [if_pos (by rw [List.length_map, List.length_map, hQ2, B2]; unfold LINE; decide), ← List.map_append]
    rfl
  have s8 := v_asg (i := 13) (v_bin (v_var (i := 13) (e := wE t0 s t2 (natT b) (natT t) (.str K) (.ref X3.length) u7 t8 t9 m.T o.T t12 (.ref X5.length) t14 t15 t16) (S := X6) rfl nh_ref) B4 add) (show 13 < 17 by decide)
  simp only [List.set_cons_succ, List.set_cons_zero] at s8
  have hP : ∀ x ∈ Q ++ B, x.length < 64 := fun x hx => by
    rcases List.mem_append.mp hx with z | z
    · have := hQ x z; omega
    · have := B1 x z; omega
  have hPl : (Q ++ B).length = 13 := by rw [List.length_append, hQ2, B2]
  generalize Q ++ B = P at s8 hP hPl
  have cl8 : Cl (X7 ++ [.lst (P.map pT)]) := cl_snoc cl7 low_pTs
  have d8 := d7.app [O.lst (P.map pT)]
  have gP : (X7 ++ [O.lst (P.map pT)])[X7.length]? = some (.lst (P.map pT)) := ix_new
  have hs7 : X7.length ≠ s := by have := d7.lt.1; omega
  generalize X7 ++ [O.lst (P.map pT)] = X8 at s8 cl8 d8 gP
  -- alike
  obtain ⟨st1, R1, hst1, hsl1, h8⟩ := least_ok Mm.g.lo cl8
  obtain ⟨st2, R2, hst2, hsl2, h9⟩ := least_ok Mo.g.lo cl8
  have dc : Decidable ((leastM m st1).T = (leastM o st2).T) := Classical.propDecidable _
  have d1p := mc_dep (m := leastM m st1)
  have d2p := mc_dep (m := leastM o st2)
  have s9 := v_asg (i := 8) (v_bin (v_call (v_cons (v_var (i := 10) (e := wE t0 s t2 (natT b) (natT t) (.str K) (.ref X3.length) u7 t8 t9 m.T o.T t12 (.ref X7.length) t14 t15 t16) (t := m.T) rfl nh_mac) v_nil) rfl h8) (v_call (v_cons (v_var (i := 11) (t := o.T) rfl nh_mac) v_nil) rfl h9) (nEq_it (S := X8) mc_it mc_it (by omega) (by omega))) (show 8 < 17 by decide)
  simp only [List.set_cons_succ, List.set_cons_zero] at s9
  have hbo : m.b = o.b := by rw [Mm.b, Mo.b]
  have hto : m.t = o.t := by rw [Mm.t, Mo.t]
  have hal : ∀ ps, judgeB m o ps = true → decide ((leastM m st1).T = (leastM o st2).T) = true := fun ps hj => by
    rw [decide_eq_true_eq, leastM_eq Mm.g Mo.g hbo hto R1 R2 hj]
  generalize decide ((leastM m st1).T = (leastM o st2).T) = al at s9 hal
  obtain ⟨u9, u12, s10⟩ := pp_loop (s := s) (t0 := t0) (t2 := t2) (t3 := natT b) (t4 := natT t) (t5 := .str K) (t6 := .ref X3.length) (t7 := u7) (t9 := t9) (t12 := t12) (t14 := t14) (t15 := t15) (t16 := t16) cl8 Mm.g Mo.g (Mm.g.like Mo.g hbo hto) gP hP hal (by omega)
  -- wrong
  obtain ⟨x, c5, W1, W2, W3⟩ := wrong_ok d8 cl8 Mm.g (by omega)
  have s11 : dAsg (dCall F__law_wrong (dCons (dVar 1) (dCons (dVar 10) dNil))) (gNam 14) (wE t0 s t2 (natT b) (natT t) (.str K) (.ref X3.length) u7 (.bl al) u9 m.T o.T u12 (.ref X7.length) t14 t15 t16) X8 = .nx (wE t0 s t2 (natT b) (natT t) (.str K) (.ref X3.length) u7 (.bl al) u9 m.T o.T u12 (.ref X7.length) x.T t15 t16) (drS X8 s nu c5) :=
    v_asg (v_call (v_cons (v_var (i := 1) rfl nh_ref) (v_cons (v_var (i := 10) (t := m.T) rfl nh_mac) v_nil)) rfl W3) (show 14 < 17 by decide)
  have d9 := d8.drawn (c' := c5) (by omega)
  have cl9 := d8.cl (c' := c5) cl8
  have gP9 : (drS X8 s nu c5)[X7.length]? = some (.lst (P.map pT)) := by unfold drS; exact ix_ne gP hs7.symm
  generalize drS X8 s nu c5 = X9 at s11 d9 cl9 gP9
  have p0 : nIx (.ref X7.length) (.int 0) X9 = .ok (pT (P.getD 0 [])) X9 := nIx_l (i := 0) gP9 (getD_map (by omega))
  have j1 : dCall F_judge_alike (dCons (dVar 14) (dCons (dVar 10) (dCons (dBin nIx (dVar 13) (dLit (.int 0))) dNil))) ((wE t0 s t2 (natT b) (natT t) (.str K) (.ref X3.length) u7 (.bl al) u9 m.T o.T u12 (.ref X7.length) x.T t15 t16).map T.noLam) X9 = .exc 1 [] X9 :=
    v_call (v_cons (v_var (i := 14) (t := x.T) rfl nh_mac) (v_cons (v_var (i := 10) (t := m.T) rfl nh_mac) (v_cons (v_bin (v_var (i := 13) rfl nh_ref) v_lit p0) v_nil))) rfl (judge_bad1 cl9 W1 Mm.g rfl nh_pT)
  have j2 : dCall F_judge_alike (dCons (dVar 10) (dCons (dVar 14) (dCons (dBin nIx (dVar 13) (dLit (.int 0))) dNil))) ((wE t0 s t2 (natT b) (natT t) (.str K) (.ref X3.length) u7 (.bl al) u9 m.T o.T u12 (.ref X7.length) x.T t15 t16).map T.noLam) X9 = .exc 1 [] X9 :=
    v_call (v_cons (v_var (i := 10) (t := m.T) rfl nh_mac) (v_cons (v_var (i := 14) (t := x.T) rfl nh_mac) (v_cons (v_bin (v_var (i := 13) rfl nh_ref) v_lit p0) v_nil))) rfl (judge_bad2 cl9 W1 Mm.g rfl nh_pT)
  have s12 := v_bin (told_no cl9 j1) (v_tup (v_cons (v_lit (t := .str "refused")) v_nil) rfl one_line) nNe_ref
  have s13 := v_bin (told_no cl9 j2) (v_tup (v_cons (v_lit (t := .str "refused")) v_nil) rfl one_line) nNe_ref
  have s14 := v_bin (rp (.str K) (.ref X3.length) u7 (.bl al) u9 u12 (.ref X7.length) x.T t15 t16 X9) (v_var (i := 5) (t := .str K) rfl nh_str) (nNe_str hK)
  exact ⟨X9, c5, natT b, natT t, .str K, .ref X3.length, u7, .bl al, u9, m.T, o.T, u12, .ref X7.length, x.T, t15, t16, d9, cl9, by omega,
    v_seq s1 (v_seq s2 (v_seq s3 (v_seq s4 (v_seq s5 (v_seq s6 (v_seq s7 (v_seq s8 (v_seq s9 (v_seq s10 (v_seq s11 (v_seq (v_ifF s12 rfl) (v_ifF (v_orF s13 s14) rfl))))))))))))⟩
end K02
set_option Elab.async false
set_option linter.all false
set_option maxRecDepth 100000
set_option maxHeartbeats 4000000
namespace K02
open PySem PySem.Spec PyProof.Rows L2 DD
theorem fin_any {S : Store} {n0 : Nat} {k : Bool} : ∃ S', fin n0 (.bl k) S = .ok (.bl k) S' := by
  unfold fin
  split
  · rw [if_pos (by rfl)]
    exact ⟨_, rfl⟩
  · exact ⟨_, rfl⟩
theorem law_true (ns : List Int) (hl : ns.length ≤ 63) (hb : ∀ z ∈ ns, Builtin.Int.intBits z ≤ 1048576) : ∃ S, F_law [.ref 0] [.frl (ns.map T.int)] = .ok (.bl true) S := by
  have cl0 : Cl [O.frl (ns.map T.int)] := by
    show (T.lows 1 (ns.map T.int) && true) = true
    rw [lows_ints]
    rfl
  obtain ⟨nums, N1, N2, N3, N4⟩ := stream_ok (r := 0) cl0 rfl
  have s1 : dAsg (dLst (dCons (dCall F__law_stream (dCons (dVar 0) dNil)) (dCons (dLit (.int 0)) dNil))) (gNam 1) [.ref 0, .hole, .hole, .hole, .hole, .hole, .hole, .hole, .hole, .hole, .hole, .hole, .hole, .hole, .hole, .hole, .hole] [.frl (ns.map T.int)] = .nx (wE (.ref 0) 2 .hole .hole .hole .hole .hole .hole .hole .hole .hole .hole .hole .hole .hole .hole .hole) [.frl (ns.map T.int), .lst (nums.map T.int), .lst [.ref 1, .int 0]] :=
    v_asg (v_lst (v_cons (v_call (v_cons (v_var rfl nh_ref) v_nil) rfl N4) (v_cons v_lit v_nil)) rfl two_line) (show 1 < 17 by decide)
  have clA : Cl [O.frl (ns.map T.int), .lst (nums.map T.int), .lst [.ref 1, .int 0]] := by
    show (T.lows 3 (ns.map T.int) && (T.lows 3 (nums.map T.int) && (true && true))) = true
    rw [lows_ints, lows_ints]
    rfl
  have dA : Dr [O.frl (ns.map T.int), .lst (nums.map T.int), .lst [.ref 1, .int 0]] 2 1 nums 0 := ⟨rfl, rfl, N1, N2, by omega, by
    have h1 := Nat.log2_le_self nums.length
    have h2 : ((nums.length : Nat) : Int).natAbs = nums.length := Int.natAbs_natCast _
    rw [h2]
    omega, by decide⟩
  generalize [O.frl (ns.map T.int), .lst (nums.map T.int), .lst [.ref 1, .int 0]] = A at s1 clA dA
  have key := forL_inv (it := iRng 0 1 4) (g := gNam 2) (b := turnBody)
    (P := fun i e S' => ∃ (c : Nat) (t2 u3 u4 u5 u6 u7 u8 u9 u10 u11 u12 u13 u14 u15 u16 : T), Dr S' 2 1 nums c ∧ Cl S' ∧ c ≤ 1000000 * i ∧ e = wE (.ref 0) 2 t2 u3 u4 u5 u6 u7 u8 u9 u10 u11 u12 u13 u14 u15 u16)
    (Z := fun r => ∃ e S', r = .nx e S') 4 ?_ ?_ FUEL 0 _ _ ⟨0, .hole, .hole, .hole, .hole, .hole, .hole, .hole, .hole, .hole, .hole, .hole, .hole, .hole, .hole, .hole, dA, clA, Nat.le_refl _, rfl⟩ (Nat.zero_le _) (fuel_ok (by unfold LINE; omega))
  · obtain ⟨e, S', q⟩ := key
    have s2 := v_for (v_rng1 (j := 4) (da := dCons (dLit (.int 4)) dNil) (v_cons v_lit v_nil) (by unfold LINE; omega)) q
    obtain ⟨S2, hf⟩ := fin_any (S := S') (n0 := [O.frl (ns.map T.int)].length) (k := true)
    exact ⟨S2, runD_ok rfl (v_seq s1 (v_seq s2 (v_ret v_lit))) rfl hf⟩
  · rintro i e S' hi ⟨c, t2, u3, u4, u5, u6, u7, u8, u9, u10, u11, u12, u13, u14, u15, u16, q1, q2, q3, rfl⟩
    refine ⟨natT i, by rw [rng_item hi, Int.zero_add]; rfl, .inl ?_⟩
    rw [g_nam (show 2 < 17 by decide)]
    simp only [List.set_cons_succ, List.set_cons_zero]
    obtain ⟨X', c', v3, v4, v5, v6, v7, v8, v9, v10, v11, v12, v13, v14, v15, v16, r1, r2, r3, r4⟩ := turn_ok (t0 := .ref 0) (t2 := natT i) (t3 := u3) (t4 := u4) (t5 := u5) (t6 := u6) (t7 := u7) (t8 := u8) (t9 := u9) (t10 := u10) (t11 := u11) (t12 := u12) (t13 := u13) (t14 := u14) (t15 := u15) (t16 := u16) q1 q2 (by omega)
    exact ⟨_, _, r4, c', natT i, v3, v4, v5, v6, v7, v8, v9, v10, v11, v12, v13, v14, v15, v16, r1, r2, by omega, rfl⟩
  · rintro e S' ⟨c, t2, u3, u4, u5, u6, u7, u8, u9, u10, u11, u12, u13, u14, u15, u16, q1, q2, q3, rfl⟩
    exact ⟨rng_stop, _, _, rfl⟩
end K02
set_option Elab.async false
set_option linter.all false
set_option maxRecDepth 100000
set_option maxHeartbeats 4000000
namespace K02
open PySem PySem.Spec PyProof.Rows L2 DD
section
theorem all_mk {l : PySem.W.OpenLaw} {w : World} {K : PySem.W.Frag} {h : Heap} {mg : Str → Option Value} {q : Program} {fa : Addr} {dy : DefRec} {f0 : Addr} {oc0 kV0 dc0 pm0 cd0 ct0 : Value} {od0 an0 : Option Addr} {sl0 : Array (Option Value)} {f1 : Addr} {oc1 kV1 dc1 pm1 cd1 ct1 : Value} {od1 an1 : Option Addr} {sl1 : Array (Option Value)} {f2 : Addr} {oc2 kV2 dc2 pm2 cd2 ct2 : Value} {od2 an2 : Option Addr} {sl2 : Array (Option Value)} {f3 : Addr} {oc3 kV3 dc3 pm3 cd3 ct3 : Value} {od3 an3 : Option Addr} {sl3 : Array (Option Value)} {f4 : Addr} {oc4 kV4 dc4 pm4 cd4 ct4 : Value} {od4 an4 : Option Addr} {sl4 : Array (Option Value)} {f5 : Addr} {oc5 kV5 dc5 pm5 cd5 ct5 : Value} {od5 an5 : Option Addr} {sl5 : Array (Option Value)} {f6 : Addr} {oc6 kV6 dc6 pm6 cd6 ct6 : Value} {od6 an6 : Option Addr} {sl6 : Array (Option Value)} {f7 : Addr} {oc7 kV7 dc7 pm7 cd7 ct7 : Value} {od7 an7 : Option Addr} {sl7 : Array (Option Value)} {f8 : Addr} {oc8 kV8 dc8 pm8 cd8 ct8 : Value} {od8 an8 : Option Addr} {sl8 : Array (Option Value)} {f9 : Addr} {oc9 kV9 dc9 pm9 cd9 ct9 : Value} {od9 an9 : Option Addr} {sl9 : Array (Option Value)} {f10 : Addr} {oc10 kV10 dc10 pm10 cd10 ct10 : Value} {od10 an10 : Option Addr} {sl10 : Array (Option Value)} {f11 : Addr} {oc11 kV11 dc11 pm11 cd11 ct11 : Value} {od11 an11 : Option Addr} {sl11 : Array (Option Value)} {f12 : Addr} {oc12 kV12 dc12 pm12 cd12 ct12 : Value} {od12 an12 : Option Addr} {sl12 : Array (Option Value)} {f13 : Addr} {oc13 kV13 dc13 pm13 cd13 ct13 : Value} {od13 an13 : Option Addr} {sl13 : Array (Option Value)} {f14 : Addr} {oc14 kV14 dc14 pm14 cd14 ct14 : Value} {od14 an14 : Option Addr} {sl14 : Array (Option Value)} {f15 : Addr} {oc15 kV15 dc15 pm15 cd15 ct15 : Value} {od15 an15 : Option Addr} {sl15 : Array (Option Value)} {f16 : Addr} {oc16 kV16 dc16 pm16 cd16 ct16 : Value} {od16 an16 : Option Addr} {sl16 : Array (Option Value)} {f17 : Addr} {oc17 kV17 dc17 pm17 cd17 ct17 : Value} {od17 an17 : Option Addr} {sl17 : Array (Option Value)} {f18 : Addr} {oc18 kV18 dc18 pm18 cd18 ct18 : Value} {od18 an18 : Option Addr} {sl18 : Array (Option Value)} {c0 c1 c2 c3 c4 c5 c6 cL Pt : Addr} {ocT : Value} {odT : Option Addr} {slT : Array (Option Value)} {vs : Array Value} {t_MAX_BASE : Tok} {t_MAX_STATES : Tok} {t_MAX_TRACKS : Tok} (X : K.In h) (G : h.Ns mainGlobals mg) (hfa : mg "law" = some (.ref fa))
    (TT : ∀ (y : Str) (dy : DefRec) (c P : Addr), (recsOf q).find? (fun e => e.name == y) = some dy → PySem.W.tabIn K y = some (c, P) → PySem.W.CodeHd h c P ∧ h.get? P = some { cls := .none, data := .fields #[] }) (rec : (recsOf q).find? (fun e => e.name == ("law" : Str)) = some dy)
    (a0 : PySem.W.nsIn K mainGlobals "_law_stream" = some (some (.ref f0)))
    (l0 : K.lookup f0 = some ⟨oc0, od0, .func (PySem.W.fnOf "_law_stream" "_law_stream" (defArgs (top 19)) (defBody (top 19)) (defScope (top 19)) .none kV0 dc0 pm0 an0 cd0 ct0), sl0⟩)
    (w0 : PySem.W.codeIn K cd0 "_law_stream" = true)
    (k0 : PySem.W.keepIn K (.ref f0) = true)
    (a1 : PySem.W.nsIn K mainGlobals "_law_next" = some (some (.ref f1)))
    (l1 : K.lookup f1 = some ⟨oc1, od1, .func (PySem.W.fnOf "_law_next" "_law_next" (defArgs (top 20)) (defBody (top 20)) (defScope (top 20)) .none kV1 dc1 pm1 an1 cd1 ct1), sl1⟩)
    (w1 : PySem.W.codeIn K cd1 "_law_next" = true)
    (k1 : PySem.W.keepIn K (.ref f1) = true)
    (a2 : PySem.W.nsIn K mainGlobals "_law_power" = some (some (.ref f2)))
    (l2 : K.lookup f2 = some ⟨oc2, od2, .func (PySem.W.fnOf "_law_power" "_law_power" (defArgs (top 23)) (defBody (top 23)) (defScope (top 23)) .none kV2 dc2 pm2 an2 cd2 ct2), sl2⟩)
    (w2 : PySem.W.codeIn K cd2 "_law_power" = true)
    (k2 : PySem.W.keepIn K (.ref f2) = true)
    (a3 : PySem.W.nsIn K mainGlobals "_law_drawn" = some (some (.ref f3)))
    (l3 : K.lookup f3 = some ⟨oc3, od3, .func (PySem.W.fnOf "_law_drawn" "_law_drawn" (defArgs (top 33)) (defBody (top 33)) (defScope (top 33)) .none kV3 dc3 pm3 an3 cd3 ct3), sl3⟩)
    (w3 : PySem.W.codeIn K cd3 "_law_drawn" = true)
    (k3 : PySem.W.keepIn K (.ref f3) = true)
    (a4 : PySem.W.nsIn K mainGlobals "_law_machine" = some (some (.ref f4)))
    (l4 : K.lookup f4 = some ⟨oc4, od4, .func (PySem.W.fnOf "_law_machine" "_law_machine" (defArgs (top 32)) (defBody (top 32)) (defScope (top 32)) .none kV4 dc4 pm4 an4 cd4 ct4), sl4⟩)
    (w4 : PySem.W.codeIn K cd4 "_law_machine" = true)
    (k4 : PySem.W.keepIn K (.ref f4) = true)
    (a5 : PySem.W.nsIn K mainGlobals "_law_wrong" = some (some (.ref f5)))
    (l5 : K.lookup f5 = some ⟨oc5, od5, .func (PySem.W.fnOf "_law_wrong" "_law_wrong" (defArgs (top 37)) (defBody (top 37)) (defScope (top 37)) .none kV5 dc5 pm5 an5 cd5 ct5), sl5⟩)
    (w5 : PySem.W.codeIn K cd5 "_law_wrong" = true)
    (k5 : PySem.W.keepIn K (.ref f5) = true)
    (a6 : PySem.W.nsIn K mainGlobals "_law_met" = some (some (.ref f6)))
    (l6 : K.lookup f6 = some ⟨oc6, od6, .func (PySem.W.fnOf "_law_met" "_law_met" (defArgs (top 38)) (defBody (top 38)) (defScope (top 38)) .none kV6 dc6 pm6 an6 cd6 ct6), sl6⟩)
    (w6 : PySem.W.codeIn K cd6 "_law_met" = true)
    (k6 : PySem.W.keepIn K (.ref f6) = true)
    (a7 : PySem.W.nsIn K mainGlobals "_law_reach" = some (some (.ref f7)))
    (l7 : K.lookup f7 = some ⟨oc7, od7, .func (PySem.W.fnOf "_law_reach" "_law_reach" (defArgs (top 28)) (defBody (top 28)) (defScope (top 28)) .none kV7 dc7 pm7 an7 cd7 ct7), sl7⟩)
    (w7 : PySem.W.codeIn K cd7 "_law_reach" = true)
    (k7 : PySem.W.keepIn K (.ref f7) = true)
    (a8 : PySem.W.nsIn K mainGlobals "_law_least" = some (some (.ref f8)))
    (l8 : K.lookup f8 = some ⟨oc8, od8, .func (PySem.W.fnOf "_law_least" "_law_least" (defArgs (top 29)) (defBody (top 29)) (defScope (top 29)) .none kV8 dc8 pm8 an8 cd8 ct8), sl8⟩)
    (w8 : PySem.W.codeIn K cd8 "_law_least" = true)
    (k8 : PySem.W.keepIn K (.ref f8) = true)
    (a9 : PySem.W.nsIn K mainGlobals "_law_right" = some (some (.ref f9)))
    (l9 : K.lookup f9 = some ⟨oc9, od9, .func (PySem.W.fnOf "_law_right" "_law_right" (defArgs (top 39)) (defBody (top 39)) (defScope (top 39)) .none kV9 dc9 pm9 an9 cd9 ct9), sl9⟩)
    (w9 : PySem.W.codeIn K cd9 "_law_right" = true)
    (k9 : PySem.W.keepIn K (.ref f9) = true)
    (a10 : PySem.W.nsIn K mainGlobals "_law_bent" = some (some (.ref f10)))
    (l10 : K.lookup f10 = some ⟨oc10, od10, .func (PySem.W.fnOf "_law_bent" "_law_bent" (defArgs (top 40)) (defBody (top 40)) (defScope (top 40)) .none kV10 dc10 pm10 an10 cd10 ct10), sl10⟩)
    (w10 : PySem.W.codeIn K cd10 "_law_bent" = true)
    (k10 : PySem.W.keepIn K (.ref f10) = true)
    (a11 : PySem.W.nsIn K mainGlobals "_law_same" = some (some (.ref f11)))
    (l11 : K.lookup f11 = some ⟨oc11, od11, .func (PySem.W.fnOf "_law_same" "_law_same" (defArgs (top 18)) (defBody (top 18)) (defScope (top 18)) .none kV11 dc11 pm11 an11 cd11 ct11), sl11⟩)
    (w11 : PySem.W.codeIn K cd11 "_law_same" = true)
    (k11 : PySem.W.keepIn K (.ref f11) = true)
    (a12 : PySem.W.nsIn K mainGlobals "check_size" = some (some (.ref f12)))
    (l12 : K.lookup f12 = some ⟨oc12, od12, .func (PySem.W.fnOf "check_size" "check_size" (defArgs (top 13)) (defBody (top 13)) (defScope (top 13)) .none kV12 dc12 pm12 an12 cd12 ct12), sl12⟩)
    (w12 : PySem.W.codeIn K cd12 "check_size" = true)
    (k12 : PySem.W.keepIn K (.ref f12) = true)
    (a13 : PySem.W.nsIn K mainGlobals "power" = some (some (.ref f13)))
    (l13 : K.lookup f13 = some ⟨oc13, od13, .func (PySem.W.fnOf "power" "power" (defArgs (top 12)) (defBody (top 12)) (defScope (top 12)) .none kV13 dc13 pm13 an13 cd13 ct13), sl13⟩)
    (w13 : PySem.W.codeIn K cd13 "power" = true)
    (k13 : PySem.W.keepIn K (.ref f13) = true)
    (a14 : PySem.W.nsIn K mainGlobals "check_machine" = some (some (.ref f14)))
    (l14 : K.lookup f14 = some ⟨oc14, od14, .func (PySem.W.fnOf "check_machine" "check_machine" (defArgs (top 14)) (defBody (top 14)) (defScope (top 14)) .none kV14 dc14 pm14 an14 cd14 ct14), sl14⟩)
    (w14 : PySem.W.codeIn K cd14 "check_machine" = true)
    (k14 : PySem.W.keepIn K (.ref f14) = true)
    (a15 : PySem.W.nsIn K mainGlobals "check_like" = some (some (.ref f15)))
    (l15 : K.lookup f15 = some ⟨oc15, od15, .func (PySem.W.fnOf "check_like" "check_like" (defArgs (top 15)) (defBody (top 15)) (defScope (top 15)) .none kV15 dc15 pm15 an15 cd15 ct15), sl15⟩)
    (w15 : PySem.W.codeIn K cd15 "check_like" = true)
    (k15 : PySem.W.keepIn K (.ref f15) = true)
    (a16 : PySem.W.nsIn K mainGlobals "judge_alike" = some (some (.ref f16)))
    (l16 : K.lookup f16 = some ⟨oc16, od16, .func (PySem.W.fnOf "judge_alike" "judge_alike" (defArgs (top 16)) (defBody (top 16)) (defScope (top 16)) .none kV16 dc16 pm16 an16 cd16 ct16), sl16⟩)
    (w16 : PySem.W.codeIn K cd16 "judge_alike" = true)
    (k16 : PySem.W.keepIn K (.ref f16) = true)
    (a17 : PySem.W.nsIn K mainGlobals "law" = some (some (.ref f17)))
    (l17 : K.lookup f17 = some ⟨oc17, od17, .func (PySem.W.fnOf "law" "law" (defArgs (top 41)) (defBody (top 41)) (defScope (top 41)) .none kV17 dc17 pm17 an17 cd17 ct17), sl17⟩)
    (w17 : PySem.W.codeIn K cd17 "law" = true)
    (k17 : PySem.W.keepIn K (.ref f17) = true)
    (a18 : PySem.W.nsIn K mainGlobals "_law_told" = some (some (.ref f18)))
    (l18 : K.lookup f18 = some ⟨oc18, od18, .func (PySem.W.fnOf "_law_told" "_law_told" (defArgs (top 22)) (defBody (top 22)) (defScope (top 22)) .none kV18 dc18 pm18 an18 cd18 ct18), sl18⟩)
    (w18 : PySem.W.codeIn K cd18 "_law_told" = true)
    (k18 : PySem.W.keepIn K (.ref f18) = true)
    (z_abs : PySem.W.nsIn K mainGlobals "abs" = some none)
    (z_all : PySem.W.nsIn K mainGlobals "all" = some none)
    (z_any : PySem.W.nsIn K mainGlobals "any" = some none)
    (z_enumerate : PySem.W.nsIn K mainGlobals "enumerate" = some none)
    (z_int : PySem.W.nsIn K mainGlobals "int" = some none)
    (z_isinstance : PySem.W.nsIn K mainGlobals "isinstance" = some none)
    (z_len : PySem.W.nsIn K mainGlobals "len" = some none)
    (z_list : PySem.W.nsIn K mainGlobals "list" = some none)
    (z_min : PySem.W.nsIn K mainGlobals "min" = some none)
    (z_range : PySem.W.nsIn K mainGlobals "range" = some none)
    (z_repr : PySem.W.nsIn K mainGlobals "repr" = some none)
    (z_set : PySem.W.nsIn K mainGlobals "set" = some none)
    (z_sorted : PySem.W.nsIn K mainGlobals "sorted" = some none)
    (z_tuple : PySem.W.nsIn K mainGlobals "tuple" = some none)
    (z_zip : PySem.W.nsIn K mainGlobals "zip" = some none)
    (g_MAX_BASE : PySem.W.nsIn K mainGlobals "MAX_BASE" = some (some (.int 10 t_MAX_BASE)))
    (g_MAX_STATES : PySem.W.nsIn K mainGlobals "MAX_STATES" = some (some (.int 200 t_MAX_STATES)))
    (g_MAX_TRACKS : PySem.W.nsIn K mainGlobals "MAX_TRACKS" = some (some (.int 3 t_MAX_TRACKS)))
    (n0 : PySem.W.nsIn K mainGlobals "DigitError" = some (some (.ref c0)))
    (n1 : PySem.W.nsIn K mainGlobals "NotAllowed" = some (some (.ref c1)))
    (n2 : PySem.W.nsIn K mainGlobals "TooLarge" = some (some (.ref c2)))
    (n3 : PySem.W.nsIn K mainGlobals "Missing" = some (some (.ref c3)))
    (n4 : PySem.W.nsIn K mainGlobals "BadPaper" = some (some (.ref c4)))
    (n5 : PySem.W.nsIn K mainGlobals "BadForm" = some (some (.ref c5)))
    (n6 : PySem.W.nsIn K mainGlobals "Broken" = some (some (.ref c6)))
    (hn : PySem.W.specialIn K (.builtin "object.__class__") "__get__" = some (some (.builtin "getset_descriptor.__get__")))
    (ht : PySem.W.takesIn K (.builtin "object.__class__") = some true)
    (xg1 : PySem.W.findIn K (.ref c1) "__getattribute__" = some (some (.builtin "BaseException.__getattribute__")))
    (xk1 : PySem.W.findIn K (.ref c1) "__getattr__" = some none)
    (xs1 : PySem.W.subIn K (.ref c1) (.type "BaseException") = some true)
    (xd1 : PySem.W.hasDictIn K c1 = true)
    (xa1 : PySem.W.findIn K (.ref c1) "__class__" = some (some (.builtin "object.__class__")))
    (xm1 : PySem.W.mroIn K c1 (.type "object") = some true)
    (i11 : PySem.W.kitOne K (.ref c1) (.ref c1) = some true)
    (i12 : PySem.W.kitOne K (.ref c1) (.ref c2) = some false)
    (i13 : PySem.W.kitOne K (.ref c1) (.ref c3) = some false)
    (i14 : PySem.W.kitOne K (.ref c1) (.ref c4) = some false)
    (i15 : PySem.W.kitOne K (.ref c1) (.ref c5) = some false)
    (i16 : PySem.W.kitOne K (.ref c1) (.ref c6) = some false)
    (y1 : PySem.W.subIn K (.ref c1) (.ref c0) = some true)
    (xg2 : PySem.W.findIn K (.ref c2) "__getattribute__" = some (some (.builtin "BaseException.__getattribute__")))
    (xk2 : PySem.W.findIn K (.ref c2) "__getattr__" = some none)
    (xs2 : PySem.W.subIn K (.ref c2) (.type "BaseException") = some true)
    (xd2 : PySem.W.hasDictIn K c2 = true)
    (xa2 : PySem.W.findIn K (.ref c2) "__class__" = some (some (.builtin "object.__class__")))
    (xm2 : PySem.W.mroIn K c2 (.type "object") = some true)
    (i21 : PySem.W.kitOne K (.ref c2) (.ref c1) = some false)
    (i22 : PySem.W.kitOne K (.ref c2) (.ref c2) = some true)
    (i23 : PySem.W.kitOne K (.ref c2) (.ref c3) = some false)
    (i24 : PySem.W.kitOne K (.ref c2) (.ref c4) = some false)
    (i25 : PySem.W.kitOne K (.ref c2) (.ref c5) = some false)
    (i26 : PySem.W.kitOne K (.ref c2) (.ref c6) = some false)
    (y2 : PySem.W.subIn K (.ref c2) (.ref c0) = some true)
    (xg3 : PySem.W.findIn K (.ref c3) "__getattribute__" = some (some (.builtin "BaseException.__getattribute__")))
    (xk3 : PySem.W.findIn K (.ref c3) "__getattr__" = some none)
    (xs3 : PySem.W.subIn K (.ref c3) (.type "BaseException") = some true)
    (xd3 : PySem.W.hasDictIn K c3 = true)
    (xa3 : PySem.W.findIn K (.ref c3) "__class__" = some (some (.builtin "object.__class__")))
    (xm3 : PySem.W.mroIn K c3 (.type "object") = some true)
    (i31 : PySem.W.kitOne K (.ref c3) (.ref c1) = some false)
    (i32 : PySem.W.kitOne K (.ref c3) (.ref c2) = some false)
    (i33 : PySem.W.kitOne K (.ref c3) (.ref c3) = some true)
    (i34 : PySem.W.kitOne K (.ref c3) (.ref c4) = some false)
    (i35 : PySem.W.kitOne K (.ref c3) (.ref c5) = some false)
    (i36 : PySem.W.kitOne K (.ref c3) (.ref c6) = some false)
    (y3 : PySem.W.subIn K (.ref c3) (.ref c0) = some true)
    (xg4 : PySem.W.findIn K (.ref c4) "__getattribute__" = some (some (.builtin "BaseException.__getattribute__")))
    (xk4 : PySem.W.findIn K (.ref c4) "__getattr__" = some none)
    (xs4 : PySem.W.subIn K (.ref c4) (.type "BaseException") = some true)
    (xd4 : PySem.W.hasDictIn K c4 = true)
    (xa4 : PySem.W.findIn K (.ref c4) "__class__" = some (some (.builtin "object.__class__")))
    (xm4 : PySem.W.mroIn K c4 (.type "object") = some true)
    (i41 : PySem.W.kitOne K (.ref c4) (.ref c1) = some false)
    (i42 : PySem.W.kitOne K (.ref c4) (.ref c2) = some false)
    (i43 : PySem.W.kitOne K (.ref c4) (.ref c3) = some false)
    (i44 : PySem.W.kitOne K (.ref c4) (.ref c4) = some true)
    (i45 : PySem.W.kitOne K (.ref c4) (.ref c5) = some false)
    (i46 : PySem.W.kitOne K (.ref c4) (.ref c6) = some false)
    (y4 : PySem.W.subIn K (.ref c4) (.ref c0) = some true)
    (xg5 : PySem.W.findIn K (.ref c5) "__getattribute__" = some (some (.builtin "BaseException.__getattribute__")))
    (xk5 : PySem.W.findIn K (.ref c5) "__getattr__" = some none)
    (xs5 : PySem.W.subIn K (.ref c5) (.type "BaseException") = some true)
    (xd5 : PySem.W.hasDictIn K c5 = true)
    (xa5 : PySem.W.findIn K (.ref c5) "__class__" = some (some (.builtin "object.__class__")))
    (xm5 : PySem.W.mroIn K c5 (.type "object") = some true)
    (i51 : PySem.W.kitOne K (.ref c5) (.ref c1) = some false)
    (i52 : PySem.W.kitOne K (.ref c5) (.ref c2) = some false)
    (i53 : PySem.W.kitOne K (.ref c5) (.ref c3) = some false)
    (i54 : PySem.W.kitOne K (.ref c5) (.ref c4) = some false)
    (i55 : PySem.W.kitOne K (.ref c5) (.ref c5) = some true)
    (i56 : PySem.W.kitOne K (.ref c5) (.ref c6) = some false)
    (y5 : PySem.W.subIn K (.ref c5) (.ref c0) = some true)
    (xg6 : PySem.W.findIn K (.ref c6) "__getattribute__" = some (some (.builtin "BaseException.__getattribute__")))
    (xk6 : PySem.W.findIn K (.ref c6) "__getattr__" = some none)
    (xs6 : PySem.W.subIn K (.ref c6) (.type "BaseException") = some true)
    (xd6 : PySem.W.hasDictIn K c6 = true)
    (xa6 : PySem.W.findIn K (.ref c6) "__class__" = some (some (.builtin "object.__class__")))
    (xm6 : PySem.W.mroIn K c6 (.type "object") = some true)
    (i61 : PySem.W.kitOne K (.ref c6) (.ref c1) = some false)
    (i62 : PySem.W.kitOne K (.ref c6) (.ref c2) = some false)
    (i63 : PySem.W.kitOne K (.ref c6) (.ref c3) = some false)
    (i64 : PySem.W.kitOne K (.ref c6) (.ref c4) = some false)
    (i65 : PySem.W.kitOne K (.ref c6) (.ref c5) = some false)
    (i66 : PySem.W.kitOne K (.ref c6) (.ref c6) = some true)
    (y6 : PySem.W.subIn K (.ref c6) (.ref c0) = some true)
    (b1 : PySem.W.subIn K (.ref c0) (.type "BaseException") = some true)
    (b2 : PySem.W.isClsIn K c0 = true)
    (b3 : PySem.W.typeIn K (.ref c0) = some (.type "type"))
    (e1 : PySem.W.excIn K c1 ValErr "ValueError.__new__" = true)
    (u1 : PySem.W.keepIn K (.ref c1) = true)
    (v1 : PySem.W.typeIn K (.ref c1) = some (.type "type"))
    (tc : cd17 = .ref cL)
    (tl : K.lookup cL = some ⟨ocT, odT, .fields vs, slT⟩)
    (tv : vs[11]? = some (.ref Pt))
    (tn : K.lookup Pt = none) :
    LawG l w K 7 63 "script" mg fa h := by
  have e := hfa.symm.trans (PySem.W.mg_of X G a17)
  have e2 : fa = f17 := Value.ref.inj (Option.some.inj e)
  rw [e2]
  subst tc
  obtain ⟨hC, hT⟩ := TT "law" dy cL Pt rec (tabIn_mk a17 l17 rfl tl tv)
  have E : ErrF K mg (wdOf K w [0, 0, 0, 0, 0, 0, 0, 0, 0, 0, 0, 0, f13, f12, f14, f15, f16, 0, f11, f0, f1, 0, f18, f2, 0, 0, 0, 0, f7, f8, 0, 0, f4, f3, 0, 0, 0, f5, f6, f9, f10, f17] c0 c1 c2 c3 c4 c5 c6 [(Pt, lamQ)]) := errF_mk X G n0 n1 n2 n3 n4 n5 n6 hn ht ⟨xg1, xk1, xs1, xd1, xa1, xm1⟩ ⟨xg2, xk2, xs2, xd2, xa2, xm2⟩ ⟨xg3, xk3, xs3, xd3, xa3, xm3⟩ ⟨xg4, xk4, xs4, xd4, xa4, xm4⟩ ⟨xg5, xk5, xs5, xd5, xa5, xm5⟩ ⟨xg6, xk6, xs6, xd6, xa6, xm6⟩ ⟨i11, i12, i13, i14, i15, i16⟩ ⟨i21, i22, i23, i24, i25, i26⟩ ⟨i31, i32, i33, i34, i35, i36⟩ ⟨i41, i42, i43, i44, i45, i46⟩ ⟨i51, i52, i53, i54, i55, i56⟩ ⟨i61, i62, i63, i64, i65, i66⟩ b1 b2 b3 y1 y2 y3 y4 y5 y6 z_isinstance z_range z_int z_len
  generalize hW : wdOf K w [0, 0, 0, 0, 0, 0, 0, 0, 0, 0, 0, 0, f13, f12, f14, f15, f16, 0, f11, f0, f1, 0, f18, f2, 0, 0, 0, 0, f7, f8, 0, 0, f4, f3, 0, 0, 0, f5, f6, f9, f10, f17] c0 c1 c2 c3 c4 c5 c6 [(Pt, lamQ)] = W at E
  have wK : K = W.K := by rw [← hW]
  have ww : w = W.w := by rw [← hW]
  have wt : W.tabs = [(Pt, lamQ)] := by rw [← hW]
  have fe0 : W.fa 19 = f0 := by rw [← hW]; rfl
  have fe1 : W.fa 20 = f1 := by rw [← hW]; rfl
  have fe2 : W.fa 23 = f2 := by rw [← hW]; rfl
  have fe3 : W.fa 33 = f3 := by rw [← hW]; rfl
  have fe4 : W.fa 32 = f4 := by rw [← hW]; rfl
  have fe5 : W.fa 37 = f5 := by rw [← hW]; rfl
  have fe6 : W.fa 38 = f6 := by rw [← hW]; rfl
  have fe7 : W.fa 28 = f7 := by rw [← hW]; rfl
  have fe8 : W.fa 29 = f8 := by rw [← hW]; rfl
  have fe9 : W.fa 39 = f9 := by rw [← hW]; rfl
  have fe10 : W.fa 40 = f10 := by rw [← hW]; rfl
  have fe11 : W.fa 18 = f11 := by rw [← hW]; rfl
  have fe12 : W.fa 13 = f12 := by rw [← hW]; rfl
  have fe13 : W.fa 12 = f13 := by rw [← hW]; rfl
  have fe14 : W.fa 14 = f14 := by rw [← hW]; rfl
  have fe15 : W.fa 15 = f15 := by rw [← hW]; rfl
  have fe16 : W.fa 16 = f16 := by rw [← hW]; rfl
  have fe17 : W.fa 41 = f17 := by rw [← hW]; rfl
  have fe18 : W.fa 22 = f18 := by rw [← hW]; rfl
  have ce1 : W.ca 1 = c1 := by rw [← hW]; rfl
  have F_t := fun_mk (st := top 22) l18 w18 k18
  have TL : ToldW K mg W := ToldW.mk E (PySem.W.mg_of X G a18) k18 l18 w18 (F_t.binds (ps := ["call"]) fun _ _ _ _ _ _ us hl => match us, hl with | [_], _ => rfl) ⟨rfl, rfl, rfl, rfl⟩ (fun X W a oe pn c F sc hN hz hf hc hfn => told_s1 F sc hN hz hf hc hfn) (fun Y W cells wx h => told_s2 h rfl) (fun Y W cells wx h => told_s3 (p19 := ⟨0, 0, 0, 0⟩) (p20 := ⟨0, 0, 0, 0⟩) (p21 := ⟨0, 0, 0, 0⟩) h)
  let G0 : Gx K mg W w := ⟨wK, ww, PySem.W.mg_none_of X G z_abs, PySem.W.mg_none_of X G z_all, PySem.W.mg_none_of X G z_any, PySem.W.mg_none_of X G z_enumerate, PySem.W.mg_none_of X G z_int, PySem.W.mg_none_of X G z_len, PySem.W.mg_none_of X G z_list, PySem.W.mg_none_of X G z_min, PySem.W.mg_none_of X G z_range, PySem.W.mg_none_of X G z_repr, PySem.W.mg_none_of X G z_set, PySem.W.mg_none_of X G z_sorted, PySem.W.mg_none_of X G z_tuple, PySem.W.mg_none_of X G z_zip, errr_mk X G n1 e1 u1 xs1 v1 ce1, ⟨_, PySem.W.mg_of X G g_MAX_BASE⟩, ⟨_, PySem.W.mg_of X G g_MAX_STATES⟩, ⟨_, PySem.W.mg_of X G g_MAX_TRACKS⟩, TL, cL, Pt⟩
  refine lawG_end (fd := PySem.W.fnOf "law" "law" (defArgs (top 41)) (defBody (top 41)) (defScope (top 41)) .none kV17 dc17 pm17 an17 (.ref cL) ct17) (W := W) (q := lamQ) (F := F_law) wK.symm wt hT tn hC (fun s u => .of_eq rfl) (fun ns h1 h2 => law_true ns h1 h2) fun base B1 B2 TB => ?_
  have D__law_stream := ok__law_stream (P := l.prog) (base := base) G0 (fnr_mk X G a0 l0 w0 k0 fe0) 
  have D__law_next := ok__law_next (P := l.prog) (base := base) G0 (fnr_mk X G a1 l1 w1 k1 fe1) 
  have D__law_power := ok__law_power (P := l.prog) (base := base) G0 (fnr_mk X G a2 l2 w2 k2 fe2) 
  have D__law_drawn := ok__law_drawn (P := l.prog) (base := base) G0 (fnr_mk X G a3 l3 w3 k3 fe3) D__law_next D__law_power
  have D__law_machine := ok__law_machine (P := l.prog) (base := base) G0 (fnr_mk X G a4 l4 w4 k4 fe4) D__law_drawn D__law_next
  have D__law_wrong := ok__law_wrong (P := l.prog) (base := base) G0 (fnr_mk X G a5 l5 w5 k5 fe5) D__law_next D__law_power
  have D__law_met := ok__law_met (P := l.prog) (base := base) G0 (fnr_mk X G a6 l6 w6 k6 fe6) 
  have D__law_reach := ok__law_reach (P := l.prog) (base := base) G0 (fnr_mk X G a7 l7 w7 k7 fe7) 
  have D__law_least := ok__law_least (P := l.prog) (base := base) G0 (fnr_mk X G a8 l8 w8 k8 fe8) D__law_reach
  have D__law_right := ok__law_right (P := l.prog) (base := base) G0 (fnr_mk X G a9 l9 w9 k9 fe9) 
  have D__law_bent := ok__law_bent (P := l.prog) (base := base) G0 (fnr_mk X G a10 l10 w10 k10 fe10) D__law_next
  have D__law_same := ok__law_same (P := l.prog) (base := base) G0 (fnr_mk X G a11 l11 w11 k11 fe11) 
  have D_check_size := ok_check_size (P := l.prog) (base := base) G0 (fnr_mk X G a12 l12 w12 k12 fe12) 
  have D_power := ok_power (P := l.prog) (base := base) G0 (fnr_mk X G a13 l13 w13 k13 fe13) 
  have D_check_machine := ok_check_machine (P := l.prog) (base := base) G0 (fnr_mk X G a14 l14 w14 k14 fe14) D_check_size D_power
  have D_check_like := ok_check_like (P := l.prog) (base := base) G0 (fnr_mk X G a15 l15 w15 k15 fe15) D_check_machine
  have D_judge_alike := ok_judge_alike (P := l.prog) (base := base) G0 (fnr_mk X G a16 l16 w16 k16 fe16) D_check_like
  have z := ok_law (P := l.prog) (base := base) G0 (by rw [fe17]; exact l17) w17 TB (by show (Pt, lamQ) ∈ W.tabs; rw [wt]; exact List.mem_cons_self) (fun p hp _ => by rw [wt] at hp; obtain rfl := List.mem_singleton.mp hp; rfl) D__law_stream D__law_machine D__law_wrong D__law_next D__law_met D__law_least D__law_right D__law_bent D__law_same D_judge_alike
  rw [fe17] at z
  exact z
end
end K02
open PySem PySem.W PyProof.Rows in
set_option maxRecDepth 100000 in
set_option maxHeartbeats 0 in
theorem PySem.Challenge.cw_bydigits_k02_alike_papers_judged_holds : PySem.Challenge.rw_bydigits_k02_alike_papers_judged.Holds := by
  w_on; o_law; k_head; (case hw => w_witness2)
  k_fill
  refine DD.walk_G (l := PySem.Challenge.rw_bydigits_k02_alike_papers_judged) (n := 63) (k := 7) (x := "script") rfl (by decide) rfl ⟨rfl, by decide, by decide⟩ (fun w h Y => PySem.W.km_in_of Y) ?F
  case F =>
    intro w mg fa h KX G hmg TT
    refine' K02.all_mk KX G hmg TT rfl ?a0 ?l0 ?w0 ?k0 ?a1 ?l1 ?w1 ?k1 ?a2 ?l2 ?w2 ?k2 ?a3 ?l3 ?w3 ?k3 ?a4 ?l4 ?w4 ?k4 ?a5 ?l5 ?w5 ?k5 ?a6 ?l6 ?w6 ?k6 ?a7 ?l7 ?w7 ?k7 ?a8 ?l8 ?w8 ?k8 ?a9 ?l9 ?w9 ?k9 ?a10 ?l10 ?w10 ?k10 ?a11 ?l11 ?w11 ?k11 ?a12 ?l12 ?w12 ?k12 ?a13 ?l13 ?w13 ?k13 ?a14 ?l14 ?w14 ?k14 ?a15 ?l15 ?w15 ?k15 ?a16 ?l16 ?w16 ?k16 ?a17 ?l17 ?w17 ?k17 ?a18 ?l18 ?w18 ?k18 ?z_abs ?z_all ?z_any ?z_enumerate ?z_int ?z_isinstance ?z_len ?z_list ?z_min ?z_range ?z_repr ?z_set ?z_sorted ?z_tuple ?z_zip ?g_MAX_BASE ?g_MAX_STATES ?g_MAX_TRACKS ?n0 ?n1 ?n2 ?n3 ?n4 ?n5 ?n6 ?hn ?ht ?xg1 ?xk1 ?xs1 ?xd1 ?xa1 ?xm1 ?i11 ?i12 ?i13 ?i14 ?i15 ?i16 ?y1 ?xg2 ?xk2 ?xs2 ?xd2 ?xa2 ?xm2 ?i21 ?i22 ?i23 ?i24 ?i25 ?i26 ?y2 ?xg3 ?xk3 ?xs3 ?xd3 ?xa3 ?xm3 ?i31 ?i32 ?i33 ?i34 ?i35 ?i36 ?y3 ?xg4 ?xk4 ?xs4 ?xd4 ?xa4 ?xm4 ?i41 ?i42 ?i43 ?i44 ?i45 ?i46 ?y4 ?xg5 ?xk5 ?xs5 ?xd5 ?xa5 ?xm5 ?i51 ?i52 ?i53 ?i54 ?i55 ?i56 ?y5 ?xg6 ?xk6 ?xs6 ?xd6 ?xa6 ?xm6 ?i61 ?i62 ?i63 ?i64 ?i65 ?i66 ?y6 ?b1 ?b2 ?b3 ?e1 ?u1 ?v1 ?tc ?tl ?tv ?tn
    (case a0 => k_is)
    (case l0 => k_is)
    (case w0 => k_is)
    (case k0 => k_is)
    (case a1 => k_is)
    (case l1 => k_is)
    (case w1 => k_is)
    (case k1 => k_is)
    (case a2 => k_is)
    (case l2 => k_is)
    (case w2 => k_is)
    (case k2 => k_is)
    (case a3 => k_is)
    (case l3 => k_is)
    (case w3 => k_is)
    (case k3 => k_is)
    (case a4 => k_is)
    (case l4 => k_is)
    (case w4 => k_is)
    (case k4 => k_is)
    (case a5 => k_is)
    (case l5 => k_is)
    (case w5 => k_is)
    (case k5 => k_is)
    (case a6 => k_is)
    (case l6 => k_is)
    (case w6 => k_is)
    (case k6 => k_is)
    (case a7 => k_is)
    (case l7 => k_is)
    (case w7 => k_is)
    (case k7 => k_is)
    (case a8 => k_is)
    (case l8 => k_is)
    (case w8 => k_is)
    (case k8 => k_is)
    (case a9 => k_is)
    (case l9 => k_is)
    (case w9 => k_is)
    (case k9 => k_is)
    (case a10 => k_is)
    (case l10 => k_is)
    (case w10 => k_is)
    (case k10 => k_is)
    (case a11 => k_is)
    (case l11 => k_is)
    (case w11 => k_is)
    (case k11 => k_is)
    (case a12 => k_is)
    (case l12 => k_is)
    (case w12 => k_is)
    (case k12 => k_is)
    (case a13 => k_is)
    (case l13 => k_is)
    (case w13 => k_is)
    (case k13 => k_is)
    (case a14 => k_is)
    (case l14 => k_is)
    (case w14 => k_is)
    (case k14 => k_is)
    (case a15 => k_is)
    (case l15 => k_is)
    (case w15 => k_is)
    (case k15 => k_is)
    (case a16 => k_is)
    (case l16 => k_is)
    (case w16 => k_is)
    (case k16 => k_is)
    (case a17 => k_is)
    (case l17 => k_is)
    (case w17 => k_is)
    (case k17 => k_is)
    (case a18 => k_is)
    (case l18 => k_is)
    (case w18 => k_is)
    (case k18 => k_is)
    (case z_abs => k_is)
    (case z_all => k_is)
    (case z_any => k_is)
    (case z_enumerate => k_is)
    (case z_int => k_is)
    (case z_isinstance => k_is)
    (case z_len => k_is)
    (case z_list => k_is)
    (case z_min => k_is)
    (case z_range => k_is)
    (case z_repr => k_is)
    (case z_set => k_is)
    (case z_sorted => k_is)
    (case z_tuple => k_is)
    (case z_zip => k_is)
    (case g_MAX_BASE => k_is)
    (case g_MAX_STATES => k_is)
    (case g_MAX_TRACKS => k_is)
    (case n0 => k_is)
    (case n1 => k_is)
    (case n2 => k_is)
    (case n3 => k_is)
    (case n4 => k_is)
    (case n5 => k_is)
    (case n6 => k_is)
    (case hn => k_is)
    (case ht => k_is)
    (case xg1 => k_is)
    (case xk1 => k_is)
    (case xs1 => k_is)
    (case xd1 => k_is)
    (case xa1 => k_is)
    (case xm1 => k_is)
    (case i11 => kit_is)
    (case i12 => kit_is)
    (case i13 => kit_is)
    (case i14 => kit_is)
    (case i15 => kit_is)
    (case i16 => kit_is)
    (case y1 => k_is)
    (case xg2 => k_is)
    (case xk2 => k_is)
    (case xs2 => k_is)
    (case xd2 => k_is)
    (case xa2 => k_is)
    (case xm2 => k_is)
    (case i21 => kit_is)
    (case i22 => kit_is)
    (case i23 => kit_is)
    (case i24 => kit_is)
    (case i25 => kit_is)
    (case i26 => kit_is)
    (case y2 => k_is)
    (case xg3 => k_is)
    (case xk3 => k_is)
    (case xs3 => k_is)
    (case xd3 => k_is)
    (case xa3 => k_is)
    (case xm3 => k_is)
    (case i31 => kit_is)
    (case i32 => kit_is)
    (case i33 => kit_is)
    (case i34 => kit_is)
    (case i35 => kit_is)
    (case i36 => kit_is)
    (case y3 => k_is)
    (case xg4 => k_is)
    (case xk4 => k_is)
    (case xs4 => k_is)
    (case xd4 => k_is)
    (case xa4 => k_is)
    (case xm4 => k_is)
    (case i41 => kit_is)
    (case i42 => kit_is)
    (case i43 => kit_is)
    (case i44 => kit_is)
    (case i45 => kit_is)
    (case i46 => kit_is)
    (case y4 => k_is)
    (case xg5 => k_is)
    (case xk5 => k_is)
    (case xs5 => k_is)
    (case xd5 => k_is)
    (case xa5 => k_is)
    (case xm5 => k_is)
    (case i51 => kit_is)
    (case i52 => kit_is)
    (case i53 => kit_is)
    (case i54 => kit_is)
    (case i55 => kit_is)
    (case i56 => kit_is)
    (case y5 => k_is)
    (case xg6 => k_is)
    (case xk6 => k_is)
    (case xs6 => k_is)
    (case xd6 => k_is)
    (case xa6 => k_is)
    (case xm6 => k_is)
    (case i61 => kit_is)
    (case i62 => kit_is)
    (case i63 => kit_is)
    (case i64 => kit_is)
    (case i65 => kit_is)
    (case i66 => kit_is)
    (case y6 => k_is)
    (case b1 => k_is)
    (case b2 => k_is)
    (case b3 => k_is)
    (case e1 => k_exc)
    (case u1 => k_is)
    (case v1 => k_is)
    (case tc => rfl)
    (case tl => k_is)
    (case tv => rfl)
    (case tn => kernel_rfl)
