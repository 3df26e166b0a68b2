import PyProof.Rows.All
import Wide.All
import OpenK.AllK
import Wide.FinOn
import HandS.ForMost
import HandS.Exc
import HandS.TryOnly
import HandS.ExcOwn
import HandS.WordsExc
import HandS.Deep
import HandS.TupAny
import HandS.IsInst
import HandS.Codes
import HandS.Lambda
import HandS.Nested
import HandS.Defaults
import HandS.LawCells
import HandS.EndBits
import HandS.EndTab
import KE.SortKeyHeap
import HandS.SetFor
import KE.KStateDown
import HandS.Head0
import HandS.Head1
import HandS.Head2
import HandS.HeadEnd
import HandS.HeadHook1
import HandS.HeadHook2
import HandS.HeadHook3
import HandS.HeadHook4
import HandS.HeadNt
import HandS.MakeKwOnly
import PySem.Challenge.RW_foldkeep_k07_operations_on_a_host
set_option Elab.async false
set_option linter.all false
set_option maxRecDepth 100000
/-! The data layer: abstract data, the host's abstract state, what stands for them in the heap. -/
namespace FK
open PySem PySem.Spec PyProof.Rows L2

structure RuleD where
  alike : List Str
  unfit : List Str
  longest : Int
  swaps : Bool
  reads : Bool
  cuts : Bool
  turns : Bool
inductive Area where
  | s (x : Str) | i (n : Int)
  deriving DecidableEq
structure Row where
  area : Area
  path : List Str
  thing : Int
  kind : Str
  text : Str
  runs : Bool
  count : Int
  cuts : Int
  staged : Bool
structure HostSt where
  rule : RuleD
  rows : List Row
  opened : List Int
  had : List (Int × Int)
  next : Int
  turned : Int
  ver : Nat := 0
inductive D where
  | non | bl (b : Bool) | int (i : Int) | str (x : Str) | tup (ds : List D) | lst (ds : List D) | rule (r : RuleD) | host | opened | reads | node (t : Int)

/-- where the host's objects stand -/
structure Gh where
  host : Addr
  hdx : Addr
  ln : Addr
  lo : Addr
  lh : Addr
  ad : Int → Option Addr
/-- what the written part is: the classes of Rule, Node, Host, NotPossible; the table of area_list's code object -/
structure Cs where
  K : PySem.W.Frag
  CR : Addr
  CN : Addr
  CH : Addr
  CX : Addr
  PT : Addr
  tq : Str
  cA : Addr

def areaV : Area → V
  | .s x => .str x
  | .i n => .int n
def areaD : Area → D
  | .s x => .str x
  | .i n => .int n
def ruleF (p1 p2 : Addr) (r : RuleD) : List (Str × V) :=
  [("alike", .ref p1), ("unfit", .ref p2), ("longest", .int r.longest), ("swaps", .bl r.swaps), ("reads", .bl r.reads), ("cuts", .bl r.cuts), ("turns", .bl r.turns)]
def nodeF (pa : Addr) (r : Row) : List (Str × V) :=
  [("area", areaV r.area), ("path", .ref pa), ("thing", .int r.thing), ("kind", .str r.kind), ("text", .str r.text), ("runs", .bl r.runs), ("count", .int r.count), ("cuts", .int r.cuts), ("staged", .bl r.staged)]
def hostF (ra : Addr) (g : Gh) (A : HostSt) : List (Str × V) :=
  [("rule", .ref ra), ("nodes", .ref g.ln), ("opened", .ref g.lo), ("had_read", .ref g.lh), ("next_thing", .int A.next), ("turned", .int A.turned)]

section
variable (C : Cs)
def RuleAt (F : Hp) (a : Addr) (r : RuleD) : Prop :=
  ∃ dx p1 p2, F a = some (.ins C.CR dx (ruleF p1 p2 r)) ∧ SqT C.K F p1 (r.alike.map .str) ∧ SqT C.K F p2 (r.unfit.map .str)
mutual
def Rep (g : Gh) (F : Hp) : D → V → Prop
  | .non, v => v = .non
  | .bl b, v => v = .bl b
  | .int i, v => v = .int i
  | .str x, v => v = .str x
  | .tup ds, v => ∃ a vs, v = .ref a ∧ SqT C.K F a vs ∧ Reps g F ds vs
  | .lst ds, v => ∃ a vs, v = .ref a ∧ F a = some (.lst vs) ∧ Reps g F ds vs
  | .rule r, v => ∃ a, v = .ref a ∧ RuleAt C F a r
  | .host, v => v = .ref g.host
  | .opened, v => v = .ref g.lo
  | .reads, v => v = .ref g.lh
  | .node t, v => ∃ a, g.ad t = some a ∧ v = .ref a
def Reps (g : Gh) (F : Hp) : List D → List V → Prop
  | [], vs => vs = []
  | d :: ds, vs => ∃ v r, vs = v :: r ∧ Rep g F d v ∧ Reps g F ds r
end
def NodeAt (F H : Hp) (a : Addr) (r : Row) : Prop :=
  ∃ dx pa, H a = some (.ins C.CN dx (nodeF pa r)) ∧ SqT C.K F pa (r.path.map .str)
def RowsAt (g : Gh) (F H : Hp) : List Row → List V → Prop
  | [], vs => vs = []
  | r :: rs, vs => ∃ a vr, vs = .ref a :: vr ∧ g.ad r.thing = some a ∧ F a = none ∧ NodeAt C F H a r ∧ RowsAt g F H rs vr
def encHad (p : Int × Int) : D := .tup [.int p.1, .int p.2]
/-- the host's state A stands in H, F the part of H that never changes -/
structure Wd (g : Gh) (A : HostSt) (F H : Hp) : Prop where
  sub : ∀ p o, F p = some o → H p = some o
  nt : ∀ p ps, F p ≠ some (.tbl ps)
  tab : LamX.TabS H C.PT C.tq
  host : ∃ ra, H g.host = some (.ins C.CH g.hdx (hostF ra g A)) ∧ RuleAt C F ra A.rule
  nodes : ∃ vs, H g.ln = some (.lst vs) ∧ RowsAt C g F H A.rows vs
  opened : H g.lo = some (.lst (A.opened.map .int))
  had : ∃ vs, H g.lh = some (.lst vs) ∧ Reps C g F (A.had.map encHad) vs
  fhost : F g.host = none
  fln : F g.ln = none
  flo : F g.lo = none
  flh : F g.lh = none
  ad : ∀ t a, g.ad t = some a → t < A.next
  dj1 : g.ln ≠ g.lo
  dj2 : g.ln ≠ g.lh
  dj3 : g.lo ≠ g.lh
/-- H has grown to H', F to F', by new objects -/
structure Ext (g : Gh) (A : HostSt) (F H F' H' : Hp) : Prop where
  up : LamX.ExtN H H'
  dom : ∀ p, H' p = none → H p = none
  fup : ∀ p o, F p = some o → F' p = some o
  new : ∀ p o, F' p = some o → F p = some o ∨ H p = none
  w : Wd C g A F' H'
end

section
variable {C : Cs} {g : Gh} {A : HostSt} {F H F' H' F2 H2 : Hp}
def SubF (F F' : Hp) : Prop := ∀ p o, F p = some o → F' p = some o
theorem sqT_up {K : PySem.W.Frag} {a : Addr} {xs : List V} (e : SubF F F') (h : SqT K F a xs) : SqT K F' a xs := by
  rcases h with (h | ⟨o, h⟩) | h
  · exact .inl (.inl (e _ _ h))
  · exact .inl (.inr ⟨o, e _ _ h⟩)
  · exact .inr h
theorem sqL_up {K : PySem.W.Frag} {a : Addr} {xs : List V} (e : SubF F F') (h : SqL K F a xs) : SqL K F' a xs := by
  rcases h with (h | ⟨o, h⟩) | h
  · exact .inl (.inl (e _ _ h))
  · exact .inl (.inr ⟨o, e _ _ h⟩)
  · exact .inr h
theorem RuleAt.up {a : Addr} {r : RuleD} (e : SubF F F') (h : RuleAt C F a r) : RuleAt C F' a r := by
  obtain ⟨dx, p1, p2, h1, h2, h3⟩ := h
  exact ⟨dx, p1, p2, e _ _ h1, sqT_up e h2, sqT_up e h3⟩
mutual
theorem Rep.up (e : SubF F F') : ∀ {d : D} {v : V}, Rep C g F d v → Rep C g F' d v
  | .non, v, h => by simpa [Rep] using h
  | .bl b, v, h => by simpa [Rep] using h
  | .int i, v, h => by simpa [Rep] using h
  | .str x, v, h => by simpa [Rep] using h
  | .tup ds, v, h => by
    simp only [Rep] at h ⊢
    obtain ⟨a, vs, h1, h2, h3⟩ := h
    exact ⟨a, vs, h1, sqT_up e h2, Reps.up e h3⟩
  | .lst ds, v, h => by
    simp only [Rep] at h ⊢
    obtain ⟨a, vs, h1, h2, h3⟩ := h
    exact ⟨a, vs, h1, e _ _ h2, Reps.up e h3⟩
  | .rule r, v, h => by
    simp only [Rep] at h ⊢
    obtain ⟨a, h1, h2⟩ := h
    exact ⟨a, h1, h2.up e⟩
  | .host, v, h => by simpa [Rep] using h
  | .opened, v, h => by simpa [Rep] using h
  | .reads, v, h => by simpa [Rep] using h
  | .node t, v, h => by simpa [Rep] using h
theorem Reps.up (e : SubF F F') : ∀ {ds : List D} {vs : List V}, Reps C g F ds vs → Reps C g F' ds vs
  | [], vs, h => by simpa [Reps] using h
  | d :: ds, vs, h => by
    simp only [Reps] at h ⊢
    obtain ⟨v, r, h1, h2, h3⟩ := h
    exact ⟨v, r, h1, Rep.up e h2, Reps.up e h3⟩
end
theorem RowsAt.up (e : SubF F F') (n : ∀ p, F p = none → H p ≠ none → F' p = none) (u : LamX.ExtN H H') : ∀ {rs : List Row} {vs : List V}, RowsAt C g F H rs vs → RowsAt C g F' H' rs vs
  | [], vs, h => h
  | r :: rs, vs, h => by
    obtain ⟨a, vr, h1, h2, h3, ⟨dx, pa, h4, h5⟩, h6⟩ := h
    exact ⟨a, vr, h1, h2, n a h3 (by rw [h4]; intro q; cases q), ⟨dx, pa, u _ _ h4 (by intro ps q; cases q), sqT_up e h5⟩, RowsAt.up e n u h6⟩
/-- growing keeps the host -/
theorem Wd.grow (w : Wd C g A F H) (u : LamX.ExtN H H') (e : SubF F F') (nw : ∀ p o, F' p = some o → F p = some o ∨ H p = none) (sub : SubF F' H') (nt : ∀ p ps, F' p ≠ some (.tbl ps)) (tab : LamX.TabS H' C.PT C.tq) : Wd C g A F' H' := by
  have nn : ∀ p, F p = none → H p ≠ none → F' p = none := fun p h1 h2 => by
    cases q : F' p with
    | none => rfl
    | some o =>
      rcases nw p o q with z | z
      · rw [h1] at z; cases z
      · exact absurd z h2
  obtain ⟨ra, h1, h2⟩ := w.host
  obtain ⟨vs, h3, h4⟩ := w.nodes
  obtain ⟨us, h5, h6⟩ := w.had
  have h7 := w.opened
  exact ⟨sub, nt, tab, ⟨ra, u _ _ h1 (by intro ps q; cases q), h2.up e⟩, ⟨vs, u _ _ h3 (by intro ps q; cases q), h4.up e nn u⟩, u _ _ h7 (by intro ps q; cases q), ⟨us, u _ _ h5 (by intro ps q; cases q), h6.up e⟩,
    nn _ w.fhost (by rw [h1]; intro q; cases q), nn _ w.fln (by rw [h3]; intro q; cases q), nn _ w.flo (by rw [h7]; intro q; cases q), nn _ w.flh (by rw [h5]; intro q; cases q), w.ad, w.dj1, w.dj2, w.dj3⟩
theorem Ext.refl (w : Wd C g A F H) : Ext C g A F H F H := ⟨LamX.ExtN.refl H, fun _ h => h, fun _ _ h => h, fun _ _ h => .inl h, w⟩
theorem Ext.trans (a : Ext C g A F H F' H') (b : Ext C g A F' H' F2 H2) : Ext C g A F H F2 H2 := by
  refine ⟨a.up.trans b.up, fun p h => a.dom p (b.dom p h), fun p o h => b.fup p o (a.fup p o h), fun p o h => ?_, b.w⟩
  rcases b.new p o h with z | z
  · exact a.new p o z
  · exact .inr (a.dom p z)
theorem extN_upd {p : Addr} {o : HO} (hp : H p = none) : LamX.ExtN H (upd H p o) := fun b u e _ => by
  rw [upd_ne (ne_of_none e hp)]
  exact e
theorem upd_dom {p : Addr} {o : HO} : ∀ q, upd H p o q = none → H q = none := fun q e => NdefX.upd_none e
theorem tabS_upd {P p : Addr} {q : Str} {o : HO} (t : LamX.TabS H P q) (hp : H p = none) : LamX.TabS (upd H p o) P q := t.ext fun b u e => by
  rw [upd_ne (ne_of_none e hp)]
  exact e
/-- a new object that will never change -/
theorem Ext.frz {p : Addr} {o : HO} (w : Wd C g A F H) (hp : H p = none) (no : ∀ ps, o ≠ .tbl ps) : Ext C g A F H (upd F p o) (upd H p o) := by
  have fp : F p = none := by
    cases q : F p with
    | none => rfl
    | some u => rw [w.sub _ _ q] at hp; cases hp
  have e : SubF F (upd F p o) := fun b u e => by
    rw [upd_ne (ne_of_none e fp)]
    exact e
  have nw : ∀ b u, upd F p o b = some u → F b = some u ∨ H b = none := fun b u e => by
    by_cases h : b = p
    · subst h; exact .inr hp
    · rw [upd_ne h] at e; exact .inl e
  have u := extN_upd (o := o) hp
  refine ⟨u, upd_dom, e, nw, w.grow u e nw (fun b u e => ?_) (fun b ps e => ?_) (tabS_upd w.tab hp)⟩
  · by_cases h : b = p
    · subst h; rw [upd_same] at e ⊢; exact e
    · rw [upd_ne h] at e ⊢; exact w.sub _ _ e
  · by_cases h : b = p
    · subst h; rw [upd_same] at e; exact no ps (Option.some.inj e)
    · rw [upd_ne h] at e; exact w.nt _ _ e
/-- a new object that may change yet -/
theorem Ext.lay {p : Addr} {o : HO} (w : Wd C g A F H) (hp : H p = none) : Ext C g A F H F (upd H p o) := by
  have u := extN_upd (o := o) hp
  refine ⟨u, upd_dom, fun _ _ h => h, fun _ _ h => .inl h, w.grow u (fun _ _ h => h) (fun _ _ h => .inl h) (fun b v e => ?_) w.nt (tabS_upd w.tab hp)⟩
  have := w.sub _ _ e
  rw [upd_ne (ne_of_none this hp)]
  exact this
theorem Reps.length : ∀ {ds : List D} {vs : List V}, Reps C g F ds vs → vs.length = ds.length
  | [], vs, h => by
    simp only [Reps] at h
    subst h
    rfl
  | d :: ds, vs, h => by
    simp only [Reps] at h
    obtain ⟨v, r, rfl, _, h3⟩ := h
    simp [Reps.length h3]
theorem Reps.append : ∀ {ds es : List D} {vs us : List V}, Reps C g F ds vs → Reps C g F es us → Reps C g F (ds ++ es) (vs ++ us)
  | [], es, vs, us, h, h' => by
    simp only [Reps] at h
    subst h
    exact h'
  | d :: ds, es, vs, us, h, h' => by
    simp only [Reps] at h
    obtain ⟨v, r, rfl, h2, h3⟩ := h
    show Reps C g F (d :: (ds ++ es)) (v :: (r ++ us))
    simp only [Reps]
    exact ⟨v, _, rfl, h2, Reps.append h3 h'⟩
theorem Reps.get : ∀ {ds : List D} {vs : List V} {i : Nat} {d : D}, Reps C g F ds vs → ds[i]? = some d → ∃ v, vs[i]? = some v ∧ Rep C g F d v
  | [], vs, i, d, h, e => by simp at e
  | d' :: ds, vs, 0, d, h, e => by
    simp only [Reps] at h
    obtain ⟨v, r, rfl, h2, h3⟩ := h
    simp at e
    subst e
    exact ⟨v, rfl, h2⟩
  | d' :: ds, vs, i + 1, d, h, e => by
    simp only [Reps] at h
    obtain ⟨v, r, rfl, h2, h3⟩ := h
    simp at e
    obtain ⟨v', e1, e2⟩ := Reps.get (i := i) h3 e
    exact ⟨v', by simpa using e1, e2⟩
theorem Reps.nil : Reps C g F [] [] := by simp [Reps]
theorem Reps.cons {d : D} {ds : List D} {v : V} {vs : List V} (h : Rep C g F d v) (t : Reps C g F ds vs) : Reps C g F (d :: ds) (v :: vs) := by
  simp only [Reps]
  exact ⟨v, vs, rfl, h, t⟩
theorem Reps.take : ∀ {ds : List D} {vs : List V} (n : Nat), Reps C g F ds vs → Reps C g F (ds.take n) (vs.take n)
  | [], vs, n, h => by
    simp only [Reps] at h
    subst h
    simp [Reps]
  | d :: ds, vs, 0, h => by simp [Reps]
  | d :: ds, vs, n + 1, h => by
    simp only [Reps] at h
    obtain ⟨v, r, rfl, h2, h3⟩ := h
    simp only [List.take_succ_cons]
    exact .cons h2 (Reps.take n h3)
theorem Reps.drop : ∀ {ds : List D} {vs : List V} (n : Nat), Reps C g F ds vs → Reps C g F (ds.drop n) (vs.drop n)
  | [], vs, n, h => by
    simp only [Reps] at h
    subst h
    simp [Reps]
  | d :: ds, vs, 0, h => by simpa using h
  | d :: ds, vs, n + 1, h => by
    simp only [Reps] at h
    obtain ⟨v, r, rfl, h2, h3⟩ := h
    simp only [List.drop_succ_cons]
    exact Reps.drop n h3
end
end FK
set_option Elab.async false
set_option linter.all false
set_option maxRecDepth 100000
/-! The judgements of the data layer: expressions, tests, arguments. -/
namespace FK
open PySem PySem.Spec PyProof.Rows L2

inductive Res (α : Type) where
  | ok (a : α) | exc | bad
def Res.bind {α β : Type} (r : Res α) (f : α → Res β) : Res β :=
  match r with
  | .ok a => f a
  | .exc => .exc
  | .bad => .bad
theorem Res.bind_ok {α β : Type} (a : α) (f : α → Res β) : (Res.ok a).bind f = f a := rfl
theorem Res.bind_exc {α β : Type} (f : α → Res β) : (Res.exc : Res α).bind f = .exc := rfl
theorem Res.bind_bad {α β : Type} (f : α → Res β) : (Res.bad : Res α).bind f = .bad := rfl
abbrev Env := List (Option D)
abbrev Ev := Env → HostSt → Res D
abbrev Evs := Env → HostSt → Res (List D)
abbrev Tv := Env → HostSt → Res Bool

section
variable (C : Cs)
def EnvRep (g : Gh) (F : Hp) (ρ : Env) (σ : L2.St) : Prop := ρ.length = σ.length ∧ ∀ (i : Nat) (d : D), ρ[i]? = some (some d) → ∃ v : V, σ[i]? = some (some v) ∧ Rep C g F d v
def PostG {α β : Type} (R : Hp → α → β → Prop) (g : Gh) (A : HostSt) (F H : Hp) (r : Res α) (Q : β → Hp → Prop) (E : XK) : Prop :=
  match r with
  | .ok d => ∀ v F' H', Ext C g A F H F' H' → R F' d v → Q v H'
  | .exc => ∀ F' H', Ext C g A F H F' H' → E (.ref C.CX) none H'
  | .bad => False
abbrev PostE (g : Gh) (A : HostSt) (F H : Hp) (r : Res D) (Q : VK) (E : XK) : Prop := PostG C (fun F' => Rep C g F') g A F H r Q E
abbrev PostA (g : Gh) (A : HostSt) (F H : Hp) (r : Res (List D)) (Q : List V → Hp → Prop) (E : XK) : Prop := PostG C (fun F' => Reps C g F') g A F H r Q E
abbrev PostT (g : Gh) (A : HostSt) (F H : Hp) (r : Res Bool) (Q : Bool → Hp → Prop) (E : XK) : Prop := PostG C (fun _ a b => a = b) g A F H r Q E
def PEd (X : Cx) (E : XK) (e : Expr) (ev : Ev) : Prop :=
  ∃ t, PE X e t ∧ ∀ g A F H σ ρ Q, Wd C g A F H → EnvRep C g F ρ σ → PostE C g A F H (ev ρ A) Q E → t σ H Q
def PTd (X : Cx) (E : XK) (e : Expr) (ev : Tv) : Prop :=
  ∃ t, PT X e t ∧ ∀ g A F H σ ρ Q, Wd C g A F H → EnvRep C g F ρ σ → PostT C g A F H (ev ρ A) Q E → t σ H Q
def PWd (X : Cx) (E : XK) (e : Expr) (ev : Tv) : Prop :=
  ∃ t, PW X e t ∧ ∀ g A F H σ ρ Q, Wd C g A F H → EnvRep C g F ρ σ → PostT C g A F H (ev ρ A) Q E → t σ H Q
def PAd (X : Cx) (E : XK) (es : List Expr) (ev : Evs) : Prop :=
  ∃ t, PA X es t ∧ ∀ g A F H σ ρ Q, Wd C g A F H → EnvRep C g F ρ σ → PostA C g A F H (ev ρ A) Q E → t σ H Q
def POd (X : Cx) (E : XK) (e : Option Expr) (ev : Env → HostSt → Res (Option Int)) : Prop :=
  ∃ t, PO X e t ∧ ∀ g A F H σ ρ Q, Wd C g A F H → EnvRep C g F ρ σ → PostG C (fun _ a b => a = b) g A F H (ev ρ A) Q E → t σ H Q
end
section
variable {C : Cs} {X : Cx} {E : XK} {g : Gh} {A : HostSt} {F H F1 H1 : Hp} {σ : L2.St} {ρ : Env}
theorem EnvRep.up (e : SubF F F1) (h : EnvRep C g F ρ σ) : EnvRep C g F1 ρ σ := ⟨h.1, fun i d q => by
  obtain ⟨v, h1, h2⟩ := h.2 i d q
  exact ⟨v, h1, h2.up e⟩⟩
theorem EnvRep.set {i : Nat} {d : D} {v : V} (h : EnvRep C g F ρ σ) (r : Rep C g F d v) : EnvRep C g F (ρ.set i (some d)) (σ.set i (some v)) := by
  refine ⟨by rw [List.length_set, List.length_set]; exact h.1, fun j d' q => ?_⟩
  by_cases hj : i = j
  · subst hj
    rw [List.getElem?_set] at q
    simp only [if_true] at q
    split at q
    · rename_i hl
      cases q
      exact ⟨v, by rw [List.getElem?_set]; simp [← h.1, hl], r⟩
    · cases q
  · rw [List.getElem?_set_ne hj] at q ⊢
    exact h.2 j d' q
theorem EnvRep.unset {i : Nat} {v : Option V} (h : EnvRep C g F ρ σ) : EnvRep C g F (ρ.set i none) (σ.set i v) := by
  refine ⟨by rw [List.length_set, List.length_set]; exact h.1, fun j d' q => ?_⟩
  by_cases hj : i = j
  · subst hj
    rw [List.getElem?_set] at q
    simp only [if_true] at q
    split at q <;> cases q
  · rw [List.getElem?_set_ne hj] at q ⊢
    exact h.2 j d' q
theorem PostG.trans {α β : Type} {R : Hp → α → β → Prop} {r : Res α} {Q : β → Hp → Prop} (x : Ext C g A F H F1 H1) (h : PostG C R g A F H r Q E) : PostG C R g A F1 H1 r Q E := by
  cases r with
  | ok d => exact fun v F' H' e q => h v F' H' (x.trans e) q
  | exc => exact fun F' H' e => h F' H' (x.trans e)
  | bad => exact h
theorem PostG.imp {α β : Type} {R : Hp → α → β → Prop} {r : Res α} {Q Q' : β → Hp → Prop} (h : PostG C R g A F H r Q E) (hq : ∀ v H', Q v H' → Q' v H') : PostG C R g A F H r Q' E := by
  cases r with
  | ok d => exact fun v F' H' e q => hq _ _ (h v F' H' e q)
  | exc => exact h
  | bad => exact h
/-- one evaluation behind another -/
theorem PostG.bind {α β γ δ : Type} {R : Hp → α → β → Prop} {S : Hp → γ → δ → Prop} {r : Res α} {f : α → Res γ} {Q : δ → Hp → Prop} {Q' : β → Hp → Prop}
    (h : PostG C S g A F H (r.bind f) Q E) (k : ∀ a v F' H', Ext C g A F H F' H' → R F' a v → PostG C S g A F' H' (f a) Q E → Q' v H') : PostG C R g A F H r Q' E := by
  cases r with
  | ok a => exact fun v F' H' e q => k a v F' H' e q (PostG.trans e h)
  | exc => exact h
  | bad => exact h
theorem PostG.here {α β : Type} {R : Hp → α → β → Prop} {a : α} {v : β} {Q : β → Hp → Prop} (w : Wd C g A F H) (h : PostG C R g A F H (.ok a) Q E) (r : R F a v) : Q v H := h v F H (Ext.refl w) r
end

/-! ### evaluators -/
def vVar (i : Nat) : Ev := fun ρ _ => match ρ[i]? with
  | some (some d) => .ok d
  | _ => .bad
def vC (d : D) : Ev := fun _ _ => .ok d
def vNil : Evs := fun _ _ => .ok []
def vCons (e : Ev) (es : Evs) : Evs := fun ρ A => (e ρ A).bind fun d => (es ρ A).bind fun ds => .ok (d :: ds)
def vTup (es : Evs) : Ev := fun ρ A => (es ρ A).bind fun ds => if ds.length ≤ 1000 then .ok (.tup ds) else .bad
def vLst (es : Evs) : Ev := fun ρ A => (es ρ A).bind fun ds => if ds.length ≤ 1000 then .ok (.lst ds) else .bad
def vBin (f : D → D → HostSt → Res D) (a b : Ev) : Ev := fun ρ A => (a ρ A).bind fun x => (b ρ A).bind fun y => f x y A
def vUn (f : D → HostSt → Res D) (a : Ev) : Ev := fun ρ A => (a ρ A).bind fun x => f x A
def vApp (f : List D → HostSt → Res D) (es : Evs) : Ev := fun ρ A => (es ρ A).bind fun ds => f ds A
def tOfV (a : Ev) : Tv := fun ρ A => (a ρ A).bind fun x => match x with
  | .bl b => .ok b
  | _ => .bad
def tvAnd (a b : Tv) : Tv := fun ρ A => (a ρ A).bind fun c => if c = true then b ρ A else .ok false
def tvOr (a b : Tv) : Tv := fun ρ A => (a ρ A).bind fun c => if c = true then .ok true else b ρ A
def tvNot (a : Tv) : Tv := fun ρ A => (a ρ A).bind fun c => .ok (!c)
def vIf (t : Tv) (a b : Ev) : Ev := fun ρ A => (t ρ A).bind fun c => if c = true then a ρ A else b ρ A
def vAnd (a b : Ev) : Ev := fun ρ A => (a ρ A).bind fun x => match x with
  | .bl c => if c = true then b ρ A else .ok (.bl false)
  | _ => .bad
def vOr (a b : Ev) : Ev := fun ρ A => (a ρ A).bind fun x => match x with
  | .bl c => if c = true then .ok (.bl true) else b ρ A
  | _ => .bad
def vNot (a : Ev) : Ev := fun ρ A => (a ρ A).bind fun x => match x with
  | .bl c => .ok (.bl (!c))
  | _ => .bad

section
variable {C : Cs} {X : Cx} {E : XK}
theorem small_line {n : Nat} (h : n ≤ 1000) : n ≤ sizeLine := Nat.le_trans h (by decide)
theorem ed_var (i : Nat) {x : Str} {pos : Pos} (hN : X.N[i]? = some x := by rfl) (hv : Vis X.env.scope x := by first | exact Or.inl rfl | exact Or.inr (Or.inl rfl) | exact Or.inr (Or.inr rfl)) (hd : (x == ("__debug__" : Str)) = false := by decide)
    (hcd : (x == ("__classdict__" : Str)) = false := by decide) : PEd C X E (.Name x pos) (vVar i) := by
  refine ⟨_, pe_var hN hv hd hcd, fun g A F H σ ρ Q w er h => ?_⟩
  unfold vVar at h
  split at h
  · rename_i d hd'
    obtain ⟨v, h1, h2⟩ := er.2 i d hd'
    exact ⟨v, h1, PostG.here w h h2⟩
  · exact h.elim
theorem ed_int {i : Int} {j : Nat} {pos : Pos} : PEd C X E (.Constant (.int i) j pos) (vC (.int i)) := ⟨_, pe_int, fun g A F H σ ρ Q w er h => PostG.here w h (by simp [Rep])⟩
theorem ed_bl {b : Bool} {j : Nat} {pos : Pos} : PEd C X E (.Constant (.bool b) j pos) (vC (.bl b)) := ⟨_, pe_bl, fun g A F H σ ρ Q w er h => PostG.here w h (by simp [Rep])⟩
theorem ed_str {b : Str} {j : Nat} {pos : Pos} : PEd C X E (.Constant (.str b) j pos) (vC (.str b)) := ⟨_, pe_str, fun g A F H σ ρ Q w er h => PostG.here w h (by simp [Rep])⟩
theorem ed_non {j : Nat} {pos : Pos} : PEd C X E (.Constant .none j pos) (vC .non) := ⟨_, pe_non, fun g A F H σ ρ Q w er h => PostG.here w h (by simp [Rep])⟩
theorem ad_nil : PAd C X E [] vNil := ⟨_, pa_nil, fun g A F H σ ρ Q w er h => PostG.here w h (by simp [Reps])⟩
theorem ad_cons {e : Expr} {es : List Expr} {ev : Ev} {evs : Evs} (ha : PEd C X E e ev) (hr : PAd C X E es evs) (hs : starEach (e :: es) X.env = (false, eval e X.env) :: starEach es X.env := by rfl) : PAd C X E (e :: es) (vCons ev evs) := by
  obtain ⟨t, h1, h2⟩ := ha
  obtain ⟨u, h3, h4⟩ := hr
  refine ⟨_, pa_cons h1 h3 hs, fun g A F H σ ρ Q w er h => ?_⟩
  refine h2 g A F H σ ρ _ w er (PostG.bind h fun d v F' H' x r h => ?_)
  refine h4 g A F' H' σ ρ _ x.w (er.up x.fup) (PostG.bind h fun ds vs F2 H2 x2 rs h => ?_)
  exact PostG.here x2.w h (.cons (r.up x2.fup) rs)
theorem ed_tup {es : List Expr} {evs : Evs} {pos : Pos} {k : Nat} (ha : PAd C X E es evs) : PEd C X E (.Tuple es k pos) (vTup evs) := by
  obtain ⟨t, h1, h2⟩ := ha
  refine ⟨_, pe_tup h1, fun g A F H σ ρ Q w er h => ?_⟩
  refine h2 g A F H σ ρ _ w er (PostG.bind h fun ds vs F' H' x r h => ?_)
  (try dsimp only at h)
  split at h
  · rename_i hl
    refine ⟨by rw [r.length]; exact small_line hl, fun p hp => ?_⟩
    have x2 := Ext.frz x.w hp (o := .tup vs) (by intro ps q; cases q)
    exact h _ _ _ x2 (by simp only [Rep]; exact ⟨p, vs, rfl, .inl (.inl upd_same), r.up x2.fup⟩)
  · exact h.elim
theorem ed_lst {es : List Expr} {evs : Evs} {pos : Pos} (ha : PAd C X E es evs) : PEd C X E (.List es pos) (vLst evs) := by
  obtain ⟨t, h1, h2⟩ := ha
  refine ⟨_, pe_lst h1, fun g A F H σ ρ Q w er h => ?_⟩
  refine h2 g A F H σ ρ _ w er (PostG.bind h fun ds vs F' H' x r h => ?_)
  (try dsimp only at h)
  split at h
  · rename_i hl
    refine ⟨by rw [r.length]; exact small_line hl, fun p hp => ?_⟩
    have x2 := Ext.frz x.w hp (o := .lst vs) (by intro ps q; cases q)
    exact h _ _ _ x2 (by simp only [Rep]; exact ⟨p, vs, rfl, upd_same, r.up x2.fup⟩)
  · exact h.elim
/-- a rule by values keeps a function of data -/
def Snd2 (C : Cs) (r : R2) (f : D → D → HostSt → Res D) : Prop :=
  ∀ g A F H x y dx dy (Q : VK) (E : XK), Wd C g A F H → Rep C g F dx x → Rep C g F dy y → PostE C g A F H (f dx dy A) Q E → r x y H Q
theorem ed_bin {op : Operator} {r : R2} {a b : Expr} {ea eb : Ev} {f : D → D → HostSt → Res D} {pos : Pos} (ho : OpR X (binaryOp op) r) (hf : Snd2 C r f) (ha : PEd C X E a ea) (hb : PEd C X E b eb) : PEd C X E (.BinOp a op b pos) (vBin f ea eb) := by
  obtain ⟨t, h1, h2⟩ := ha
  obtain ⟨u, h3, h4⟩ := hb
  refine ⟨_, pe_op ho h1 h3, fun g A F H σ ρ Q w er h => ?_⟩
  refine h2 g A F H σ ρ _ w er (PostG.bind h fun d v F' H' x r1 h => ?_)
  refine h4 g A F' H' σ ρ _ x.w (er.up x.fup) (PostG.bind h fun d2 v2 F2 H2 x2 r2 h => ?_)
  exact hf g A F2 H2 _ _ _ _ Q E x2.w (r1.up x2.fup) r2 h
theorem ed_cmp {op : CmpOp} {r : R2} {a b : Expr} {ea eb : Ev} {f : D → D → HostSt → Res D} {pos : Pos} (ho : OpR X (compareOp op) r) (hf : Snd2 C r f) (ha : PEd C X E a ea) (hb : PEd C X E b eb) (hm : behindInMarks op b = false := by first | exact nomark _ | rfl) :
    PEd C X E (.Compare a [op] [b] pos) (vBin f ea eb) := by
  obtain ⟨t, h1, h2⟩ := ha
  obtain ⟨u, h3, h4⟩ := hb
  refine ⟨_, pe_cmpR ho h1 h3 hm, fun g A F H σ ρ Q w er h => ?_⟩
  refine h2 g A F H σ ρ _ w er (PostG.bind h fun d v F' H' x r1 h => ?_)
  refine h4 g A F' H' σ ρ _ x.w (er.up x.fup) (PostG.bind h fun d2 v2 F2 H2 x2 r2 h => ?_)
  exact hf g A F2 H2 _ _ _ _ Q E x2.w (r1.up x2.fup) r2 h
theorem td_cmp {op : CmpOp} {r : R2} {a b : Expr} {ea eb : Ev} {f : D → D → HostSt → Res D} {pos : Pos} (ho : OpR X (compareOp op) r) (hf : Snd2 C r f) (ha : PEd C X E a ea) (hb : PEd C X E b eb) (hm : behindInMarks op b = false := by first | exact nomark _ | rfl) :
    PTd C X E (.Compare a [op] [b] pos) (tOfV (vBin f ea eb)) := by
  obtain ⟨t, h1, h2⟩ := ha
  obtain ⟨u, h3, h4⟩ := hb
  refine ⟨_, pt_cmpR ho h1 h3 hm, fun g A F H σ ρ Q w er h => ?_⟩
  have h' : PostE C g A F H (vBin f ea eb ρ A) (fun x H' => ∃ k, x = .bl k ∧ Q k H') E := by
    refine PostG.bind h fun d v F' H' x r1 h => ?_
    cases d with
    | bl b =>
      simp only [Rep] at r1
      exact ⟨b, r1, PostG.here x.w h rfl⟩
    | _ => exact h.elim
  refine h2 g A F H σ ρ _ w er (PostG.bind h' fun d v F' H' x r1 h => ?_)
  refine h4 g A F' H' σ ρ _ x.w (er.up x.fup) (PostG.bind h fun d2 v2 F2 H2 x2 r2 h => ?_)
  exact hf g A F2 H2 _ _ _ _ _ E x2.w (r1.up x2.fup) r2 h
theorem td_val {e : Expr} {ev : Ev} (ha : PEd C X E e ev) (he : ∀ whole, isTrue e X.env whole = (do let v ← whole; standAt e.pos; holding [v] (truthy v)) := by intro _; rfl) : PTd C X E e (tOfV ev) := by
  obtain ⟨t, h1, h2⟩ := ha
  refine ⟨_, pt_val h1 he, fun g A F H σ ρ Q w er h => ?_⟩
  refine h2 g A F H σ ρ _ w er (PostG.bind h fun d v F' H' x r1 h => ?_)
  cases d with
  | bl b =>
    simp only [Rep] at r1
    exact ⟨b, r1, PostG.here x.w h rfl⟩
  | _ => exact h.elim
theorem wd_and1 {a : Expr} {ta : Tv} {pos : Pos} (ha : PTd C X E a ta) : PWd C X E (.BoolOp .And [a] pos) ta := by
  obtain ⟨t, h1, h2⟩ := ha
  exact ⟨_, pw_and1 h1, h2⟩
theorem wd_or1 {a : Expr} {ta : Tv} {pos : Pos} (ha : PTd C X E a ta) : PWd C X E (.BoolOp .Or [a] pos) ta := by
  obtain ⟨t, h1, h2⟩ := ha
  exact ⟨_, pw_or1 h1, h2⟩
theorem wd_and {a b : Expr} {rest : List Expr} {ta tb : Tv} {pos : Pos} (ha : PTd C X E a ta) (hb : PWd C X E (.BoolOp .And (b :: rest) pos) tb) : PWd C X E (.BoolOp .And (a :: b :: rest) pos) (tvAnd ta tb) := by
  obtain ⟨t, h1, h2⟩ := ha
  obtain ⟨u, h3, h4⟩ := hb
  refine ⟨_, pw_and h1 h3, fun g A F H σ ρ Q w er h => ?_⟩
  refine h2 g A F H σ ρ _ w er (PostG.bind h fun d v F' H' x r1 h => ?_)
  subst r1
  (try dsimp only at h ⊢)
  split at h
  · rename_i hc
    rw [if_pos hc]
    exact h4 g A F' H' σ ρ _ x.w (er.up x.fup) h
  · rename_i hc
    rw [if_neg hc]
    exact PostG.here x.w h rfl
theorem wd_or {a b : Expr} {rest : List Expr} {ta tb : Tv} {pos : Pos} (ha : PTd C X E a ta) (hb : PWd C X E (.BoolOp .Or (b :: rest) pos) tb) : PWd C X E (.BoolOp .Or (a :: b :: rest) pos) (tvOr ta tb) := by
  obtain ⟨t, h1, h2⟩ := ha
  obtain ⟨u, h3, h4⟩ := hb
  refine ⟨_, pw_or h1 h3, fun g A F H σ ρ Q w er h => ?_⟩
  refine h2 g A F H σ ρ _ w er (PostG.bind h fun d v F' H' x r1 h => ?_)
  subst r1
  (try dsimp only at h ⊢)
  split at h
  · rename_i hc
    rw [if_pos hc]
    exact PostG.here x.w h rfl
  · rename_i hc
    rw [if_neg hc]
    exact h4 g A F' H' σ ρ _ x.w (er.up x.fup) h
theorem PWd.t {e : Expr} {ev : Tv} (h : PWd C X E e ev) : PTd C X E e ev := by
  obtain ⟨t, h1, h2⟩ := h
  exact ⟨t, h1.pt, h2⟩
theorem td_not {a : Expr} {ta : Tv} {pos : Pos} (ha : PTd C X E a ta) : PTd C X E (.UnaryOp .Not a pos) (tvNot ta) := by
  obtain ⟨t, h1, h2⟩ := ha
  refine ⟨_, pt_not h1, fun g A F H σ ρ Q w er h => ?_⟩
  refine h2 g A F H σ ρ _ w er (PostG.bind h fun d v F' H' x r1 h => ?_)
  subst r1
  exact PostG.here x.w h rfl
theorem ed_if {c a b : Expr} {tc : Tv} {ea eb : Ev} {pos : Pos} (hc : PTd C X E c tc) (ha : PEd C X E a ea) (hb : PEd C X E b eb) : PEd C X E (.IfExp c a b pos) (vIf tc ea eb) := by
  obtain ⟨t, h1, h2⟩ := hc
  obtain ⟨u, h3, h4⟩ := ha
  obtain ⟨u', h5, h6⟩ := hb
  refine ⟨_, pe_ifExp h1 h3 h5, fun g A F H σ ρ Q w er h => ?_⟩
  refine h2 g A F H σ ρ _ w er (PostG.bind h fun d v F' H' x r1 h => ?_)
  subst r1
  (try dsimp only at h ⊢)
  split at h
  · rename_i hc
    rw [if_pos hc]
    exact h4 g A F' H' σ ρ _ x.w (er.up x.fup) h
  · rename_i hc
    rw [if_neg hc]
    exact h6 g A F' H' σ ρ _ x.w (er.up x.fup) h
theorem ed_one {op : BoolOp} {a : Expr} {ea : Ev} {pos : Pos} (ha : PEd C X E a ea) : PEd C X E (.BoolOp op [a] pos) ea := by
  obtain ⟨t, h1, h2⟩ := ha
  exact ⟨_, pe_one h1, h2⟩
theorem ed_and {a b : Expr} {rest : List Expr} {ea eb : Ev} {pos : Pos} (ha : PEd C X E a ea) (hb : PEd C X E (.BoolOp .And (b :: rest) pos) eb) : PEd C X E (.BoolOp .And (a :: b :: rest) pos) (vAnd ea eb) := by
  obtain ⟨t, h1, h2⟩ := ha
  obtain ⟨u, h3, h4⟩ := hb
  refine ⟨_, pe_and h1 h3, fun g A F H σ ρ Q w er h => ?_⟩
  refine h2 g A F H σ ρ _ w er (PostG.bind h fun d v F' H' x r1 h => ?_)
  cases d with
  | bl c =>
    simp only [Rep] at r1
    refine ⟨c, r1, ?_⟩
    (try dsimp only at h ⊢)
    split at h
    · rename_i hc
      rw [if_pos hc]
      exact h4 g A F' H' σ ρ _ x.w (er.up x.fup) h
    · rename_i hc
      rw [if_neg hc]
      exact PostG.here x.w h (by simp [Rep])
  | _ => exact h.elim
theorem ed_or {a b : Expr} {rest : List Expr} {ea eb : Ev} {pos : Pos} (ha : PEd C X E a ea) (hb : PEd C X E (.BoolOp .Or (b :: rest) pos) eb) : PEd C X E (.BoolOp .Or (a :: b :: rest) pos) (vOr ea eb) := by
  obtain ⟨t, h1, h2⟩ := ha
  obtain ⟨u, h3, h4⟩ := hb
  refine ⟨_, pe_or h1 h3, fun g A F H σ ρ Q w er h => ?_⟩
  refine h2 g A F H σ ρ _ w er (PostG.bind h fun d v F' H' x r1 h => ?_)
  cases d with
  | bl c =>
    simp only [Rep] at r1
    refine ⟨c, r1, ?_⟩
    (try dsimp only at h ⊢)
    split at h
    · rename_i hc
      rw [if_pos hc]
      exact PostG.here x.w h (by simp [Rep])
    · rename_i hc
      rw [if_neg hc]
      exact h4 g A F' H' σ ρ _ x.w (er.up x.fup) h
  | _ => exact h.elim
theorem ed_not {a : Expr} {ea : Ev} {pos : Pos} (ha : PEd C X E a ea) : PEd C X E (.UnaryOp .Not a pos) (vNot ea) := by
  obtain ⟨t, h1, h2⟩ := ha
  refine ⟨_, pe_not h1, fun g A F H σ ρ Q w er h => ?_⟩
  refine h2 g A F H σ ρ _ w er (PostG.bind h fun d v F' H' x r1 h => ?_)
  cases d with
  | bl c =>
    simp only [Rep] at r1
    exact ⟨c, r1, PostG.here x.w h (by simp [Rep])⟩
  | _ => exact h.elim
end
end FK
set_option Elab.async false
set_option linter.all false
set_option maxRecDepth 100000
/-! The data layer's operators, subscripts, fields, built-ins. -/
namespace FK
open PySem PySem.Spec PyProof.Rows L2

/-! ### operators by values, joined -/
def r2or (r r' : R2) : R2 := fun x y H Q => r x y H Q ∨ r' x y H Q
theorem opR_or {X : Cx} {f : Value → Value → Sem Value} {r r' : R2} (h : OpR X f r) (h' : OpR X f r') : OpR X f (r2or r r') := by
  intro pins s σ H x y v u Q I rx ry q
  rcases q with q | q
  · exact h pins s σ H x y v u Q I rx ry q
  · exact h' pins s σ H x y v u Q I rx ry q
abbrev rAddS : R2 := fun x y H Q => ∃ i j, x = .str i ∧ y = .str j ∧ i.length + j.length ≤ sizeLine ∧ Q (.str (i ++ j)) H
def addD : D → D → HostSt → Res D
  | .int i, .int j, _ => .ok (.int (i + j))
  | .str x, .str y, _ => if x.length + y.length ≤ 100000 then .ok (.str (x ++ y)) else .bad
  | .tup a, .tup b, _ => if a.length + b.length ≤ 1000 then .ok (.tup (a ++ b)) else .bad
  | .lst a, .lst b, _ => if a.length + b.length ≤ 1000 then .ok (.lst (a ++ b)) else .bad
  | _, _, _ => .bad
def subD : D → D → HostSt → Res D
  | .int i, .int j, _ => .ok (.int (i - j))
  | _, _, _ => .bad
def fdivD : D → D → HostSt → Res D
  | .int i, .int j, _ => if j ≠ 0 ∧ j.natAbs < 1073741824 then .ok (.int (i.fdiv j)) else .bad
  | _, _, _ => .bad
def modD : D → D → HostSt → Res D
  | .int i, .int j, _ => if j ≠ 0 then .ok (.int (i.fmod j)) else .bad
  | _, _, _ => .bad
def ltD : D → D → HostSt → Res D
  | .int i, .int j, _ => .ok (.bl (decide (i < j)))
  | _, _, _ => .bad
def leD : D → D → HostSt → Res D
  | .int i, .int j, _ => .ok (.bl (decide (i ≤ j)))
  | _, _, _ => .bad
def gtD : D → D → HostSt → Res D
  | .int i, .int j, _ => .ok (.bl (decide (j < i)))
  | _, _, _ => .bad
def geD : D → D → HostSt → Res D
  | .int i, .int j, _ => .ok (.bl (decide (j ≤ i)))
  | _, _, _ => .bad
def D.isNon : D → Bool
  | .non => true
  | _ => false
def isND : D → D → HostSt → Res D
  | x, .non, _ => .ok (.bl x.isNon)
  | _, _, _ => .bad
def notND : D → D → HostSt → Res D
  | x, .non, _ => .ok (.bl (!x.isNon))
  | _, _, _ => .bad
/-- the datum as Python data -/
def hadPy (l : List (Int × Int)) : PyData := .list (l.map fun p => .tuple [.int p.1, .int p.2])
mutual
def toPy (A : HostSt) : D → Option PyData
  | .non => some .none
  | .bl b => some (.bool b)
  | .int i => some (.int i)
  | .str x => some (.str x)
  | .tup ds => (toPys A ds).map PyData.tuple
  | .lst ds => (toPys A ds).map PyData.list
  | .opened => some (.list (A.opened.map PyData.int))
  | .reads => some (hadPy A.had)
  | _ => none
def toPys (A : HostSt) : List D → Option (List PyData)
  | [] => some []
  | d :: ds => (toPy A d).bind fun x => (toPys A ds).map fun r => x :: r
end
def eqD (x y : D) (A : HostSt) : Res D :=
  match toPy A x, toPy A y with
  | some d, some e => if SeqAt.shaped d = true ∧ SeqAt.shaped e = true then .ok (.bl (PyData.eqv d e)) else .bad
  | _, _ => .bad
def neD (x y : D) (A : HostSt) : Res D :=
  match toPy A x, toPy A y with
  | some d, some e => if SeqAt.shaped d = true ∧ SeqAt.shaped e = true then .ok (.bl (!PyData.eqv d e)) else .bad
  | _, _ => .bad
/-- x in y, y a list -/
def inLD (x y : D) (A : HostSt) : Res D :=
  match toPy A x, toPy A y with
  | some d, some (.list es) => if SeqAt.shaped d = true ∧ SeqAt.shaped (.list es) = true then .ok (.bl (es.any fun z => PyData.eqv z d)) else .bad
  | _, _ => .bad
def ninLD (x y : D) (A : HostSt) : Res D :=
  match toPy A x, toPy A y with
  | some d, some (.list es) => if SeqAt.shaped d = true ∧ SeqAt.shaped (.list es) = true then .ok (.bl (!es.any fun z => PyData.eqv z d)) else .bad
  | _, _ => .bad
/-- x in y, y a tuple of texts -/
def strsOf : List D → Option (List Str)
  | [] => some []
  | .str x :: r => (strsOf r).map fun l => x :: l
  | _ :: _ => none
def inTD : D → D → HostSt → Res D
  | .str x, .tup ds, _ => match strsOf ds with
    | some l => .ok (.bl (l.any fun y => y == x))
    | none => .bad
  | _, _, _ => .bad

section
variable {C : Cs} {g : Gh} {A : HostSt} {F H : Hp}
theorem here2 {d : D} {v : V} {Q : VK} {E : XK} (w : Wd C g A F H) (h : PostE C g A F H (.ok d) Q E) (r : Rep C g F d v) : Q v H := PostG.here w h r
theorem snd_add : Snd2 C (r2or (rI0 fun i j => .int (i + j)) (r2or rAddS (r2or (rCatA C.K) rCat))) addD := by
  intro g A F H x y dx dy Q E w rx ry h
  unfold addD at h
  split at h
  · simp only [Rep] at rx ry
    exact .inl ⟨_, _, rx, ry, PostG.here w h (by simp [Rep])⟩
  · split at h
    · rename_i hl
      simp only [Rep] at rx ry
      exact .inr (.inl ⟨_, _, rx, ry, Nat.le_trans hl (by decide), PostG.here w h (by simp [Rep])⟩)
    · exact h.elim
  · split at h
    · rename_i a b _ hl
      simp only [Rep] at rx ry
      obtain ⟨p, vs, rfl, h1, h2⟩ := rx
      obtain ⟨q, us, rfl, h3, h4⟩ := ry
      have hl' : vs.length + us.length ≤ 1000 := by rw [h2.length, h4.length]; exact hl
      refine .inr (.inr (.inl ⟨p, q, vs, us, rfl, rfl, sqT_up w.sub h1, sqT_up w.sub h3, small_line hl', fun e => ?_, fun _ e => ?_, fun _ _ r hr => ?_⟩))
      · refine PostG.here w h ?_
        simp only [Rep]
        exact ⟨q, vs ++ us, rfl, by rw [e]; exact h3, h2.append h4⟩
      · refine PostG.here w h ?_
        simp only [Rep]
        exact ⟨p, vs ++ us, rfl, by rw [e, List.append_nil]; exact h1, h2.append h4⟩
      · have x := Ext.frz w hr (o := .tup (vs ++ us)) (by intro ps q; cases q)
        refine h _ _ _ x ?_
        simp only [Rep]
        exact ⟨r, vs ++ us, rfl, .inl (.inl upd_same), (h2.append h4).up x.fup⟩
    · exact h.elim
  · split at h
    · rename_i a b _ hl
      simp only [Rep] at rx ry
      obtain ⟨p, vs, rfl, h1, h2⟩ := rx
      obtain ⟨q, us, rfl, h3, h4⟩ := ry
      have hl' : vs.length + us.length ≤ 1000 := by rw [h2.length, h4.length]; exact hl
      refine .inr (.inr (.inr ⟨p, q, vs, us, rfl, rfl, w.sub _ _ h1, w.sub _ _ h3, small_line hl', fun r hr => ?_⟩))
      have x := Ext.frz w hr (o := .lst (vs ++ us)) (by intro ps q; cases q)
      refine h _ _ _ x ?_
      simp only [Rep]
      exact ⟨r, vs ++ us, rfl, upd_same, (h2.append h4).up x.fup⟩
    · exact h.elim
  · exact h.elim
theorem snd_sub : Snd2 C (rI0 fun i j => .int (i - j)) subD := by
  intro g A F H x y dx dy Q E w rx ry h
  unfold subD at h
  split at h
  · simp only [Rep] at rx ry
    exact ⟨_, _, rx, ry, PostG.here w h (by simp [Rep])⟩
  · exact h.elim
theorem snd_fdiv : Snd2 C (rI CDivN fun i j => .int (i.fdiv j)) fdivD := by
  intro g A F H x y dx dy Q E w rx ry h
  unfold fdivD at h
  split at h
  · split at h
    · rename_i hc
      simp only [Rep] at rx ry
      exact ⟨_, _, rx, ry, hc, PostG.here w h (by simp [Rep])⟩
    · exact h.elim
  · exact h.elim
theorem snd_mod : Snd2 C (rI (fun _ j => j ≠ 0) fun i j => .int (i.fmod j)) modD := by
  intro g A F H x y dx dy Q E w rx ry h
  unfold modD at h
  split at h
  · split at h
    · rename_i hc
      simp only [Rep] at rx ry
      exact ⟨_, _, rx, ry, hc, PostG.here w h (by simp [Rep])⟩
    · exact h.elim
  · exact h.elim
theorem snd_lt : Snd2 C (rI0 fun i j => .bl (decide (i < j))) ltD := by
  intro g A F H x y dx dy Q E w rx ry h
  unfold ltD at h
  split at h
  · simp only [Rep] at rx ry
    exact ⟨_, _, rx, ry, PostG.here w h (by simp [Rep])⟩
  · exact h.elim
theorem snd_le : Snd2 C (rI0 fun i j => .bl (decide (i ≤ j))) leD := by
  intro g A F H x y dx dy Q E w rx ry h
  unfold leD at h
  split at h
  · simp only [Rep] at rx ry
    exact ⟨_, _, rx, ry, PostG.here w h (by simp [Rep])⟩
  · exact h.elim
theorem snd_gt : Snd2 C (rI0 fun i j => .bl (decide (j < i))) gtD := by
  intro g A F H x y dx dy Q E w rx ry h
  unfold gtD at h
  split at h
  · simp only [Rep] at rx ry
    exact ⟨_, _, rx, ry, PostG.here w h (by simp [Rep])⟩
  · exact h.elim
theorem snd_ge : Snd2 C (rI0 fun i j => .bl (decide (j ≤ i))) geD := by
  intro g A F H x y dx dy Q E w rx ry h
  unfold geD at h
  split at h
  · simp only [Rep] at rx ry
    exact ⟨_, _, rx, ry, PostG.here w h (by simp [Rep])⟩
  · exact h.elim
theorem rep_non {d : D} {v : V} (r : Rep C g F d v) : decide (v = .non) = d.isNon := by
  cases d with
  | non => simp only [Rep] at r; subst r; rfl
  | bl b => simp only [Rep] at r; subst r; rfl
  | int b => simp only [Rep] at r; subst r; rfl
  | str b => simp only [Rep] at r; subst r; rfl
  | tup b => simp only [Rep] at r; obtain ⟨a, vs, rfl, _⟩ := r; rfl
  | lst b => simp only [Rep] at r; obtain ⟨a, vs, rfl, _⟩ := r; rfl
  | rule b => simp only [Rep] at r; obtain ⟨a, rfl, _⟩ := r; rfl
  | host => simp only [Rep] at r; subst r; rfl
  | opened => simp only [Rep] at r; subst r; rfl
  | reads => simp only [Rep] at r; subst r; rfl
  | node b => simp only [Rep] at r; obtain ⟨a, _, rfl⟩ := r; rfl
theorem snd_isN : Snd2 C (fun x y H Q => y = .non ∧ Q (.bl (decide (x = .non))) H) isND := by
  intro g A F H x y dx dy Q E w rx ry h
  unfold isND at h
  split at h
  · simp only [Rep] at ry
    exact ⟨ry, PostG.here w h (by simp [Rep, rep_non rx])⟩
  · exact h.elim
theorem snd_notN : Snd2 C (fun x y H Q => y = .non ∧ Q (.bl (!decide (x = .non))) H) notND := by
  intro g A F H x y dx dy Q E w rx ry h
  unfold notND at h
  split at h
  · simp only [Rep] at ry
    exact ⟨ry, PostG.here w h (by simp [Rep, rep_non rx])⟩
  · exact h.elim
theorem dp_ints (K : PySem.W.Frag) : ∀ l : List Int, DpAll K H (l.map V.int) (l.map PyData.int)
  | [] => .nil
  | i :: r => .cons (.int i) (dp_ints K r)
mutual
theorem rep_dp (w : Wd C g A F H) : ∀ {d : D} {v : V} {x : PyData}, Rep C g F d v → toPy A d = some x → Dp C.K H v x
  | .non, v, x, h, e => by simp only [Rep] at h; simp only [toPy, Option.some.injEq] at e; subst h; subst e; exact .non
  | .bl b, v, x, h, e => by simp only [Rep] at h; simp only [toPy, Option.some.injEq] at e; subst h; subst e; exact .bl b
  | .int b, v, x, h, e => by simp only [Rep] at h; simp only [toPy, Option.some.injEq] at e; subst h; subst e; exact .int b
  | .str b, v, x, h, e => by simp only [Rep] at h; simp only [toPy, Option.some.injEq] at e; subst h; subst e; exact .str b
  | .tup ds, v, x, h, e => by
    simp only [Rep] at h
    obtain ⟨a, vs, rfl, h1, h2⟩ := h
    simp only [toPy, Option.map_eq_some_iff] at e
    obtain ⟨xs, e1, rfl⟩ := e
    exact .tup (sqT_up w.sub h1) (reps_dp w h2 e1)
  | .lst ds, v, x, h, e => by
    simp only [Rep] at h
    obtain ⟨a, vs, rfl, h1, h2⟩ := h
    simp only [toPy, Option.map_eq_some_iff] at e
    obtain ⟨xs, e1, rfl⟩ := e
    exact .lst (SqL.of (w.sub _ _ h1)) (reps_dp w h2 e1)
  | .rule r, v, x, h, e => by simp only [toPy] at e; cases e
  | .host, v, x, h, e => by simp only [toPy] at e; cases e
  | .opened, v, x, h, e => by
    simp only [Rep] at h
    simp only [toPy, Option.some.injEq] at e
    subst h
    subst e
    exact .lst (SqL.of w.opened) (dp_ints C.K A.opened)
  | .reads, v, x, h, e => by
    simp only [Rep] at h
    simp only [toPy, Option.some.injEq] at e
    subst h
    subst e
    obtain ⟨vs, h1, h2⟩ := w.had
    refine .lst (SqL.of h1) ?_
    generalize A.had = l at h2
    clear h1
    induction l generalizing vs with
    | nil => simp only [List.map_nil, Reps] at h2; subst h2; exact .nil
    | cons p r ih =>
      simp only [List.map_cons, Reps, encHad, Rep] at h2
      obtain ⟨v, us, rfl, ⟨a, ws, rfl, h3, h4⟩, h5⟩ := h2
      obtain ⟨v1, r1, rfl, rfl, v2, r2, rfl, rfl, rfl⟩ := h4
      exact .cons (.tup (sqT_up w.sub h3) (.cons (.int _) (.cons (.int _) .nil))) (ih _ h5)
  | .node t, v, x, h, e => by simp only [toPy] at e; cases e
theorem reps_dp (w : Wd C g A F H) : ∀ {ds : List D} {vs : List V} {xs : List PyData}, Reps C g F ds vs → toPys A ds = some xs → DpAll C.K H vs xs
  | [], vs, xs, h, e => by simp only [Reps] at h; simp only [toPys, Option.some.injEq] at e; subst h; subst e; exact .nil
  | d :: ds, vs, xs, h, e => by
    simp only [Reps] at h
    obtain ⟨v, r, rfl, h2, h3⟩ := h
    simp only [toPys, Option.bind_eq_some_iff, Option.map_eq_some_iff] at e
    obtain ⟨y, e1, r', e2, rfl⟩ := e
    exact .cons (rep_dp w h2 e1) (reps_dp w h3 e2)
end
theorem snd_eq : Snd2 C (rEqD C.K) eqD := by
  intro g A F H x y dx dy Q E w rx ry h
  unfold eqD at h
  split at h
  · rename_i d e hd he
    split at h
    · rename_i hs
      exact ⟨d, e, rep_dp w rx hd, rep_dp w ry he, hs.1, hs.2, PostG.here w h (by simp [Rep])⟩
    · exact h.elim
  · exact h.elim
theorem snd_ne : Snd2 C (rNeD C.K) neD := by
  intro g A F H x y dx dy Q E w rx ry h
  unfold neD at h
  split at h
  · rename_i d e hd he
    split at h
    · rename_i hs
      exact ⟨d, e, rep_dp w rx hd, rep_dp w ry he, hs.1, hs.2, PostG.here w h (by simp [Rep])⟩
    · exact h.elim
  · exact h.elim
theorem snd_inL : Snd2 C (rInD C.K) inLD := by
  intro g A F H x y dx dy Q E w rx ry h
  unfold inLD at h
  split at h
  · rename_i d e hd he
    split at h
    · rename_i hs
      exact ⟨d, e, rep_dp w rx hd, rep_dp w ry he, hs.1, hs.2, PostG.here w h (by simp [Rep])⟩
    · exact h.elim
  · exact h.elim
theorem snd_ninL : Snd2 C (rNotInD C.K) ninLD := by
  intro g A F H x y dx dy Q E w rx ry h
  unfold ninLD at h
  split at h
  · rename_i d e hd he
    split at h
    · rename_i hs
      exact ⟨d, e, rep_dp w rx hd, rep_dp w ry he, hs.1, hs.2, PostG.here w h (by simp [Rep])⟩
    · exact h.elim
  · exact h.elim
theorem strs_rep : ∀ {ds : List D} {vs : List V} {l : List Str}, Reps C g F ds vs → strsOf ds = some l → vs = l.map V.str
  | [], vs, l, h, e => by simp only [Reps] at h; simp only [strsOf, Option.some.injEq] at e; subst h; subst e; rfl
  | .str x :: r, vs, l, h, e => by
    simp only [Reps, Rep] at h
    obtain ⟨v, us, rfl, rfl, h3⟩ := h
    simp only [strsOf, Option.map_eq_some_iff] at e
    obtain ⟨l', e1, rfl⟩ := e
    rw [strs_rep h3 e1]
    rfl
  | .non :: r, vs, l, h, e => by simp [strsOf] at e
  | .bl _ :: r, vs, l, h, e => by simp [strsOf] at e
  | .int _ :: r, vs, l, h, e => by simp [strsOf] at e
  | .tup _ :: r, vs, l, h, e => by simp [strsOf] at e
  | .lst _ :: r, vs, l, h, e => by simp [strsOf] at e
  | .rule _ :: r, vs, l, h, e => by simp [strsOf] at e
  | .host :: r, vs, l, h, e => by simp [strsOf] at e
  | .opened :: r, vs, l, h, e => by simp [strsOf] at e
  | .reads :: r, vs, l, h, e => by simp [strsOf] at e
  | .node _ :: r, vs, l, h, e => by simp [strsOf] at e
theorem inV_strs (x : Str) (l : List Str) : inV (.str x) (l.map V.str) = l.any fun y => y == x := by
  unfold inV
  rw [List.any_map]
  congr
theorem snd_inT : Snd2 C (rIn C.K false) inTD := by
  intro g A F H x y dx dy Q E w rx ry h
  unfold inTD at h
  split at h
  · split at h
    · rename_i l hl
      simp only [Rep] at rx ry
      obtain ⟨a, vs, rfl, h1, h2⟩ := ry
      have e := strs_rep h2 hl
      subst rx
      subst e
      refine ⟨a, _, rfl, .inr (sqT_up w.sub h1), rfl, ?_, ?_⟩
      · rw [List.all_map, List.all_eq_true]
        intro _ _
        rfl
      · refine PostG.here w h ?_
        simp only [Rep, Bool.false_eq_true, if_false, inV_strs]
    · exact h.elim
  · exact h.elim
end

section
variable {C : Cs} {X : Cx} {E : XK} {a b : Expr} {ea eb : Ev} {pos : Pos}
theorem ed_add (ha : PEd C X E a ea) (hb : PEd C X E b eb) (hK : X.K = C.K := by rfl) : PEd C X E (.BinOp a .Add b pos) (vBin addD ea eb) :=
  ed_bin (opR_or op_add (opR_or op_add_str (opR_or op_catA op_cat))) (by rw [hK]; exact snd_add) ha hb
theorem ed_sub (ha : PEd C X E a ea) (hb : PEd C X E b eb) : PEd C X E (.BinOp a .Sub b pos) (vBin subD ea eb) := ed_bin op_sub snd_sub ha hb
theorem ed_fdiv (ha : PEd C X E a ea) (hb : PEd C X E b eb) : PEd C X E (.BinOp a .FloorDiv b pos) (vBin fdivD ea eb) := ed_bin op_fdivN snd_fdiv ha hb
theorem ed_mod (ha : PEd C X E a ea) (hb : PEd C X E b eb) : PEd C X E (.BinOp a .Mod b pos) (vBin modD ea eb) := ed_bin op_modN snd_mod ha hb
/-- room for deep comparisons -/
abbrev Deep (X : Cx) : Prop := X.A.units + 65 < cLine
theorem Deep.lt {X : Cx} (h : Deep X) : X.A.units + 64 < cLine := Nat.lt_of_succ_lt h
theorem ed_lt (ha : PEd C X E a ea) (hb : PEd C X E b eb) : PEd C X E (.Compare a [.Lt] [b] pos) (vBin ltD ea eb) := ed_cmp op_lt snd_lt ha hb (nomark _)
theorem ed_le (ha : PEd C X E a ea) (hb : PEd C X E b eb) : PEd C X E (.Compare a [.LtE] [b] pos) (vBin leD ea eb) := ed_cmp op_le snd_le ha hb (nomark _)
theorem ed_gt (ha : PEd C X E a ea) (hb : PEd C X E b eb) : PEd C X E (.Compare a [.Gt] [b] pos) (vBin gtD ea eb) := ed_cmp op_gt snd_gt ha hb (nomark _)
theorem ed_ge (ha : PEd C X E a ea) (hb : PEd C X E b eb) : PEd C X E (.Compare a [.GtE] [b] pos) (vBin geD ea eb) := ed_cmp op_ge snd_ge ha hb (nomark _)
theorem ed_isN (ha : PEd C X E a ea) (hb : PEd C X E b eb) : PEd C X E (.Compare a [.Is] [b] pos) (vBin isND ea eb) := ed_cmp op_isN snd_isN ha hb (nomark _)
theorem ed_notN (ha : PEd C X E a ea) (hb : PEd C X E b eb) : PEd C X E (.Compare a [.IsNot] [b] pos) (vBin notND ea eb) := ed_cmp op_notN snd_notN ha hb (nomark _)
theorem ed_eq (hu : Deep X) (ha : PEd C X E a ea) (hb : PEd C X E b eb) (hK : X.K = C.K := by rfl) : PEd C X E (.Compare a [.Eq] [b] pos) (vBin eqD ea eb) := ed_cmp (op_eqD hu.lt) (by rw [hK]; exact snd_eq) ha hb (nomark _)
theorem ed_ne (hu : Deep X) (ha : PEd C X E a ea) (hb : PEd C X E b eb) (hK : X.K = C.K := by rfl) : PEd C X E (.Compare a [.NotEq] [b] pos) (vBin neD ea eb) := ed_cmp (op_neD hu.lt) (by rw [hK]; exact snd_ne) ha hb (nomark _)
theorem ed_inL (hu : Deep X) (ha : PEd C X E a ea) (hb : PEd C X E b eb) (hK : X.K = C.K := by rfl) (hm : behindInMarks .In b = false := by rfl) : PEd C X E (.Compare a [.In] [b] pos) (vBin inLD ea eb) := ed_cmp (op_inD hu) (by rw [hK]; exact snd_inL) ha hb hm
theorem ed_ninL (hu : Deep X) (ha : PEd C X E a ea) (hb : PEd C X E b eb) (hK : X.K = C.K := by rfl) (hm : behindInMarks .NotIn b = false := by rfl) : PEd C X E (.Compare a [.NotIn] [b] pos) (vBin ninLD ea eb) := ed_cmp (op_notInD hu) (by rw [hK]; exact snd_ninL) ha hb hm
theorem ed_inT (ha : PEd C X E a ea) (hb : PEd C X E b eb) (hK : X.K = C.K := by rfl) (hm : behindInMarks .In b = false := by rfl) : PEd C X E (.Compare a [.In] [b] pos) (vBin inTD ea eb) := ed_cmp op_in_seq (by rw [hK]; exact snd_inT) ha hb hm
theorem td_lt (ha : PEd C X E a ea) (hb : PEd C X E b eb) : PTd C X E (.Compare a [.Lt] [b] pos) (tOfV (vBin ltD ea eb)) := td_cmp op_lt snd_lt ha hb (nomark _)
theorem td_le (ha : PEd C X E a ea) (hb : PEd C X E b eb) : PTd C X E (.Compare a [.LtE] [b] pos) (tOfV (vBin leD ea eb)) := td_cmp op_le snd_le ha hb (nomark _)
theorem td_gt (ha : PEd C X E a ea) (hb : PEd C X E b eb) : PTd C X E (.Compare a [.Gt] [b] pos) (tOfV (vBin gtD ea eb)) := td_cmp op_gt snd_gt ha hb (nomark _)
theorem td_ge (ha : PEd C X E a ea) (hb : PEd C X E b eb) : PTd C X E (.Compare a [.GtE] [b] pos) (tOfV (vBin geD ea eb)) := td_cmp op_ge snd_ge ha hb (nomark _)
theorem td_isN (ha : PEd C X E a ea) (hb : PEd C X E b eb) : PTd C X E (.Compare a [.Is] [b] pos) (tOfV (vBin isND ea eb)) := td_cmp op_isN snd_isN ha hb (nomark _)
theorem td_notN (ha : PEd C X E a ea) (hb : PEd C X E b eb) : PTd C X E (.Compare a [.IsNot] [b] pos) (tOfV (vBin notND ea eb)) := td_cmp op_notN snd_notN ha hb (nomark _)
theorem td_eq (hu : Deep X) (ha : PEd C X E a ea) (hb : PEd C X E b eb) (hK : X.K = C.K := by rfl) : PTd C X E (.Compare a [.Eq] [b] pos) (tOfV (vBin eqD ea eb)) := td_cmp (op_eqD hu.lt) (by rw [hK]; exact snd_eq) ha hb (nomark _)
theorem td_ne (hu : Deep X) (ha : PEd C X E a ea) (hb : PEd C X E b eb) (hK : X.K = C.K := by rfl) : PTd C X E (.Compare a [.NotEq] [b] pos) (tOfV (vBin neD ea eb)) := td_cmp (op_neD hu.lt) (by rw [hK]; exact snd_ne) ha hb (nomark _)
theorem td_inL (hu : Deep X) (ha : PEd C X E a ea) (hb : PEd C X E b eb) (hK : X.K = C.K := by rfl) (hm : behindInMarks .In b = false := by rfl) : PTd C X E (.Compare a [.In] [b] pos) (tOfV (vBin inLD ea eb)) := td_cmp (op_inD hu) (by rw [hK]; exact snd_inL) ha hb hm
theorem td_ninL (hu : Deep X) (ha : PEd C X E a ea) (hb : PEd C X E b eb) (hK : X.K = C.K := by rfl) (hm : behindInMarks .NotIn b = false := by rfl) : PTd C X E (.Compare a [.NotIn] [b] pos) (tOfV (vBin ninLD ea eb)) := td_cmp (op_notInD hu) (by rw [hK]; exact snd_ninL) ha hb hm
theorem td_inT (ha : PEd C X E a ea) (hb : PEd C X E b eb) (hK : X.K = C.K := by rfl) (hm : behindInMarks .In b = false := by rfl) : PTd C X E (.Compare a [.In] [b] pos) (tOfV (vBin inTD ea eb)) := td_cmp op_in_seq (by rw [hK]; exact snd_inT) ha hb hm
end
end FK
set_option Elab.async false
set_option linter.all false
set_option maxRecDepth 100000
/-! The data layer: fields, subscripts, slices, built-ins. -/
namespace FK
open PySem PySem.Spec PyProof.Rows L2

def ruleNames : List Str := ["alike", "unfit", "longest", "swaps", "reads", "cuts", "turns"]
def nodeNames : List Str := ["area", "path", "thing", "kind", "text", "runs", "count", "cuts", "staged"]
def hostNames : List Str := ["rule", "nodes", "opened", "had_read", "next_thing", "turned"]
structure Txt (C : Cs) (mg : Str → Option Value) : Prop where
  clR : Cls C.K C.CR
  clN : Cls C.K C.CN
  clH : Cls C.K C.CH
  nR : ∀ f ∈ ruleNames, NoAttr C.K C.CR f
  nN : ∀ f ∈ nodeNames, NoAttr C.K C.CN f
  nH : ∀ f ∈ hostNames, NoAttr C.K C.CH f
  len : mg "len" = none
  isi : mg "isinstance" = none
  int : mg "int" = none
  str : mg "str" = none
  ord : mg "ord" = none
  range : mg "range" = none
  sorted : mg "sorted" = none

/-! ### fields -/
def HostSt.row (A : HostSt) (t : Int) : Option Row := A.rows.find? fun r => decide (r.thing = t)
def fdN (sel : Row → D) : D → HostSt → Res D
  | .node t, A => match A.row t with
    | some r => .ok (sel r)
    | none => .bad
  | _, _ => .bad
def fdH (sel : HostSt → D) : D → HostSt → Res D
  | .host, A => .ok (sel A)
  | _, _ => .bad
def fdR (sel : RuleD → D) : D → HostSt → Res D
  | .rule r, _ => .ok (sel r)
  | _, _ => .bad
def pathD (p : List Str) : D := .tup (p.map .str)
def fdCuts : D → HostSt → Res D
  | .node t, A => match A.row t with
    | some r => .ok (.int r.cuts)
    | none => .bad
  | .rule r, _ => .ok (.bl r.cuts)
  | _, _ => .bad
section
variable {C : Cs} {mg : Str → Option Value} {g : Gh} {A : HostSt} {F H : Hp}
theorem reps_strs : ∀ p : List Str, Reps C g F (p.map D.str) (p.map V.str)
  | [] => .nil
  | x :: r => .cons (by simp [Rep]) (reps_strs r)
theorem RowsAt.find {t : Int} {r : Row} : ∀ {rs : List Row} {vs : List V}, RowsAt C g F H rs vs → rs.find? (fun r => decide (r.thing = t)) = some r → ∃ a, g.ad t = some a ∧ F a = none ∧ NodeAt C F H a r
  | [], vs, h, e => by simp at e
  | r' :: rs, vs, h, e => by
    obtain ⟨a, vr, h1, h2, h3, h4, h5⟩ := h
    rw [List.find?_cons] at e
    split at e
    · rename_i q
      cases e
      have q' := of_decide_eq_true q
      exact ⟨a, by rw [← q']; exact h2, h3, h4⟩
    · exact RowsAt.find h5 e
/-- the field f is read as fd -/
def FldOk (C : Cs) (f : Str) (fd : D → HostSt → Res D) : Prop :=
  ∀ g A F H v d (Q : VK) (E : XK), Wd C g A F H → Rep C g F d v → PostE C g A F H (fd d A) Q E → ∃ a Cl dx fs u, v = .ref a ∧ H a = some (.ins Cl dx fs) ∧ Cls C.K Cl ∧ NoAttr C.K Cl f ∧ fs.lookup f = some u ∧ Q u H
theorem fld_n (T : Txt C mg) {f : Str} {sel : Row → D} (hf : f ∈ nodeNames) (h : ∀ (g : Gh) (F : Hp) (pa : Addr) (r : Row), SqT C.K F pa (r.path.map .str) → ∃ u, (nodeF pa r).lookup f = some u ∧ Rep C g F (sel r) u) : FldOk C f (fdN sel) := by
  intro g A F H v d Q E w rv hp
  unfold fdN at hp
  split at hp
  · split at hp
    · rename_i t A' r e
      obtain ⟨vs, _, hr⟩ := w.nodes
      obtain ⟨a, h1, _, dx, pa, h3, h4⟩ := hr.find e
      simp only [Rep] at rv
      obtain ⟨a', h5, rfl⟩ := rv
      rw [h1] at h5
      cases h5
      obtain ⟨u, l, ru⟩ := h g F pa r h4
      exact ⟨_, _, _, _, u, rfl, h3, T.clN, T.nN f hf, l, PostG.here w hp ru⟩
    · exact hp.elim
  · exact hp.elim
theorem fld_h (T : Txt C mg) {f : Str} {sel : HostSt → D} (hf : f ∈ hostNames) (h : ∀ (g : Gh) (F : Hp) (A : HostSt) (ra : Addr), RuleAt C F ra A.rule → ∃ u, (hostF ra g A).lookup f = some u ∧ Rep C g F (sel A) u) : FldOk C f (fdH sel) := by
  intro g A F H v d Q E w rv hp
  unfold fdH at hp
  split at hp
  · simp only [Rep] at rv
    obtain ⟨ra, h1, h2⟩ := w.host
    obtain ⟨u, l, ru⟩ := h g F A ra h2
    exact ⟨_, _, _, _, u, rv, h1, T.clH, T.nH f hf, l, PostG.here w hp ru⟩
  · exact hp.elim
theorem fld_r (T : Txt C mg) {f : Str} {sel : RuleD → D} (hf : f ∈ ruleNames) (h : ∀ (g : Gh) (F : Hp) (r : RuleD) (p1 p2 : Addr), SqT C.K F p1 (r.alike.map .str) → SqT C.K F p2 (r.unfit.map .str) → ∃ u, (ruleF p1 p2 r).lookup f = some u ∧ Rep C g F (sel r) u) : FldOk C f (fdR sel) := by
  intro g A F H v d Q E w rv hp
  unfold fdR at hp
  split at hp
  · simp only [Rep] at rv
    obtain ⟨a, rfl, dx, p1, p2, h1, h2, h3⟩ := rv
    obtain ⟨u, l, ru⟩ := h g F _ p1 p2 h2 h3
    exact ⟨_, _, _, _, u, rfl, w.sub _ _ h1, T.clR, T.nR f hf, l, PostG.here w hp ru⟩
  · exact hp.elim
theorem fld_area (T : Txt C mg) : FldOk C "area" (fdN fun r => areaD r.area) := fld_n T (by decide +kernel) fun g F pa r h => ⟨areaV r.area, rfl, by cases r.area <;> simp [Rep, areaD, areaV]⟩
theorem fld_path (T : Txt C mg) : FldOk C "path" (fdN fun r => pathD r.path) := fld_n T (by decide +kernel) fun g F pa r h => ⟨.ref pa, rfl, by simp only [Rep, pathD]; exact ⟨pa, _, rfl, h, reps_strs _⟩⟩
theorem fld_thing (T : Txt C mg) : FldOk C "thing" (fdN fun r => .int r.thing) := fld_n T (by decide +kernel) fun g F pa r h => ⟨.int r.thing, rfl, by simp [Rep]⟩
theorem fld_kind (T : Txt C mg) : FldOk C "kind" (fdN fun r => .str r.kind) := fld_n T (by decide +kernel) fun g F pa r h => ⟨.str r.kind, rfl, by simp [Rep]⟩
theorem fld_text (T : Txt C mg) : FldOk C "text" (fdN fun r => .str r.text) := fld_n T (by decide +kernel) fun g F pa r h => ⟨.str r.text, rfl, by simp [Rep]⟩
theorem fld_runs (T : Txt C mg) : FldOk C "runs" (fdN fun r => .bl r.runs) := fld_n T (by decide +kernel) fun g F pa r h => ⟨.bl r.runs, rfl, by simp [Rep]⟩
theorem fld_count (T : Txt C mg) : FldOk C "count" (fdN fun r => .int r.count) := fld_n T (by decide +kernel) fun g F pa r h => ⟨.int r.count, rfl, by simp [Rep]⟩
theorem fld_staged (T : Txt C mg) : FldOk C "staged" (fdN fun r => .bl r.staged) := fld_n T (by decide +kernel) fun g F pa r h => ⟨.bl r.staged, rfl, by simp [Rep]⟩
theorem fld_cuts (T : Txt C mg) : FldOk C "cuts" fdCuts := by
  intro g A F H v d Q E w rv hp
  cases d with
  | node t => exact fld_n T (sel := fun r => .int r.cuts) (by decide +kernel) (fun g F pa r h => ⟨.int r.cuts, rfl, by simp [Rep]⟩) g A F H v _ Q E w rv hp
  | rule r => exact fld_r T (sel := fun r => .bl r.cuts) (by decide +kernel) (fun g F r p1 p2 h1 h2 => ⟨.bl r.cuts, rfl, by simp [Rep]⟩) g A F H v _ Q E w rv hp
  | _ => exact hp.elim
theorem fld_rule (T : Txt C mg) : FldOk C "rule" (fdH fun A => .rule A.rule) := fld_h T (by decide +kernel) fun g F A ra h => ⟨.ref ra, rfl, by simp only [Rep]; exact ⟨ra, rfl, h⟩⟩
theorem fld_opened (T : Txt C mg) : FldOk C "opened" (fdH fun _ => .opened) := fld_h T (by decide +kernel) fun g F A ra h => ⟨.ref g.lo, rfl, by simp [Rep]⟩
theorem fld_had (T : Txt C mg) : FldOk C "had_read" (fdH fun _ => .reads) := fld_h T (by decide +kernel) fun g F A ra h => ⟨.ref g.lh, rfl, by simp [Rep]⟩
theorem fld_next (T : Txt C mg) : FldOk C "next_thing" (fdH fun A => .int A.next) := fld_h T (by decide +kernel) fun g F A ra h => ⟨.int A.next, rfl, by simp [Rep]⟩
theorem fld_turned (T : Txt C mg) : FldOk C "turned" (fdH fun A => .int A.turned) := fld_h T (by decide +kernel) fun g F A ra h => ⟨.int A.turned, rfl, by simp [Rep]⟩
theorem fld_alike (T : Txt C mg) : FldOk C "alike" (fdR fun r => pathD r.alike) := fld_r T (by decide +kernel) fun g F r p1 p2 h1 h2 => ⟨.ref p1, rfl, by simp only [Rep, pathD]; exact ⟨p1, _, rfl, h1, reps_strs _⟩⟩
theorem fld_unfit (T : Txt C mg) : FldOk C "unfit" (fdR fun r => pathD r.unfit) := fld_r T (by decide +kernel) fun g F r p1 p2 h1 h2 => ⟨.ref p2, rfl, by simp only [Rep, pathD]; exact ⟨p2, _, rfl, h2, reps_strs _⟩⟩
theorem fld_longest (T : Txt C mg) : FldOk C "longest" (fdR fun r => .int r.longest) := fld_r T (by decide +kernel) fun g F r p1 p2 h1 h2 => ⟨.int r.longest, rfl, by simp [Rep]⟩
theorem fld_swaps (T : Txt C mg) : FldOk C "swaps" (fdR fun r => .bl r.swaps) := fld_r T (by decide +kernel) fun g F r p1 p2 h1 h2 => ⟨.bl r.swaps, rfl, by simp [Rep]⟩
theorem fld_reads (T : Txt C mg) : FldOk C "reads" (fdR fun r => .bl r.reads) := fld_r T (by decide +kernel) fun g F r p1 p2 h1 h2 => ⟨.bl r.reads, rfl, by simp [Rep]⟩
theorem fld_turns (T : Txt C mg) : FldOk C "turns" (fdR fun r => .bl r.turns) := fld_r T (by decide +kernel) fun g F r p1 p2 h1 h2 => ⟨.bl r.turns, rfl, by simp [Rep]⟩
end

/-! ### subscripts -/
def lineN : Nat := 100000
def ixD (x i : D) (A : HostSt) : Res D :=
  match x, i with
  | .tup ds, .int i => match atI ds i with
    | some d => .ok d
    | none => .bad
  | .lst ds, .int i => match atI ds i with
    | some d => .ok d
    | none => .bad
  | .str z, .int i => if z.length ≤ lineN then (match atI z.cps.toList i with
    | some c => .ok (.str ⟨#[c]⟩)
    | none => .bad) else .bad
  | .opened, .int i => match atI A.opened i with
    | some d => .ok (.int d)
    | none => .bad
  | _, _ => .bad
def cutL {α : Type} (xs : List α) (lo hi : Option Int) : List α := (xs.drop (HT.sIx xs.length 0 lo)).take (HT.sIx xs.length xs.length hi - HT.sIx xs.length 0 lo)
def slD (lo hi : Option Int) : D → Res D
  | .tup ds => .ok (.tup (cutL ds lo hi))
  | .lst ds => .ok (.lst (cutL ds lo hi))
  | .str z => if z.length ≤ lineN then .ok (.str (cutS z lo hi)) else .bad
  | _ => .bad
def vSl (e : Ev) (lo hi : Env → HostSt → Res (Option Int)) : Ev := fun ρ A => (e ρ A).bind fun x => (lo ρ A).bind fun l => (hi ρ A).bind fun h => slD l h x
def oNone : Env → HostSt → Res (Option Int) := fun _ _ => .ok none
def oSome (e : Ev) : Env → HostSt → Res (Option Int) := fun ρ A => (e ρ A).bind fun x => match x with
  | .int i => .ok (some i)
  | _ => .bad
section
variable {C : Cs} {g : Gh} {A : HostSt} {F H : Hp}
theorem atI_rep {ds : List D} {vs : List V} {i : Int} {d : D} (r : Reps C g F ds vs) (e : atI ds i = some d) : ∃ v, atI vs i = some v ∧ Rep C g F d v := by
  unfold atI at e ⊢
  rw [r.length]
  rw [Option.bind_eq_some_iff] at e
  obtain ⟨j, h1, h2⟩ := e
  obtain ⟨v, h3, h4⟩ := r.get h2
  exact ⟨v, by rw [h1]; exact h3, h4⟩
theorem atI_map {α β : Type} (f : α → β) (l : List α) (i : Int) : atI (l.map f) i = (atI l i).map f := by
  unfold atI
  rw [List.length_map]
  cases ixN l.length i with
  | none => rfl
  | some j => simp
theorem cutL_rep {ds : List D} {vs : List V} {lo hi : Option Int} (r : Reps C g F ds vs) : Reps C g F (cutL ds lo hi) (cutV vs lo hi) := by
  unfold cutL cutV
  rw [r.length]
  exact (r.drop _).take _
theorem cutV_all {vs : List V} {lo hi : Option Int} (h : HT.sIx vs.length 0 lo = 0 ∧ HT.sIx vs.length vs.length hi = vs.length) : cutV vs lo hi = vs := by
  unfold cutV
  rw [h.1, h.2]
  simp
theorem snd_ix : Snd2 C (rIx C.K) ixD := by
  intro g A F H x y dx dy Q E w rx ry h
  unfold ixD at h
  split at h
  · split at h
    · rename_i e
      simp only [Rep] at rx ry
      obtain ⟨a, vs, rfl, h1, h2⟩ := rx
      obtain ⟨v, h3, h4⟩ := atI_rep h2 e
      exact .inr (.inl ⟨_, _, _, _, rfl, ry, sqT_up w.sub h1, h3, PostG.here w h h4⟩)
    · exact h.elim
  · split at h
    · rename_i e
      simp only [Rep] at rx ry
      obtain ⟨a, vs, rfl, h1, h2⟩ := rx
      obtain ⟨v, h3, h4⟩ := atI_rep h2 e
      exact .inl ⟨_, _, _, _, rfl, ry, SqL.of (w.sub _ _ h1), h3, PostG.here w h h4⟩
    · exact h.elim
  · split at h
    · rename_i hl
      split at h
      · rename_i e
        simp only [Rep] at rx ry
        exact .inr (.inr ⟨_, _, _, rx, ry, Nat.le_trans hl (by decide), e, PostG.here w h (by simp [Rep])⟩)
      · exact h.elim
    · exact h.elim
  · split at h
    · rename_i e
      simp only [Rep] at rx ry
      subst rx
      exact .inl ⟨_, _, _, _, rfl, ry, SqL.of w.opened, by rw [atI_map, e]; rfl, PostG.here w h (by simp [Rep])⟩
    · exact h.elim
  · exact h.elim
end
section
variable {C : Cs} {mg : Str → Option Value} {X : Cx} {E : XK} {a b : Expr} {ea eb : Ev} {pos : Pos}
theorem ed_fld {f : Str} {fd : D → HostSt → Res D} (hf : FldOk C f fd) (ha : PEd C X E a ea) (hK : X.K = C.K := by rfl) (hb : attributeBase a f X.env (eval a X.env) = eval a X.env := by rfl) : PEd C X E (.Attribute a f pos) (vUn fd ea) := by
  obtain ⟨t, h1, h2⟩ := ha
  refine ⟨_, pe_fld h1 hb, fun g A F H σ ρ Q w er h => ?_⟩
  refine h2 g A F H σ ρ _ w er (PostG.bind h fun d v F' H' x r h => ?_)
  rw [hK]
  exact hf g A F' H' v d Q E x.w r h
theorem ed_ix (ha : PEd C X E a ea) (hb : PEd C X E b eb) (hK : X.K = C.K := by rfl) (hs : PlainIx b := by exact fun _ _ => rfl) : PEd C X E (.Subscript a b pos) (vBin ixD ea eb) := by
  obtain ⟨t, h1, h2⟩ := ha
  obtain ⟨u, h3, h4⟩ := hb
  refine ⟨_, pe_ix ix_seq h1 h3 hs, fun g A F H σ ρ Q w er h => ?_⟩
  refine h2 g A F H σ ρ _ w er (PostG.bind h fun d v F' H' x r1 h => ?_)
  refine h4 g A F' H' σ ρ _ x.w (er.up x.fup) (PostG.bind h fun d2 v2 F2 H2 x2 r2 h => ?_)
  rw [hK]
  exact snd_ix g A F2 H2 _ _ _ _ Q E x2.w (r1.up x2.fup) r2 h
theorem od_none : POd C X E none oNone := ⟨_, po_none, fun g A F H σ ρ Q w er h => PostG.here w h rfl⟩
theorem od_some (ha : PEd C X E a ea) : POd C X E (some a) (oSome ea) := by
  obtain ⟨t, h1, h2⟩ := ha
  refine ⟨_, po_some h1, fun g A F H σ ρ Q w er h => ?_⟩
  refine h2 g A F H σ ρ _ w er (PostG.bind h fun d v F' H' x r1 h => ?_)
  cases d with
  | int i =>
    simp only [Rep] at r1
    exact ⟨i, r1, PostG.here x.w h rfl⟩
  | _ => exact h.elim
theorem ed_sl {lo hi : Option Expr} {ol oh : Env → HostSt → Res (Option Int)} {p2 : Pos} (ha : PEd C X E a ea) (hl : POd C X E lo ol) (hh : POd C X E hi oh) (hK : X.K = C.K := by rfl) : PEd C X E (.Subscript a (.Slice lo hi none p2) pos) (vSl ea ol oh) := by
  obtain ⟨t, h1, h2⟩ := ha
  obtain ⟨u, h3, h4⟩ := hl
  obtain ⟨u', h5, h6⟩ := hh
  refine ⟨_, pe_slice (SlR.or sl_list (SlR.or sl_tupA sl_str)) h1 h3 h5, fun g A F H σ ρ Q w er h => ?_⟩
  refine h2 g A F H σ ρ _ w er (PostG.bind h fun d v F' H' x r1 h => ?_)
  refine h4 g A F' H' σ ρ _ x.w (er.up x.fup) (PostG.bind h fun l l' F2 H2 x2 r2 h => ?_)
  subst r2
  refine h6 g A F2 H2 σ ρ _ x2.w ((er.up x.fup).up x2.fup) (PostG.bind h fun l2 l2' F3 H3 x3 r3 h => ?_)
  subst r3
  have r1' := (r1.up x2.fup).up x3.fup
  unfold slD at h
  split at h
  · simp only [Rep] at r1'
    obtain ⟨p, vs, rfl, q1, q2⟩ := r1'
    refine .inr (.inl ⟨p, vs, rfl, by rw [hK]; exact sqT_up x3.w.sub q1, fun e => ?_, fun e r hr => ?_⟩)
    · refine PostG.here x3.w h ?_
      simp only [Rep]
      exact ⟨p, cutV vs l l2, rfl, by rw [cutV_all e]; exact q1, cutL_rep q2⟩
    · have y := Ext.frz x3.w hr (o := .tup (cutV vs l l2)) (by intro ps q; cases q)
      refine h _ _ _ y ?_
      simp only [Rep]
      exact ⟨r, _, rfl, .inl (.inl upd_same), (cutL_rep q2).up y.fup⟩
  · simp only [Rep] at r1'
    obtain ⟨p, vs, rfl, q1, q2⟩ := r1'
    refine .inl ⟨p, vs, rfl, SqL.of (x3.w.sub _ _ q1), fun r hr => ?_⟩
    have y := Ext.frz x3.w hr (o := .lst (cutV vs l l2)) (by intro ps q; cases q)
    refine h _ _ _ y ?_
    simp only [Rep]
    exact ⟨r, _, rfl, upd_same, (cutL_rep q2).up y.fup⟩
  · split at h
    · rename_i hz
      simp only [Rep] at r1'
      exact .inr (.inr ⟨_, r1', Nat.le_trans hz (by decide), PostG.here x3.w h (by simp [Rep])⟩)
    · exact h.elim
  · exact h.elim
end

/-! ### built-ins -/
def lenD : List D → HostSt → Res D
  | [.tup ds], _ => .ok (.int ds.length)
  | [.lst ds], _ => .ok (.int ds.length)
  | [.str z], _ => if z.length ≤ lineN then .ok (.int z.length) else .bad
  | [.opened], A => .ok (.int A.opened.length)
  | _, _ => .bad
def intD : List D → HostSt → Res D
  | [.int i], _ => .ok (.int i)
  | _, _ => .bad
def ordD : List D → HostSt → Res D
  | [.str z], _ => if z.length = 1 then .ok (.int (z.cps.getD 0 0 : Nat)) else .bad
  | _, _ => .bad
/-- isinstance(x, str), isinstance(x, int) -/
def isStrD : D → HostSt → Res D
  | .str _, _ => .ok (.bl true)
  | .int _, _ => .ok (.bl false)
  | .tup _, _ => .ok (.bl false)
  | _, _ => .bad
def isIntD : D → HostSt → Res D
  | .str _, _ => .ok (.bl false)
  | .int _, _ => .ok (.bl true)
  | .tup _, _ => .ok (.bl false)
  | _, _ => .bad
/-- a rule of a call by values keeps a function of data -/
def SndC (C : Cs) (r : List V → Hp → VK → Prop) (f : List D → HostSt → Res D) : Prop :=
  ∀ g A F H xs ds (Q : VK) (E : XK), Wd C g A F H → Reps C g F ds xs → PostE C g A F H (f ds A) Q E → r xs H Q
section
variable {C : Cs} {g : Gh} {A : HostSt} {F H : Hp}
theorem reps_one {d : D} {vs : List V} (h : Reps C g F [d] vs) : ∃ v, vs = [v] ∧ Rep C g F d v := by
  simp only [Reps] at h
  obtain ⟨v, r, rfl, h2, rfl⟩ := h
  exact ⟨v, rfl, h2⟩
theorem snd_len : SndC C (fun xs H Q => ∃ x n, xs = [x] ∧ LenV C.K x H n ∧ Q (.int n) H) lenD := by
  intro g A F H xs ds Q E w r h
  unfold lenD at h
  split at h
  · obtain ⟨v, rfl, q⟩ := reps_one r
    simp only [Rep] at q
    obtain ⟨a, vs, rfl, h1, h2⟩ := q
    exact ⟨_, vs.length, rfl, .inr ⟨vs, sqT_up w.sub h1, rfl⟩, PostG.here w h (by simp [Rep, h2.length])⟩
  · obtain ⟨v, rfl, q⟩ := reps_one r
    simp only [Rep] at q
    obtain ⟨a, vs, rfl, h1, h2⟩ := q
    exact ⟨_, vs.length, rfl, .inl ⟨vs, SqL.of (w.sub _ _ h1), rfl⟩, PostG.here w h (by simp [Rep, h2.length])⟩
  · split at h
    · rename_i hz
      obtain ⟨v, rfl, q⟩ := reps_one r
      simp only [Rep] at q
      subst q
      exact ⟨_, _, rfl, ⟨Nat.le_trans hz (by decide), rfl⟩, PostG.here w h (by simp [Rep])⟩
    · exact h.elim
  · obtain ⟨v, rfl, q⟩ := reps_one r
    simp only [Rep] at q
    subst q
    exact ⟨_, _, rfl, .inl ⟨_, SqL.of w.opened, rfl⟩, PostG.here w h (by simp [Rep])⟩
  · exact h.elim
theorem snd_int : SndC C (fun xs H Q => (∃ i, xs = [.int i] ∧ Q (.int i) H) ∨ ∃ k, xs = [.bl k] ∧ Q (.int (if k then 1 else 0)) H) intD := by
  intro g A F H xs ds Q E w r h
  unfold intD at h
  split at h
  · obtain ⟨v, rfl, q⟩ := reps_one r
    simp only [Rep] at q
    subst q
    exact .inl ⟨_, rfl, PostG.here w h (by simp [Rep])⟩
  · exact h.elim
theorem snd_ord : SndC C (fun xs H Q => ∃ x, xs = [.str x] ∧ x.length = 1 ∧ Q (.int (x.cps.getD 0 0 : Nat)) H) ordD := by
  intro g A F H xs ds Q E w r h
  unfold ordD at h
  split at h
  · split at h
    · rename_i hz
      obtain ⟨v, rfl, q⟩ := reps_one r
      simp only [Rep] at q
      subst q
      exact ⟨_, rfl, hz, PostG.here w h (by simp [Rep])⟩
    · exact h.elim
  · exact h.elim
theorem tyX_tup {K : PySem.W.Frag} {a : Addr} {vs : List V} (h : SqT K H a vs) : TyX K H (.ref a) (.type "tuple") := by
  rcases h with (h | ⟨o, h⟩) | ⟨o, its, n, h, hc, _⟩
  · exact .base (.tup h)
  · exact .fTuple h
  · exact .kTuple h hc
end
section
variable {C : Cs} {mg : Str → Option Value} {X : Cx} {E : XK} {e : Expr} {es : List Expr} {ev : Ev} {evs : Evs} {pos p : Pos}
theorem ed_callB {r : List V → Hp → VK → Prop} {f : List D → HostSt → Res D} {id : String} {x : Str} (hc : CallR X (.builtin id) r) (hf : SndC C r f) (hm : X.mg x = none) (hv : bootBuiltins x = some (.builtin id)) (ha : PAd C X E (e :: es) evs) (hg : Gl X x := by rfl) (hn : x ≠ "__name__" := by decide) (hdb : (x == ("__debug__" : Str)) = false := by decide)
    (he : starEach (e :: es) X.env = (false, eval e X.env) :: starEach es X.env := by rfl) (hpl : (backTo pos (starEach es X.env)).any (·.1) = false := by rfl) : PEd C X E (.Call (.Name x p) (e :: es) [] pos) (vApp f evs) := by
  obtain ⟨t, h1, h2⟩ := ha
  refine ⟨_, pe_callB hc hg hm hv h1 hn hdb he hpl, fun g A F H σ ρ Q w er h => ?_⟩
  exact h2 g A F H σ ρ _ w er (PostG.bind h fun ds vs F' H' x r h => hf g A F' H' vs ds Q E x.w r h)
theorem ed_callTy {r : List V → Hp → VK → Prop} {f : List D → HostSt → Res D} {T : String} {x : Str} (hc : CallR X (.type T) r) (hf : SndC C r f) (hm : X.mg x = none) (hv : bootBuiltins x = some (.type T)) (ha : PAd C X E (e :: es) evs) (hg : Gl X x := by rfl) (hn : x ≠ "__name__" := by decide) (hdb : (x == ("__debug__" : Str)) = false := by decide)
    (he : starEach (e :: es) X.env = (false, eval e X.env) :: starEach es X.env := by rfl) (hpl : (backTo pos (starEach es X.env)).any (·.1) = false := by rfl) : PEd C X E (.Call (.Name x p) (e :: es) [] pos) (vApp f evs) := by
  obtain ⟨t, h1, h2⟩ := ha
  refine ⟨_, pe_callTy hc hg hm hv h1 hn hdb he hpl, fun g A F H σ ρ Q w er h => ?_⟩
  exact h2 g A F H σ ρ _ w er (PostG.bind h fun ds vs F' H' x r h => hf g A F' H' vs ds Q E x.w r h)
theorem ed_len (T : Txt C X.mg) (ha : PAd C X E [e] evs) (hK : X.K = C.K := by rfl) (hg : Gl X "len" := by rfl) (he : starEach [e] X.env = (false, eval e X.env) :: starEach [] X.env := by rfl) (hpl : (backTo pos (starEach [] X.env)).any (·.1) = false := by rfl) :
    PEd C X E (.Call (.Name "len" p) [e] [] pos) (vApp lenD evs) := ed_callB call_len (by rw [hK]; exact snd_len) T.len PySem.boot_len ha hg (by decide) (by decide) he hpl
theorem ed_intC (T : Txt C X.mg) (ha : PAd C X E [e] evs) (hg : Gl X "int" := by rfl) (he : starEach [e] X.env = (false, eval e X.env) :: starEach [] X.env := by rfl) (hpl : (backTo pos (starEach [] X.env)).any (·.1) = false := by rfl) :
    PEd C X E (.Call (.Name "int" p) [e] [] pos) (vApp intD evs) := ed_callTy call_int1 snd_int T.int PyProof.Rows.boot_int ha hg (by decide) (by decide) he hpl
theorem ed_ord (T : Txt C X.mg) (ha : PAd C X E [e] evs) (hg : Gl X "ord" := by rfl) (he : starEach [e] X.env = (false, eval e X.env) :: starEach [] X.env := by rfl) (hpl : (backTo pos (starEach [] X.env)).any (·.1) = false := by rfl) :
    PEd C X E (.Call (.Name "ord" p) [e] [] pos) (vApp ordD evs) := ed_callB call_ord snd_ord T.ord (by decide +kernel) ha hg (by decide) (by decide) he hpl
theorem ed_isi {x c : Expr} {y : Str} {ty : String} {p2 : Pos} {f : D → HostSt → Res D} (T : Txt C X.mg) (ha : PEd C X E x ev) (hc : PE X c (tC (.ty ty)))
    (hf : ∀ g A F H d v (Q : VK), Wd C g A F H → Rep C g F d v → PostE C g A F H (f d A) Q E → ∃ t b, TyX C.K H v t ∧ PySem.W.kitOne C.K t (.type ty) = some b ∧ Q (.bl b) H)
    (hK : X.K = C.K := by rfl) (hg : Gl X "isinstance" := by rfl) (he : starEach [x, c] X.env = (false, eval x X.env) :: starEach [c] X.env := by rfl) (he2 : starEach [c] X.env = (false, eval c X.env) :: starEach [] X.env := by rfl) (hpl : (backTo pos (starEach [c] X.env)).any (·.1) = false := by rfl) :
    PEd C X E (.Call (.Name "isinstance" p) [x, c] [] pos) (vUn f ev) := by
  obtain ⟨t, h1, h2⟩ := ha
  refine ⟨_, pe_callB call_isi hg T.isi (by decide +kernel) (pa_cons h1 (pa_cons hc pa_nil he2) he) (by decide) (by decide) he hpl, fun g A F H σ ρ Q w er h => ?_⟩
  refine h2 g A F H σ ρ _ w er (PostG.bind h fun d v F' H' x r h => ?_)
  obtain ⟨t, b, q1, q2, q3⟩ := hf g A F' H' d v Q x.w r h
  exact ⟨v, .ty ty, t, .type ty, b, rfl, .ty ty, by rw [hK]; exact q1, by rw [hK]; exact q2, q3⟩
theorem ed_isStr {x : Expr} {p2 : Pos} (T : Txt C X.mg) (ha : PEd C X E x ev) (hK : X.K = C.K := by rfl) (hg : Gl X "isinstance" := by rfl) (hg2 : Gl X "str" := by rfl) (he : starEach [x, .Name "str" p2] X.env = (false, eval x X.env) :: starEach [.Name "str" p2] X.env := by rfl)
    (he2 : starEach [.Name "str" p2] X.env = (false, eval (.Name "str" p2) X.env) :: starEach [] X.env := by rfl) (hpl : (backTo pos (starEach [.Name "str" p2] X.env)).any (·.1) = false := by rfl) :
    PEd C X E (.Call (.Name "isinstance" p) [x, .Name "str" p2] [] pos) (vUn isStrD ev) := by
  refine ed_isi (y := "str") (p2 := p2) T ha (pe_bltn (u := .type "str") (v := .ty "str") hg2 T.str (by decide +kernel) rfl) (fun g A F H d v Q w r h => ?_) hK hg he he2 hpl
  unfold isStrD at h
  split at h
  · simp only [Rep] at r; subst r
    exact ⟨_, true, .base (.str _), kit_ty (by decide +kernel), PostG.here w h (by simp [Rep])⟩
  · simp only [Rep] at r; subst r
    exact ⟨_, false, .base (.int _), kit_ty (by decide +kernel), PostG.here w h (by simp [Rep])⟩
  · simp only [Rep] at r
    obtain ⟨a, vs, rfl, h1, h2⟩ := r
    exact ⟨_, false, tyX_tup (sqT_up w.sub h1), kit_ty (by decide +kernel), PostG.here w h (by simp [Rep])⟩
  · exact h.elim
theorem ed_isInt {x : Expr} {p2 : Pos} (T : Txt C X.mg) (ha : PEd C X E x ev) (hK : X.K = C.K := by rfl) (hg : Gl X "isinstance" := by rfl) (hg2 : Gl X "int" := by rfl) (he : starEach [x, .Name "int" p2] X.env = (false, eval x X.env) :: starEach [.Name "int" p2] X.env := by rfl)
    (he2 : starEach [.Name "int" p2] X.env = (false, eval (.Name "int" p2) X.env) :: starEach [] X.env := by rfl) (hpl : (backTo pos (starEach [.Name "int" p2] X.env)).any (·.1) = false := by rfl) :
    PEd C X E (.Call (.Name "isinstance" p) [x, .Name "int" p2] [] pos) (vUn isIntD ev) := by
  refine ed_isi (y := "int") (p2 := p2) T ha (pe_bltn (u := .type "int") (v := .ty "int") hg2 T.int (by decide +kernel) rfl) (fun g A F H d v Q w r h => ?_) hK hg he he2 hpl
  unfold isIntD at h
  split at h
  · simp only [Rep] at r; subst r
    exact ⟨_, false, .base (.str _), kit_ty (by decide +kernel), PostG.here w h (by simp [Rep])⟩
  · simp only [Rep] at r; subst r
    exact ⟨_, true, .base (.int _), kit_ty (by decide +kernel), PostG.here w h (by simp [Rep])⟩
  · simp only [Rep] at r
    obtain ⟨a, vs, rfl, h1, h2⟩ := r
    exact ⟨_, false, tyX_tup (sqT_up w.sub h1), kit_ty (by decide +kernel), PostG.here w h (by simp [Rep])⟩
  · exact h.elim
end
end FK
set_option Elab.async false
set_option linter.all false
set_option maxRecDepth 100000
/-! The data layer: defs and calls, statements, loops, comprehensions (nothing here changes the host). -/
namespace FK
open PySem PySem.Spec PyProof.Rows L2

inductive Out where
  | next (ρ : Env) | ret (d : D) | exc | bad
abbrev Sv := Env → HostSt → Out
def seqS (a b : Sv) : Sv := fun ρ A => match a ρ A with
  | .next ρ' => b ρ' A
  | o => o
def sNil : Sv := fun ρ _ => .next ρ
def sRet (e : Ev) : Sv := fun ρ A => match e ρ A with
  | .ok d => .ret d
  | .exc => .exc
  | .bad => .bad
def sSet (i : Nat) (e : Ev) : Sv := fun ρ A => match e ρ A with
  | .ok d => .next (ρ.set i (some d))
  | .exc => .exc
  | .bad => .bad
def sSet2 (i j : Nat) (e : Ev) : Sv := fun ρ A => match e ρ A with
  | .ok (.tup [x, y]) => .next ((ρ.set i (some x)).set j (some y))
  | .ok _ => .bad
  | .exc => .exc
  | .bad => .bad
def sIf (t : Tv) (a b : Sv) : Sv := fun ρ A => match t ρ A with
  | .ok c => if c = true then a ρ A else b ρ A
  | .exc => .exc
  | .bad => .bad
def sRaise : Sv := fun _ _ => .exc
abbrev Iv := Env → HostSt → Res (List D)
def forS (i : Nat) (body : Sv) : List D → Env → HostSt → Out
  | [], ρ, _ => .next ρ
  | d :: ds, ρ, A => match body (ρ.set i (some d)) A with
    | .next ρ' => forS i body ds ρ' A
    | o => o
def sFor (i : Nat) (it : Iv) (body : Sv) : Sv := fun ρ A => match it ρ A with
  | .ok ds => forS i body ds ρ A
  | .exc => .exc
  | .bad => .bad
def lcGo (i : Nat) (t : Tv) (e : Ev) (ρ : Env) (A : HostSt) : List D → List D → Res (List D)
  | [], acc => .ok acc
  | d :: ds, acc => match t (ρ.set i (some d)) A with
    | .ok true => match e (ρ.set i (some d)) A with
      | .ok y => if acc.length < 1000 then lcGo i t e ρ A ds (acc ++ [y]) else .bad
      | _ => .bad
    | .ok false => lcGo i t e ρ A ds acc
    | _ => .bad
def vLc (i : Nat) (it : Iv) (t : Tv) (e : Ev) : Ev := fun ρ A => (it ρ A).bind fun ds => (lcGo i t e (ρ.set i none) A ds []).bind fun l => .ok (.lst l)
def tvYes : Tv := fun _ _ => .ok true
def itL (e : Ev) : Iv := fun ρ A => (e ρ A).bind fun x => match x with
  | .lst ds => .ok ds
  | _ => .bad
def itT (e : Ev) : Iv := fun ρ A => (e ρ A).bind fun x => match x with
  | .tup ds => .ok ds
  | _ => .bad
def itN (e : Ev) : Iv := fun ρ A => (e ρ A).bind fun x => match x with
  | .host => .ok (A.rows.map fun r => .node r.thing)
  | _ => .bad
def itS (e : Ev) : Iv := fun ρ A => (e ρ A).bind fun x => match x with
  | .str z => .ok (z.cps.toList.map fun c => .str ⟨#[c]⟩)
  | _ => .bad
def itR (e : Ev) : Iv := fun ρ A => (e ρ A).bind fun x => match x with
  | .int j => if -(2 ^ 62) ≤ j ∧ j < 2 ^ 62 then .ok ((List.range j.toNat).map fun (k : Nat) => .int (k : Int)) else .bad
  | _ => .bad
/-- what a body hands back -/
def runF (sv : Sv) (N n : Nat) (ds : List D) (A : HostSt) : Res D := match sv (ds.map some ++ List.replicate (N - n) none) A with
  | .next _ => .ok .non
  | .ret d => .ok d
  | .exc => .exc
  | .bad => .bad
def noexc {α : Type} : Res α → Res α
  | .exc => .bad
  | r => r
def vCall (n : Nat) (f : List D → HostSt → Res D) (es : Evs) : Ev := fun ρ A => (es ρ A).bind fun ds => if ds.length = n then f ds A else .bad
def vMeth (n : Nat) (f : List D → HostSt → Res D) (o : Ev) (es : Evs) : Ev := fun ρ A => (o ρ A).bind fun x => match x with
  | .host => (es ρ A).bind fun ds => if ds.length + 1 = n then f (.host :: ds) A else .bad
  | _ => .bad
/-- a method of a node, without arguments -/
def vMethN (f : List D → HostSt → Res D) (o : Ev) : Ev := fun ρ A => (o ρ A).bind fun x => match x with
  | .node t => match A.row t with
    | some _ => f [.node t] A
    | none => .bad
  | _ => .bad

section
variable (C : Cs)
/-- a def's promise: it reads, and hands back f of its arguments -/
def spP (n : Nat) (f : List D → HostSt → Res D) : Sp := fun vs H Q E => ∃ g A F ds, Wd C g A F H ∧ Reps C g F ds vs ∧ ds.length = n ∧ PostE C g A F H (f ds A) Q E
def PostS (g : Gh) (A : HostSt) (F H : Hp) (o : Out) (D : Ends) (E : XK) : Prop :=
  match o with
  | .next ρ => ∀ σ' F' H', Ext C g A F H F' H' → EnvRep C g F' ρ σ' → D.nx σ' H'
  | .ret d => ∀ v F' H', Ext C g A F H F' H' → Rep C g F' d v → D.rt v H'
  | .exc => ∀ F' H', Ext C g A F H F' H' → E (.ref C.CX) none H'
  | .bad => False
def PSd (X : Cx) (E : XK) (st : Stmt) (sv : Sv) : Prop :=
  ∃ t, PS X st t ∧ ∀ g A F H σ ρ D, Wd C g A F H → EnvRep C g F ρ σ → PostS C g A F H (sv ρ A) D E → t D σ H
def PSsd (X : Cx) (E : XK) (st : List Stmt) (sv : Sv) : Prop :=
  ∃ t, PSs X st t ∧ ∀ g A F H σ ρ D, Wd C g A F H → EnvRep C g F ρ σ → PostS C g A F H (sv ρ A) D E → t D σ H
/-- what a for walks: the items ds, one a turn -/
def WalkOf (g : Gh) (A : HostSt) (F : Hp) (ds : List D) (J : It) : Prop :=
  ∀ F1 H1, Wd C g A F1 H1 → SubF F F1 → (∀ (i : Nat) (d : D), ds[i]? = some d → J.go i H1 ∧ ∀ x H2, J.yld i H1 x H2 → H2 = H1 ∧ Rep C g F1 d x) ∧ J.stop ds.length H1
def PId (X : Cx) (E : XK) (tg iter : Expr) (iv : Iv) : Prop :=
  ∃ wi, PI X tg iter wi ∧ ∀ g A F H σ ρ R, Wd C g A F H → EnvRep C g F ρ σ → PostG C (fun F' => WalkOf C g A F') g A F H (iv ρ A) R E → wi σ H R
end
section
variable {C : Cs} {X : Cx} {E : XK} {g : Gh} {A : HostSt} {F H F1 H1 : Hp} {σ : L2.St} {ρ : Env}
theorem PostS.trans {o : Out} {D : Ends} (x : Ext C g A F H F1 H1) (h : PostS C g A F H o D E) : PostS C g A F1 H1 o D E := by
  cases o with
  | next ρ => exact fun σ F' H' e q => h σ F' H' (x.trans e) q
  | ret d => exact fun v F' H' e q => h v F' H' (x.trans e) q
  | exc => exact fun F' H' e => h F' H' (x.trans e)
  | bad => exact h

/-! ### calls -/
section
variable {k : Nat} {f : Addr} {fd : FuncData} {ps : List Str} {x : Str} {e o : Expr} {es : List Expr} {ev : Ev} {evs : Evs} {fD : List D → HostSt → Res D} {pos p apos : Pos} {m : Str} {n : Nat}
theorem ed_call (hx : Passes (L2.CX X.prog X.w) X E) (G : FnOk X.prog X.w X.K X.mg X.base (L2.CX X.prog X.w) k f fd ps (spP C n fD)) (hr : Room k X.A) (hm : X.mg x = some (.ref f)) (hk : PySem.W.keepIn X.K (.ref f) = true) (hb : Binds X.K fd ps [])
    (ha : PAd C X E (e :: es) evs) (hg : Gl X x := by rfl) (hdb : (x == ("__debug__" : Str)) = false := by decide) (he : starEach (e :: es) X.env = (false, eval e X.env) :: starEach es X.env := by rfl) (hpl : (backTo pos (starEach es X.env)).any (·.1) = false := by rfl) :
    PEd C X E (.Call (.Name x p) (e :: es) [] pos) (vCall n fD evs) := by
  obtain ⟨t, h1, h2⟩ := ha
  refine ⟨_, pe_call (dvs := []) G hr hg hm hk hb .nil hx h1 hdb he hpl, fun g A F H σ ρ Q w er h => ?_⟩
  refine h2 g A F H σ ρ _ w er (PostG.bind h fun ds vs F' H' x r h => ?_)
  split at h
  · rename_i hn
    rw [List.append_nil]
    exact ⟨g, A, F', ds, x.w, r, hn, h⟩
  · exact h.elim
/-- the methods of Host: no field has such a name -/
theorem host_no {ra : Addr} {m : Str} (h : hostNames.contains m = false) : (hostF ra g A).lookup m = none := by
  simp only [hostNames, List.contains_cons, List.contains_nil, Bool.or_false, Bool.or_eq_false_iff] at h
  obtain ⟨h1, h2, h3, h4, h5, h6⟩ := h
  simp only [hostF, List.lookup, h1, h2, h3, h4, h5, h6]
theorem node_no {pa : Addr} {r : Row} {m : Str} (h : nodeNames.contains m = false) : (nodeF pa r).lookup m = none := by
  simp only [nodeNames, List.contains_cons, List.contains_nil, Bool.or_false, Bool.or_eq_false_iff] at h
  obtain ⟨h1, h2, h3, h4, h5, h6, h7, h8, h9⟩ := h
  simp only [nodeF, List.lookup, h1, h2, h3, h4, h5, h6, h7, h8, h9]
theorem ed_meth {pl : Sem Bool} (T : Txt C X.mg) (hx : Passes (L2.CX X.prog X.w) X E) (hm : Meth X.K C.CH m f) (G : FnOk X.prog X.w X.K X.mg X.base (L2.CX X.prog X.w) k f fd ps (spP C n fD)) (hr : Room k X.A) (hb : Binds X.K fd ps [])
    (ho : PEd C X E o ev) (ha : PAd C X E (e :: es) evs) (hK : X.K = C.K := by rfl) (hno : hostNames.contains m = false := by decide +kernel)
    (hst : starEach (e :: es) X.env = (false, eval e X.env) :: starEach es X.env := by rfl) (hpl : (backTo pos (starEach es X.env)).any (·.1) = false := by rfl)
    (ht : eval (.Call (.Attribute o m apos) (e :: es) [] pos) X.env = (do
      let ov ← eval o X.env
      standAt apos.atName
      let (f, first) ← holding [ov] (getMethod ov m pl)
      callWith pos f first (backTo pos (starEach (e :: es) X.env)) (backToKw pos (keywordEach [] X.env))) := by rfl) :
    PEd C X E (.Call (.Attribute o m apos) (e :: es) [] pos) (vMeth n fD ev evs) := by
  obtain ⟨t0, h01, h02⟩ := ho
  obtain ⟨t, h1, h2⟩ := ha
  have cl : Cls X.K C.CH := by rw [hK]; exact T.clH
  refine ⟨_, pe_meth (dvs := []) h01 cl hm G hr hb .nil hx h1 hst hpl ht, fun g A F H σ ρ Q w er h => ?_⟩
  refine h02 g A F H σ ρ _ w er (PostG.bind h fun d v F' H' x r h => ?_)
  split at h
  · simp only [Rep] at r
    subst r
    obtain ⟨ra, q1, q2⟩ := x.w.host
    refine ⟨g.host, g.hdx, _, rfl, q1, host_no hno, ?_⟩
    refine h2 g A F' H' σ ρ _ x.w (er.up x.fup) (PostG.bind h fun ds vs F2 H2 x2 r2 h => ?_)
    split at h
    · rename_i hn
      rw [List.append_nil]
      exact ⟨g, A, F2, .host :: ds, x2.w, .cons (by simp [Rep]) r2, by simpa using hn, h⟩
    · exact h.elim
  · exact h.elim
theorem ed_meth0 {pl : Sem Bool} (T : Txt C X.mg) (hx : Passes (L2.CX X.prog X.w) X E) (hm : Meth X.K C.CH m f) (G : FnOk X.prog X.w X.K X.mg X.base (L2.CX X.prog X.w) k f fd ps (spP C 1 fD)) (hr : Room k X.A) (hb : Binds X.K fd ps [])
    (ho : PEd C X E o ev) (hK : X.K = C.K := by rfl) (hno : hostNames.contains m = false := by decide +kernel)
    (ht : eval (.Call (.Attribute o m apos) [] [] pos) X.env = (do
      let ov ← eval o X.env
      standAt apos.atName
      let (f, first) ← holding [ov] (getMethod ov m pl)
      callWith pos f first (backTo pos (starEach [] X.env)) (backToKw pos (keywordEach [] X.env))) := by rfl) :
    PEd C X E (.Call (.Attribute o m apos) [] [] pos) (vMeth 1 fD ev vNil) := by
  obtain ⟨t0, h01, h02⟩ := ho
  have cl : Cls X.K C.CH := by rw [hK]; exact T.clH
  refine ⟨_, pe_meth0 (dvs := []) h01 cl hm G hr hb .nil hx ht, fun g A F H σ ρ Q w er h => ?_⟩
  refine h02 g A F H σ ρ _ w er (PostG.bind h fun d v F' H' x r h => ?_)
  split at h
  · simp only [Rep] at r
    subst r
    obtain ⟨ra, q1, q2⟩ := x.w.host
    refine ⟨g.host, g.hdx, _, rfl, q1, host_no hno, ?_⟩
    exact ⟨g, A, F', [.host], x.w, .cons (by simp [Rep]) .nil, rfl, h⟩
  · exact h.elim
theorem ed_methN {pl : Sem Bool} (T : Txt C X.mg) (hx : Passes (L2.CX X.prog X.w) X E) (hm : Meth X.K C.CN m f) (G : FnOk X.prog X.w X.K X.mg X.base (L2.CX X.prog X.w) k f fd ps (spP C 1 fD)) (hr : Room k X.A) (hb : Binds X.K fd ps [])
    (ho : PEd C X E o ev) (hK : X.K = C.K := by rfl) (hno : nodeNames.contains m = false := by decide +kernel)
    (ht : eval (.Call (.Attribute o m apos) [] [] pos) X.env = (do
      let ov ← eval o X.env
      standAt apos.atName
      let (f, first) ← holding [ov] (getMethod ov m pl)
      callWith pos f first (backTo pos (starEach [] X.env)) (backToKw pos (keywordEach [] X.env))) := by rfl) :
    PEd C X E (.Call (.Attribute o m apos) [] [] pos) (vMethN fD ev) := by
  obtain ⟨t0, h01, h02⟩ := ho
  have cl : Cls X.K C.CN := by rw [hK]; exact T.clN
  refine ⟨_, pe_meth0 (dvs := []) h01 cl hm G hr hb .nil hx ht, fun g A F H σ ρ Q w er h => ?_⟩
  refine h02 g A F H σ ρ _ w er (PostG.bind h fun d v F' H' x r h => ?_)
  split at h
  · rename_i t
    split at h
    · rename_i row e
      simp only [Rep] at r
      obtain ⟨a, h5, rfl⟩ := r
      obtain ⟨vs, _, hr⟩ := x.w.nodes
      obtain ⟨a', h1, _, dx, pa, h3, h4⟩ := hr.find e
      rw [h5] at h1
      cases h1
      refine ⟨a, dx, _, rfl, h3, node_no hno, ?_⟩
      exact ⟨g, A, F', [.node t], x.w, .cons (by simp only [Rep]; exact ⟨a, h5, rfl⟩) .nil, rfl, h⟩
    · exact h.elim
  · exact h.elim
end

/-! ### statements -/
section
variable {e : Expr} {ev : Ev} {st : Stmt} {sts : List Stmt} {sv sv' : Sv} {pos pos' : Pos} {i j : Nat}
theorem sd_nil : PSsd C X E [] sNil := ⟨_, pss_nil, fun g A F H σ ρ D w er h => h σ F H (Ext.refl w) er⟩
theorem sd_cons (h : PSd C X E st sv) (hs : PSsd C X E sts sv') : PSsd C X E (st :: sts) (seqS sv sv') := by
  obtain ⟨t, h1, h2⟩ := h
  obtain ⟨u, h3, h4⟩ := hs
  refine ⟨_, pss_cons h1 h3, fun g A F H σ ρ D w er h => ?_⟩
  refine h2 g A F H σ ρ _ w er ?_
  unfold seqS at h
  cases q : sv ρ A with
  | next ρ' =>
    rw [q] at h
    exact fun σ' F' H' x er' => h4 g A F' H' σ' ρ' D x.w er' (PostS.trans x h)
  | ret d => rw [q] at h; exact h
  | exc => rw [q] at h; exact h
  | bad => rw [q] at h; exact h
theorem sd_one (h : PSd C X E st sv) : PSsd C X E [st] sv := by
  obtain ⟨t, h1, h2⟩ := h
  exact ⟨_, pss_one h1, h2⟩
theorem sd_ret (he : PEd C X E e ev) : PSd C X E (.Return (some e) pos) (sRet ev) := by
  obtain ⟨t, h1, h2⟩ := he
  refine ⟨_, ps_ret h1, fun g A F H σ ρ D w er h => ?_⟩
  refine h2 g A F H σ ρ _ w er ?_
  unfold sRet at h
  cases q : ev ρ A with
  | ok d => rw [q] at h; exact h
  | exc => rw [q] at h; exact h
  | bad => rw [q] at h; exact h
theorem sd_set {x : Str} (hN : X.N.Nodup) (he : PEd C X E e ev) (hi : X.N[i]? = some x := by rfl) (hx : Loc X.env.scope x := by first | exact Or.inl rfl | exact Or.inr rfl) (hf : X.fn x = true ∨ X.env.scope.names.lookup x = some .local := by first | exact .inl rfl | exact .inr rfl)
    (hsw : swapsWithSole [.Name x pos'] e pos.line X.env = pure false := by rfl) : PSd C X E (.Assign [.Name x pos'] e pos) (sSet i ev) := by
  obtain ⟨t, h1, h2⟩ := he
  refine ⟨_, ps_asg h1 (pg_name hN hi hx hf) hsw, fun g A F H σ ρ D w er h => ?_⟩
  refine h2 g A F H σ ρ _ w er ?_
  unfold sSet at h
  cases q : ev ρ A with
  | ok d => rw [q] at h; exact fun v F' H' x r => h _ F' H' x ((er.up x.fup).set r)
  | exc => rw [q] at h; exact h
  | bad => rw [q] at h; exact h
theorem sd_set2 {x y : Str} {k : Nat} {px py pt : Pos} (hN : X.N.Nodup) (he : PEd C X E e ev) (hi : X.N[i]? = some x := by rfl) (hj : X.N[j]? = some y := by rfl) (hx : Loc X.env.scope x := by first | exact Or.inl rfl | exact Or.inr rfl) (hy : Loc X.env.scope y := by first | exact Or.inl rfl | exact Or.inr rfl)
    (hf : X.fn x = true ∨ X.env.scope.names.lookup x = some .local := by first | exact .inl rfl | exact .inr rfl) (hf' : X.fn y = true ∨ X.env.scope.names.lookup y = some .local := by first | exact .inl rfl | exact .inr rfl) (hc : X.calm = true := by rfl) (hK : X.K = C.K := by rfl)
    (q1 : (assignEach [.Name x px, .Name y py] X.env).map (·.2) = assign (.Name x px) X.env :: (assignEach [.Name y py] X.env).map (·.2) := by rfl) (q2 : (assignEach [.Name y py] X.env).map (·.2) = assign (.Name y py) X.env :: (assignEach [] X.env).map (·.2) := by rfl)
    (hn : (assignEach [.Name x px, .Name y py] X.env).length = 2 := by rfl) (hst : (assignEach [.Name x px, .Name y py] X.env).findIdx? (·.1) = none := by rfl)
    (hsw : swapsWithSole [.Tuple [.Name x px, .Name y py] k pt] e pos.line X.env = pure false := by rfl) (hsw2 : swappedStores [.Tuple [.Name x px, .Name y py] k pt] e X.env = pure none := by rfl) :
    PSd C X E (.Assign [.Tuple [.Name x px, .Name y py] k pt] e pos) (sSet2 i j ev) := by
  obtain ⟨t, h1, h2⟩ := he
  refine ⟨_, ps_asg h1 (pg_tup hc (pgs_cons (pg_name hN hi hx hf) (pgs_cons (pg_name hN hj hy hf') pgs_nil q2) q1) hn hst) hsw hsw2, fun g A F H σ ρ D w er h => ?_⟩
  refine h2 g A F H σ ρ _ w er ?_
  unfold sSet2 at h
  cases q : ev ρ A with
  | ok d =>
    rw [q] at h
    intro v F' H' x r
    split at h
    · rename_i a b e
      cases e
      simp only [Rep] at r
      obtain ⟨p, vs, rfl, r1, r2⟩ := r
      simp only [Reps] at r2
      obtain ⟨va, us, rfl, ra, vb, us', rfl, rb, rfl⟩ := r2
      refine ⟨p, _, rfl, by rw [hK]; exact sqT_up x.w.sub r1, rfl, va, _, rfl, vb, _, rfl, rfl, ?_⟩
      exact h _ F' H' x (((er.up x.fup).set ra).set rb)
    · exact h.elim
    · rename_i e; cases e
    · rename_i e; cases e
  | exc => rw [q] at h; exact h
  | bad => rw [q] at h; exact h
theorem sd_if {c : Expr} {tv : Tv} {a b : List Stmt} {va vb : Sv} (hc : PTd C X E c tv) (ha : PSsd C X E a va) (hb : PSsd C X E b vb) : PSd C X E (.If c a b pos) (sIf tv va vb) := by
  obtain ⟨t, h1, h2⟩ := hc
  obtain ⟨u, h3, h4⟩ := ha
  obtain ⟨u', h5, h6⟩ := hb
  refine ⟨_, ps_if h1 h3 h5, fun g A F H σ ρ D w er h => ?_⟩
  refine h2 g A F H σ ρ _ w er ?_
  unfold sIf at h
  cases q : tv ρ A with
  | ok k =>
    rw [q] at h
    intro b F' H' x e
    subst e
    dsimp only at h
    by_cases hk : k = true
    · rw [if_pos hk] at h ⊢
      exact h4 g A F' H' σ ρ D x.w (er.up x.fup) (PostS.trans x h)
    · rw [if_neg hk] at h ⊢
      exact h6 g A F' H' σ ρ D x.w (er.up x.fup) (PostS.trans x h)
  | exc => rw [q] at h; exact h
  | bad => rw [q] at h; exact h
theorem sd_raise (tk : Takes X (fun cls d _ H => E cls d H)) (hm : PMk X e (fun _ H Q => Q (.ref C.CX) none H)) (hc : X.calm = true := by rfl) : PSd C X E (.Raise (some e) none pos) sRaise :=
  ⟨_, ps_raise hc tk hm, fun g A F H σ ρ D w er h => h F H (Ext.refl w)⟩
theorem sd_for {iter : Expr} {body : List Stmt} {iv : Iv} {x : Str} (hp : PassesOwn (model X.prog X.w) X.A X.env X.xe) (hN : X.N.Nodup) (hi : PId C X E (.Name x pos') iter iv) (hb : PSsd C X E body sv) (hix : X.N[i]? = some x := by rfl) (hx : Loc X.env.scope x := by first | exact Or.inl rfl | exact Or.inr rfl)
    (hf : X.fn x = true ∨ X.env.scope.names.lookup x = some .local := by first | exact .inl rfl | exact .inr rfl) (hc : X.calm = true := by rfl) (hs : ∀ x, foldedSetIterable iter X.env x = pure x := by intro _; rfl) : PSd C X E (.For (.Name x pos') iter body [] pos) (sFor i iv sv) := by
  obtain ⟨wi, h1, h2⟩ := hi
  obtain ⟨u, h3, h4⟩ := hb
  refine ⟨_, ps_for hp hc h1 (pg_name hN hix hx hf) h3 hs, fun g A F H σ ρ D w er h => ?_⟩
  refine h2 g A F H σ ρ _ w er ?_
  unfold sFor at h
  cases q : iv ρ A with
  | exc => rw [q] at h; exact h
  | bad => rw [q] at h; exact h
  | ok ds =>
    rw [q] at h
    intro J F' H' x wk
    refine ⟨fun k m σ' H1 => m + k = ds.length ∧ ∃ F1 ρ', Ext C g A F' H' F1 H1 ∧ EnvRep C g F1 ρ' σ' ∧ PostS C g A F1 H1 (forS i sv (ds.drop k) ρ' A) D E, ⟨ds.length, rfl, F', ρ, Ext.refl x.w, er.up x.fup, PostS.trans x h⟩, ?_⟩
    rintro k m σ' H1 ⟨hm, F1, ρ', x1, er1, hq⟩
    obtain ⟨w1, w2⟩ := wk F1 H1 x1.w x1.fup
    by_cases hk : k < ds.length
    · have ek : ds[k]? = some ds[k] := List.getElem?_eq_getElem hk
      obtain ⟨go, yl⟩ := w1 k _ ek
      refine .inr ⟨go, fun σ2 H2 => ∃ F2 ρ2, Ext C g A F' H' F2 H2 ∧ EnvRep C g F2 ρ2 σ2 ∧ PostS C g A F2 H2 (forS i sv (ds.drop (k + 1)) ρ2 A) D E, fun σ2 H2 z => ⟨m - 1, by omega, by omega, z⟩, fun y H2 hy => ?_⟩
      obtain ⟨rfl, ry⟩ := yl y H2 hy
      rw [List.drop_eq_getElem_cons hk] at hq
      unfold forS at hq
      refine h4 g A F1 H2 _ (ρ'.set i (some ds[k])) _ x1.w (er1.set ry) ?_
      cases q2 : sv (ρ'.set i (some ds[k])) A with
      | next ρ2 =>
        rw [q2] at hq
        exact fun σ3 F3 H3 x3 er3 => ⟨F3, ρ2, x1.trans x3, er3, PostS.trans x3 hq⟩
      | ret d => rw [q2] at hq; exact hq
      | exc => rw [q2] at hq; exact hq
      | bad => rw [q2] at hq; exact hq
    · have e0 : k = ds.length := by omega
      subst e0
      refine .inl ⟨w2, ?_⟩
      rw [List.drop_length] at hq
      exact hq σ' F1 H1 (Ext.refl x1.w) er1
end

/-! ### what is walked -/
section
variable {tg e : Expr} {ev : Ev} {apos pos p : Pos}
theorem id_L (he : PEd C X E e ev) (hpi : ∀ {t : TE}, PE X e t → PI X tg e (iList X.K t) := by exact fun h => pi_list h) (hK : X.K = C.K := by rfl) : PId C X E tg e (itL ev) := by
  obtain ⟨t, h1, h2⟩ := he
  refine ⟨_, hpi h1, fun g A F H σ ρ R w er h => ?_⟩
  refine h2 g A F H σ ρ _ w er (PostG.bind h fun d v F' H' x r h => ?_)
  split at h
  · rename_i ds
    simp only [Rep] at r
    obtain ⟨a, vs, rfl, r1, r2⟩ := r
    refine ⟨a, rfl, ⟨vs, SqL.of (x.w.sub _ _ r1)⟩, PostG.here x.w h fun F1 H1 w1 s1 => ?_⟩
    have hs : SqL X.K H1 a vs := SqL.of (w1.sub _ _ (s1 _ _ r1))
    refine ⟨fun i d e => ?_, ⟨vs, hs, by rw [r2.length]; exact Nat.le_refl _⟩⟩
    obtain ⟨y, e1, r3⟩ := r2.get e
    refine ⟨⟨vs, y, hs, e1⟩, fun z H2 ⟨e2, q⟩ => ⟨e2, ?_⟩⟩
    have e3 := q vs hs
    rw [e1] at e3
    cases e3
    exact r3.up s1
  · exact h.elim
theorem id_T (he : PEd C X E e ev) (hpi : ∀ {t : TE}, PE X e t → PI X tg e (iTup X.K t) := by exact fun h => pi_tup h) (hK : X.K = C.K := by rfl) : PId C X E tg e (itT ev) := by
  obtain ⟨t, h1, h2⟩ := he
  refine ⟨_, hpi h1, fun g A F H σ ρ R w er h => ?_⟩
  refine h2 g A F H σ ρ _ w er (PostG.bind h fun d v F' H' x r h => ?_)
  split at h
  · rename_i ds
    simp only [Rep] at r
    obtain ⟨a, vs, rfl, r1, r2⟩ := r
    refine ⟨a, rfl, ⟨vs, by rw [hK]; exact sqT_up x.w.sub r1⟩, PostG.here x.w h fun F1 H1 w1 s1 => ?_⟩
    have hs : SqT X.K H1 a vs := by rw [hK]; exact sqT_up w1.sub (sqT_up s1 r1)
    refine ⟨fun i d e => ?_, ⟨vs, hs, by rw [r2.length]; exact Nat.le_refl _⟩⟩
    obtain ⟨y, e1, r3⟩ := r2.get e
    refine ⟨⟨vs, y, hs, e1⟩, fun z H2 ⟨e2, q⟩ => ⟨e2, ?_⟩⟩
    have e3 := q vs hs
    rw [e1] at e3
    cases e3
    exact r3.up s1
  · exact h.elim
theorem RowsAt.len : ∀ {rs : List Row} {vs : List V}, RowsAt C g F H rs vs → vs.length = rs.length
  | [], vs, h => by
    have h : vs = [] := h
    subst h
    rfl
  | r :: rs, vs, h => by
    obtain ⟨a, vr, rfl, h2, h3, h4, h5⟩ := h
    simp [RowsAt.len h5]
theorem RowsAt.get : ∀ {rs : List Row} {vs : List V} {i : Nat} {r : Row}, RowsAt C g F H rs vs → rs[i]? = some r → ∃ a, vs[i]? = some (.ref a) ∧ g.ad r.thing = some a
  | [], vs, i, r, h, e => by simp at e
  | r' :: rs, vs, 0, r, h, e => by
    obtain ⟨a, vr, rfl, h2, h3, h4, h5⟩ := h
    simp at e
    subst e
    exact ⟨a, rfl, h2⟩
  | r' :: rs, vs, i + 1, r, h, e => by
    obtain ⟨a, vr, rfl, h2, h3, h4, h5⟩ := h
    simp at e
    obtain ⟨a', e1, e2⟩ := RowsAt.get h5 e
    exact ⟨a', by simpa using e1, e2⟩
theorem id_N (T : Txt C X.mg) (he : PEd C X E e ev) (hpi : ∀ {t : TE}, PE X (.Attribute e "nodes" apos) t → PI X tg (.Attribute e "nodes" apos) (iList X.K t) := by exact fun h => pi_list h) (hK : X.K = C.K := by rfl)
    (hb : attributeBase e "nodes" X.env (eval e X.env) = eval e X.env := by rfl) : PId C X E tg (.Attribute e "nodes" apos) (itN ev) := by
  obtain ⟨t, h1, h2⟩ := he
  refine ⟨_, hpi (pe_fld h1 hb), fun g A F H σ ρ R w er h => ?_⟩
  refine h2 g A F H σ ρ _ w er (PostG.bind h fun d v F' H' x r h => ?_)
  split at h
  · simp only [Rep] at r
    subst r
    obtain ⟨ra, q1, q2⟩ := x.w.host
    obtain ⟨vs, q3, q4⟩ := x.w.nodes
    refine ⟨g.host, _, g.hdx, _, .ref g.ln, rfl, q1, by rw [hK]; exact T.clH, by rw [hK]; exact T.nH _ (by decide +kernel), rfl, g.ln, rfl, ⟨vs, SqL.of q3⟩, PostG.here x.w h fun F1 H1 w1 s1 => ?_⟩
    obtain ⟨us, q5, q6⟩ := w1.nodes
    refine ⟨fun i d e => ?_, ⟨us, SqL.of q5, by rw [q6.len, List.length_map]; exact Nat.le_refl _⟩⟩
    rw [List.getElem?_map] at e
    cases e0 : A.rows[i]? with
    | none => rw [e0] at e; cases e
    | some r =>
      rw [e0] at e
      cases e
      obtain ⟨a, e1, e2⟩ := q6.get e0
      refine ⟨⟨us, _, SqL.of q5, e1⟩, fun z H2 ⟨e3, q⟩ => ⟨e3, ?_⟩⟩
      have e4 := q us (SqL.of q5)
      rw [e1] at e4
      cases e4
      simp only [Rep]
      exact ⟨a, e2, rfl⟩
  · exact h.elim
theorem id_R (T : Txt C X.mg) (he : PEd C X E e ev) (hpi : ∀ {t : TA}, PA X [e] t → PI X tg (.Call (.Name "range" p) [e] [] pos) (iRng1 t)) (hst : starEach [e] X.env = (false, eval e X.env) :: starEach [] X.env := by rfl) : PId C X E tg (.Call (.Name "range" p) [e] [] pos) (itR ev) := by
  obtain ⟨t, h1, h2⟩ := he
  refine ⟨_, hpi (pa_cons h1 pa_nil hst), fun g A F H σ ρ R w er h => ?_⟩
  refine h2 g A F H σ ρ _ w er (PostG.bind h fun d v F' H' x r h => ?_)
  split at h
  · split at h
    · rename_i j hj
      simp only [Rep] at r
      subst r
      refine ⟨j, rfl, hj.1, hj.2, PostG.here x.w h fun F1 H1 w1 s1 => ?_⟩
      refine ⟨fun i d e => ?_, by rw [List.length_map, List.length_range]; exact Nat.le_refl _⟩
      rw [List.getElem?_map] at e
      cases e0 : (List.range j.toNat)[i]? with
      | none => rw [e0] at e; cases e
      | some r =>
        rw [e0] at e
        cases e
        have hr := List.getElem?_eq_some_iff.mp e0
        obtain ⟨l, er⟩ := hr
        rw [List.getElem_range] at er
        subst er
        rw [List.length_range] at l
        refine ⟨l, fun z H2 ⟨e3, q⟩ => ⟨e3, ?_⟩⟩
        simp only [Rep]
        rw [q]
        simp
    · exact h.elim
  · exact h.elim
theorem id_S (he : PEd C X E e ev) (hpi : ∀ {t : TE}, PE X e t → PI X tg e (iStr t) := by exact fun h => pi_str h) : PId C X E tg e (itS ev) := by
  obtain ⟨t, h1, h2⟩ := he
  refine ⟨_, hpi h1, fun g A F H σ ρ R w er h => ?_⟩
  refine h2 g A F H σ ρ _ w er (PostG.bind h fun d v F' H' x r h => ?_)
  split at h
  · rename_i z
    simp only [Rep] at r
    refine ⟨z, r, PostG.here x.w h fun F1 H1 w1 s1 => ?_⟩
    refine ⟨fun i d e => ?_, by rw [List.length_map, Array.length_toList]; exact Nat.le_refl _⟩
    rw [List.getElem?_map, Array.getElem?_toList] at e
    cases e0 : z.cps[i]? with
    | none => rw [e0] at e; cases e
    | some c =>
      rw [e0] at e
      cases e
      refine ⟨(Array.getElem?_eq_some_iff.mp e0).1, fun y H2 ⟨e3, c', q1, q2⟩ => ⟨e3, ?_⟩⟩
      rw [e0] at q1
      cases q1
      simp only [Rep]
      exact q2
  · exact h.elim
end

/-! ### comprehensions -/
theorem Wd.poke {p : Addr} {xs : List V} {o : HO} (w : Wd C g A F H) (hp : H p = some (.lst xs)) (fp : F p = none) (h1 : g.ln ≠ p) (h2 : g.lo ≠ p) (h3 : g.lh ≠ p) : Wd C g A F (upd H p o) := by
  have ne : ∀ b u, H b = some u → (∀ ys, u ≠ .lst ys) → upd H p o b = some u := fun b u e n => by
    rw [upd_ne (fun z => n xs (by rw [z, hp] at e; exact (Option.some.inj e).symm))]
    exact e
  obtain ⟨ra, a1, a2⟩ := w.host
  obtain ⟨vs, a3, a4⟩ := w.nodes
  obtain ⟨us, a5, a6⟩ := w.had
  refine ⟨fun b u e => ?_, w.nt, ?_, ⟨ra, ne _ _ a1 (by intro ys q; cases q), a2⟩, ⟨vs, by rw [upd_ne h1]; exact a3, ?_⟩, by rw [upd_ne h2]; exact w.opened, ⟨us, by rw [upd_ne h3]; exact a5, a6⟩, w.fhost, w.fln, w.flo, w.flh, w.ad, w.dj1, w.dj2, w.dj3⟩
  · rw [upd_ne (fun z => by rw [z, fp] at e; cases e)]
    exact w.sub _ _ e
  · obtain ⟨ps, b1, b2, b3⟩ := w.tab
    refine ⟨ps, ne _ _ b1 (by intro ys q; cases q), b2, fun pos cv hc => ?_⟩
    obtain ⟨c, c1, c2⟩ := b3 pos cv hc
    exact ⟨c, c1, ne _ _ c2 (by intro ys q; unfold LamX.CodeO at q; cases q)⟩
  · generalize A.rows = rs at a4
    clear a3
    induction rs generalizing vs with
    | nil => exact a4
    | cons r rs ih =>
      obtain ⟨a, vr, rfl, q2, q3, ⟨dx, pa, q4, q5⟩, q6⟩ := a4
      exact ⟨a, vr, rfl, q2, q3, ⟨dx, pa, ne _ _ q4 (by intro ys q; cases q), q5⟩, ih vr q6⟩
/-- the reading that says no more than the evaluator -/
def tEv (C : Cs) (E : XK) (ev : Ev) : TE := fun σ H Q => ∃ g A F ρ, Wd C g A F H ∧ EnvRep C g F ρ σ ∧ PostE C g A F H (ev ρ A) Q E
def tTv (C : Cs) (E : XK) (ev : Tv) : TT := fun σ H Q => ∃ g A F ρ, Wd C g A F H ∧ EnvRep C g F ρ σ ∧ PostT C g A F H (ev ρ A) Q E
theorem PEd.can {e : Expr} {ev : Ev} (h : PEd C X E e ev) : PE X e (tEv C E ev) := by
  obtain ⟨t, h1, h2⟩ := h
  refine ⟨fun pins s σ H Q I q => ?_⟩
  obtain ⟨g, A, F, ρ, w, er, q⟩ := q
  exact h1.run pins s σ H Q I (h2 g A F H σ ρ Q w er q)
def PTsd (C : Cs) (X : Cx) (E : XK) (ifs : List Expr) (tv : Tv) : Prop := PTs X ifs (tTv C E tv)
theorem tsd_nil : PTsd C X E [] tvYes := by
  refine ⟨fun pins s σ H Q I q => ?_⟩
  obtain ⟨g, A, F, ρ, w, er, q⟩ := q
  exact pts_nil.run pins s σ H Q I (PostG.here w q rfl)
theorem tsd_one {c : Expr} {tv : Tv} (h : PTd C X E c tv) : PTsd C X E [c] tv := by
  obtain ⟨t, h1, h2⟩ := h
  refine ⟨fun pins s σ H Q I q => ?_⟩
  obtain ⟨g, A, F, ρ, w, er, q⟩ := q
  exact (pts_one h1).run pins s σ H Q I (h2 g A F H σ ρ Q w er q)
theorem lcGo_exc {i : Nat} {t : Tv} {e : Ev} : ∀ {ds acc : List D}, lcGo i t e ρ A ds acc ≠ .exc
  | [], acc, h => by simp [lcGo] at h
  | d :: ds, acc, h => by
    unfold lcGo at h
    split at h
    · split at h
      · split at h
        · exact lcGo_exc h
        · cases h
      · cases h
    · exact lcGo_exc h
    · cases h
theorem wipe1 (σ : L2.St) (i : Nat) : wipe σ [i] = σ.set i none := rfl
/-- the reading of a comprehension -/
theorem lc_raw {i : Nat} {J : It} {ds : List D} {tv : Tv} {ev : Ev} {Q : VK} (w0 : Wd C g A F H) (er0 : EnvRep C g F ρ σ) (wk : WalkOf C g A F ds J)
    {l : List D} (hR : lcGo i tv ev (ρ.set i none) A ds [] = .ok l) : ∀ Dp, H Dp = none → (∀ F1 H1 acc, Ext C g A F H F1 H1 → F1 Dp = none → H1 Dp = some (.lst acc) → Reps C g F1 l acc → Q (.ref Dp) H1) → ∃ W : Nat → Nat → Hp → Prop, (∃ m, W 0 m (upd H Dp (.lst []))) ∧ ∀ i' m H, W i' m H →
      (J.stop i' H ∧ Q (.ref Dp) H) ∨ (J.go i' H ∧ ∃ Nx : Hp → Prop, (∀ H', Nx H' → ∃ m', m' < m ∧ W (i' + 1) m' H') ∧ ∀ x H', J.yld i' H x H' → gName i x (wipe σ [i]) H' fun σ2 H2 => wipe σ2 [i] = wipe σ [i] ∧ tTv C E0 tv σ2 H2 fun b H3 =>
        if b = true then tEv C E0 ev σ2 H3 fun y H4 => ∃ acc, H4 Dp = some (.lst acc) ∧ acc.length < sizeLine ∧ Nx (upd H4 Dp (.lst (acc ++ [y]))) else Nx H3) := by
  intro p hp h
  · have hfp : F p = none := by
      cases q : F p with
      | none => rfl
      | some o => rw [w0.sub _ _ q] at hp; cases hp
    have n1 : g.ln ≠ p := by
      obtain ⟨vs, e, _⟩ := w0.nodes
      exact ne_of_none e hp
    have n2 : g.lo ≠ p := ne_of_none w0.opened hp
    have n3 : g.lh ≠ p := by
      obtain ⟨vs, e, _⟩ := w0.had
      exact ne_of_none e hp
    let Iv : Nat → Hp → Prop := fun k H1 => ∃ F1 acc accD, Ext C g A F H F1 H1 ∧ F1 p = none ∧ H1 p = some (.lst acc) ∧ Reps C g F1 accD acc ∧ lcGo i tv ev (ρ.set i none) A (ds.drop k) accD = .ok l
    refine ⟨fun k m H1 => m + k = ds.length ∧ Iv k H1, ⟨ds.length, rfl, F, [], [], Ext.lay w0 hp, hfp, upd_same, .nil, hR⟩, ?_⟩
    rintro k m H1 ⟨hm, F1, acc, accD, x1, f1, e1, r1, go⟩
    obtain ⟨w1, w2⟩ := wk F1 H1 x1.w x1.fup
    by_cases hk : k < ds.length
    · obtain ⟨g1, yl⟩ := w1 k _ (List.getElem?_eq_getElem hk)
      refine .inr ⟨g1, Iv (k + 1), fun H' z => ⟨m - 1, by omega, by omega, z⟩, fun y H2 hy => ?_⟩
      obtain ⟨rfl, ry⟩ := yl y H2 hy
      have er1 : EnvRep C g F1 ((ρ.set i none).set i (some ds[k])) ((wipe σ [i]).set i (some y)) := ((er0.up x1.fup).unset).set ry
      rw [List.drop_eq_getElem_cons hk] at go
      unfold lcGo at go
      refine ⟨by rw [wipe1, wipe1, List.set_set, List.set_set], g, A, F1, _, x1.w, er1, ?_⟩
      cases q : tv ((ρ.set i none).set i (some ds[k])) A with
      | exc => rw [q] at go; cases go
      | bad => rw [q] at go; cases go
      | ok b =>
        rw [q] at go
        intro b' F3 H3 x3 eb
        subst eb
        have f3 : F3 p = none := by
          cases z : F3 p with
          | none => rfl
          | some o =>
            rcases x3.new _ _ z with z | z
            · rw [f1] at z; cases z
            · rw [e1] at z; cases z
        have e3 : H3 p = some (.lst acc) := x3.up _ _ e1 (by intro ps z; cases z)
        cases b with
        | false => exact ⟨F3, acc, accD, x1.trans x3, f3, e3, r1.up x3.fup, go⟩
        | true =>
          dsimp only at go
          show tEv C E0 ev _ _ _
          refine ⟨g, A, F3, _, x3.w, er1.up x3.fup, ?_⟩
          cases q2 : ev ((ρ.set i none).set i (some ds[k])) A with
          | exc => rw [q2] at go; cases go
          | bad => rw [q2] at go; cases go
          | ok d =>
            rw [q2] at go
            dsimp only at go
            split at go
            · rename_i hl
              intro v F4 H4 x4 r4
              have f4 : F4 p = none := by
                cases z : F4 p with
                | none => rfl
                | some o =>
                  rcases x4.new _ _ z with z | z
                  · rw [f3] at z; cases z
                  · rw [e3] at z; cases z
              have e4 : H4 p = some (.lst acc) := x4.up _ _ e3 (by intro ps z; cases z)
              have x5 := (x1.trans x3).trans x4
              have r5 : Reps C g F4 (accD ++ [d]) (acc ++ [v]) := ((r1.up x3.fup).up x4.fup).append (.cons r4 .nil)
              refine ⟨acc, e4, by rw [r1.length]; exact small1000 (Nat.le_of_lt hl), F4, _, _, ⟨fun b u e n => ?_, fun b e => x5.dom b (upd_dom b e), x5.fup, x5.new, x5.w.poke e4 f4 n1 n2 n3⟩, f4, upd_same, r5, go⟩
              rw [upd_ne (ne_of_none e hp)]
              exact x5.up b u e n
            · cases go
    · have e0 : k = ds.length := by omega
      subst e0
      refine .inl ⟨w2, ?_⟩
      rw [List.drop_length] at go
      cases go
      exact h F1 H1 acc x1 f1 e1 r1
theorem lc_run {i : Nat} {J : It} {ds : List D} {tv : Tv} {ev : Ev} {Q : VK} (w0 : Wd C g A F H) (er0 : EnvRep C g F ρ σ) (wk : WalkOf C g A F ds J)
    (h : PostE C g A F H ((lcGo i tv ev (ρ.set i none) A ds []).bind fun l => .ok (.lst l)) Q E) : ∀ Dp, H Dp = none → ∃ W : Nat → Nat → Hp → Prop, (∃ m, W 0 m (upd H Dp (.lst []))) ∧ ∀ i' m H, W i' m H →
      (J.stop i' H ∧ Q (.ref Dp) H) ∨ (J.go i' H ∧ ∃ Nx : Hp → Prop, (∀ H', Nx H' → ∃ m', m' < m ∧ W (i' + 1) m' H') ∧ ∀ x H', J.yld i' H x H' → gName i x (wipe σ [i]) H' fun σ2 H2 => wipe σ2 [i] = wipe σ [i] ∧ tTv C E0 tv σ2 H2 fun b H3 =>
        if b = true then tEv C E0 ev σ2 H3 fun y H4 => ∃ acc, H4 Dp = some (.lst acc) ∧ acc.length < sizeLine ∧ Nx (upd H4 Dp (.lst (acc ++ [y]))) else Nx H3) := by
  intro p hp
  cases hR : lcGo i tv ev (ρ.set i none) A ds [] with
  | exc => exact absurd hR lcGo_exc
  | bad => rw [hR] at h; exact h.elim
  | ok l =>
    rw [hR] at h
    refine lc_raw w0 er0 wk hR p hp fun F1 H1 acc x1 f1 e1 r1 => ?_
    · have fz : F1 p = none := f1
      have sb : SubF F1 (upd F1 p (.lst acc)) := fun b u e => by
        rw [upd_ne (fun z => by rw [z, fz] at e; cases e)]
        exact e
      have nw : ∀ b u, upd F1 p (.lst acc) b = some u → F b = some u ∨ H b = none := fun b u e => by
        by_cases hb : b = p
        · subst hb; exact .inr hp
        · rw [upd_ne hb] at e; exact x1.new b u e
      have sb2 : SubF (upd F1 p (.lst acc)) H1 := fun b u e => by
        by_cases hb : b = p
        · subst hb; rw [upd_same] at e; rw [e1]; exact e
        · rw [upd_ne hb] at e; exact x1.w.sub _ _ e
      refine h (.ref p) (upd F1 p (.lst acc)) H1 ⟨x1.up, x1.dom, fun b u e => sb _ _ (x1.fup b u e), nw, w0.grow x1.up (fun b u e => sb _ _ (x1.fup b u e)) nw sb2 (fun b ps e => ?_) x1.w.tab⟩ ?_
      · by_cases hb : b = p
        · subst hb; rw [upd_same] at e; cases e
        · rw [upd_ne hb] at e; exact x1.w.nt _ _ e
      · simp only [Rep]
        exact ⟨p, acc, rfl, upd_same, r1.up sb⟩
section
variable {i : Nat} {x y : Str} {px py pos spos : Pos} {elt iter : Expr} {ifs : List Expr} {scope : Scope} {iv : Iv} {tv : Tv} {ev : Ev}
theorem ed_lc (hN : X.N.Nodup) (hi : PId C X E (.Name x px) iter iv) (ok : BlkOk X.N X.env.scope scope [(x, i)])
    (hg : ∀ (s : Shared) (H : Hp) (K : Addr) (cl : List (Str × Addr)) (fp : List Addr), PG (X.blk s H scope (compEnvC scope cl K X.env) fp) (.Name x px) (gName i))
    (ht : ∀ (s : Shared) (H : Hp) (K : Addr) (cl : List (Str × Addr)) (fp : List Addr), PTsd C (X.blk s H scope (compEnvC scope cl K X.env) fp) E0 ifs tv)
    (he : ∀ (s : Shared) (H : Hp) (K : Addr) (cl : List (Str × Addr)) (fp : List Addr), PEd C (X.blk s H scope (compEnvC scope cl K X.env) fp) E0 elt ev)
    (hc : X.calm = true := by rfl) (hs : ∀ x, foldedSetIterable iter X.env x = pure x := by intro _; rfl) : PEd C X E (.ListComp elt [⟨.Name x px, iter, ifs, 0⟩] scope pos) (vLc i iv tv ev) := by
  obtain ⟨wi, h1, h2⟩ := hi
  refine ⟨_, pe_lc (own := [(x, i)]) hc hN h1 ok hg ht (fun s H K cl fp => (he s H K cl fp).can) hs, fun g A F H σ ρ Q w er h => ?_⟩
  exact h2 g A F H σ ρ _ w er (PostG.bind h fun ds J F' H' x wk h => lc_run x.w (er.up x.fup) wk h)
theorem sd_setLc {j : Nat} (hN : X.N.Nodup) (hi : PId C X E (.Name x px) iter iv) (ok : BlkOk X.N X.env.scope scope [(x, i)])
    (hg : ∀ (s : Shared) (H : Hp) (K : Addr) (cl : List (Str × Addr)) (fp : List Addr), PG (X.blk s H scope (compEnvC scope cl K X.env) fp) (.Name x px) (gName i))
    (ht : ∀ (s : Shared) (H : Hp) (K : Addr) (cl : List (Str × Addr)) (fp : List Addr), PTsd C (X.blk s H scope (compEnvC scope cl K X.env) fp) E0 ifs tv)
    (he : ∀ (s : Shared) (H : Hp) (K : Addr) (cl : List (Str × Addr)) (fp : List Addr), PEd C (X.blk s H scope (compEnvC scope cl K X.env) fp) E0 elt ev)
    (hsw : swapsWith (.ListComp elt [⟨.Name x px, iter, ifs, 0⟩] scope pos) (some (.Name y py)) spos.line X.env = pure true)
    (hj : X.N[j]? = some y := by rfl) (hjl : X.env.scope.names.lookup y = some .local := by rfl) (hc : X.calm = true := by rfl) (hs : ∀ x, foldedSetIterable iter X.env x = pure x := by intro _; rfl) :
    PSd C X E (.Assign [.Name y py] (.ListComp elt [⟨.Name x px, iter, ifs, 0⟩] scope pos) spos) (sSet j (vLc i iv tv ev)) := by
  obtain ⟨wi, h1, h2⟩ := hi
  refine ⟨_, ps_setLc (own := [(x, i)]) hc hN hj hjl hsw h1 ok hg ht (fun s H K cl fp => (he s H K cl fp).can) hs, fun g A F H σ ρ D w er h => ?_⟩
  have h' : PostE C g A F H (vLc i iv tv ev ρ A) (fun v H' => D.nx (σ.set j (some v)) H') E := by
    unfold sSet at h
    cases q : vLc i iv tv ev ρ A with
    | ok d => rw [q] at h; exact fun v F' H' x r => h _ F' H' x ((er.up x.fup).set r)
    | exc => rw [q] at h; exact h
    | bad => rw [q] at h; exact h
  exact h2 g A F H σ ρ _ w er (PostG.bind h' fun ds J F' H' x wk h => lc_run x.w (er.up x.fup) wk h)
end
end

/-! ### defs -/
section
variable {C : Cs} {P : Program} {w : World} {mg : Str → Option Value} {base : Heap}
theorem start_rep {g : Gh} {F : Hp} {N : List Str} {ds : List D} {vs : List V} (r : Reps C g F ds vs) : EnvRep C g F (ds.map some ++ List.replicate (N.length - ds.length) none) (L2.start N vs) := by
  unfold L2.start
  refine ⟨by simp [r.length], fun i d e => ?_⟩
  by_cases hi : i < ds.length
  · rw [List.getElem?_append_left (by rw [List.length_map]; exact hi), List.getElem?_map] at e
    cases e0 : ds[i]? with
    | none => rw [e0] at e; cases e
    | some d' =>
      rw [e0] at e
      cases e
      obtain ⟨v, h1, h2⟩ := r.get e0
      exact ⟨v, by rw [List.getElem?_append_left (by rw [List.length_map, r.length]; exact hi), List.getElem?_map, h1]; rfl, h2⟩
  · rw [List.getElem?_append_right (by rw [List.length_map]; omega), List.getElem?_replicate] at e
    split at e <;> cases e
/-- a def that raises nothing -/
theorem fn_pure {x qual : Str} {st : Stmt} {f : Addr} {fd : FuncData} {N ps : List Str} {k : Nat} {sv : Sv} (Fn : Fun C.K x qual st f fd) (S : FnScope N ps (defScope st))
    (hbody : ∀ (cdv : Value) (A : Around) (outer : List PySem.Env) (s : Shared) (H : Hp) (E : XK), Room k (A.deeper (envOfC qual (defScope st) s.heap.objs.size f cdv)) →
      PSsd C (cxOf (L2.CX P w) P w C.K mg base N qual (defScope st) f cdv A outer s H E).nox E0 (defBody st) sv) :
    FnOk P w C.K mg base (L2.CX P w) (k + 1) f fd ps (spP C ps.length fun ds A => noexc (runF sv N.length ps.length ds A)) := by
  refine Fn.okX S (fun vs H Q E h => ?_) (fun cdv A outer s H vs Q E hr h => ?_)
  · obtain ⟨g, A, F, ds, _, r, hn, _⟩ := h
    rw [r.length, hn]
  · obtain ⟨g, B, F, ds, w0, r, hn, h⟩ := h
    obtain ⟨t, h1, h2⟩ := hbody cdv A outer s H E hr
    refine ⟨t, h1.nox, h2 g B F H _ _ _ w0 (start_rep (N := N) r) ?_⟩
    unfold runF at h
    dsimp only at h
    rw [hn]
    cases q : sv (ds.map some ++ List.replicate (N.length - ps.length) none) B with
    | next ρ => rw [q] at h; exact fun σ' F' H' x _ => h .non F' H' x (by simp [Rep])
    | ret d => rw [q] at h; exact h
    | exc => rw [q] at h; exact h.elim
    | bad => rw [q] at h; exact h.elim
/-- a def that may raise -/
theorem fn_pureX {x qual : Str} {st : Stmt} {f : Addr} {fd : FuncData} {N ps : List Str} {k : Nat} {sv : Sv} (Fn : Fun C.K x qual st f fd) (S : FnScope N ps (defScope st))
    (hbody : ∀ (cdv : Value) (A : Around) (outer : List PySem.Env) (s : Shared) (H : Hp) (E : XK), Room k (A.deeper (envOfC qual (defScope st) s.heap.objs.size f cdv)) →
      PSsd C (cxOf (L2.CX P w) P w C.K mg base N qual (defScope st) f cdv A outer s H E) E (defBody st) sv) :
    FnOk P w C.K mg base (L2.CX P w) (k + 1) f fd ps (spP C ps.length fun ds A => runF sv N.length ps.length ds A) := by
  refine Fn.okX S (fun vs H Q E h => ?_) (fun cdv A outer s H vs Q E hr h => ?_)
  · obtain ⟨g, A, F, ds, _, r, hn, _⟩ := h
    rw [r.length, hn]
  · obtain ⟨g, B, F, ds, w0, r, hn, h⟩ := h
    obtain ⟨t, h1, h2⟩ := hbody cdv A outer s H E hr
    refine ⟨t, h1, h2 g B F H _ _ _ w0 (start_rep (N := N) r) ?_⟩
    unfold runF at h
    dsimp only at h
    rw [hn]
    cases q : sv (ds.map some ++ List.replicate (N.length - ps.length) none) B with
    | next ρ => rw [q] at h; exact fun σ' F' H' x _ => h .non F' H' x (by simp [Rep])
    | ret d => rw [q] at h; exact h
    | exc => rw [q] at h; exact h
    | bad => rw [q] at h; exact h.elim
end
end FK
set_option Elab.async false
set_option linter.all false
set_option maxRecDepth 100000
/-! The data layer: what changes the host. -/
namespace FK
open PySem PySem.Spec PyProof.Rows L2

inductive ResE where
  | ok (d : D) (A : HostSt) | exc (A : HostSt) | bad
inductive OutE where
  | next (ρ : Env) (A : HostSt) | ret (d : D) (A : HostSt) | exc (A : HostSt) | bad
abbrev Ee := Env → HostSt → ResE
abbrev Se := Env → HostSt → OutE
section
variable (C : Cs)
/-- the host has become A' -/
structure Stp (g : Gh) (A : HostSt) (F H : Hp) (g' : Gh) (A' : HostSt) (F' H' : Hp) : Prop where
  dom : ∀ p, H' p = none → H p = none
  fup : SubF F F'
  new : ∀ p o, F' p = some o → F p = some o ∨ H p = none
  host : g'.host = g.host
  lo : g'.lo = g.lo
  lh : g'.lh = g.lh
  ad : ∀ t a, g.ad t = some a → g'.ad t = some a
  ver : A.ver ≤ A'.ver
  ln : A'.ver = A.ver → g'.ln = g.ln
  w : Wd C g' A' F' H'
def PostEE (g : Gh) (A : HostSt) (F H : Hp) (r : ResE) (Q : VK) (E : XK) : Prop :=
  match r with
  | .ok d A' => ∀ g' v F' H', Stp C g A F H g' A' F' H' → Rep C g' F' d v → Q v H'
  | .exc A' => ∀ g' F' H', Stp C g A F H g' A' F' H' → E (.ref C.CX) none H'
  | .bad => False
def PostSE (g : Gh) (A : HostSt) (F H : Hp) (o : OutE) (D : Ends) (E : XK) : Prop :=
  match o with
  | .next ρ A' => ∀ g' σ' F' H', Stp C g A F H g' A' F' H' → EnvRep C g' F' ρ σ' → D.nx σ' H'
  | .ret d A' => ∀ g' v F' H', Stp C g A F H g' A' F' H' → Rep C g' F' d v → D.rt v H'
  | .exc A' => ∀ g' F' H', Stp C g A F H g' A' F' H' → E (.ref C.CX) none H'
  | .bad => False
def spE (n : Nat) (f : List D → HostSt → ResE) : Sp := fun vs H Q E => ∃ g A F ds, Wd C g A F H ∧ Reps C g F ds vs ∧ ds.length = n ∧ PostEE C g A F H (f ds A) Q E
def PEe (X : Cx) (E : XK) (e : Expr) (ev : Ee) : Prop :=
  ∃ t, PE X e t ∧ ∀ g A F H σ ρ Q, Wd C g A F H → EnvRep C g F ρ σ → PostEE C g A F H (ev ρ A) Q E → t σ H Q
def PSe (X : Cx) (E : XK) (st : Stmt) (sv : Se) : Prop :=
  ∃ t, PS X st t ∧ ∀ g A F H σ ρ D, Wd C g A F H → EnvRep C g F ρ σ → PostSE C g A F H (sv ρ A) D E → t D σ H
def PSse (X : Cx) (E : XK) (st : List Stmt) (sv : Se) : Prop :=
  ∃ t, PSs X st t ∧ ∀ g A F H σ ρ D, Wd C g A F H → EnvRep C g F ρ σ → PostSE C g A F H (sv ρ A) D E → t D σ H
end
def lift (s : Sv) : Se := fun ρ A => match s ρ A with
  | .next ρ' => .next ρ' A
  | .ret d => .ret d A
  | .exc => .exc A
  | .bad => .bad
def eSeq (a b : Se) : Se := fun ρ A => match a ρ A with
  | .next ρ' A' => b ρ' A'
  | o => o
def eNil : Se := fun ρ A => .next ρ A
def eIf (t : Tv) (a b : Se) : Se := fun ρ A => match t ρ A with
  | .ok c => if c = true then a ρ A else b ρ A
  | .exc => .exc A
  | .bad => .bad
def eDrop (e : Ee) : Se := fun ρ A => match e ρ A with
  | .ok _ A' => .next ρ A'
  | .exc A' => .exc A'
  | .bad => .bad
def eRet (e : Ee) : Se := fun ρ A => match e ρ A with
  | .ok d A' => .ret d A'
  | .exc A' => .exc A'
  | .bad => .bad
def eSet (i : Nat) (e : Ee) : Se := fun ρ A => match e ρ A with
  | .ok d A' => .next (ρ.set i (some d)) A'
  | .exc A' => .exc A'
  | .bad => .bad
def eCall (n : Nat) (f : List D → HostSt → ResE) (es : Evs) : Ee := fun ρ A => match es ρ A with
  | .ok ds => if ds.length = n then f ds A else .bad
  | .exc => .exc A
  | .bad => .bad
def eMeth (n : Nat) (f : List D → HostSt → ResE) (o : Ev) (es : Evs) : Ee := fun ρ A => match o ρ A with
  | .ok .host => (match es ρ A with
    | .ok ds => if ds.length + 1 = n then f (.host :: ds) A else .bad
    | .exc => .exc A
    | .bad => .bad)
  | .ok _ => .bad
  | .exc => .exc A
  | .bad => .bad
def liftE (e : Ev) : Ee := fun ρ A => match e ρ A with
  | .ok d => .ok d A
  | .exc => .exc A
  | .bad => .bad
/-- a node's fields are stored -/
def HostSt.upd (A : HostSt) (t : Int) (f : Row → Row) : HostSt := { A with rows := A.rows.map fun r => if r.thing = t then f r else r }
def eStN (put : D → Option (Row → Row)) (e o : Ev) : Se := fun ρ A => match e ρ A with
  | .ok d => (match o ρ A with
    | .ok (.node t) => (match put d with
      | some f => (match A.row t with
        | some _ => .next ρ (A.upd t f)
        | none => .bad)
      | none => .bad)
    | .ok _ => .bad
    | .exc => .exc A
    | .bad => .bad)
  | .exc => .exc A
  | .bad => .bad
def eStH (put : D → Option (HostSt → HostSt)) (e o : Ev) : Se := fun ρ A => match e ρ A with
  | .ok d => (match o ρ A with
    | .ok .host => (match put d with
      | some f => .next ρ (f A)
      | none => .bad)
    | .ok _ => .bad
    | .exc => .exc A
    | .bad => .bad)
  | .exc => .exc A
  | .bad => .bad
def runE (sv : Se) (N n : Nat) (ds : List D) (A : HostSt) : ResE := match sv (ds.map some ++ List.replicate (N - n) none) A with
  | .next _ A' => .ok .non A'
  | .ret d A' => .ok d A'
  | .exc A' => .exc A'
  | .bad => .bad
def noexcE : ResE → ResE
  | .exc _ => .bad
  | r => r

section
variable {C : Cs} {X : Cx} {E : XK} {g g' g2 : Gh} {A A' A2 : HostSt} {F H F' H' F2 H2 : Hp} {σ : L2.St} {ρ : Env}
mutual
theorem Rep.stp (e : SubF F F') (h1 : g'.host = g.host) (h2 : g'.lo = g.lo) (h3 : g'.lh = g.lh) (h4 : ∀ t a, g.ad t = some a → g'.ad t = some a) : ∀ {d : D} {v : V}, Rep C g F d v → Rep C g' F' d v
  | .non, v, h => by simpa [Rep] using h
  | .bl b, v, h => by simpa [Rep] using h
  | .int i, v, h => by simpa [Rep] using h
  | .str x, v, h => by simpa [Rep] using h
  | .tup ds, v, h => by
    simp only [Rep] at h ⊢
    obtain ⟨a, vs, q1, q2, q3⟩ := h
    exact ⟨a, vs, q1, sqT_up e q2, Reps.stp e h1 h2 h3 h4 q3⟩
  | .lst ds, v, h => by
    simp only [Rep] at h ⊢
    obtain ⟨a, vs, q1, q2, q3⟩ := h
    exact ⟨a, vs, q1, e _ _ q2, Reps.stp e h1 h2 h3 h4 q3⟩
  | .rule r, v, h => by
    simp only [Rep] at h ⊢
    obtain ⟨a, q1, q2⟩ := h
    exact ⟨a, q1, q2.up e⟩
  | .host, v, h => by simp only [Rep] at h ⊢; rw [h1]; exact h
  | .opened, v, h => by simp only [Rep] at h ⊢; rw [h2]; exact h
  | .reads, v, h => by simp only [Rep] at h ⊢; rw [h3]; exact h
  | .node t, v, h => by
    simp only [Rep] at h ⊢
    obtain ⟨a, q1, q2⟩ := h
    exact ⟨a, h4 _ _ q1, q2⟩
theorem Reps.stp (e : SubF F F') (h1 : g'.host = g.host) (h2 : g'.lo = g.lo) (h3 : g'.lh = g.lh) (h4 : ∀ t a, g.ad t = some a → g'.ad t = some a) : ∀ {ds : List D} {vs : List V}, Reps C g F ds vs → Reps C g' F' ds vs
  | [], vs, h => by simpa [Reps] using h
  | d :: ds, vs, h => by
    simp only [Reps] at h ⊢
    obtain ⟨v, r, q1, q2, q3⟩ := h
    exact ⟨v, r, q1, Rep.stp e h1 h2 h3 h4 q2, Reps.stp e h1 h2 h3 h4 q3⟩
end
theorem Stp.rep (s : Stp C g A F H g' A' F' H') {d : D} {v : V} (h : Rep C g F d v) : Rep C g' F' d v := h.stp s.fup s.host s.lo s.lh s.ad
theorem Stp.reps (s : Stp C g A F H g' A' F' H') {d : List D} {v : List V} (h : Reps C g F d v) : Reps C g' F' d v := h.stp s.fup s.host s.lo s.lh s.ad
theorem Stp.env (s : Stp C g A F H g' A' F' H') (h : EnvRep C g F ρ σ) : EnvRep C g' F' ρ σ := ⟨h.1, fun i d q => by
  obtain ⟨v, h1, h2⟩ := h.2 i d q
  exact ⟨v, h1, s.rep h2⟩⟩
theorem Stp.refl (w : Wd C g A F H) : Stp C g A F H g A F H := ⟨fun _ h => h, fun _ _ h => h, fun _ _ h => .inl h, rfl, rfl, rfl, fun _ _ h => h, Nat.le_refl _, fun _ => rfl, w⟩
theorem Stp.trans (a : Stp C g A F H g' A' F' H') (b : Stp C g' A' F' H' g2 A2 F2 H2) : Stp C g A F H g2 A2 F2 H2 := by
  refine ⟨fun p h => a.dom p (b.dom p h), fun p o h => b.fup p o (a.fup p o h), fun p o h => ?_, b.host.trans a.host, b.lo.trans a.lo, b.lh.trans a.lh, fun t x h => b.ad t x (a.ad t x h), Nat.le_trans a.ver b.ver, fun h => ?_, b.w⟩
  · rcases b.new p o h with z | z
    · exact a.new p o z
    · exact .inr (a.dom p z)
  · have h1 := a.ver
    have h2 := b.ver
    have e1 : A'.ver = A.ver := by omega
    have e2 : A2.ver = A'.ver := by omega
    rw [b.ln e2, a.ln e1]
theorem Ext.stp (x : Ext C g A F H F' H') : Stp C g A F H g A F' H' := ⟨x.dom, x.fup, x.new, rfl, rfl, rfl, fun _ _ h => h, Nat.le_refl _, fun _ => rfl, x.w⟩
theorem PostSE.trans {o : OutE} {D : Ends} (x : Stp C g A F H g' A' F' H') (h : PostSE C g A F H o D E) : PostSE C g' A' F' H' o D E := by
  cases o with
  | next ρ B => exact fun g2 σ F2 H2 e q => h g2 σ F2 H2 (x.trans e) q
  | ret d B => exact fun g2 v F2 H2 e q => h g2 v F2 H2 (x.trans e) q
  | exc B => exact fun g2 F2 H2 e => h g2 F2 H2 (x.trans e)
  | bad => exact h
theorem PostEE.trans {o : ResE} {Q : VK} (x : Stp C g A F H g' A' F' H') (h : PostEE C g A F H o Q E) : PostEE C g' A' F' H' o Q E := by
  cases o with
  | ok d B => exact fun g2 v F2 H2 e q => h g2 v F2 H2 (x.trans e) q
  | exc B => exact fun g2 F2 H2 e => h g2 F2 H2 (x.trans e)
  | bad => exact h

section
variable {e : Expr} {ev : Ev} {ee : Ee} {st : Stmt} {sts : List Stmt} {sv sv' : Se} {s : Sv} {pos pos' : Pos} {i j : Nat}
theorem se_lift (h : PSd C X E st s) : PSe C X E st (lift s) := by
  obtain ⟨t, h1, h2⟩ := h
  refine ⟨t, h1, fun g A F H σ ρ D w er h => h2 g A F H σ ρ D w er ?_⟩
  unfold lift at h
  cases q : s ρ A with
  | next ρ' => rw [q] at h; exact fun σ' F' H' x er' => h g σ' F' H' x.stp er'
  | ret d => rw [q] at h; exact fun v F' H' x r => h g v F' H' x.stp r
  | exc => rw [q] at h; exact fun F' H' x => h g F' H' x.stp
  | bad => rw [q] at h; exact h
theorem se_nil : PSse C X E [] eNil := ⟨_, pss_nil, fun g A F H σ ρ D w er h => h g σ F H (Stp.refl w) er⟩
theorem se_cons (h : PSe C X E st sv) (hs : PSse C X E sts sv') : PSse C X E (st :: sts) (eSeq sv sv') := by
  obtain ⟨t, h1, h2⟩ := h
  obtain ⟨u, h3, h4⟩ := hs
  refine ⟨_, pss_cons h1 h3, fun g A F H σ ρ D w er h => ?_⟩
  refine h2 g A F H σ ρ _ w er ?_
  unfold eSeq at h
  cases q : sv ρ A with
  | next ρ' A' =>
    rw [q] at h
    exact fun g' σ' F' H' x er' => h4 g' A' F' H' σ' ρ' D x.w er' (PostSE.trans x h)
  | ret d A' => rw [q] at h; exact h
  | exc A' => rw [q] at h; exact h
  | bad => rw [q] at h; exact h
theorem se_one (h : PSe C X E st sv) : PSse C X E [st] sv := by
  obtain ⟨t, h1, h2⟩ := h
  exact ⟨_, pss_one h1, h2⟩
theorem se_if {c : Expr} {tv : Tv} {a b : List Stmt} {va vb : Se} (hc : PTd C X E c tv) (ha : PSse C X E a va) (hb : PSse C X E b vb) : PSe C X E (.If c a b pos) (eIf tv va vb) := by
  obtain ⟨t, h1, h2⟩ := hc
  obtain ⟨u, h3, h4⟩ := ha
  obtain ⟨u', h5, h6⟩ := hb
  refine ⟨_, ps_if h1 h3 h5, fun g A F H σ ρ D w er h => ?_⟩
  refine h2 g A F H σ ρ _ w er ?_
  unfold eIf at h
  cases q : tv ρ A with
  | ok k =>
    rw [q] at h
    intro b F' H' x e
    subst e
    dsimp only at h
    by_cases hk : k = true
    · rw [if_pos hk] at h ⊢
      exact h4 g A F' H' σ ρ D x.w (er.up x.fup) (PostSE.trans x.stp h)
    · rw [if_neg hk] at h ⊢
      exact h6 g A F' H' σ ρ D x.w (er.up x.fup) (PostSE.trans x.stp h)
  | exc => rw [q] at h; exact fun F' H' x => h g F' H' x.stp
  | bad => rw [q] at h; exact h
theorem se_drop (he : PEe C X E e ee) (hsw : swapsWith e none pos.line X.env = pure false := by rfl) : PSe C X E (.Expr e pos) (eDrop ee) := by
  obtain ⟨t, h1, h2⟩ := he
  refine ⟨_, ps_expr h1 hsw, fun g A F H σ ρ D w er h => ?_⟩
  refine h2 g A F H σ ρ _ w er ?_
  unfold eDrop at h
  cases q : ee ρ A with
  | ok d A' => rw [q] at h; exact fun g' v F' H' x r => h g' σ F' H' x (x.env er)
  | exc A' => rw [q] at h; exact h
  | bad => rw [q] at h; exact h
theorem se_ret (he : PEe C X E e ee) : PSe C X E (.Return (some e) pos) (eRet ee) := by
  obtain ⟨t, h1, h2⟩ := he
  refine ⟨_, ps_ret h1, fun g A F H σ ρ D w er h => ?_⟩
  refine h2 g A F H σ ρ _ w er ?_
  unfold eRet at h
  cases q : ee ρ A with
  | ok d A' => rw [q] at h; exact h
  | exc A' => rw [q] at h; exact h
  | bad => rw [q] at h; exact h
theorem se_set {x : Str} (hN : X.N.Nodup) (he : PEe C X E e ee) (hi : X.N[i]? = some x := by rfl) (hx : Loc X.env.scope x := by first | exact Or.inl rfl | exact Or.inr rfl) (hf : X.fn x = true ∨ X.env.scope.names.lookup x = some .local := by first | exact .inl rfl | exact .inr rfl)
    (hsw : swapsWithSole [.Name x pos'] e pos.line X.env = pure false := by rfl) (hsw2 : swappedStores [.Name x pos'] e X.env = pure none := by rfl) : PSe C X E (.Assign [.Name x pos'] e pos) (eSet i ee) := by
  obtain ⟨t, h1, h2⟩ := he
  refine ⟨_, ps_asg h1 (pg_name hN hi hx hf) hsw hsw2, fun g A F H σ ρ D w er h => ?_⟩
  refine h2 g A F H σ ρ _ w er ?_
  unfold eSet at h
  cases q : ee ρ A with
  | ok d A' => rw [q] at h; exact fun g' v F' H' x r => h g' _ F' H' x ((x.env er).set r)
  | exc A' => rw [q] at h; exact h
  | bad => rw [q] at h; exact h
theorem ee_lift (h : PEd C X E e ev) : PEe C X E e (liftE ev) := by
  obtain ⟨t, h1, h2⟩ := h
  refine ⟨t, h1, fun g A F H σ ρ Q w er h => h2 g A F H σ ρ Q w er ?_⟩
  unfold liftE at h
  cases q : ev ρ A with
  | ok d => rw [q] at h; exact fun v F' H' x r => h g v F' H' x.stp r
  | exc => rw [q] at h; exact fun F' H' x => h g F' H' x.stp
  | bad => rw [q] at h; exact h
end
section
variable {k : Nat} {f : Addr} {fd : FuncData} {ps : List Str} {x : Str} {e o : Expr} {es : List Expr} {ev : Ev} {evs : Evs} {fE : List D → HostSt → ResE} {pos p apos : Pos} {m : Str} {n : Nat}
theorem ee_call (hx : Passes (L2.CX X.prog X.w) X E) (G : FnOk X.prog X.w X.K X.mg X.base (L2.CX X.prog X.w) k f fd ps (spE C n fE)) (hr : Room k X.A) (hm : X.mg x = some (.ref f)) (hk : PySem.W.keepIn X.K (.ref f) = true) (hb : Binds X.K fd ps [])
    (ha : PAd C X E (e :: es) evs) (hg : Gl X x := by rfl) (hdb : (x == ("__debug__" : Str)) = false := by decide) (he : starEach (e :: es) X.env = (false, eval e X.env) :: starEach es X.env := by rfl) (hpl : (backTo pos (starEach es X.env)).any (·.1) = false := by rfl) :
    PEe C X E (.Call (.Name x p) (e :: es) [] pos) (eCall n fE evs) := by
  obtain ⟨t, h1, h2⟩ := ha
  refine ⟨_, pe_call (dvs := []) G hr hg hm hk hb .nil hx h1 hdb he hpl, fun g A F H σ ρ Q w er h => ?_⟩
  refine h2 g A F H σ ρ _ w er ?_
  unfold eCall at h
  cases q : evs ρ A with
  | ok ds =>
    rw [q] at h
    dsimp only at h
    intro vs F' H' x r
    split at h
    · rename_i hn
      rw [List.append_nil]
      exact ⟨g, A, F', ds, x.w, r, hn, PostEE.trans x.stp h⟩
    · exact h.elim
  | exc => rw [q] at h; exact fun F' H' x => h g F' H' x.stp
  | bad => rw [q] at h; exact h
theorem ee_meth {pl : Sem Bool} (T : Txt C X.mg) (hx : Passes (L2.CX X.prog X.w) X E) (hm : Meth X.K C.CH m f) (G : FnOk X.prog X.w X.K X.mg X.base (L2.CX X.prog X.w) k f fd ps (spE C n fE)) (hr : Room k X.A) (hb : Binds X.K fd ps [])
    (ho : PEd C X E o ev) (ha : PAd C X E (e :: es) evs) (hK : X.K = C.K := by rfl) (hno : hostNames.contains m = false := by decide +kernel)
    (hst : starEach (e :: es) X.env = (false, eval e X.env) :: starEach es X.env := by rfl) (hpl : (backTo pos (starEach es X.env)).any (·.1) = false := by rfl)
    (ht : eval (.Call (.Attribute o m apos) (e :: es) [] pos) X.env = (do
      let ov ← eval o X.env
      standAt apos.atName
      let (f, first) ← holding [ov] (getMethod ov m pl)
      callWith pos f first (backTo pos (starEach (e :: es) X.env)) (backToKw pos (keywordEach [] X.env))) := by rfl) :
    PEe C X E (.Call (.Attribute o m apos) (e :: es) [] pos) (eMeth n fE ev evs) := by
  obtain ⟨t0, h01, h02⟩ := ho
  obtain ⟨t, h1, h2⟩ := ha
  have cl : Cls X.K C.CH := by rw [hK]; exact T.clH
  refine ⟨_, pe_meth (dvs := []) h01 cl hm G hr hb .nil hx h1 hst hpl ht, fun g A F H σ ρ Q w er h => ?_⟩
  refine h02 g A F H σ ρ _ w er ?_
  unfold eMeth at h
  cases q : ev ρ A with
  | ok d =>
    rw [q] at h
    intro v F' H' x r
    split at h
    · rename_i e0
      cases e0
      simp only [Rep] at r
      subst r
      obtain ⟨ra, q1, q2⟩ := x.w.host
      refine ⟨g.host, g.hdx, _, rfl, q1, host_no hno, ?_⟩
      refine h2 g A F' H' σ ρ _ x.w (er.up x.fup) ?_
      cases q3 : evs ρ A with
      | ok ds =>
        rw [q3] at h
        dsimp only at h
        intro vs F2 H2 x2 r2
        split at h
        · rename_i hn
          rw [List.append_nil]
          exact ⟨g, A, F2, .host :: ds, x2.w, .cons (by simp [Rep]) r2, by simpa using hn, PostEE.trans (x.trans x2).stp h⟩
        · exact h.elim
      | exc => rw [q3] at h; exact fun F2 H2 x2 => h g F2 H2 (x.trans x2).stp
      | bad => rw [q3] at h; exact h
    · exact h.elim
    · rename_i e0; cases e0
    · rename_i e0; cases e0
  | exc => rw [q] at h; exact fun F' H' x => h g F' H' x.stp
  | bad => rw [q] at h; exact h
end

/-! ### stores -/
theorem upd_get {p q : Addr} {o : HO} : upd H p o q = if q = p then some o else H q := rfl
/-- a node's instance is changed -/
theorem Wd.setRow {t : Int} {f : Row → Row} {a dx : Addr} {fs fs' : List (Str × V)} {r0 : Row} (w : Wd C g A F H) (e0 : A.row t = some r0) (ea : g.ad t = some a) (hH : H a = some (.ins C.CN dx fs))
    (hp : ∀ r pa, r.thing = t → nodeF pa r = fs → SqT C.K F pa (r.path.map .str) → ∃ pa', fs' = nodeF pa' (f r) ∧ SqT C.K F pa' ((f r).path.map .str)) (ht : ∀ r, (f r).thing = r.thing) : Wd C g (A.upd t f) F (upd H a (.ins C.CN dx fs')) := by
  have fa : F a = none := by
    obtain ⟨vs, _, hr⟩ := w.nodes
    obtain ⟨a', h1, h2, _⟩ := hr.find e0
    rw [ea] at h1
    cases h1
    exact h2
  have ne : ∀ b u, H b = some u → (∀ fs, u ≠ .ins C.CN dx fs) → upd H a (.ins C.CN dx fs') b = some u := fun b u e n => by
    rw [upd_ne (fun z => n fs (by rw [z, hH] at e; exact (Option.some.inj e).symm))]
    exact e
  obtain ⟨ra, a1, a2⟩ := w.host
  obtain ⟨vs, a3, a4⟩ := w.nodes
  obtain ⟨us, a5, a6⟩ := w.had
  have hh : g.host ≠ a := fun z => by
    obtain ⟨vs, _, hr⟩ := w.nodes
    obtain ⟨a', h1, _, dx', pa, h3, h4⟩ := hr.find e0
    rw [ea] at h1
    cases h1
    rw [z, h3] at a1
    have := Option.some.inj a1
    injection this with _ _ z3
    have := congrArg List.length z3
    simp [nodeF, hostF] at this
  refine ⟨fun b u e => ?_, w.nt, ?_, ⟨ra, ?_, a2⟩, ⟨vs, ne _ _ a3 (by intro ys q; cases q), ?_⟩, ne _ _ w.opened (by intro ys q; cases q), ⟨us, ne _ _ a5 (by intro ys q; cases q), a6⟩, w.fhost, w.fln, w.flo, w.flh, w.ad, w.dj1, w.dj2, w.dj3⟩
  · rw [upd_ne (fun z => by rw [z, fa] at e; cases e)]
    exact w.sub _ _ e
  · obtain ⟨ps, b1, b2, b3⟩ := w.tab
    refine ⟨ps, ne _ _ b1 (by intro ys q; cases q), b2, fun pos cv hc => ?_⟩
    obtain ⟨c, c1, c2⟩ := b3 pos cv hc
    exact ⟨c, c1, ne _ _ c2 (by intro ys q; unfold LamX.CodeO at q; cases q)⟩
  · rw [upd_ne hh]
    exact a1
  · show RowsAt C g F _ (A.rows.map fun r => if r.thing = t then f r else r) vs
    generalize A.rows = rs at a4
    clear a3
    induction rs generalizing vs with
    | nil => exact a4
    | cons r rs ih =>
      obtain ⟨b, vr, rfl, q2, q3, ⟨dy, pa, q4, q5⟩, q6⟩ := a4
      by_cases hr : r.thing = t
      · have eb : b = a := by
          rw [hr, ea] at q2
          exact (Option.some.inj q2).symm
        subst eb
        rw [hH] at q4
        have q7 := Option.some.inj q4
        injection q7 with _ q8 q9
        obtain ⟨pa', z1, z2⟩ := hp r pa hr q9.symm q5
        refine ⟨b, vr, rfl, ?_, q3, ?_, ih vr q6⟩
        · dsimp only; rw [if_pos hr, ht, hr]
          exact ea
        · dsimp only; rw [if_pos hr]
          exact ⟨dx, pa', by rw [upd_same, z1], z2⟩
      · refine ⟨b, vr, rfl, ?_, q3, ?_, ih vr q6⟩
        · dsimp only; rw [if_neg hr]
          exact q2
        · dsimp only; rw [if_neg hr]
          by_cases hb : b = a
          · subst hb
            rw [hH] at q4
            have q7 := Option.some.inj q4
            injection q7 with _ q8 q9
            exfalso
            obtain ⟨vs, _, hr'⟩ := w.nodes
            obtain ⟨a', h1, _, dx', pa', h3, h4⟩ := hr'.find e0
            rw [ea] at h1
            cases h1
            rw [hH] at h3
            have q10 := Option.some.inj h3
            injection q10 with _ _ q11
            rw [q9] at q11
            have e1 : r0.thing = t := by
              have := List.find?_some e0
              exact of_decide_eq_true this
            simp only [nodeF, List.cons.injEq, Prod.mk.injEq, V.int.injEq, true_and] at q11
            exact hr (q11.2.2.1.trans e1)
          · exact ⟨dy, pa, by rw [upd_ne hb]; exact q4, q5⟩
/-- the host's own instance is changed -/
theorem Wd.setHost {A' : HostSt} {ra : Addr} (w : Wd C g A F H) (hH : H g.host = some (.ins C.CH g.hdx (hostF ra g A))) (hR : RuleAt C F ra A.rule) (hr : A'.rule = A.rule) (h1 : A'.rows = A.rows) (h2 : A'.opened = A.opened) (h3 : A'.had = A.had) (h4 : A.next ≤ A'.next) :
    Wd C g A' F (upd H g.host (.ins C.CH g.hdx (hostF ra g A'))) := by
  have ne : ∀ b u, H b = some u → (∀ fs, u ≠ .ins C.CH g.hdx fs) → upd H g.host (.ins C.CH g.hdx (hostF ra g A')) b = some u := fun b u e n => by
    rw [upd_ne (fun z => n _ (by rw [z, hH] at e; exact (Option.some.inj e).symm))]
    exact e
  obtain ⟨vs, a3, a4⟩ := w.nodes
  obtain ⟨us, a5, a6⟩ := w.had
  refine ⟨fun b u e => ?_, w.nt, ?_, ⟨ra, upd_same, by rw [hr]; exact hR⟩, ⟨vs, ne _ _ a3 (by intro ys q; cases q), ?_⟩, by rw [h2]; exact ne _ _ w.opened (by intro ys q; cases q), ⟨us, ne _ _ a5 (by intro ys q; cases q), by rw [h3]; exact a6⟩, w.fhost, w.fln, w.flo, w.flh, fun t a e => Int.lt_of_lt_of_le (w.ad t a e) h4, w.dj1, w.dj2, w.dj3⟩
  · rw [upd_ne (fun z => by rw [z, w.fhost] at e; cases e)]
    exact w.sub _ _ e
  · obtain ⟨ps, b1, b2, b3⟩ := w.tab
    refine ⟨ps, ne _ _ b1 (by intro ys q; cases q), b2, fun pos cv hc => ?_⟩
    obtain ⟨c, c1, c2⟩ := b3 pos cv hc
    exact ⟨c, c1, ne _ _ c2 (by intro ys q; unfold LamX.CodeO at q; cases q)⟩
  · rw [h1]
    generalize A.rows = rs at a4
    clear a3
    induction rs generalizing vs with
    | nil => exact a4
    | cons r rs ih =>
      obtain ⟨b, vr, rfl, q2, q3, ⟨dy, pa, q4, q5⟩, q6⟩ := a4
      refine ⟨b, vr, rfl, q2, q3, ⟨dy, pa, ?_, q5⟩, ih vr q6⟩
      rw [upd_ne]
      · exact q4
      · rintro rfl
        rw [hH] at q4
        have := Option.some.inj q4
        injection this with _ _ z3
        have := congrArg List.length z3
        simp [nodeF, hostF] at this
end
end FK
set_option Elab.async false
set_option linter.all false
set_option maxRecDepth 100000
/-! The data layer: stores to fields, lists of the host. -/
namespace FK
open PySem PySem.Spec PyProof.Rows L2
def putText : D → Option (Row → Row)
  | .str s => some fun r => { r with text := s }
  | _ => none
def putRuns : D → Option (Row → Row)
  | .bl s => some fun r => { r with runs := s }
  | _ => none
def putCount : D → Option (Row → Row)
  | .int s => some fun r => { r with count := s }
  | _ => none
def putCuts : D → Option (Row → Row)
  | .int s => some fun r => { r with cuts := s }
  | _ => none
def putStaged : D → Option (Row → Row)
  | .bl s => some fun r => { r with staged := s }
  | _ => none
def putArea : D → Option (Row → Row)
  | .int s => some fun r => { r with area := .i s }
  | .str s => some fun r => { r with area := .s s }
  | _ => none
def putPath : D → Option (Row → Row)
  | .tup ds => (strsOf ds).map fun p => fun r => { r with path := p }
  | _ => none
def putTurned : D → Option (HostSt → HostSt)
  | .int s => some fun A => { A with turned := s }
  | _ => none
section
variable {C : Cs}
def PutOk (C : Cs) (f : Str) (put : D → Option (Row → Row)) : Prop := f ∈ nodeNames ∧ ∀ (g : Gh) (F : Hp) (d : D) (v : V) (fn : Row → Row), Rep C g F d v → put d = some fn →
  (∀ r pa, SqT C.K F pa (r.path.map .str) → ∃ pa', putF f v (nodeF pa r) = nodeF pa' (fn r) ∧ SqT C.K F pa' ((fn r).path.map .str)) ∧ ∀ r, (fn r).thing = r.thing
theorem put_text : PutOk C "text" putText := ⟨by decide +kernel, fun g F d v fn r e => by
  cases d <;> simp only [putText, Option.some.injEq, reduceCtorEq] at e
  subst e
  simp only [Rep] at r
  subst r
  exact ⟨fun r pa h => ⟨pa, rfl, h⟩, fun _ => rfl⟩⟩
theorem put_runs : PutOk C "runs" putRuns := ⟨by decide +kernel, fun g F d v fn r e => by
  cases d <;> simp only [putRuns, Option.some.injEq, reduceCtorEq] at e
  subst e
  simp only [Rep] at r
  subst r
  exact ⟨fun r pa h => ⟨pa, rfl, h⟩, fun _ => rfl⟩⟩
theorem put_count : PutOk C "count" putCount := ⟨by decide +kernel, fun g F d v fn r e => by
  cases d <;> simp only [putCount, Option.some.injEq, reduceCtorEq] at e
  subst e
  simp only [Rep] at r
  subst r
  exact ⟨fun r pa h => ⟨pa, rfl, h⟩, fun _ => rfl⟩⟩
theorem put_cuts : PutOk C "cuts" putCuts := ⟨by decide +kernel, fun g F d v fn r e => by
  cases d <;> simp only [putCuts, Option.some.injEq, reduceCtorEq] at e
  subst e
  simp only [Rep] at r
  subst r
  exact ⟨fun r pa h => ⟨pa, rfl, h⟩, fun _ => rfl⟩⟩
theorem put_staged : PutOk C "staged" putStaged := ⟨by decide +kernel, fun g F d v fn r e => by
  cases d <;> simp only [putStaged, Option.some.injEq, reduceCtorEq] at e
  subst e
  simp only [Rep] at r
  subst r
  exact ⟨fun r pa h => ⟨pa, rfl, h⟩, fun _ => rfl⟩⟩
theorem put_area : PutOk C "area" putArea := ⟨by decide +kernel, fun g F d v fn r e => by
  cases d <;> simp only [putArea, Option.some.injEq, reduceCtorEq] at e
  all_goals
    subst e
    simp only [Rep] at r
    subst r
    exact ⟨fun r pa h => ⟨pa, rfl, h⟩, fun _ => rfl⟩⟩
theorem put_path : PutOk C "path" putPath := ⟨by decide +kernel, fun g F d v fn r e => by
  cases d <;> simp only [putPath, Option.map_eq_some_iff, reduceCtorEq] at e
  obtain ⟨p, e1, rfl⟩ := e
  simp only [Rep] at r
  obtain ⟨a, vs, rfl, h1, h2⟩ := r
  have e2 := strs_rep h2 e1
  subst e2
  exact ⟨fun r pa h => ⟨a, rfl, h1⟩, fun _ => rfl⟩⟩
end
section
variable {C : Cs} {X : Cx} {E : XK} {e o : Expr} {ev eo : Ev} {pos pos' : Pos}
theorem se_stN {f : Str} {put : D → Option (Row → Row)} (T : Txt C X.mg) (hp : PutOk C f put) (ho : PEd C X E o eo) (he : PEd C X E e ev) (hK : X.K = C.K := by rfl) (hs : swapsWith e (some (.Attribute o f pos')) pos.line X.env = pure false := by rfl) :
    PSe C X E (.Assign [.Attribute o f pos'] e pos) (eStN put ev eo) := by
  obtain ⟨t, h1, h2⟩ := he
  obtain ⟨u, h3, h4⟩ := ho
  refine ⟨_, ps_fld h3 h1 hs, fun g A F H σ ρ D w er h => ?_⟩
  refine h2 g A F H σ ρ _ w er ?_
  unfold eStN at h
  cases q : ev ρ A with
  | exc => rw [q] at h; exact fun F' H' x => h g F' H' x.stp
  | bad => rw [q] at h; exact h
  | ok d =>
    rw [q] at h
    dsimp only at h
    intro v F' H' x r
    refine h4 g A F' H' σ ρ _ x.w (er.up x.fup) ?_
    cases q2 : eo ρ A with
    | exc => rw [q2] at h; exact fun F2 H2 x2 => h g F2 H2 (x.trans x2).stp
    | bad => rw [q2] at h; exact h
    | ok d2 =>
      rw [q2] at h
      cases d2 with
      | node t =>
        dsimp only at h
        cases q3 : put d with
        | none => rw [q3] at h; exact h.elim
        | some fn =>
          rw [q3] at h
          dsimp only at h
          cases q4 : A.row t with
          | none => rw [q4] at h; exact h.elim
          | some r0 =>
            rw [q4] at h
            dsimp only at h
            intro vo F2 H2 x2 r2
            simp only [Rep] at r2
            obtain ⟨a, ea, rfl⟩ := r2
            obtain ⟨vs, _, hr⟩ := x2.w.nodes
            obtain ⟨a', z1, z2, dx, pa, z3, z4⟩ := hr.find q4
            rw [ea] at z1
            cases z1
            obtain ⟨hp1, hp2⟩ := hp.2 g F2 d v fn (r.up x2.fup) q3
            refine ⟨a, C.CN, dx, _, rfl, z3, by rw [hK]; exact T.clN, by rw [hK]; exact T.nN f hp.1, by simp [nodeF], ?_⟩
            have w3 := x2.w.setRow (fs' := putF f v (nodeF pa r0)) q4 ea z3 (fun r pa' hr e hs => by rw [← e]; exact hp1 r pa' hs) hp2
            refine h g σ F2 _ ((x.trans x2).stp.trans ⟨fun p e => upd_dom p e, fun _ _ h => h, fun _ _ h => .inl h, rfl, rfl, rfl, fun _ _ h => h, Nat.le_refl _, fun _ => rfl, w3⟩) ((er.up x.fup).up x2.fup)
      | _ => exact h.elim
theorem se_turned (T : Txt C X.mg) (ho : PEd C X E o eo) (he : PEd C X E e ev) (hK : X.K = C.K := by rfl) (hs : swapsWith e (some (.Attribute o "turned" pos')) pos.line X.env = pure false := by rfl) :
    PSe C X E (.Assign [.Attribute o "turned" pos'] e pos) (eStH putTurned ev eo) := by
  obtain ⟨t, h1, h2⟩ := he
  obtain ⟨u, h3, h4⟩ := ho
  refine ⟨_, ps_fld h3 h1 hs, fun g A F H σ ρ D w er h => ?_⟩
  refine h2 g A F H σ ρ _ w er ?_
  unfold eStH at h
  cases q : ev ρ A with
  | exc => rw [q] at h; exact fun F' H' x => h g F' H' x.stp
  | bad => rw [q] at h; exact h
  | ok d =>
    rw [q] at h
    dsimp only at h
    intro v F' H' x r
    refine h4 g A F' H' σ ρ _ x.w (er.up x.fup) ?_
    cases q2 : eo ρ A with
    | exc => rw [q2] at h; exact fun F2 H2 x2 => h g F2 H2 (x.trans x2).stp
    | bad => rw [q2] at h; exact h
    | ok d2 =>
      rw [q2] at h
      cases d2 with
      | host =>
        cases d with
        | int z =>
          dsimp only [putTurned] at h
          intro vo F2 H2 x2 r2
          simp only [Rep] at r2 r
          subst r2
          subst r
          obtain ⟨ra, a1, a2⟩ := x2.w.host
          refine ⟨g.host, C.CH, g.hdx, _, rfl, a1, by rw [hK]; exact T.clH, by rw [hK]; exact T.nH _ (by decide +kernel), by simp [hostF], ?_⟩
          have w3 := x2.w.setHost (A' := { A with turned := z }) a1 a2 rfl rfl rfl rfl (Int.le_refl _)
          exact h g σ F2 _ ((x.trans x2).stp.trans ⟨fun p e => upd_dom p e, fun _ _ h => h, fun _ _ h => .inl h, rfl, rfl, rfl, fun _ _ h => h, Nat.le_refl _, fun _ => rfl, w3⟩) ((er.up x.fup).up x2.fup)
        | _ => exact h.elim
      | _ => exact h.elim
end

/-! ### the lists of the host -/
def ePush (o : Ev) (e : Ev) : Se := fun ρ A => match o ρ A with
  | .ok .reads => (match e ρ A with
    | .ok (.tup [.int t, .int c]) => if A.had.length < 1000 then .next ρ { A with had := A.had ++ [(t, c)] } else .bad
    | .ok _ => .bad
    | .exc => .exc A
    | .bad => .bad)
  | .ok _ => .bad
  | .exc => .exc A
  | .bad => .bad
def eInsert (o : Ev) (e : Ev) : Se := fun ρ A => match o ρ A with
  | .ok .opened => (match e ρ A with
    | .ok (.int t) => if A.opened.length < 1000 then .next ρ { A with opened := t :: A.opened } else .bad
    | .ok _ => .bad
    | .exc => .exc A
    | .bad => .bad)
  | .ok _ => .bad
  | .exc => .exc A
  | .bad => .bad
def eRemove (o : Ev) (e : Ev) : Se := fun ρ A => match o ρ A with
  | .ok .opened => (match e ρ A with
    | .ok (.int t) => if t ∈ A.opened then .next ρ { A with opened := A.opened.erase t } else .bad
    | .ok _ => .bad
    | .exc => .exc A
    | .bad => .bad)
  | .ok _ => .bad
  | .exc => .exc A
  | .bad => .bad
section
variable {C : Cs} {X : Cx} {E : XK} {g : Gh} {A : HostSt} {F H : Hp}
theorem Wd.opened_ (w : Wd C g A F H) (l : List Int) : Wd C g { A with opened := l } F (upd H g.lo (.lst (l.map .int))) := by
  have ne : ∀ b u, H b = some u → b ≠ g.lo → upd H g.lo (.lst (l.map .int)) b = some u := fun b u e n => by
    rw [upd_ne n]
    exact e
  have nl : ∀ b u, H b = some u → (∀ ys, u ≠ .lst ys) → b ≠ g.lo := fun b u e n z => by
    rw [z, w.opened] at e
    exact n _ (Option.some.inj e).symm
  obtain ⟨ra, a1, a2⟩ := w.host
  obtain ⟨vs, a3, a4⟩ := w.nodes
  obtain ⟨us, a5, a6⟩ := w.had
  refine ⟨fun b u e => ?_, w.nt, ?_, ⟨ra, ne _ _ a1 (nl _ _ a1 (by intro ys q; cases q)), a2⟩, ⟨vs, ne _ _ a3 w.dj1, ?_⟩, upd_same, ⟨us, ne _ _ a5 w.dj3.symm, a6⟩, w.fhost, w.fln, w.flo, w.flh, w.ad, w.dj1, w.dj2, w.dj3⟩
  · rw [upd_ne (fun z => by rw [z, w.flo] at e; cases e)]
    exact w.sub _ _ e
  · obtain ⟨ps, b1, b2, b3⟩ := w.tab
    refine ⟨ps, ne _ _ b1 (nl _ _ b1 (by intro ys q; cases q)), b2, fun pos cv hc => ?_⟩
    obtain ⟨c, c1, c2⟩ := b3 pos cv hc
    exact ⟨c, c1, ne _ _ c2 (nl _ _ c2 (by intro ys q; unfold LamX.CodeO at q; cases q))⟩
  · show RowsAt C g F _ A.rows vs
    generalize A.rows = rs at a4
    clear a3
    induction rs generalizing vs with
    | nil => exact a4
    | cons r rs ih =>
      obtain ⟨a, vr, rfl, q2, q3, ⟨dx, pa, q4, q5⟩, q6⟩ := a4
      exact ⟨a, vr, rfl, q2, q3, ⟨dx, pa, ne _ _ q4 (nl _ _ q4 (by intro ys q; cases q)), q5⟩, ih vr q6⟩
theorem Wd.had_ {vs : List V} {l : List (Int × Int)} (w : Wd C g A F H) (hr : Reps C g F (l.map encHad) vs) : Wd C g { A with had := l } F (upd H g.lh (.lst vs)) := by
  obtain ⟨us, a5, a6⟩ := w.had
  have ne : ∀ b u, H b = some u → b ≠ g.lh → upd H g.lh (.lst vs) b = some u := fun b u e n => by
    rw [upd_ne n]
    exact e
  have nl : ∀ b u, H b = some u → (∀ ys, u ≠ .lst ys) → b ≠ g.lh := fun b u e n z => by
    rw [z, a5] at e
    exact n _ (Option.some.inj e).symm
  obtain ⟨ra, a1, a2⟩ := w.host
  obtain ⟨ws, a3, a4⟩ := w.nodes
  refine ⟨fun b u e => ?_, w.nt, ?_, ⟨ra, ne _ _ a1 (nl _ _ a1 (by intro ys q; cases q)), a2⟩, ⟨ws, ne _ _ a3 w.dj2, ?_⟩, ne _ _ w.opened w.dj3, ⟨vs, upd_same, hr⟩, w.fhost, w.fln, w.flo, w.flh, w.ad, w.dj1, w.dj2, w.dj3⟩
  · rw [upd_ne (fun z => by rw [z, w.flh] at e; cases e)]
    exact w.sub _ _ e
  · obtain ⟨ps, b1, b2, b3⟩ := w.tab
    refine ⟨ps, ne _ _ b1 (nl _ _ b1 (by intro ys q; cases q)), b2, fun pos cv hc => ?_⟩
    obtain ⟨c, c1, c2⟩ := b3 pos cv hc
    exact ⟨c, c1, ne _ _ c2 (nl _ _ c2 (by intro ys q; unfold LamX.CodeO at q; cases q))⟩
  · show RowsAt C g F _ A.rows ws
    generalize A.rows = rs at a4
    clear a3
    induction rs generalizing ws with
    | nil => exact a4
    | cons r rs ih =>
      obtain ⟨a, vr, rfl, q2, q3, ⟨dx, pa, q4, q5⟩, q6⟩ := a4
      exact ⟨a, vr, rfl, q2, q3, ⟨dx, pa, ne _ _ q4 (nl _ _ q4 (by intro ys q; cases q)), q5⟩, ih vr q6⟩
section
variable {e o : Expr} {ev eo : Ev} {pos apos cpos : Pos}
theorem se_push (ho : PEd C X E o eo) (he : PEd C X E e ev) (hs : starEach [e] X.env = (false, eval e X.env) :: starEach [] X.env := by rfl) (hbase : attributeBase o "append" X.env (eval o X.env) = eval o X.env := by rfl)
    (hfew : ((backTo cpos (starEach (e :: []) X.env)).all (fun x => !x.1) && (backToKw cpos (keywordEach [] X.env)).all (fun x => x.1.isSome)
      && decide ((e :: []).length + ([] : List Keyword).length + (if ([] : List Keyword).isEmpty then 0 else 1) < 30)) = true := by rfl)
    (hline : (apos.endLine == cpos.line) = true := by rfl) (hplain : (backTo cpos (starEach [] X.env)).any (·.1) = false := by rfl) (hK : X.K = C.K := by rfl)
    (hsw : swapsWith (.Call (.Attribute o "append" apos) [e] [] cpos) none pos.line X.env = pure false := by rfl) :
    PSe C X E (.Expr (.Call (.Attribute o "append" apos) [e] [] cpos) pos) (ePush eo ev) := by
  obtain ⟨t, h1, h2⟩ := he
  obtain ⟨u, h3, h4⟩ := ho
  refine ⟨_, ps_expr (pe_bm PySem.F.plainAttrs_list PySem.F.slot_list_append PySem.F.type_list_append mt_append h3 (pa_cons h1 pa_nil hs) hbase hfew hline hs hplain) hsw, fun g A F H σ ρ D w er h => ?_⟩
  refine h4 g A F H σ ρ _ w er ?_
  unfold ePush at h
  cases q : eo ρ A with
  | exc => rw [q] at h; exact fun F' H' x => h g F' H' x.stp
  | bad => rw [q] at h; exact h
  | ok d =>
    rw [q] at h
    intro v F' H' x r
    cases d with
    | reads =>
      dsimp only at h
      simp only [Rep] at r
      subst r
      obtain ⟨us, a5, a6⟩ := x.w.had
      refine ⟨.inl ⟨rfl, us, SqL.of a5⟩, ?_⟩
      refine h2 g A F' H' σ ρ _ x.w (er.up x.fup) ?_
      cases q2 : ev ρ A with
      | exc => rw [q2] at h; exact fun F2 H2 x2 => h g F2 H2 (x.trans x2).stp
      | bad => rw [q2] at h; exact h
      | ok d2 =>
        rw [q2] at h
        (try dsimp only at h)
        intro v2 F2 H2 x2 r2
        split at h
        · rename_i t c e2
          cases e2
          split at h
          · rename_i hl
            obtain ⟨us2, b5, b6⟩ := x2.w.had
            have hr : Reps C g F2 ((A.had ++ [(t, c)]).map encHad) (us2 ++ [v2]) := by
              rw [List.map_append]
              exact b6.append (.cons r2 .nil)
            refine ⟨g.lh, us2, v2, rfl, rfl, b5, by rw [b6.length, List.length_map]; exact small1000 (Nat.le_of_lt hl), ?_⟩
            exact h g σ F2 _ ((x.trans x2).stp.trans ⟨fun p e => upd_dom p e, fun _ _ h => h, fun _ _ h => .inl h, rfl, rfl, rfl, fun _ _ h => h, Nat.le_refl _, fun _ => rfl, x2.w.had_ hr⟩) ((er.up x.fup).up x2.fup)
          · exact h.elim
        · exact h.elim
        · rename_i e2; cases e2
        · rename_i e2; cases e2
    | _ => exact h.elim
theorem se_insert {k : Nat} {p0 : Pos} (ho : PEd C X E o eo) (he : PEd C X E e ev) (hs : starEach [.Constant (.int 0) k p0, e] X.env = (false, eval (.Constant (.int 0) k p0) X.env) :: starEach [e] X.env := by rfl) (hs2 : starEach [e] X.env = (false, eval e X.env) :: starEach [] X.env := by rfl)
    (hbase : attributeBase o "insert" X.env (eval o X.env) = eval o X.env := by rfl)
    (hfew : ((backTo cpos (starEach [.Constant (.int 0) k p0, e] X.env)).all (fun x => !x.1) && (backToKw cpos (keywordEach [] X.env)).all (fun x => x.1.isSome)
      && decide ([.Constant (.int 0) k p0, e].length + ([] : List Keyword).length + (if ([] : List Keyword).isEmpty then 0 else 1) < 30)) = true := by rfl)
    (hline : (apos.endLine == cpos.line) = true := by rfl) (hplain : (backTo cpos (starEach [e] X.env)).any (·.1) = false := by rfl) (hK : X.K = C.K := by rfl)
    (hsw : swapsWith (.Call (.Attribute o "insert" apos) [.Constant (.int 0) k p0, e] [] cpos) none pos.line X.env = pure false := by rfl) :
    PSe C X E (.Expr (.Call (.Attribute o "insert" apos) [.Constant (.int 0) k p0, e] [] cpos) pos) (eInsert eo ev) := by
  obtain ⟨t, h1, h2⟩ := he
  obtain ⟨u, h3, h4⟩ := ho
  refine ⟨_, ps_expr (pe_bm PySem.F.plainAttrs_list PySem.F.slot_list_insert PySem.F.type_list_insert mt_insert h3 (pa_cons pe_int (pa_cons h1 pa_nil hs2) hs) hbase hfew hline hs hplain) hsw, fun g A F H σ ρ D w er h => ?_⟩
  refine h4 g A F H σ ρ _ w er ?_
  unfold eInsert at h
  cases q : eo ρ A with
  | exc => rw [q] at h; exact fun F' H' x => h g F' H' x.stp
  | bad => rw [q] at h; exact h
  | ok d =>
    rw [q] at h
    intro v F' H' x r
    cases d with
    | opened =>
      dsimp only at h
      simp only [Rep] at r
      subst r
      refine ⟨.inl ⟨rfl, _, SqL.of x.w.opened⟩, ?_⟩
      refine h2 g A F' H' σ ρ _ x.w (er.up x.fup) ?_
      cases q2 : ev ρ A with
      | exc => rw [q2] at h; exact fun F2 H2 x2 => h g F2 H2 (x.trans x2).stp
      | bad => rw [q2] at h; exact h
      | ok d2 =>
        rw [q2] at h
        (try dsimp only at h)
        intro v2 F2 H2 x2 r2
        split at h
        · rename_i t e2
          cases e2
          simp only [Rep] at r2
          subst r2
          split at h
          · rename_i hl
            refine ⟨g.lo, _, 0, .int t, rfl, rfl, x2.w.opened, by rw [List.length_map]; exact small1000 (Nat.le_of_lt hl), Int.le_refl _, by decide, ?_⟩
            exact h g σ F2 _ ((x.trans x2).stp.trans ⟨fun p e => upd_dom p e, fun _ _ h => h, fun _ _ h => .inl h, rfl, rfl, rfl, fun _ _ h => h, Nat.le_refl _, fun _ => rfl, x2.w.opened_ (t :: A.opened)⟩) ((er.up x.fup).up x2.fup)
          · exact h.elim
        · exact h.elim
        · rename_i e2; cases e2
        · rename_i e2; cases e2
    | _ => exact h.elim
theorem erase_at (t : Int) : ∀ l : List Int, t ∈ l → ∃ j, l[j]? = some t ∧ (∀ m : Nat, m < j → l[m]? ≠ some t) ∧ l.eraseIdx j = l.erase t
  | [], h => by cases h
  | x :: l, h => by
    by_cases hx : x = t
    · subst hx
      exact ⟨0, rfl, fun m hm => absurd hm (Nat.not_lt_zero _), by simp⟩
    · obtain ⟨j, h1, h2, h3⟩ := erase_at t l (by rcases List.mem_cons.mp h with e | e; exact absurd e.symm hx; exact e)
      refine ⟨j + 1, by simpa using h1, fun m hm => ?_, ?_⟩
      · cases m with
        | zero => simpa using hx
        | succ m => simpa using h2 m (by omega)
      · rw [List.eraseIdx_cons_succ, h3, List.erase_cons_tail (by simpa using hx)]
theorem se_remove (ho : PEd C X E o eo) (he : PEd C X E e ev) (hs : starEach [e] X.env = (false, eval e X.env) :: starEach [] X.env := by rfl) (hbase : attributeBase o "remove" X.env (eval o X.env) = eval o X.env := by rfl)
    (hfew : ((backTo cpos (starEach (e :: []) X.env)).all (fun x => !x.1) && (backToKw cpos (keywordEach [] X.env)).all (fun x => x.1.isSome)
      && decide ((e :: []).length + ([] : List Keyword).length + (if ([] : List Keyword).isEmpty then 0 else 1) < 30)) = true := by rfl)
    (hline : (apos.endLine == cpos.line) = true := by rfl) (hplain : (backTo cpos (starEach [] X.env)).any (·.1) = false := by rfl) (hK : X.K = C.K := by rfl)
    (hsw : swapsWith (.Call (.Attribute o "remove" apos) [e] [] cpos) none pos.line X.env = pure false := by rfl) :
    PSe C X E (.Expr (.Call (.Attribute o "remove" apos) [e] [] cpos) pos) (eRemove eo ev) := by
  obtain ⟨t, h1, h2⟩ := he
  obtain ⟨u, h3, h4⟩ := ho
  refine ⟨_, ps_expr (pe_bm PySem.F.plainAttrs_list PySem.F.slot_list_remove PySem.F.type_list_remove mt_remove h3 (pa_cons h1 pa_nil hs) hbase hfew hline hs hplain) hsw, fun g A F H σ ρ D w er h => ?_⟩
  refine h4 g A F H σ ρ _ w er ?_
  unfold eRemove at h
  cases q : eo ρ A with
  | exc => rw [q] at h; exact fun F' H' x => h g F' H' x.stp
  | bad => rw [q] at h; exact h
  | ok d =>
    rw [q] at h
    intro v F' H' x r
    cases d with
    | opened =>
      dsimp only at h
      simp only [Rep] at r
      subst r
      refine ⟨.inl ⟨rfl, _, SqL.of x.w.opened⟩, ?_⟩
      refine h2 g A F' H' σ ρ _ x.w (er.up x.fup) ?_
      cases q2 : ev ρ A with
      | exc => rw [q2] at h; exact fun F2 H2 x2 => h g F2 H2 (x.trans x2).stp
      | bad => rw [q2] at h; exact h
      | ok d2 =>
        rw [q2] at h
        (try dsimp only at h)
        intro v2 F2 H2 x2 r2
        split at h
        · rename_i t e2
          cases e2
          simp only [Rep] at r2
          subst r2
          split at h
          · rename_i hm
            obtain ⟨j, j1, j2, j3⟩ := erase_at t A.opened hm
            refine ⟨g.lo, A.opened, t, j, rfl, rfl, x2.w.opened, j1, j2, ?_⟩
            rw [j3]
            exact h g σ F2 _ ((x.trans x2).stp.trans ⟨fun p e => upd_dom p e, fun _ _ h => h, fun _ _ h => .inl h, rfl, rfl, rfl, fun _ _ h => h, Nat.le_refl _, fun _ => rfl, x2.w.opened_ (A.opened.erase t)⟩) ((er.up x.fup).up x2.fup)
          · exact h.elim
        · exact h.elim
        · rename_i e2; cases e2
        · rename_i e2; cases e2
    | _ => exact h.elim
end
end

/-! ### a loop over the nodes that changes them -/
def forE (i : Nat) (body : Se) : List D → Env → HostSt → OutE
  | [], ρ, A => .next ρ A
  | d :: ds, ρ, A => match body (ρ.set i (some d)) A with
    | .next ρ' A' => if A'.ver = A.ver ∧ A'.rows.map (·.thing) = A.rows.map (·.thing) then forE i body ds ρ' A' else .bad
    | o => o
def eFor (i : Nat) (it : Iv) (body : Se) : Se := fun ρ A => match it ρ A with
  | .ok ds => forE i body ds ρ A
  | .exc => .exc A
  | .bad => .bad
section
variable {C : Cs} {X : Cx} {E : XK} {e : Expr} {ev : Ev} {sv : Se} {pos pos' apos : Pos} {i : Nat}
theorem se_for {body : List Stmt} {x : Str} (T : Txt C X.mg) (hp : PassesOwn (model X.prog X.w) X.A X.env X.xe) (hN : X.N.Nodup) (he : PEd C X E e ev) (hb : PSse C X E body sv) (hix : X.N[i]? = some x := by rfl) (hx : Loc X.env.scope x := by first | exact Or.inl rfl | exact Or.inr rfl)
    (hf : X.fn x = true ∨ X.env.scope.names.lookup x = some .local := by first | exact .inl rfl | exact .inr rfl) (hc : X.calm = true := by rfl) (hs : ∀ x, foldedSetIterable (.Attribute e "nodes" apos) X.env x = pure x := by intro _; rfl)
    (hpi : ∀ {t : TE}, PE X (.Attribute e "nodes" apos) t → PI X (.Name x pos') (.Attribute e "nodes" apos) (iList X.K t) := by exact fun h => pi_list h) (hK : X.K = C.K := by rfl)
    (hba : attributeBase e "nodes" X.env (eval e X.env) = eval e X.env := by rfl) : PSe C X E (.For (.Name x pos') (.Attribute e "nodes" apos) body [] pos) (eFor i (itN ev) sv) := by
  obtain ⟨t, h1, h2⟩ := he
  obtain ⟨u, h3, h4⟩ := hb
  refine ⟨_, ps_for hp hc (hpi (pe_fld h1 hba)) (pg_name hN hix hx hf) h3 hs, fun g A F H σ ρ D w er h => ?_⟩
  refine h2 g A F H σ ρ _ w er ?_
  unfold eFor itN at h
  cases q : ev ρ A with
  | exc => rw [q] at h; exact fun F' H' x => h g F' H' x.stp
  | bad => rw [q] at h; exact h
  | ok d =>
    rw [q] at h
    cases d with
    | host =>
      intro v F' H' x r
      simp only [Rep] at r
      subst r
      dsimp only [Res.bind] at h
      obtain ⟨ra, q1, q2⟩ := x.w.host
      obtain ⟨vs, q3, q4⟩ := x.w.nodes
      refine ⟨g.host, _, g.hdx, _, .ref g.ln, rfl, q1, by rw [hK]; exact T.clH, by rw [hK]; exact T.nH _ (by decide +kernel), rfl, g.ln, rfl, ⟨vs, SqL.of q3⟩, ?_⟩
      generalize hds : (A.rows.map fun r => FK.D.node r.thing) = ds at h
      refine ⟨fun k m σ' H1 => m + k = ds.length ∧ ∃ g1 A1 F1 ρ', Stp C g A F' H' g1 A1 F1 H1 ∧ A1.ver = A.ver ∧ A1.rows.map (·.thing) = A.rows.map (·.thing) ∧ EnvRep C g1 F1 ρ' σ' ∧ PostSE C g1 A1 F1 H1 (forE i sv (ds.drop k) ρ' A1) D E,
        ⟨ds.length, rfl, g, A, F', ρ, Stp.refl x.w, rfl, rfl, er.up x.fup, PostSE.trans x.stp h⟩, ?_⟩
      rintro k m σ' H1 ⟨hm, g1, A1, F1, ρ', x1, ev1, et1, er1, hq⟩
      obtain ⟨us, q5, q6⟩ := x1.w.nodes
      have eln : g1.ln = g.ln := x1.ln ev1
      rw [eln] at q5
      have lds : ds.length = A1.rows.length := by
        rw [← hds, List.length_map]
        have := congrArg List.length et1
        simpa using this.symm
      by_cases hk : k < ds.length
      · have hk1 : k < A1.rows.length := by omega
        obtain ⟨a, e1, e2⟩ := q6.get (List.getElem?_eq_getElem hk1)
        have eth : ds[k] = .node (A1.rows[k]).thing := by
          have hk0 : k < A.rows.length := by rw [← hds, List.length_map] at hk; exact hk
          have z1 : (A1.rows.map (·.thing))[k]? = (A.rows.map (·.thing))[k]? := by rw [et1]
          rw [List.getElem?_map, List.getElem?_map, List.getElem?_eq_getElem hk1, List.getElem?_eq_getElem hk0] at z1
          have z2 := Option.some.inj z1
          subst hds
          simp [z2]
        refine .inr ⟨⟨us, _, SqL.of q5, e1⟩, fun σ2 H2 => ∃ g2 A2 F2 ρ2, Stp C g A F' H' g2 A2 F2 H2 ∧ A2.ver = A.ver ∧ A2.rows.map (·.thing) = A.rows.map (·.thing) ∧ EnvRep C g2 F2 ρ2 σ2 ∧ PostSE C g2 A2 F2 H2 (forE i sv (ds.drop (k + 1)) ρ2 A2) D E,
          fun σ2 H2 z => ⟨m - 1, by omega, by omega, z⟩, fun y H2 hy => ?_⟩
        obtain ⟨rfl, ry⟩ := hy
        have e4 := ry us (SqL.of q5)
        rw [e1] at e4
        cases e4
        rw [List.drop_eq_getElem_cons hk] at hq
        unfold forE at hq
        refine h4 g1 A1 F1 _ _ (ρ'.set i (some ds[k])) _ x1.w (er1.set (by rw [eth]; simp only [Rep]; exact ⟨a, e2, rfl⟩)) ?_
        cases q7 : sv (ρ'.set i (some ds[k])) A1 with
        | next ρ2 A2 =>
          rw [q7] at hq
          dsimp only at hq
          split at hq
          · rename_i hc
            exact fun g3 σ3 F3 H3 x3 er3 => ⟨g3, A2, F3, ρ2, x1.trans x3, hc.1.trans ev1, hc.2.trans et1, er3, PostSE.trans x3 hq⟩
          · exact hq.elim
        | ret d A2 => rw [q7] at hq; exact hq
        | exc A2 => rw [q7] at hq; exact hq
        | bad => rw [q7] at hq; exact hq
      · have e0 : k = ds.length := by omega
        subst e0
        refine .inl ⟨⟨us, SqL.of q5, by rw [q6.len, lds]; exact Nat.le_refl _⟩, ?_⟩
        rw [List.drop_length] at hq
        exact hq g1 σ' F1 H1 (Stp.refl x1.w) er1
    | _ => exact h.elim
end

/-! ### defs -/
section
variable {C : Cs} {P : Program} {w : World} {mg : Str → Option Value} {base : Heap}
theorem fn_eff {x qual : Str} {st : Stmt} {f : Addr} {fd : FuncData} {N ps : List Str} {k : Nat} {sv : Se} (Fn : Fun C.K x qual st f fd) (S : FnScope N ps (defScope st))
    (hbody : ∀ (cdv : Value) (A : Around) (outer : List PySem.Env) (s : Shared) (H : Hp) (E : XK), Room k (A.deeper (envOfC qual (defScope st) s.heap.objs.size f cdv)) →
      PSse C (cxOf (L2.CX P w) P w C.K mg base N qual (defScope st) f cdv A outer s H E).nox E0 (defBody st) sv) :
    FnOk P w C.K mg base (L2.CX P w) (k + 1) f fd ps (spE C ps.length fun ds A => noexcE (runE sv N.length ps.length ds A)) := by
  refine Fn.okX S (fun vs H Q E h => ?_) (fun cdv A outer s H vs Q E hr h => ?_)
  · obtain ⟨g, A, F, ds, _, r, hn, _⟩ := h
    rw [r.length, hn]
  · obtain ⟨g, B, F, ds, w0, r, hn, h⟩ := h
    obtain ⟨t, h1, h2⟩ := hbody cdv A outer s H E hr
    refine ⟨t, h1.nox, h2 g B F H _ _ _ w0 (start_rep (N := N) r) ?_⟩
    unfold runE at h
    dsimp only at h
    rw [hn]
    cases q : sv (ds.map some ++ List.replicate (N.length - ps.length) none) B with
    | next ρ B' => rw [q] at h; exact fun g' σ' F' H' x _ => h g' .non F' H' x (by simp [Rep])
    | ret d B' => rw [q] at h; exact h
    | exc B' => rw [q] at h; exact h.elim
    | bad => rw [q] at h; exact h.elim
theorem fn_effX {x qual : Str} {st : Stmt} {f : Addr} {fd : FuncData} {N ps : List Str} {k : Nat} {sv : Se} (Fn : Fun C.K x qual st f fd) (S : FnScope N ps (defScope st))
    (hbody : ∀ (cdv : Value) (A : Around) (outer : List PySem.Env) (s : Shared) (H : Hp) (E : XK), Room k (A.deeper (envOfC qual (defScope st) s.heap.objs.size f cdv)) →
      PSse C (cxOf (L2.CX P w) P w C.K mg base N qual (defScope st) f cdv A outer s H E) E (defBody st) sv) :
    FnOk P w C.K mg base (L2.CX P w) (k + 1) f fd ps (spE C ps.length fun ds A => runE sv N.length ps.length ds A) := by
  refine Fn.okX S (fun vs H Q E h => ?_) (fun cdv A outer s H vs Q E hr h => ?_)
  · obtain ⟨g, A, F, ds, _, r, hn, _⟩ := h
    rw [r.length, hn]
  · obtain ⟨g, B, F, ds, w0, r, hn, h⟩ := h
    obtain ⟨t, h1, h2⟩ := hbody cdv A outer s H E hr
    refine ⟨t, h1, h2 g B F H _ _ _ w0 (start_rep (N := N) r) ?_⟩
    unfold runE at h
    dsimp only at h
    rw [hn]
    cases q : sv (ds.map some ++ List.replicate (N.length - ps.length) none) B with
    | next ρ B' => rw [q] at h; exact fun g' σ' F' H' x _ => h g' .non F' H' x (by simp [Rep])
    | ret d B' => rw [q] at h; exact h
    | exc B' => rw [q] at h; exact h
    | bad => rw [q] at h; exact h.elim
end
end FK
set_option Elab.async false
set_option linter.all false
set_option maxRecDepth 100000
/-! The data layer: lists that a loop grows. -/
namespace FK
open PySem PySem.Spec PyProof.Rows L2
/-- x = []; for t in it: .. x.append(..) -/
def sAcc (i j : Nat) (it : Iv) (t : Tv) (e : Ev) : Sv := fun ρ A => match it (ρ.set j none) A with
  | .ok ds => if i < ρ.length ∧ j < ρ.length ∧ i ≠ j then (match lcGo i t e (ρ.set j none) A ds [] with
    | .ok l => .next (((ρ.set j none).set i none).set j (some (.lst l)))
    | _ => .bad) else .bad
  | _ => .bad
def SameBut (i : Nat) (σ σ' : L2.St) : Prop := σ'.length = σ.length ∧ ∀ k, k ≠ i → σ'[k]? = σ[k]?
section
variable {C : Cs} {X : Cx} {g : Gh} {A : HostSt} {F H : Hp} {σ : L2.St} {ρ : Env}
/-- the reading of append to the list in the slot j -/
abbrev tApp (K : PySem.W.Frag) (j : Nat) (te : TE) : TE := tBM K "list" rAppend (tVar j) (tCons te tNil)
/-- what the body of such a loop does in a turn -/
structure AccB (C : Cs) (i j : Nat) (tv : Tv) (ev : Ev) (tb : TS) : Prop where
  no : ∀ g A F H σ ρ (D : Ends) p acc v, Wd C g A F H → EnvRep C g F ρ σ → σ[j]? = some (some (.ref p)) → σ[i]? = some (some v) → H p = some (.lst acc) → tv ρ A = .ok false →
    (∀ σ' F' H', Ext C g A F H F' H' → SameBut i σ σ' → D.nx σ' H') → tb D σ H
  yes : ∀ g A F H σ ρ (D : Ends) p acc v y, Wd C g A F H → EnvRep C g F ρ σ → σ[j]? = some (some (.ref p)) → σ[i]? = some (some v) → H p = some (.lst acc) → tv ρ A = .ok true → ev ρ A = .ok y → acc.length < 1000 →
    (∀ σ' u F' H', Ext C g A F H F' H' → SameBut i σ σ' → Rep C g F' y u → D.nx σ' (upd H' p (.lst (acc ++ [u])))) → tb D σ H
theorem acc_run {i j : Nat} {J : It} {ds l : List D} {tv : Tv} {ev : Ev} {D : Ends} {tb : TS} (hij : i ≠ j) (hj : j < ρ.length) (hi : i < ρ.length) (w0 : Wd C g A F H) (er0 : EnvRep C g F ρ σ) (wk : WalkOf C g A F ds J)
    (hR : lcGo i tv ev (ρ.set j none) A ds [] = .ok l) (htb : AccB C i j tv ev tb) {p : Addr} (hfp : F p = none) (hp : H p = some (.lst [])) (n1 : g.ln ≠ p) (n2 : g.lo ≠ p) (n3 : g.lh ≠ p) (sj0 : σ[j]? = some (some (.ref p)))
    (h : ∀ σ' F1 H1 acc, Ext C g A F H F1 (fun q => if q = p then H p else H1 q) → Wd C g A F1 H1 → F1 p = none → H1 p = some (.lst acc) → Reps C g F1 l acc → SameBut i σ σ' → D.nx σ' H1) :
      ∃ W : Nat → Nat → L2.St → Hp → Prop, (∃ m, W 0 m σ H) ∧ ∀ k m σ H, W k m σ H →
      (J.stop k H ∧ D.nx σ H) ∨ (J.go k H ∧ ∃ N : L2.St → Hp → Prop, (∀ σ' H', N σ' H' → ∃ m', m' < m ∧ W (k + 1) m' σ' H') ∧ ∀ x H', J.yld k H x H' → gName i x σ H' fun σ2 H2 => tb { D with nx := N, ct := N, bk := D.nx } σ2 H2) := by
  -- the invariant: but for the list at p, H has grown
  have e00 : (fun q => if q = p then H p else H q) = H := by
    funext q
    by_cases hq : q = p
    · subst hq; rw [if_pos rfl]
    · rw [if_neg hq]
  let Iv : Nat → L2.St → Hp → Prop := fun k σ1 H1 => ∃ F1 acc accD, Ext C g A F H F1 (fun q => if q = p then H p else H1 q) ∧ Wd C g A F1 H1 ∧ F1 p = none ∧ H1 p = some (.lst acc) ∧ Reps C g F1 accD acc ∧ lcGo i tv ev (ρ.set j none) A (ds.drop k) accD = .ok l ∧ SameBut i σ σ1
  have dirt : ∀ {Fa Ha Fb Hb : Hp}, Ext C g A F H Fa (fun q => if q = p then H p else Ha q) → Fa p = none → (∃ acc, Ha p = some (.lst acc)) → Ext C g A Fa Ha Fb Hb → Ext C g A F H Fb (fun q => if q = p then H p else Hb q) ∧ Fb p = none ∧ Hb p = Ha p := by
    intro Fa Ha Fb Hb a fa ha b
    obtain ⟨acc, ha⟩ := ha
    have hb : Hb p = some (.lst acc) := b.up _ _ ha (by intro ps z; cases z)
    have fb : Fb p = none := by
      cases z : Fb p with
      | none => rfl
      | some o =>
        rcases b.new _ _ z with z | z
        · rw [fa] at z; cases z
        · rw [ha] at z; cases z
    refine ⟨⟨fun q u e n => ?_, fun q e => ?_, fun q u e => b.fup _ _ (a.fup _ _ e), fun q u e => ?_, ?_⟩, fb, by rw [hb, ha]⟩
    · have := a.up q u e n
      (try dsimp only at this ⊢)
      by_cases hq : q = p
      · rw [if_pos hq] at this ⊢; exact this
      · rw [if_neg hq] at this ⊢; exact b.up _ _ this n
    · refine a.dom q ?_
      (try dsimp only at e ⊢)
      by_cases hq : q = p
      · rw [if_pos hq] at e ⊢; exact e
      · rw [if_neg hq] at e ⊢; exact b.dom _ e
    · rcases b.new q u e with z | z
      · exact a.new q u z
      · refine .inr (a.dom q ?_)
        (try dsimp only)
        by_cases hq : q = p
        · subst hq; rw [ha] at z; cases z
        · rw [if_neg hq]; exact z
    · have e2 : (fun q => if q = p then H p else Hb q) = upd Hb p (.lst []) := by
        funext q
        unfold upd
        rw [hp]
      rw [e2]
      exact b.w.poke hb fb n1 n2 n3
  refine ⟨fun k m σ1 H1 => m + k = ds.length ∧ Iv k σ1 H1, ⟨ds.length, rfl, F, [], [], by rw [e00]; exact Ext.refl w0, w0, hfp, hp, .nil, hR, rfl, fun _ _ => rfl⟩, ?_⟩
  rintro k m σ1 H1 ⟨hm, F1, acc, accD, x1, wd1, f1, e1, r1, go, sl, so⟩
  obtain ⟨w1, w2⟩ := wk F1 H1 wd1 x1.fup
  by_cases hk : k < ds.length
  · obtain ⟨g1, yl⟩ := w1 k _ (List.getElem?_eq_getElem hk)
    refine .inr ⟨g1, Iv (k + 1), fun σ' H' z => ⟨m - 1, by omega, by omega, z⟩, fun y H2 hy => ?_⟩
    obtain ⟨rfl, ry⟩ := yl y H2 hy
    rw [List.drop_eq_getElem_cons hk] at go
    unfold lcGo at go
    have er1 : EnvRep C g F1 ((ρ.set j none).set i (some ds[k])) (σ1.set i (some y)) := by
      refine ⟨by simp [er0.1, sl], fun n d hn => ?_⟩
      by_cases hni : n = i
      · subst hni
        rw [List.getElem?_set_self (by rw [List.length_set]; exact hi)] at hn
        cases hn
        exact ⟨y, by rw [List.getElem?_set_self]; rw [sl, ← er0.1]; exact hi, ry⟩
      · rw [List.getElem?_set_ne (Ne.symm hni)] at hn ⊢
        by_cases hnj : n = j
        · subst hnj
          rw [List.getElem?_set_self hj] at hn
          cases hn
        · rw [List.getElem?_set_ne (Ne.symm hnj)] at hn
          obtain ⟨v, q1, q2⟩ := er0.2 n d hn
          exact ⟨v, by rw [so n hni]; exact q1, q2.up x1.fup⟩
    have sj' : (σ1.set i (some y))[j]? = some (some (.ref p)) := by rw [List.getElem?_set_ne hij, so j hij.symm]; exact sj0
    have si' : (σ1.set i (some y))[i]? = some (some y) := by rw [List.getElem?_set_self (by rw [sl, ← er0.1]; exact hi)]
    have sb : ∀ σ', SameBut i (σ1.set i (some y)) σ' → SameBut i σ σ' := fun σ' q => ⟨by rw [q.1, List.length_set, sl], fun n hn => by rw [q.2 n hn, List.getElem?_set_ne (Ne.symm hn), so n hn]⟩
    cases q : tv ((ρ.set j none).set i (some ds[k])) A with
    | exc => rw [q] at go; cases go
    | bad => rw [q] at go; cases go
    | ok b =>
      rw [q] at go
      cases b with
      | false =>
        dsimp only at go
        refine htb.no g A F1 H2 _ _ _ p acc y wd1 er1 sj' si' e1 q fun σ' F2 H3 x2 q1 => ?_
        obtain ⟨z1, z2, z3⟩ := dirt x1 f1 ⟨_, e1⟩ x2
        exact ⟨F2, acc, accD, z1, x2.w, z2, z3.trans e1, r1.up x2.fup, go, sb _ q1⟩
      | true =>
        dsimp only at go
        cases q2 : ev ((ρ.set j none).set i (some ds[k])) A with
        | exc => rw [q2] at go; cases go
        | bad => rw [q2] at go; cases go
        | ok d =>
          rw [q2] at go
          dsimp only at go
          split at go
          · rename_i hl
            refine htb.yes g A F1 H2 _ _ _ p acc y d wd1 er1 sj' si' e1 q q2 (by rw [r1.length]; exact hl) fun σ' u F2 H3 x2 q1 rv => ?_
            obtain ⟨z1, z2, z3⟩ := dirt x1 f1 ⟨_, e1⟩ x2
            refine ⟨F2, _, _, ?_, x2.w.poke (z3.trans e1) z2 n1 n2 n3, z2, upd_same, (r1.up x2.fup).append (.cons rv .nil), go, sb _ q1⟩
            have e2 : (fun q => if q = p then H p else upd H3 p (.lst (acc ++ [u])) q) = fun q => if q = p then H p else H3 q := by
              funext q
              by_cases hq : q = p
              · rw [if_pos hq, if_pos hq]
              · rw [if_neg hq, if_neg hq, upd_ne hq]
            rw [e2]
            exact z1
          · cases go
  · have e0 : k = ds.length := by omega
    subst e0
    refine .inl ⟨w2, ?_⟩
    rw [List.drop_length] at go
    cases go
    exact h σ1 F1 H1 acc x1 wd1 f1 e1 r1 ⟨sl, so⟩
/-- if T: x.append(E) -/
theorem accB_if {K : PySem.W.Frag} {i j : Nat} {tv : Tv} {ev : Ev} (hK : K = C.K) : AccB C i j tv ev (tIfS (tTv C E0 tv) (tDrop (tApp K j (tEv C E0 ev))) tNext) where
  no := fun g A F H σ ρ D p acc v w er sj si hp q h => by
    refine ⟨g, A, F, ρ, w, er, ?_⟩
    rw [q]
    intro b F' H' x e
    subst e
    exact h σ F' H' x ⟨rfl, fun _ _ => rfl⟩
  yes := fun g A F H σ ρ D p acc v y w er sj si hp q q2 hl h => by
    refine ⟨g, A, F, ρ, w, er, ?_⟩
    rw [q]
    intro b F' H' x e
    subst e
    have hp' : H' p = some (.lst acc) := x.up _ _ hp (by intro ps z; cases z)
    refine ⟨_, sj, .inl ⟨rfl, acc, SqL.of hp'⟩, g, A, F', ρ, x.w, er.up x.fup, ?_⟩
    rw [q2]
    intro u F2 H2 x2 r
    have hp2 : H2 p = some (.lst acc) := x2.up _ _ hp' (by intro ps z; cases z)
    exact ⟨p, acc, u, rfl, rfl, hp2, small1000 (Nat.le_of_lt hl), h σ u F2 H2 (x.trans x2) ⟨rfl, fun _ _ => rfl⟩ r⟩
/-- if T: t = E; x.append(t) -/
theorem accB_map {K : PySem.W.Frag} {i j : Nat} {tv : Tv} {ev : Ev} (hK : K = C.K) (hij : i ≠ j) : AccB C i j tvYes (vIf tv ev (vVar i)) (tSeq (tIfS (tTv C E0 tv) (tAsg (tEv C E0 ev) (gName i)) tNext) (tDrop (tApp K j (tVar i)))) where
  no := fun g A F H σ ρ D p acc v w er sj si hp q h => by cases q
  yes := fun g A F H σ ρ D p acc v y w er sj si hp q q2 hl h => by
    refine ⟨g, A, F, ρ, w, er, ?_⟩
    unfold vIf at q2
    cases q3 : tv ρ A with
    | exc => rw [q3] at q2; cases q2
    | bad => rw [q3] at q2; cases q2
    | ok b =>
      rw [q3] at q2
      dsimp only [Res.bind_ok] at q2
      intro b' F' H' x e
      subst e
      have hp' : H' p = some (.lst acc) := x.up _ _ hp (by intro ps z; cases z)
      cases b with
      | true =>
        simp only [if_true] at q2 ⊢
        refine ⟨g, A, F', ρ, x.w, er.up x.fup, ?_⟩
        rw [q2]
        intro u F2 H2 x2 r
        have hp2 : H2 p = some (.lst acc) := x2.up _ _ hp' (by intro ps z; cases z)
        have li : i < σ.length := by
          rcases Nat.lt_or_ge i σ.length with z | z
          · exact z
          · rw [List.getElem?_eq_none_iff.mpr z] at si; cases si
        refine ⟨.ref p, by rw [List.getElem?_set_ne hij]; exact sj, .inl ⟨rfl, acc, SqL.of hp2⟩, u, by rw [List.getElem?_set_self li], ?_⟩
        exact ⟨p, acc, u, rfl, rfl, hp2, small1000 (Nat.le_of_lt hl), h _ u F2 H2 (x.trans x2) ⟨by rw [List.length_set], fun k hk => by rw [List.getElem?_set_ne (Ne.symm hk)]⟩ r⟩
      | false =>
        simp only [Bool.false_eq_true, if_false] at q2 ⊢
        unfold vVar at q2
        split at q2
        · rename_i d hd
          cases q2
          obtain ⟨v', z1, z2⟩ := er.2 i _ hd
          rw [si] at z1
          cases z1
          refine ⟨.ref p, sj, .inl ⟨rfl, acc, SqL.of hp'⟩, v, si, ?_⟩
          exact ⟨p, acc, v, rfl, rfl, hp', small1000 (Nat.le_of_lt hl), h σ v F' H' x ⟨rfl, fun _ _ => rfl⟩ (z2.up x.fup)⟩
        · cases q2
section
variable {e : Expr} {x t : Str} {iter : Expr} {body rest : List Stmt} {iv : Iv} {tv : Tv} {ev : Ev} {sv : Sv} {tb : TS} {i j : Nat} {p1 p2 p3 p4 p5 : Pos}
/-- x = []; for t in iter: body; rest -/
theorem sd_acc (hp : PassesOwn (model X.prog X.w) X.A X.env X.xe) (hN : X.N.Nodup) (hi : PId C X E0 (.Name t p4) iter iv) (hb : PSs X body tb) (hB : AccB C i j tv ev tb) (hr : PSsd C X E0 rest sv)
    (hix : X.N[i]? = some t := by rfl) (hjx : X.N[j]? = some x := by rfl) (hx : Loc X.env.scope x := by first | exact Or.inl rfl | exact Or.inr rfl) (ht : Loc X.env.scope t := by first | exact Or.inl rfl | exact Or.inr rfl)
    (hf : X.fn x = true ∨ X.env.scope.names.lookup x = some .local := by first | exact .inl rfl | exact .inr rfl) (hf' : X.fn t = true ∨ X.env.scope.names.lookup t = some .local := by first | exact .inl rfl | exact .inr rfl)
    (hc : X.calm = true := by rfl) (hs : ∀ x, foldedSetIterable iter X.env x = pure x := by intro _; rfl) (hsw : swapsWithSole [.Name x p1] (.List [] p2) p3.line X.env = pure false := by rfl) :
    PSsd C X E0 (.Assign [.Name x p1] (.List [] p2) p3 :: .For (.Name t p4) iter body [] p5 :: rest) (seqS (sAcc i j iv tv ev) sv) := by
  obtain ⟨wi, h1, h2⟩ := hi
  obtain ⟨u, h3, h4⟩ := hr
  refine ⟨_, pss_cons (ps_asg (pe_lst pa_nil) (pg_name hN hjx hx hf) hsw) (pss_cons (ps_for hp hc h1 (pg_name hN hix ht hf') hb hs) h3), fun g A F H σ ρ D w er h => ?_⟩
  refine ⟨Nat.zero_le _, fun p hp => ?_⟩
  unfold seqS sAcc at h
  have x0 := Ext.lay (o := .lst []) w hp
  have er0 : EnvRep C g F (ρ.set j none) (σ.set j (some (.ref p))) := er.unset
  refine h2 g A F _ _ (ρ.set j none) _ x0.w er0 ?_
  cases q : iv (ρ.set j none) A with
  | exc => rw [q] at h; exact h.elim
  | bad => rw [q] at h; exact h.elim
  | ok ds =>
    rw [q] at h
    dsimp only at h
    by_cases hl : i < ρ.length ∧ j < ρ.length ∧ i ≠ j
    · rw [if_pos hl] at h
      obtain ⟨li, lj, hij⟩ := hl
      cases q2 : lcGo i tv ev (ρ.set j none) A ds [] with
      | exc => rw [q2] at h; exact h.elim
      | bad => rw [q2] at h; exact h.elim
      | ok l =>
        rw [q2] at h
        dsimp only at h
        intro J F' H' x wk
        have hpl : H' p = some (.lst []) := x.up _ _ upd_same (by intro ps z; cases z)
        have hfp0 : F p = none := by
          cases z : F p with
          | none => rfl
          | some o => rw [w.sub _ _ z] at hp; cases hp
        have hfp : F' p = none := by
          cases z : F' p with
          | none => rfl
          | some o =>
            rcases x.new _ _ z with z | z
            · rw [hfp0] at z; cases z
            · rw [upd_same] at z; cases z
        have n1 : g.ln ≠ p := by
          obtain ⟨vs, e, _⟩ := w.nodes
          exact ne_of_none e hp
        have n2 : g.lo ≠ p := ne_of_none w.opened hp
        have n3 : g.lh ≠ p := by
          obtain ⟨vs, e, _⟩ := w.had
          exact ne_of_none e hp
        have lσ : j < (σ).length := by rw [← er.1]; exact lj
        refine acc_run (ρ := ρ.set j none) hij (by rw [List.length_set]; exact lj) (by rw [List.length_set]; exact li) x.w (er0.up x.fup) wk (by rw [List.set_set]; exact q2) hB hfp hpl n1 n2 n3 (by rw [List.getElem?_set_self lσ]) fun σ' F1 H1 acc y1 wd1 f1 e1 r1 sb => ?_
        -- the list is shut
        have ex1 : Ext C g A F H F1 H1 := by
          refine ⟨fun b o e n => ?_, fun b e => ?_, fun b o e => y1.fup _ _ (x.fup _ _ e), fun b o e => ?_, wd1⟩
          · have hb : b ≠ p := ne_of_none e hp
            have := y1.up b o (x.up b o (by rw [upd_ne hb]; exact e) n) n
            rw [if_neg hb] at this
            exact this
          · have hb : b ≠ p := fun z => by rw [z, e1] at e; cases e
            have := y1.dom b (by rw [if_neg hb]; exact e)
            have := x.dom b this
            rw [upd_ne hb] at this
            exact this
          · rcases y1.new b o e with z | z
            · rcases x.new b o z with z | z
              · exact .inl z
              · exact .inr (upd_dom b z)
            · exact .inr (upd_dom b (x.dom b z))
        have sb1 : SubF F1 (upd F1 p (.lst acc)) := fun b u e => by
          rw [upd_ne (fun z => by rw [z, f1] at e; cases e)]
          exact e
        have nw : ∀ b u, upd F1 p (.lst acc) b = some u → F b = some u ∨ H b = none := fun b u e => by
          by_cases hb : b = p
          · subst hb; exact .inr hp
          · rw [upd_ne hb] at e; exact ex1.new b u e
        have sb2 : SubF (upd F1 p (.lst acc)) H1 := fun b u e => by
          by_cases hb : b = p
          · subst hb; rw [upd_same] at e; rw [e1]; exact e
          · rw [upd_ne hb] at e; exact wd1.sub _ _ e
        have ex2 : Ext C g A F H (upd F1 p (.lst acc)) H1 := ⟨ex1.up, ex1.dom, fun b u e => sb1 _ _ (ex1.fup b u e), nw, w.grow ex1.up (fun b u e => sb1 _ _ (ex1.fup b u e)) nw sb2 (fun b ps e => by
          by_cases hb : b = p
          · subst hb; rw [upd_same] at e; cases e
          · rw [upd_ne hb] at e; exact wd1.nt _ _ e) wd1.tab⟩
        refine h4 g A (upd F1 p (.lst acc)) H1 σ' _ D ex2.w ?_ (PostS.trans ex2 h)
        refine ⟨by simp [sb.1, er.1], fun n d hn => ?_⟩
        by_cases hnj : n = j
        · subst hnj
          rw [List.getElem?_set_self (by simp [lj])] at hn
          cases hn
          refine ⟨.ref p, by rw [sb.2 _ hij.symm, List.getElem?_set_self lσ], ?_⟩
          simp only [Rep]
          exact ⟨p, acc, rfl, upd_same, r1.up sb1⟩
        · rw [List.getElem?_set_ne (Ne.symm hnj)] at hn
          by_cases hni : n = i
          · subst hni
            rw [List.getElem?_set_self (by simp [li])] at hn
            cases hn
          · rw [List.getElem?_set_ne (Ne.symm hni), List.getElem?_set_ne (Ne.symm hnj)] at hn
            obtain ⟨v, q3, q4⟩ := er.2 n d hn
            exact ⟨v, by rw [sb.2 n hni, List.getElem?_set_ne (Ne.symm hnj)]; exact q3, (q4.up ex1.fup).up sb1⟩
    · rw [if_neg hl] at h
      exact h.elim
end
theorem PTd.can {C : Cs} {X : Cx} {E : XK} {e : Expr} {ev : Tv} (h : PTd C X E e ev) : PT X e (tTv C E ev) := by
  obtain ⟨t, h1, h2⟩ := h
  refine ⟨fun pins s σ H Q I q => ?_⟩
  obtain ⟨g, A, F, ρ, w, er, q⟩ := q
  exact h1.run pins s σ H Q I (h2 g A F H σ ρ Q w er q)
end
end FK
set_option Elab.async false
set_option linter.all false
set_option maxRecDepth 100000
/-! The text of the program by places, what the top leaves, calls by name. -/
namespace FK
open PySem PySem.Spec PyProof.Rows L2
def top (i : Nat) : Stmt := PySem.Challenge.pw_foldkeep_k07_operations_on_a_host.main.body.getD i (.Pass ⟨0, 0, 0, 0⟩)
abbrev s_Rule_init : Stmt := inClass (top 1) 0
abbrev s_is_name : Stmt := top 2
abbrev s_counterpart : Stmt := top 3
abbrev s_same_name : Stmt := top 4
abbrev s_in_use : Stmt := top 5
abbrev s_fits : Stmt := top 6
abbrev s_same_path : Stmt := top 7
abbrev s_Node_init : Stmt := inClass (top 9) 0
abbrev s_Node_stands : Stmt := inClass (top 9) 1
abbrev s_written : Stmt := top 10
abbrev s_within : Stmt := top 11
abbrev s_moved : Stmt := top 12
abbrev s_spot_place : Stmt := top 17
abbrev s_thing_at : Stmt := top 18
abbrev s_room_at : Stmt := top 19
abbrev s_file_named : Stmt := top 20
abbrev s_make : Stmt := top 21
abbrev s_make_kind : Stmt := top 22
abbrev s_remove : Stmt := top 23
abbrev s_remove_folder_programs : Stmt := top 24
abbrev s_rename : Stmt := top 26
abbrev s_spelled : Stmt := top 27
abbrev s_write : Stmt := top 28
abbrev s_cut : Stmt := top 29
abbrev s_close : Stmt := top 30
abbrev s_doing : Stmt := top 31
abbrev s_doing_in_files : Stmt := top 32
abbrev s_told_cuts : Stmt := top 36
abbrev s_names_answer : Stmt := top 37
abbrev s_text_answer : Stmt := top 38
abbrev s_file_in_folder : Stmt := top 39
abbrev s_shelf_answer : Stmt := top 40
abbrev s_read_answer : Stmt := top 41
abbrev s_stage : Stmt := top 42
abbrev s_take : Stmt := top 43
abbrev s_give : Stmt := top 44
abbrev s_swap : Stmt := top 45
abbrev s_make_folder : Stmt := top 46
abbrev s_remove_folder_asking : Stmt := top 47
abbrev s_drop : Stmt := top 49
abbrev s_answer : Stmt := top 50
abbrev s_change_answer : Stmt := top 51
abbrev s_Host_init : Stmt := inClass (top 53) 0
abbrev s_Host_program : Stmt := inClass (top 53) 1
abbrev s_Host_ask : Stmt := inClass (top 53) 2
abbrev s_Host_tree : Stmt := inClass (top 53) 3
abbrev s_Host_outside : Stmt := inClass (top 53) 4
abbrev s_Host_shelf : Stmt := inClass (top 53) 5
abbrev s_Host_area_list : Stmt := inClass (top 53) 6
abbrev s_Host_can_have : Stmt := inClass (top 53) 7
abbrev s_Host_node_at : Stmt := inClass (top 53) 8
abbrev s_Host_node_of : Stmt := inClass (top 53) 9
abbrev s_Host_folder_path : Stmt := inClass (top 53) 10
abbrev s_Host_free_path : Stmt := inClass (top 53) 11
abbrev s_Host_holds_something : Stmt := inClass (top 53) 12
abbrev s_Host_put_new : Stmt := inClass (top 53) 13
abbrev s_Host_take_away : Stmt := inClass (top 53) 14
abbrev s_Host_carry : Stmt := inClass (top 53) 15
abbrev s__law_cells : Stmt := top 55
abbrev s__law_pick : Stmt := top 56
abbrev s__law_text : Stmt := top 57
abbrev s__law_name : Stmt := top 58
abbrev s__law_path : Stmt := top 59
abbrev s__law_rule : Stmt := top 60
abbrev s__law_spot : Stmt := top 61
abbrev s__law_target : Stmt := top 62
abbrev s__law_deed : Stmt := top 63
abbrev s__law_does : Stmt := top 64
abbrev s__law_same : Stmt := top 65
abbrev s__law_as : Stmt := top 66
abbrev s__law_at : Stmt := top 67
abbrev s__law_above : Stmt := top 68
abbrev s__law_free : Stmt := top 69
abbrev s__law_moved : Stmt := top 70
abbrev s__law_filled : Stmt := top 71
abbrev s__law_spot_of : Stmt := top 72
abbrev s__law_row_at : Stmt := top 73
abbrev s__law_file_at : Stmt := top 74
abbrev s__law_put : Stmt := top 75
abbrev s__law_gone : Stmt := top 76
abbrev s__law_carried : Stmt := top 77
abbrev s__law_with_text : Stmt := top 78
abbrev s__law_renamed : Stmt := top 79
abbrev s__law_done : Stmt := top 80
abbrev s__law_done_in : Stmt := top 81
abbrev s__law_tree : Stmt := top 82
abbrev s__law_shelf : Stmt := top 83
abbrev s__law_is : Stmt := top 84
abbrev s__law_operation : Stmt := top 85
abbrev s__law_cuts : Stmt := top 86
abbrev s__law_read : Stmt := top 87
abbrev s__law_told : Stmt := top 88
abbrev s__law_change : Stmt := top 89
abbrev s__law_carry : Stmt := top 90
abbrev s_law : Stmt := top 91
/-- a def whose code object is told -/
structure FunC (K : PySem.W.Frag) (x qual : Str) (st : Stmt) (f : Addr) (fd : FuncData) (cA : Addr) : Prop where
  ex : ∃ (oc : Value) (od : Option Addr) (kV doc pm : Value) (an : Option Addr) (ct : Value) (osl : Array (Option Value)),
    fd = PySem.W.fnOf x qual (defArgs st) (defBody st) (defScope st) .none kV doc pm an (.ref cA) ct ∧ K.lookup f = some ⟨oc, od, .func fd, osl⟩ ∧ PySem.W.codeIn K (.ref cA) qual = true
  kp : PySem.W.keepIn K (.ref f) = true
theorem FunC.fun {K : PySem.W.Frag} {x qual : Str} {st : Stmt} {f : Addr} {fd : FuncData} {cA : Addr} (F : FunC K x qual st f fd cA) : Fun K x qual st f fd := by
  obtain ⟨⟨oc, od, kV, doc, pm, an, ct, osl, h1, h2, h3⟩, k⟩ := F
  exact ⟨⟨oc, od, kV, doc, pm, an, .ref cA, ct, osl, h1, h2, h3⟩, k⟩
structure Facts (C : Cs) (mg : Str → Option Value) (base : Heap) : Prop where
  T : Txt C mg
  d_Rule_init : ∃ f fd, Fun C.K "__init__" "Rule.__init__" s_Rule_init f fd ∧ Mk C.K C.CR f
  d_is_name : ∃ f fd, Fun C.K "is_name" "is_name" s_is_name f fd ∧ mg "is_name" = some (.ref f)
  d_counterpart : ∃ f fd, Fun C.K "counterpart" "counterpart" s_counterpart f fd ∧ mg "counterpart" = some (.ref f)
  d_same_name : ∃ f fd, Fun C.K "same_name" "same_name" s_same_name f fd ∧ mg "same_name" = some (.ref f)
  d_in_use : ∃ f fd, Fun C.K "in_use" "in_use" s_in_use f fd ∧ mg "in_use" = some (.ref f)
  d_fits : ∃ f fd, Fun C.K "fits" "fits" s_fits f fd ∧ mg "fits" = some (.ref f)
  d_same_path : ∃ f fd, Fun C.K "same_path" "same_path" s_same_path f fd ∧ mg "same_path" = some (.ref f)
  d_Node_init : ∃ f fd, Fun C.K "__init__" "Node.__init__" s_Node_init f fd ∧ Mk C.K C.CN f
  d_Node_stands : ∃ f fd, Fun C.K "stands" "Node.stands" s_Node_stands f fd ∧ Meth C.K C.CN "stands" f
  d_written : ∃ f fd, Fun C.K "written" "written" s_written f fd ∧ mg "written" = some (.ref f)
  d_within : ∃ f fd, Fun C.K "within" "within" s_within f fd ∧ mg "within" = some (.ref f)
  d_moved : ∃ f fd, Fun C.K "moved" "moved" s_moved f fd ∧ mg "moved" = some (.ref f)
  d_spot_place : ∃ f fd, Fun C.K "spot_place" "spot_place" s_spot_place f fd ∧ mg "spot_place" = some (.ref f)
  d_thing_at : ∃ f fd, Fun C.K "thing_at" "thing_at" s_thing_at f fd ∧ mg "thing_at" = some (.ref f)
  d_room_at : ∃ f fd, Fun C.K "room_at" "room_at" s_room_at f fd ∧ mg "room_at" = some (.ref f)
  d_file_named : ∃ f fd, Fun C.K "file_named" "file_named" s_file_named f fd ∧ mg "file_named" = some (.ref f)
  d_make : ∃ f fd, Fun C.K "make" "make" s_make f fd ∧ mg "make" = some (.ref f)
  d_make_kind : ∃ f fd, Fun C.K "make_kind" "make_kind" s_make_kind f fd ∧ mg "make_kind" = some (.ref f)
  d_remove : ∃ f fd, Fun C.K "remove" "remove" s_remove f fd ∧ mg "remove" = some (.ref f)
  d_remove_folder_programs : ∃ f fd, Fun C.K "remove_folder" "remove_folder" s_remove_folder_programs f fd ∧ mg "remove_folder_programs" = some (.ref f)
  d_rename : ∃ f fd, Fun C.K "rename" "rename" s_rename f fd ∧ mg "rename" = some (.ref f)
  d_spelled : ∃ f fd, Fun C.K "spelled" "spelled" s_spelled f fd ∧ mg "spelled" = some (.ref f)
  d_write : ∃ f fd, Fun C.K "write" "write" s_write f fd ∧ mg "write" = some (.ref f)
  d_cut : ∃ f fd, Fun C.K "cut" "cut" s_cut f fd ∧ mg "cut" = some (.ref f)
  d_close : ∃ f fd, Fun C.K "close" "close" s_close f fd ∧ mg "close" = some (.ref f)
  d_doing : ∃ f fd, Fun C.K "doing" "doing" s_doing f fd ∧ mg "doing" = some (.ref f)
  d_doing_in_files : ∃ f fd, Fun C.K "doing_in_files" "doing_in_files" s_doing_in_files f fd ∧ mg "doing_in_files" = some (.ref f)
  d_told_cuts : ∃ f fd, Fun C.K "told_cuts" "told_cuts" s_told_cuts f fd ∧ mg "told_cuts" = some (.ref f)
  d_names_answer : ∃ f fd, Fun C.K "names_answer" "names_answer" s_names_answer f fd ∧ mg "names_answer" = some (.ref f)
  d_text_answer : ∃ f fd, Fun C.K "text_answer" "text_answer" s_text_answer f fd ∧ mg "text_answer" = some (.ref f)
  d_file_in_folder : ∃ f fd, Fun C.K "file_in_folder" "file_in_folder" s_file_in_folder f fd ∧ mg "file_in_folder" = some (.ref f)
  d_shelf_answer : ∃ f fd, Fun C.K "shelf_answer" "shelf_answer" s_shelf_answer f fd ∧ mg "shelf_answer" = some (.ref f)
  d_read_answer : ∃ f fd, Fun C.K "read_answer" "read_answer" s_read_answer f fd ∧ mg "read_answer" = some (.ref f)
  d_stage : ∃ f fd, Fun C.K "stage" "stage" s_stage f fd ∧ mg "stage" = some (.ref f)
  d_take : ∃ f fd, Fun C.K "take" "take" s_take f fd ∧ mg "take" = some (.ref f)
  d_give : ∃ f fd, Fun C.K "give" "give" s_give f fd ∧ mg "give" = some (.ref f)
  d_swap : ∃ f fd, Fun C.K "swap" "swap" s_swap f fd ∧ mg "swap" = some (.ref f)
  d_make_folder : ∃ f fd, Fun C.K "make_folder" "make_folder" s_make_folder f fd ∧ mg "make_folder" = some (.ref f)
  d_remove_folder_asking : ∃ f fd, Fun C.K "remove_folder" "remove_folder" s_remove_folder_asking f fd ∧ mg "remove_folder_asking" = some (.ref f)
  d_drop : ∃ f fd, Fun C.K "drop" "drop" s_drop f fd ∧ mg "drop" = some (.ref f)
  d_answer : ∃ f fd, Fun C.K "answer" "answer" s_answer f fd ∧ mg "answer" = some (.ref f)
  d_change_answer : ∃ f fd, Fun C.K "change_answer" "change_answer" s_change_answer f fd ∧ mg "change_answer" = some (.ref f)
  d_Host_init : ∃ f fd, Fun C.K "__init__" "Host.__init__" s_Host_init f fd ∧ Mk C.K C.CH f
  d_Host_program : ∃ f fd, Fun C.K "program" "Host.program" s_Host_program f fd ∧ Meth C.K C.CH "program" f
  d_Host_ask : ∃ f fd, Fun C.K "ask" "Host.ask" s_Host_ask f fd ∧ Meth C.K C.CH "ask" f
  d_Host_tree : ∃ f fd, Fun C.K "tree" "Host.tree" s_Host_tree f fd ∧ Meth C.K C.CH "tree" f
  d_Host_outside : ∃ f fd, Fun C.K "outside" "Host.outside" s_Host_outside f fd ∧ Meth C.K C.CH "outside" f
  d_Host_shelf : ∃ f fd, Fun C.K "shelf" "Host.shelf" s_Host_shelf f fd ∧ Meth C.K C.CH "shelf" f
  d_Host_area_list : ∃ f fd, FunC C.K "area_list" "Host.area_list" s_Host_area_list f fd C.cA ∧ Meth C.K C.CH "area_list" f
  d_Host_can_have : ∃ f fd, Fun C.K "can_have" "Host.can_have" s_Host_can_have f fd ∧ Meth C.K C.CH "can_have" f
  d_Host_node_at : ∃ f fd, Fun C.K "node_at" "Host.node_at" s_Host_node_at f fd ∧ Meth C.K C.CH "node_at" f
  d_Host_node_of : ∃ f fd, Fun C.K "node_of" "Host.node_of" s_Host_node_of f fd ∧ Meth C.K C.CH "node_of" f
  d_Host_folder_path : ∃ f fd, Fun C.K "folder_path" "Host.folder_path" s_Host_folder_path f fd ∧ Meth C.K C.CH "folder_path" f
  d_Host_free_path : ∃ f fd, Fun C.K "free_path" "Host.free_path" s_Host_free_path f fd ∧ Meth C.K C.CH "free_path" f
  d_Host_holds_something : ∃ f fd, Fun C.K "holds_something" "Host.holds_something" s_Host_holds_something f fd ∧ Meth C.K C.CH "holds_something" f
  d_Host_put_new : ∃ f fd, Fun C.K "put_new" "Host.put_new" s_Host_put_new f fd ∧ Meth C.K C.CH "put_new" f
  d_Host_take_away : ∃ f fd, Fun C.K "take_away" "Host.take_away" s_Host_take_away f fd ∧ Meth C.K C.CH "take_away" f
  d_Host_carry : ∃ f fd, Fun C.K "carry" "Host.carry" s_Host_carry f fd ∧ Meth C.K C.CH "carry" f
  d__law_cells : ∃ f fd, Fun C.K "_law_cells" "_law_cells" s__law_cells f fd ∧ mg "_law_cells" = some (.ref f)
  d__law_pick : ∃ f fd, Fun C.K "_law_pick" "_law_pick" s__law_pick f fd ∧ mg "_law_pick" = some (.ref f)
  d__law_text : ∃ f fd, Fun C.K "_law_text" "_law_text" s__law_text f fd ∧ mg "_law_text" = some (.ref f)
  d__law_name : ∃ f fd, Fun C.K "_law_name" "_law_name" s__law_name f fd ∧ mg "_law_name" = some (.ref f)
  d__law_path : ∃ f fd, Fun C.K "_law_path" "_law_path" s__law_path f fd ∧ mg "_law_path" = some (.ref f)
  d__law_rule : ∃ f fd, Fun C.K "_law_rule" "_law_rule" s__law_rule f fd ∧ mg "_law_rule" = some (.ref f)
  d__law_spot : ∃ f fd, Fun C.K "_law_spot" "_law_spot" s__law_spot f fd ∧ mg "_law_spot" = some (.ref f)
  d__law_target : ∃ f fd, Fun C.K "_law_target" "_law_target" s__law_target f fd ∧ mg "_law_target" = some (.ref f)
  d__law_deed : ∃ f fd, Fun C.K "_law_deed" "_law_deed" s__law_deed f fd ∧ mg "_law_deed" = some (.ref f)
  d__law_does : ∃ f fd, Fun C.K "_law_does" "_law_does" s__law_does f fd ∧ mg "_law_does" = some (.ref f)
  d__law_same : ∃ f fd, Fun C.K "_law_same" "_law_same" s__law_same f fd ∧ mg "_law_same" = some (.ref f)
  d__law_as : ∃ f fd, Fun C.K "_law_as" "_law_as" s__law_as f fd ∧ mg "_law_as" = some (.ref f)
  d__law_at : ∃ f fd, Fun C.K "_law_at" "_law_at" s__law_at f fd ∧ mg "_law_at" = some (.ref f)
  d__law_above : ∃ f fd, Fun C.K "_law_above" "_law_above" s__law_above f fd ∧ mg "_law_above" = some (.ref f)
  d__law_free : ∃ f fd, Fun C.K "_law_free" "_law_free" s__law_free f fd ∧ mg "_law_free" = some (.ref f)
  d__law_moved : ∃ f fd, Fun C.K "_law_moved" "_law_moved" s__law_moved f fd ∧ mg "_law_moved" = some (.ref f)
  d__law_filled : ∃ f fd, Fun C.K "_law_filled" "_law_filled" s__law_filled f fd ∧ mg "_law_filled" = some (.ref f)
  d__law_spot_of : ∃ f fd, Fun C.K "_law_spot_of" "_law_spot_of" s__law_spot_of f fd ∧ mg "_law_spot_of" = some (.ref f)
  d__law_row_at : ∃ f fd, Fun C.K "_law_row_at" "_law_row_at" s__law_row_at f fd ∧ mg "_law_row_at" = some (.ref f)
  d__law_file_at : ∃ f fd, Fun C.K "_law_file_at" "_law_file_at" s__law_file_at f fd ∧ mg "_law_file_at" = some (.ref f)
  d__law_put : ∃ f fd, Fun C.K "_law_put" "_law_put" s__law_put f fd ∧ mg "_law_put" = some (.ref f)
  d__law_gone : ∃ f fd, Fun C.K "_law_gone" "_law_gone" s__law_gone f fd ∧ mg "_law_gone" = some (.ref f)
  d__law_carried : ∃ f fd, Fun C.K "_law_carried" "_law_carried" s__law_carried f fd ∧ mg "_law_carried" = some (.ref f)
  d__law_with_text : ∃ f fd, Fun C.K "_law_with_text" "_law_with_text" s__law_with_text f fd ∧ mg "_law_with_text" = some (.ref f)
  d__law_renamed : ∃ f fd, Fun C.K "_law_renamed" "_law_renamed" s__law_renamed f fd ∧ mg "_law_renamed" = some (.ref f)
  d__law_done : ∃ f fd, Fun C.K "_law_done" "_law_done" s__law_done f fd ∧ mg "_law_done" = some (.ref f)
  d__law_done_in : ∃ f fd, Fun C.K "_law_done_in" "_law_done_in" s__law_done_in f fd ∧ mg "_law_done_in" = some (.ref f)
  d__law_tree : ∃ f fd, Fun C.K "_law_tree" "_law_tree" s__law_tree f fd ∧ mg "_law_tree" = some (.ref f)
  d__law_shelf : ∃ f fd, Fun C.K "_law_shelf" "_law_shelf" s__law_shelf f fd ∧ mg "_law_shelf" = some (.ref f)
  d__law_is : ∃ f fd, Fun C.K "_law_is" "_law_is" s__law_is f fd ∧ mg "_law_is" = some (.ref f)
  d__law_operation : ∃ f fd, Fun C.K "_law_operation" "_law_operation" s__law_operation f fd ∧ mg "_law_operation" = some (.ref f)
  d__law_cuts : ∃ f fd, Fun C.K "_law_cuts" "_law_cuts" s__law_cuts f fd ∧ mg "_law_cuts" = some (.ref f)
  d__law_read : ∃ f fd, Fun C.K "_law_read" "_law_read" s__law_read f fd ∧ mg "_law_read" = some (.ref f)
  d__law_told : ∃ f fd, Fun C.K "_law_told" "_law_told" s__law_told f fd ∧ mg "_law_told" = some (.ref f)
  d__law_change : ∃ f fd, Fun C.K "_law_change" "_law_change" s__law_change f fd ∧ mg "_law_change" = some (.ref f)
  d__law_carry : ∃ f fd, Fun C.K "_law_carry" "_law_carry" s__law_carry f fd ∧ mg "_law_carry" = some (.ref f)
  d_law : ∃ f fd, Fun C.K "law" "law" s_law f fd ∧ mg "law" = some (.ref f)
  tb : LamX.TabB base mg C.cA C.PT
  tqE : "Host.area_list" ++ ".<locals>." ++ "<lambda>" = C.tq
  gN : mg "Node" = some (.ref C.CN)
  gH : mg "Host" = some (.ref C.CH)
  gR : mg "Rule" = some (.ref C.CR)
  xP : PySem.W.excIn C.K C.CX [.type "ValueError", .type "Exception", .type "BaseException", .type "object"] "ValueError.__new__" = true
  gP : mg "NotPossible" = some (.ref C.CX)
  kP : PySem.W.keepIn C.K (.ref C.CX) = true
  bP : PySem.W.subIn C.K (.ref C.CX) (.type "BaseException") = some true
  tP : PySem.W.typeIn C.K (.ref C.CX) = some (.type "type")
  gREFUSED : ∃ a, mg "REFUSED" = some (.ref a) ∧ ∀ F, SqT C.K F a [.str "refused"]
  gDONE : ∃ a, mg "DONE" = some (.ref a) ∧ ∀ F, SqT C.K F a [.str "done"]

/-! ### more operators -/
def negD : D → HostSt → Res D
  | .int i, _ => .ok (.int (-i))
  | _, _ => .bad
def intsOf : List D → Option (List Int)
  | [] => some []
  | .int x :: r => (intsOf r).map fun l => x :: l
  | _ :: _ => none
def idxD : D → D → HostSt → Res D
  | .lst ds, .int i, _ => match intsOf ds with
    | some l => if i ∈ l then .ok (.int (l.idxOf i : Nat)) else .bad
    | none => .bad
  | _, _, _ => .bad
def vIdx (a b : Ev) : Ev := fun ρ A => (a ρ A).bind fun x => match x with
  | .lst ds => (b ρ A).bind fun y => idxD (.lst ds) y A
  | _ => .bad
def tvChain (a b c : Ev) : Tv := fun ρ A => (a ρ A).bind fun x => (b ρ A).bind fun y => (leD x y A).bind fun z => match z with
  | .bl k => if k = true then (c ρ A).bind fun u => (leD y u A).bind fun z => match z with
    | .bl k => .ok k
    | _ => .bad
    else .ok false
  | _ => .bad
section
variable {C : Cs} {X : Cx} {E : XK} {a b c : Expr} {ea eb ec : Ev} {pos : Pos}
theorem deep_of {k : Nat} {A : Around} (h : Room k A) : A.units + 65 < cLine := by
  have := h.un
  omega
theorem ed_neg (ha : PEd C X E a ea) : PEd C X E (.UnaryOp .USub a pos) (vUn negD ea) := by
  obtain ⟨t, h1, h2⟩ := ha
  refine ⟨_, pe_un un_neg h1, fun g A F H σ ρ Q w er h => ?_⟩
  refine h2 g A F H σ ρ _ w er (PostG.bind h fun d v F' H' x r h => ?_)
  cases d with
  | int i =>
    simp only [Rep] at r
    exact ⟨i, r, PostG.here x.w h (by simp [Rep])⟩
  | _ => exact h.elim
theorem ed_globT {x : Str} {k : Str} (hx : ∃ p, X.mg x = some (.ref p) ∧ ∀ F, SqT C.K F p [.str k]) (hg : Gl X x := by rfl) (hd : (x == ("__debug__" : Str)) = false := by decide) : PEd C X E (.Name x pos) (vC (.tup [.str k])) := by
  obtain ⟨p, h1, h2⟩ := hx
  refine ⟨_, pe_glob (v := .ref p) hg h1 rfl hd, fun g A F H σ ρ Q w er h => ?_⟩
  refine PostG.here w h ?_
  simp only [Rep]
  exact ⟨p, _, rfl, h2 F, .cons (by simp [Rep]) .nil⟩
theorem ints_rep {g : Gh} {F : Hp} : ∀ {ds : List D} {vs : List V} {l : List Int}, Reps C g F ds vs → intsOf ds = some l → vs = l.map V.int
  | [], vs, l, h, e => by simp only [Reps] at h; simp only [intsOf, Option.some.injEq] at e; subst h; subst e; rfl
  | .int x :: r, vs, l, h, e => by
    simp only [Reps, Rep] at h
    obtain ⟨v, us, rfl, rfl, h3⟩ := h
    simp only [intsOf, Option.map_eq_some_iff] at e
    obtain ⟨l', e1, rfl⟩ := e
    rw [ints_rep h3 e1]
    rfl
  | .non :: r, vs, l, h, e => by simp [intsOf] at e
  | .bl _ :: r, vs, l, h, e => by simp [intsOf] at e
  | .str _ :: r, vs, l, h, e => by simp [intsOf] at e
  | .tup _ :: r, vs, l, h, e => by simp [intsOf] at e
  | .lst _ :: r, vs, l, h, e => by simp [intsOf] at e
  | .rule _ :: r, vs, l, h, e => by simp [intsOf] at e
  | .host :: r, vs, l, h, e => by simp [intsOf] at e
  | .opened :: r, vs, l, h, e => by simp [intsOf] at e
  | .reads :: r, vs, l, h, e => by simp [intsOf] at e
  | .node _ :: r, vs, l, h, e => by simp [intsOf] at e
theorem idx_first (i : Int) : ∀ l : List Int, i ∈ l → l[l.idxOf i]? = some i ∧ ∀ m : Nat, m < l.idxOf i → ∀ z, l[m]? = some z → z ≠ i
  | [], h => by cases h
  | x :: l, h => by
    by_cases hx : x = i
    · subst hx
      simp
    · have hm : i ∈ l := by rcases List.mem_cons.mp h with e | e; exact absurd e.symm hx; exact e
      obtain ⟨h1, h2⟩ := idx_first i l hm
      have e : (x :: l).idxOf i = l.idxOf i + 1 := by
        have : (x == i) = false := by simpa using hx
        simp only [List.idxOf, List.findIdx_cons, this]
        rfl
      rw [e]
      refine ⟨by simpa using h1, fun m hm z hz => ?_⟩
      cases m with
      | zero => simp at hz; rw [← hz]; exact hx
      | succ m => exact h2 m (by omega) z (by simpa using hz)
theorem ed_index {cpos apos : Pos} (ho : PEd C X E a ea) (he : PEd C X E b eb) (hs : starEach [b] X.env = (false, eval b X.env) :: starEach [] X.env := by rfl) (hbase : attributeBase a "index" X.env (eval a X.env) = eval a X.env := by rfl)
    (hfew : ((backTo cpos (starEach (b :: []) X.env)).all (fun x => !x.1) && (backToKw cpos (keywordEach [] X.env)).all (fun x => x.1.isSome)
      && decide ((b :: []).length + ([] : List Keyword).length + (if ([] : List Keyword).isEmpty then 0 else 1) < 30)) = true := by rfl)
    (hline : (apos.endLine == cpos.line) = true := by rfl) (hplain : (backTo cpos (starEach [] X.env)).any (·.1) = false := by rfl) :
    PEd C X E (.Call (.Attribute a "index" apos) [b] [] cpos) (vIdx ea eb) := by
  obtain ⟨t, h1, h2⟩ := he
  obtain ⟨u, h3, h4⟩ := ho
  refine ⟨_, pe_bm PySem.F.plainAttrs_list PySem.F.slot_list_index PySem.F.type_list_index mt_index h3 (pa_cons h1 pa_nil hs) hbase hfew hline hs hplain, fun g A F H σ ρ Q w er h => ?_⟩
  refine h4 g A F H σ ρ _ w er (PostG.bind h fun d v F' H' x r h => ?_)
  cases d with
  | lst ds =>
    simp only [Rep] at r
    obtain ⟨p, vs, rfl, r1, r2⟩ := r
    refine ⟨.inl ⟨rfl, vs, SqL.of (x.w.sub _ _ r1)⟩, ?_⟩
    refine h2 g A F' H' σ ρ _ x.w (er.up x.fup) (PostG.bind h fun d2 v2 F2 H2 x2 rv h => ?_)
    cases d2 with
    | int i =>
      unfold idxD at h
      (try dsimp only at h)
      cases hl : intsOf ds with
      | none => rw [hl] at h; exact h.elim
      | some l =>
        rw [hl] at h
        (try dsimp only at h)
        by_cases hm : i ∈ l
        · rw [if_pos hm] at h
          have e := ints_rep r2 hl
          subst e
          simp only [Rep] at rv
          subst rv
          obtain ⟨j1, j2⟩ := idx_first i l hm
          refine ⟨p, _, .int i, l.idxOf i, .int i, rfl, rfl, SqL.of (x2.w.sub _ _ (x2.fup _ _ r1)), rfl, ?_, ?_, by simp [eqV], fun m z hm2 hz => ?_, PostG.here x2.w h (by simp [Rep])⟩
          · rw [List.all_map, List.all_eq_true]
            intro _ _
            rfl
          · rw [List.getElem?_map, j1]
            rfl
          · rw [List.getElem?_map] at hz
            cases q : l[m]? with
            | none => rw [q] at hz; cases hz
            | some y =>
              rw [q] at hz
              cases hz
              have := j2 m hm2 y q
              simp [eqV, this]
        · rw [if_neg hm] at h
          exact h.elim
    | _ => exact h.elim
  | _ => exact h.elim
theorem td_chainLe (ha : PEd C X E a ea) (hb : PEd C X E b eb) (hc : PEd C X E c ec) (hm : lastMarks [.LtE, .LtE] [b, c] = false := by with_unfolding_all rfl) : PTd C X E (.Compare a [.LtE, .LtE] [b, c] pos) (tvChain ea eb ec) := by
  obtain ⟨t, h1, h2⟩ := ha
  obtain ⟨u, h3, h4⟩ := hb
  obtain ⟨u', h5, h6⟩ := hc
  refine ⟨_, pt_chain op_le op_le h1 h3 h5 hm, fun g A F H σ ρ Q w er h => ?_⟩
  refine h2 g A F H σ ρ _ w er (PostG.bind h fun d v F' H' x r1 h => ?_)
  refine h4 g A F' H' σ ρ _ x.w (er.up x.fup) (PostG.bind h fun d2 v2 F2 H2 x2 r2 h => ?_)
  cases d with
  | int i =>
    cases d2 with
    | int j =>
      have r1' := r1.up x2.fup
      simp only [Rep] at r1' r2
      subst r1'
      subst r2
      refine ⟨i, j, rfl, rfl, _, rfl, ?_⟩
      simp only [leD, Res.bind_ok] at h
      by_cases hk : decide (i ≤ j) = true
      · rw [if_pos hk] at h ⊢
        refine h6 g A F2 H2 σ ρ _ x2.w ((er.up x.fup).up x2.fup) (PostG.bind h fun d3 v3 F3 H3 x3 r3 h => ?_)
        cases d3 with
        | int l =>
          simp only [Rep] at r3
          subst r3
          exact ⟨_, _, rfl, rfl, _, rfl, PostG.here x3.w h rfl⟩
        | _ => exact h.elim
      · rw [if_neg hk] at h ⊢
        exact ⟨false, rfl, PostG.here x2.w h rfl⟩
    | _ => exact h.elim
  | _ => cases d2 <;> exact h.elim
end

/-! ### calls by name -/
section
variable (P : Program) (w : World) (C : Cs) (mg : Str → Option Value) (base : Heap)
def CalP (x : Str) (k n : Nat) (sp : Sp) : Prop := ∃ f fd ps, FnOk P w C.K mg base (L2.CX P w) k f fd ps sp ∧ mg x = some (.ref f) ∧ PySem.W.keepIn C.K (.ref f) = true ∧ Binds C.K fd ps [] ∧ ps.length = n
def MetP (Cl : Addr) (x : Str) (k n : Nat) (sp : Sp) : Prop := ∃ f fd ps, FnOk P w C.K mg base (L2.CX P w) k f fd ps sp ∧ Meth C.K Cl x f ∧ Binds C.K fd ps [] ∧ ps.length = n
end
section
variable {C : Cs} {X : Cx} {E : XK} {k n : Nat} {x m : Str} {e o : Expr} {es : List Expr} {ev : Ev} {evs : Evs} {fD : List D → HostSt → Res D} {fE : List D → HostSt → ResE} {pos p apos : Pos}
theorem ed_callC (hx : Passes (L2.CX X.prog X.w) X E) (G : CalP X.prog X.w C X.mg X.base x k n (spP C n fD)) (hr : Room k X.A) (ha : PAd C X E (e :: es) evs) (hK : X.K = C.K := by rfl) (hg : Gl X x := by rfl) (hdb : (x == ("__debug__" : Str)) = false := by decide)
    (he : starEach (e :: es) X.env = (false, eval e X.env) :: starEach es X.env := by rfl) (hpl : (backTo pos (starEach es X.env)).any (·.1) = false := by rfl) : PEd C X E (.Call (.Name x p) (e :: es) [] pos) (vCall n fD evs) := by
  obtain ⟨f, fd, ps, G, hm, hk, hb, _⟩ := G
  exact ed_call hx (by rw [hK]; exact G) hr hm (by rw [hK]; exact hk) (by rw [hK]; exact hb) ha hg hdb he hpl
theorem ee_callC (hx : Passes (L2.CX X.prog X.w) X E) (G : CalP X.prog X.w C X.mg X.base x k n (spE C n fE)) (hr : Room k X.A) (ha : PAd C X E (e :: es) evs) (hK : X.K = C.K := by rfl) (hg : Gl X x := by rfl) (hdb : (x == ("__debug__" : Str)) = false := by decide)
    (he : starEach (e :: es) X.env = (false, eval e X.env) :: starEach es X.env := by rfl) (hpl : (backTo pos (starEach es X.env)).any (·.1) = false := by rfl) : PEe C X E (.Call (.Name x p) (e :: es) [] pos) (eCall n fE evs) := by
  obtain ⟨f, fd, ps, G, hm, hk, hb, _⟩ := G
  exact ee_call hx (by rw [hK]; exact G) hr hm (by rw [hK]; exact hk) (by rw [hK]; exact hb) ha hg hdb he hpl
theorem ed_methC {pl : Sem Bool} (T : Txt C X.mg) (hx : Passes (L2.CX X.prog X.w) X E) (G : MetP X.prog X.w C X.mg X.base C.CH m k n (spP C n fD)) (hr : Room k X.A) (ho : PEd C X E o ev) (ha : PAd C X E (e :: es) evs) (hK : X.K = C.K := by rfl) (hno : hostNames.contains m = false := by decide +kernel)
    (hst : starEach (e :: es) X.env = (false, eval e X.env) :: starEach es X.env := by rfl) (hpl : (backTo pos (starEach es X.env)).any (·.1) = false := by rfl)
    (ht : eval (.Call (.Attribute o m apos) (e :: es) [] pos) X.env = (do
      let ov ← eval o X.env
      standAt apos.atName
      let (f, first) ← holding [ov] (getMethod ov m pl)
      callWith pos f first (backTo pos (starEach (e :: es) X.env)) (backToKw pos (keywordEach [] X.env))) := by rfl) :
    PEd C X E (.Call (.Attribute o m apos) (e :: es) [] pos) (vMeth n fD ev evs) := by
  obtain ⟨f, fd, ps, G, hm, hb, _⟩ := G
  exact ed_meth T hx (by rw [hK]; exact hm) (by rw [hK]; exact G) hr (by rw [hK]; exact hb) ho ha hK hno hst hpl ht
theorem ee_methC {pl : Sem Bool} (T : Txt C X.mg) (hx : Passes (L2.CX X.prog X.w) X E) (G : MetP X.prog X.w C X.mg X.base C.CH m k n (spE C n fE)) (hr : Room k X.A) (ho : PEd C X E o ev) (ha : PAd C X E (e :: es) evs) (hK : X.K = C.K := by rfl) (hno : hostNames.contains m = false := by decide +kernel)
    (hst : starEach (e :: es) X.env = (false, eval e X.env) :: starEach es X.env := by rfl) (hpl : (backTo pos (starEach es X.env)).any (·.1) = false := by rfl)
    (ht : eval (.Call (.Attribute o m apos) (e :: es) [] pos) X.env = (do
      let ov ← eval o X.env
      standAt apos.atName
      let (f, first) ← holding [ov] (getMethod ov m pl)
      callWith pos f first (backTo pos (starEach (e :: es) X.env)) (backToKw pos (keywordEach [] X.env))) := by rfl) :
    PEe C X E (.Call (.Attribute o m apos) (e :: es) [] pos) (eMeth n fE ev evs) := by
  obtain ⟨f, fd, ps, G, hm, hb, _⟩ := G
  exact ee_meth T hx (by rw [hK]; exact hm) (by rw [hK]; exact G) hr (by rw [hK]; exact hb) ho ha hK hno hst hpl ht
theorem ed_meth0C {pl : Sem Bool} (T : Txt C X.mg) (hx : Passes (L2.CX X.prog X.w) X E) (G : MetP X.prog X.w C X.mg X.base C.CH m k 1 (spP C 1 fD)) (hr : Room k X.A) (ho : PEd C X E o ev) (hK : X.K = C.K := by rfl) (hno : hostNames.contains m = false := by decide +kernel)
    (ht : eval (.Call (.Attribute o m apos) [] [] pos) X.env = (do
      let ov ← eval o X.env
      standAt apos.atName
      let (f, first) ← holding [ov] (getMethod ov m pl)
      callWith pos f first (backTo pos (starEach [] X.env)) (backToKw pos (keywordEach [] X.env))) := by rfl) :
    PEd C X E (.Call (.Attribute o m apos) [] [] pos) (vMeth 1 fD ev vNil) := by
  obtain ⟨f, fd, ps, G, hm, hb, _⟩ := G
  exact ed_meth0 T hx (by rw [hK]; exact hm) (by rw [hK]; exact G) hr (by rw [hK]; exact hb) ho hK hno ht
theorem ed_methNC {pl : Sem Bool} (T : Txt C X.mg) (hx : Passes (L2.CX X.prog X.w) X E) (G : MetP X.prog X.w C X.mg X.base C.CN m k 1 (spP C 1 fD)) (hr : Room k X.A) (ho : PEd C X E o ev) (hK : X.K = C.K := by rfl) (hno : nodeNames.contains m = false := by decide +kernel)
    (ht : eval (.Call (.Attribute o m apos) [] [] pos) X.env = (do
      let ov ← eval o X.env
      standAt apos.atName
      let (f, first) ← holding [ov] (getMethod ov m pl)
      callWith pos f first (backTo pos (starEach [] X.env)) (backToKw pos (keywordEach [] X.env))) := by rfl) :
    PEd C X E (.Call (.Attribute o m apos) [] [] pos) (vMethN fD ev) := by
  obtain ⟨f, fd, ps, G, hm, hb, _⟩ := G
  exact ed_methN T hx (by rw [hK]; exact hm) (by rw [hK]; exact G) hr (by rw [hK]; exact hb) ho hK hno ht
theorem Facts.pmk {mg : Str → Option Value} {base : Heap} {s : Str} {j : Nat} {p2 : Pos} (F : Facts C mg base) (hK : X.K = C.K) (hmg : X.mg = mg) (hg : Gl X "NotPossible") : PMk X (.Call (.Name "NotPossible" p) [.Constant (.str s) j p2] [] pos) (fun _ H Q => Q (.ref C.CX) none H) :=
  pmk_own PySem.F.excBase_ValueError (by rw [hK]; exact F.xP) (by rw [hmg]; exact F.gP) (by rw [hK]; exact F.kP) (raises_own (by rw [hK]; exact F.bP) (by rw [hK]; exact F.tP)) hg
end
end FK
set_option Elab.async false
set_option linter.all false
set_option maxRecDepth 100000
set_option maxHeartbeats 0
/-! The head: facts by names, the run. -/
namespace FK
open PySem PySem.Spec PyProof.Rows L2
def df_Rule_init : He.DefD := ⟨("Rule", some "__init__"), "__init__", "Rule.__init__", defArgs s_Rule_init, defBody s_Rule_init, defScope s_Rule_init, [], []⟩
def df_is_name : He.DefD := ⟨("is_name", none), "is_name", "is_name", defArgs s_is_name, defBody s_is_name, defScope s_is_name, [], []⟩
def df_counterpart : He.DefD := ⟨("counterpart", none), "counterpart", "counterpart", defArgs s_counterpart, defBody s_counterpart, defScope s_counterpart, [], []⟩
def df_same_name : He.DefD := ⟨("same_name", none), "same_name", "same_name", defArgs s_same_name, defBody s_same_name, defScope s_same_name, [], []⟩
def df_in_use : He.DefD := ⟨("in_use", none), "in_use", "in_use", defArgs s_in_use, defBody s_in_use, defScope s_in_use, [], []⟩
def df_fits : He.DefD := ⟨("fits", none), "fits", "fits", defArgs s_fits, defBody s_fits, defScope s_fits, [], []⟩
def df_same_path : He.DefD := ⟨("same_path", none), "same_path", "same_path", defArgs s_same_path, defBody s_same_path, defScope s_same_path, [], []⟩
def df_Node_init : He.DefD := ⟨("Node", some "__init__"), "__init__", "Node.__init__", defArgs s_Node_init, defBody s_Node_init, defScope s_Node_init, [], []⟩
def df_Node_stands : He.DefD := ⟨("Node", some "stands"), "stands", "Node.stands", defArgs s_Node_stands, defBody s_Node_stands, defScope s_Node_stands, [], []⟩
def df_written : He.DefD := ⟨("written", none), "written", "written", defArgs s_written, defBody s_written, defScope s_written, [], []⟩
def df_within : He.DefD := ⟨("within", none), "within", "within", defArgs s_within, defBody s_within, defScope s_within, [], []⟩
def df_moved : He.DefD := ⟨("moved", none), "moved", "moved", defArgs s_moved, defBody s_moved, defScope s_moved, [], []⟩
def df_spot_place : He.DefD := ⟨("spot_place", none), "spot_place", "spot_place", defArgs s_spot_place, defBody s_spot_place, defScope s_spot_place, [], []⟩
def df_thing_at : He.DefD := ⟨("thing_at", none), "thing_at", "thing_at", defArgs s_thing_at, defBody s_thing_at, defScope s_thing_at, [], []⟩
def df_room_at : He.DefD := ⟨("room_at", none), "room_at", "room_at", defArgs s_room_at, defBody s_room_at, defScope s_room_at, [], []⟩
def df_file_named : He.DefD := ⟨("file_named", none), "file_named", "file_named", defArgs s_file_named, defBody s_file_named, defScope s_file_named, [], []⟩
def df_make : He.DefD := ⟨("make", none), "make", "make", defArgs s_make, defBody s_make, defScope s_make, [], []⟩
def df_make_kind : He.DefD := ⟨("make_kind", none), "make_kind", "make_kind", defArgs s_make_kind, defBody s_make_kind, defScope s_make_kind, [], []⟩
def df_remove : He.DefD := ⟨("remove", none), "remove", "remove", defArgs s_remove, defBody s_remove, defScope s_remove, [], []⟩
def df_remove_folder_programs : He.DefD := ⟨("remove_folder_programs", none), "remove_folder", "remove_folder", defArgs s_remove_folder_programs, defBody s_remove_folder_programs, defScope s_remove_folder_programs, [], []⟩
def df_rename : He.DefD := ⟨("rename", none), "rename", "rename", defArgs s_rename, defBody s_rename, defScope s_rename, [], []⟩
def df_spelled : He.DefD := ⟨("spelled", none), "spelled", "spelled", defArgs s_spelled, defBody s_spelled, defScope s_spelled, [], []⟩
def df_write : He.DefD := ⟨("write", none), "write", "write", defArgs s_write, defBody s_write, defScope s_write, [], []⟩
def df_cut : He.DefD := ⟨("cut", none), "cut", "cut", defArgs s_cut, defBody s_cut, defScope s_cut, [], []⟩
def df_close : He.DefD := ⟨("close", none), "close", "close", defArgs s_close, defBody s_close, defScope s_close, [], []⟩
def df_doing : He.DefD := ⟨("doing", none), "doing", "doing", defArgs s_doing, defBody s_doing, defScope s_doing, [], []⟩
def df_doing_in_files : He.DefD := ⟨("doing_in_files", none), "doing_in_files", "doing_in_files", defArgs s_doing_in_files, defBody s_doing_in_files, defScope s_doing_in_files, [], []⟩
def df_told_cuts : He.DefD := ⟨("told_cuts", none), "told_cuts", "told_cuts", defArgs s_told_cuts, defBody s_told_cuts, defScope s_told_cuts, [], []⟩
def df_names_answer : He.DefD := ⟨("names_answer", none), "names_answer", "names_answer", defArgs s_names_answer, defBody s_names_answer, defScope s_names_answer, [], []⟩
def df_text_answer : He.DefD := ⟨("text_answer", none), "text_answer", "text_answer", defArgs s_text_answer, defBody s_text_answer, defScope s_text_answer, [], []⟩
def df_file_in_folder : He.DefD := ⟨("file_in_folder", none), "file_in_folder", "file_in_folder", defArgs s_file_in_folder, defBody s_file_in_folder, defScope s_file_in_folder, [], []⟩
def df_shelf_answer : He.DefD := ⟨("shelf_answer", none), "shelf_answer", "shelf_answer", defArgs s_shelf_answer, defBody s_shelf_answer, defScope s_shelf_answer, [], []⟩
def df_read_answer : He.DefD := ⟨("read_answer", none), "read_answer", "read_answer", defArgs s_read_answer, defBody s_read_answer, defScope s_read_answer, [], []⟩
def df_stage : He.DefD := ⟨("stage", none), "stage", "stage", defArgs s_stage, defBody s_stage, defScope s_stage, [], []⟩
def df_take : He.DefD := ⟨("take", none), "take", "take", defArgs s_take, defBody s_take, defScope s_take, [], []⟩
def df_give : He.DefD := ⟨("give", none), "give", "give", defArgs s_give, defBody s_give, defScope s_give, [], []⟩
def df_swap : He.DefD := ⟨("swap", none), "swap", "swap", defArgs s_swap, defBody s_swap, defScope s_swap, [], []⟩
def df_make_folder : He.DefD := ⟨("make_folder", none), "make_folder", "make_folder", defArgs s_make_folder, defBody s_make_folder, defScope s_make_folder, [], []⟩
def df_remove_folder_asking : He.DefD := ⟨("remove_folder_asking", none), "remove_folder", "remove_folder", defArgs s_remove_folder_asking, defBody s_remove_folder_asking, defScope s_remove_folder_asking, [], []⟩
def df_drop : He.DefD := ⟨("drop", none), "drop", "drop", defArgs s_drop, defBody s_drop, defScope s_drop, [], []⟩
def df_answer : He.DefD := ⟨("answer", none), "answer", "answer", defArgs s_answer, defBody s_answer, defScope s_answer, [], []⟩
def df_change_answer : He.DefD := ⟨("change_answer", none), "change_answer", "change_answer", defArgs s_change_answer, defBody s_change_answer, defScope s_change_answer, [], []⟩
def df_Host_init : He.DefD := ⟨("Host", some "__init__"), "__init__", "Host.__init__", defArgs s_Host_init, defBody s_Host_init, defScope s_Host_init, [], []⟩
def df_Host_program : He.DefD := ⟨("Host", some "program"), "program", "Host.program", defArgs s_Host_program, defBody s_Host_program, defScope s_Host_program, [], []⟩
def df_Host_ask : He.DefD := ⟨("Host", some "ask"), "ask", "Host.ask", defArgs s_Host_ask, defBody s_Host_ask, defScope s_Host_ask, [], []⟩
def df_Host_tree : He.DefD := ⟨("Host", some "tree"), "tree", "Host.tree", defArgs s_Host_tree, defBody s_Host_tree, defScope s_Host_tree, [], []⟩
def df_Host_outside : He.DefD := ⟨("Host", some "outside"), "outside", "Host.outside", defArgs s_Host_outside, defBody s_Host_outside, defScope s_Host_outside, [], []⟩
def df_Host_shelf : He.DefD := ⟨("Host", some "shelf"), "shelf", "Host.shelf", defArgs s_Host_shelf, defBody s_Host_shelf, defScope s_Host_shelf, [], []⟩
def df_Host_area_list : He.DefD := ⟨("Host", some "area_list"), "area_list", "Host.area_list", defArgs s_Host_area_list, defBody s_Host_area_list, defScope s_Host_area_list, [], []⟩
def df_Host_can_have : He.DefD := ⟨("Host", some "can_have"), "can_have", "Host.can_have", defArgs s_Host_can_have, defBody s_Host_can_have, defScope s_Host_can_have, [], []⟩
def df_Host_node_at : He.DefD := ⟨("Host", some "node_at"), "node_at", "Host.node_at", defArgs s_Host_node_at, defBody s_Host_node_at, defScope s_Host_node_at, [], []⟩
def df_Host_node_of : He.DefD := ⟨("Host", some "node_of"), "node_of", "Host.node_of", defArgs s_Host_node_of, defBody s_Host_node_of, defScope s_Host_node_of, [], []⟩
def df_Host_folder_path : He.DefD := ⟨("Host", some "folder_path"), "folder_path", "Host.folder_path", defArgs s_Host_folder_path, defBody s_Host_folder_path, defScope s_Host_folder_path, [], []⟩
def df_Host_free_path : He.DefD := ⟨("Host", some "free_path"), "free_path", "Host.free_path", defArgs s_Host_free_path, defBody s_Host_free_path, defScope s_Host_free_path, [], []⟩
def df_Host_holds_something : He.DefD := ⟨("Host", some "holds_something"), "holds_something", "Host.holds_something", defArgs s_Host_holds_something, defBody s_Host_holds_something, defScope s_Host_holds_something, [], []⟩
def df_Host_put_new : He.DefD := ⟨("Host", some "put_new"), "put_new", "Host.put_new", defArgs s_Host_put_new, defBody s_Host_put_new, defScope s_Host_put_new, [], []⟩
def df_Host_take_away : He.DefD := ⟨("Host", some "take_away"), "take_away", "Host.take_away", defArgs s_Host_take_away, defBody s_Host_take_away, defScope s_Host_take_away, [], []⟩
def df_Host_carry : He.DefD := ⟨("Host", some "carry"), "carry", "Host.carry", defArgs s_Host_carry, defBody s_Host_carry, defScope s_Host_carry, [], []⟩
def df__law_cells : He.DefD := ⟨("_law_cells", none), "_law_cells", "_law_cells", defArgs s__law_cells, defBody s__law_cells, defScope s__law_cells, [], []⟩
def df__law_pick : He.DefD := ⟨("_law_pick", none), "_law_pick", "_law_pick", defArgs s__law_pick, defBody s__law_pick, defScope s__law_pick, [], []⟩
def df__law_text : He.DefD := ⟨("_law_text", none), "_law_text", "_law_text", defArgs s__law_text, defBody s__law_text, defScope s__law_text, [], []⟩
def df__law_name : He.DefD := ⟨("_law_name", none), "_law_name", "_law_name", defArgs s__law_name, defBody s__law_name, defScope s__law_name, [], []⟩
def df__law_path : He.DefD := ⟨("_law_path", none), "_law_path", "_law_path", defArgs s__law_path, defBody s__law_path, defScope s__law_path, [], []⟩
def df__law_rule : He.DefD := ⟨("_law_rule", none), "_law_rule", "_law_rule", defArgs s__law_rule, defBody s__law_rule, defScope s__law_rule, [], []⟩
def df__law_spot : He.DefD := ⟨("_law_spot", none), "_law_spot", "_law_spot", defArgs s__law_spot, defBody s__law_spot, defScope s__law_spot, [], []⟩
def df__law_target : He.DefD := ⟨("_law_target", none), "_law_target", "_law_target", defArgs s__law_target, defBody s__law_target, defScope s__law_target, [], []⟩
def df__law_deed : He.DefD := ⟨("_law_deed", none), "_law_deed", "_law_deed", defArgs s__law_deed, defBody s__law_deed, defScope s__law_deed, [], []⟩
def df__law_does : He.DefD := ⟨("_law_does", none), "_law_does", "_law_does", defArgs s__law_does, defBody s__law_does, defScope s__law_does, [], []⟩
def df__law_same : He.DefD := ⟨("_law_same", none), "_law_same", "_law_same", defArgs s__law_same, defBody s__law_same, defScope s__law_same, [], []⟩
def df__law_as : He.DefD := ⟨("_law_as", none), "_law_as", "_law_as", defArgs s__law_as, defBody s__law_as, defScope s__law_as, [], []⟩
def df__law_at : He.DefD := ⟨("_law_at", none), "_law_at", "_law_at", defArgs s__law_at, defBody s__law_at, defScope s__law_at, [], []⟩
def df__law_above : He.DefD := ⟨("_law_above", none), "_law_above", "_law_above", defArgs s__law_above, defBody s__law_above, defScope s__law_above, [], []⟩
def df__law_free : He.DefD := ⟨("_law_free", none), "_law_free", "_law_free", defArgs s__law_free, defBody s__law_free, defScope s__law_free, [], []⟩
def df__law_moved : He.DefD := ⟨("_law_moved", none), "_law_moved", "_law_moved", defArgs s__law_moved, defBody s__law_moved, defScope s__law_moved, [], []⟩
def df__law_filled : He.DefD := ⟨("_law_filled", none), "_law_filled", "_law_filled", defArgs s__law_filled, defBody s__law_filled, defScope s__law_filled, [], []⟩
def df__law_spot_of : He.DefD := ⟨("_law_spot_of", none), "_law_spot_of", "_law_spot_of", defArgs s__law_spot_of, defBody s__law_spot_of, defScope s__law_spot_of, [], []⟩
def df__law_row_at : He.DefD := ⟨("_law_row_at", none), "_law_row_at", "_law_row_at", defArgs s__law_row_at, defBody s__law_row_at, defScope s__law_row_at, [], []⟩
def df__law_file_at : He.DefD := ⟨("_law_file_at", none), "_law_file_at", "_law_file_at", defArgs s__law_file_at, defBody s__law_file_at, defScope s__law_file_at, [], []⟩
def df__law_put : He.DefD := ⟨("_law_put", none), "_law_put", "_law_put", defArgs s__law_put, defBody s__law_put, defScope s__law_put, [], []⟩
def df__law_gone : He.DefD := ⟨("_law_gone", none), "_law_gone", "_law_gone", defArgs s__law_gone, defBody s__law_gone, defScope s__law_gone, [], []⟩
def df__law_carried : He.DefD := ⟨("_law_carried", none), "_law_carried", "_law_carried", defArgs s__law_carried, defBody s__law_carried, defScope s__law_carried, [], []⟩
def df__law_with_text : He.DefD := ⟨("_law_with_text", none), "_law_with_text", "_law_with_text", defArgs s__law_with_text, defBody s__law_with_text, defScope s__law_with_text, [], []⟩
def df__law_renamed : He.DefD := ⟨("_law_renamed", none), "_law_renamed", "_law_renamed", defArgs s__law_renamed, defBody s__law_renamed, defScope s__law_renamed, [], []⟩
def df__law_done : He.DefD := ⟨("_law_done", none), "_law_done", "_law_done", defArgs s__law_done, defBody s__law_done, defScope s__law_done, [], []⟩
def df__law_done_in : He.DefD := ⟨("_law_done_in", none), "_law_done_in", "_law_done_in", defArgs s__law_done_in, defBody s__law_done_in, defScope s__law_done_in, [], []⟩
def df__law_tree : He.DefD := ⟨("_law_tree", none), "_law_tree", "_law_tree", defArgs s__law_tree, defBody s__law_tree, defScope s__law_tree, [], []⟩
def df__law_shelf : He.DefD := ⟨("_law_shelf", none), "_law_shelf", "_law_shelf", defArgs s__law_shelf, defBody s__law_shelf, defScope s__law_shelf, [], []⟩
def df__law_is : He.DefD := ⟨("_law_is", none), "_law_is", "_law_is", defArgs s__law_is, defBody s__law_is, defScope s__law_is, [], []⟩
def df__law_operation : He.DefD := ⟨("_law_operation", none), "_law_operation", "_law_operation", defArgs s__law_operation, defBody s__law_operation, defScope s__law_operation, [], []⟩
def df__law_cuts : He.DefD := ⟨("_law_cuts", none), "_law_cuts", "_law_cuts", defArgs s__law_cuts, defBody s__law_cuts, defScope s__law_cuts, [], []⟩
def df__law_read : He.DefD := ⟨("_law_read", none), "_law_read", "_law_read", defArgs s__law_read, defBody s__law_read, defScope s__law_read, [], []⟩
def df__law_told : He.DefD := ⟨("_law_told", none), "_law_told", "_law_told", defArgs s__law_told, defBody s__law_told, defScope s__law_told, [], []⟩
def df__law_change : He.DefD := ⟨("_law_change", none), "_law_change", "_law_change", defArgs s__law_change, defBody s__law_change, defScope s__law_change, [], []⟩
def df__law_carry : He.DefD := ⟨("_law_carry", none), "_law_carry", "_law_carry", defArgs s__law_carry, defBody s__law_carry, defScope s__law_carry, [], []⟩
def df_law : He.DefD := ⟨("law", none), "law", "law", defArgs s_law, defBody s_law, defScope s_law, [], []⟩
def fa0 : List He.Fa := [.glo "is_name", .glo "counterpart", .glo "same_name", .glo "in_use", .glo "fits", .glo "same_path", .glo "written", .glo "within", .glo "moved", .glo "spot_place", .glo "thing_at", .glo "room_at", .glo "file_named", .glo "make", .glo "make_kind", .glo "remove", .glo "remove_folder_programs", .glo "rename", .glo "spelled", .glo "write", .glo "cut", .glo "close", .glo "doing", .glo "doing_in_files", .glo "told_cuts", .glo "names_answer", .glo "text_answer", .glo "file_in_folder", .glo "shelf_answer", .glo "read_answer", .glo "stage", .glo "take", .glo "give", .glo "swap", .glo "make_folder", .glo "remove_folder_asking", .glo "drop", .glo "answer", .glo "change_answer", .glo "_law_cells"]
def fa1 : List He.Fa := [.glo "_law_pick", .glo "_law_text", .glo "_law_name", .glo "_law_path", .glo "_law_rule", .glo "_law_spot", .glo "_law_target", .glo "_law_deed", .glo "_law_does", .glo "_law_same", .glo "_law_as", .glo "_law_at", .glo "_law_above", .glo "_law_free", .glo "_law_moved", .glo "_law_filled", .glo "_law_spot_of", .glo "_law_row_at", .glo "_law_file_at", .glo "_law_put", .glo "_law_gone", .glo "_law_carried", .glo "_law_with_text", .glo "_law_renamed", .glo "_law_done", .glo "_law_done_in", .glo "_law_tree", .glo "_law_shelf", .glo "_law_is", .glo "_law_operation", .glo "_law_cuts", .glo "_law_read", .glo "_law_told", .glo "_law_change", .glo "_law_carry", .glo "law", .glo "Rule", .glo "Node", .glo "Host", .glo "NotPossible"]
def fa2 : List He.Fa := [.glo "REFUSED", .glo "DONE", .free "len", .free "isinstance", .free "int", .free "str", .free "ord", .free "range", .free "sorted", .cls "Rule", .cls "Node", .cls "Host", .noat "Rule" "alike", .noat "Rule" "unfit", .noat "Rule" "longest", .noat "Rule" "swaps", .noat "Rule" "reads", .noat "Rule" "cuts", .noat "Rule" "turns", .noat "Node" "area", .noat "Node" "path", .noat "Node" "thing", .noat "Node" "kind", .noat "Node" "text", .noat "Node" "runs", .noat "Node" "count", .noat "Node" "cuts", .noat "Node" "staged", .noat "Host" "rule", .noat "Host" "nodes", .noat "Host" "opened", .noat "Host" "had_read", .noat "Host" "next_thing", .noat "Host" "turned", .meth "Node" "stands", .meth "Host" "program", .meth "Host" "ask", .meth "Host" "tree", .meth "Host" "outside", .meth "Host" "shelf"]
def fa3 : List He.Fa := [.meth "Host" "area_list", .meth "Host" "can_have", .meth "Host" "node_at", .meth "Host" "node_of", .meth "Host" "folder_path", .meth "Host" "free_path", .meth "Host" "holds_something", .meth "Host" "put_new", .meth "Host" "take_away", .meth "Host" "carry", .mkr "Rule", .mkr "Node", .mkr "Host", .exc "NotPossible", .exm "NotPossible" "NotPossible" true]
def fa : List He.Fa := fa0 ++ fa1 ++ fa2 ++ fa3
def fn0 : List He.DefD := [df_Rule_init, df_is_name, df_counterpart, df_same_name, df_in_use, df_fits, df_same_path, df_Node_init, df_Node_stands, df_written, df_within, df_moved, df_spot_place, df_thing_at, df_room_at, df_file_named, df_make, df_make_kind, df_remove, df_remove_folder_programs, df_rename, df_spelled, df_write, df_cut, df_close, df_doing, df_doing_in_files, df_told_cuts, df_names_answer, df_text_answer, df_file_in_folder, df_shelf_answer, df_read_answer, df_stage, df_take, df_give, df_swap, df_make_folder, df_remove_folder_asking, df_drop]
def fn1 : List He.DefD := [df_answer, df_change_answer, df_Host_init, df_Host_program, df_Host_ask, df_Host_tree, df_Host_outside, df_Host_shelf, df_Host_area_list, df_Host_can_have, df_Host_node_at, df_Host_node_of, df_Host_folder_path, df_Host_free_path, df_Host_holds_something, df_Host_put_new, df_Host_take_away, df_Host_carry, df__law_cells, df__law_pick, df__law_text, df__law_name, df__law_path, df__law_rule, df__law_spot, df__law_target, df__law_deed, df__law_does, df__law_same, df__law_as, df__law_at, df__law_above, df__law_free, df__law_moved, df__law_filled, df__law_spot_of, df__law_row_at, df__law_file_at, df__law_put, df__law_gone]
def fn2 : List He.DefD := [df__law_carried, df__law_with_text, df__law_renamed, df__law_done, df__law_done_in, df__law_tree, df__law_shelf, df__law_is, df__law_operation, df__law_cuts, df__law_read, df__law_told, df__law_change, df__law_carry, df_law]
def fn : List He.DefD := fn0 ++ fn1 ++ fn2
def loose0 : List Str := ["Rule", "is_name", "counterpart", "same_name", "in_use", "fits", "same_path", "Node", "written", "within", "moved", "FoldError", "NotPossible", "spot_place", "thing_at", "room_at", "file_named", "make", "make_kind", "remove"]
def loose1 : List Str := ["remove_folder", "remove_folder_programs", "rename", "spelled", "write", "cut", "close", "doing", "doing_in_files", "REFUSED", "DONE", "told_cuts", "names_answer", "text_answer", "file_in_folder", "shelf_answer", "read_answer", "stage", "take", "give"]
def loose2 : List Str := ["swap", "make_folder", "remove_folder_asking", "drop", "answer", "change_answer", "Host", "_law_cells", "_law_pick", "_law_text", "_law_name", "_law_path", "_law_rule", "_law_spot", "_law_target", "_law_deed", "_law_does", "_law_same", "_law_as", "_law_at"]
def loose3 : List Str := ["_law_above", "_law_free", "_law_moved", "_law_filled", "_law_spot_of", "_law_row_at", "_law_file_at", "_law_put", "_law_gone", "_law_carried", "_law_with_text", "_law_renamed", "_law_done", "_law_done_in", "_law_tree", "_law_shelf", "_law_is", "_law_operation", "_law_cuts", "_law_read"]
def loose4 : List Str := ["_law_told", "_law_change", "_law_carry"]
def loose : List Str := loose0 ++ loose1 ++ loose2 ++ loose3 ++ loose4
def tf : List He.Defn := [("Host", some "area_list")]
def exB (K : PySem.W.Frag) : Bool := He.tupB K "REFUSED" [.str "refused"] && He.tupB K "DONE" [.str "done"]
/-! ### the hook: what is looked at -/
def refsAt (g : Addr → Option Obj) (as : List Addr) : List Addr := as.flatMap fun a => match g a with
  | some o => He.refsD o
  | none => []
def isNs (g : Addr → Option Obj) (a : Addr) : Bool := match g a with
  | some ⟨_, _, .dict _ _, _⟩ => true
  | _ => false
/-- the module's names, what they name, what their namespaces name, the code of these -/
def colG (g : Addr → Option Obj) : List Addr :=
  let f1 := refsAt g [mainGlobals]
  let f2 := refsAt g f1
  let f3 := refsAt g (f2.filter (isNs g))
  mainGlobals :: (f1 ++ (f2 ++ (f3 ++ refsAt g f3)))
def obsY (g : Addr → Option Obj) : He.AlD × Bool :=
  (He.obsD fa fn (He.frT g (colG g)), exB (He.frT g (colG g)) && He.tabsB g tf (He.frT g (colG g)))
structure SaysY (h : Heap) (K : PySem.W.Frag) : Prop where
  d : He.SaysD fa fn K
  ex : exB K = true
  hd : PySem.W.codeHdIn K (He.cT K ("Host", some "area_list")).1 (He.cT K ("Host", some "area_list")).2 = true
  out : K.lookup (He.cT K ("Host", some "area_list")).2 = none
  empty : h.get? (He.cT K ("Host", some "area_list")).2 = some { cls := .none, data := .fields #[] }
theorem saysY_of {h : Heap} (e : obsY h.get? = (He.valD fn, true)) : SaysY h (He.frT h.get? (colG h.get?)) := by
  generalize hK : He.frT h.get? (colG h.get?) = K
  unfold obsY at e
  rw [hK, Prod.mk.injEq, Bool.and_eq_true] at e
  obtain ⟨e1, e2, e3⟩ := e
  have e4 := List.all_eq_true.mp e3 ("Host", some "area_list") (by simp [tf])
  rw [Bool.and_eq_true] at e4
  obtain ⟨e5, e6⟩ := e4
  cases q : h.get? (He.cT K ("Host", some "area_list")).2 with
  | none => rw [q] at e6; cases e6
  | some o =>
    rw [q] at e6
    refine ⟨e1, e2, e5, ?_, by rw [q, He.emptyTab_eq e6]⟩
    rw [← hK] at q ⊢
    exact He.frT_none q e6
def hk : PySem.W.Hook where
  α := He.AlD × Bool
  obs := fun s => obsY s.heap.get?
  val := fun _ => (He.valD fn, true)
  says := fun _ h => ∃ K : PySem.W.Frag, K.In h ∧ SaysY h K
  of := fun _ _ e => ⟨_, He.frT_in, saysY_of e⟩
  keeps := fun _ _ _ ⟨K, hK, c⟩ k => ⟨K, PySem.W.Frag.In.keeps hK k, c.d, c.ex, c.hd, c.out, k _ _ c.empty⟩
abbrev HR : PySem.W.OpenRow := PySem.W.OpenLaw.row PySem.Challenge.rw_foldkeep_k07_operations_on_a_host
def ob (s : PySem.W.SharedT) : He.AlD × Bool := obsY (HandSHeadRun.getT s)
theorem ob_eq (s : PySem.W.SharedT) : ob s = hk.obs s.abs := by
  have e : HandSHeadRun.getT s = s.abs.heap.get? := funext (HandSHeadRun.getT_eq s)
  show obsY (HandSHeadRun.getT s) = obsY s.abs.heap.get?
  rw [e]
theorem head_run (w : World) : HandSHeadRun.RunEq HR (PySem.W.view HR.prog [91]) hk ob 8000 loose w := by
  intro os
  kernel_rfl
end FK
set_option Elab.async false
set_option linter.all false
set_option maxRecDepth 100000
/-! The data layer: sorted(xs). -/
namespace FK
open PySem PySem.Spec PyProof.Rows L2
def pyD (A : HostSt) (d : D) : PyData := (toPy A d).getD .none
structure SortOk (A : HostSt) (ds : List D) : Prop where
  py : ∀ d ∈ ds, ∃ x, toPy A d = some x
  al : PySem.W.AllAlike (ds.map (pyD A))
  so : PySem.W.Sortable (ds.map (pyD A))
  dp : ∀ d ∈ ds, (pyD A d).depth ≤ 60
  ln : ds.length ≤ 1000
noncomputable def sortD (d : D) (A : HostSt) : Res D := open Classical in match d with
  | .lst ds => if SortOk A ds then .ok (.lst (ds.mergeSort (PySem.W.dataLe false (pyD A)))) else .bad
  | _ => .bad
section
variable {X : Cx}
/-- sorted(xs), the items read as enc -/
def rSortG (K : PySem.W.Frag) : List V → Hp → VK → Prop := fun xs H Q => ∃ (a : Addr) (ps : List (V × D)) (enc : D → PyData), xs = [.ref a] ∧ SqL K H a (ps.map Prod.fst) ∧ (∀ p ∈ ps, Dp K H p.1 (enc p.2)) ∧ PySem.W.AllAlike (ps.map fun p => enc p.2) ∧
  PySem.W.Sortable (ps.map fun p => enc p.2) ∧ (∀ p ∈ ps, (enc p.2).depth ≤ 60) ∧ ps.length ≤ 1000 ∧ ∀ p, H p = none → Q (.ref p) (upd H p (.lst ((ps.mergeSort (PySem.W.dataLe false fun p => enc p.2)).map Prod.fst)))
theorem vals_each : ∀ {ps : List (V × D)} {us : List Value}, Vals (ps.map Prod.fst) us → PySem.W.EachIs (fun u (p : V × D) => RelV p.1 u) us ps
  | [], us, h => by cases h; exact .nil
  | p :: ps, us, h => by
    cases h with
    | cons r t => exact .cons r (vals_each t)
theorem each_vals : ∀ {ps : List (V × D)} {us : List Value}, PySem.W.EachIs (fun u (p : V × D) => RelV p.1 u) us ps → Vals (ps.map Prod.fst) us
  | [], us, h => by cases h; exact .nil
  | p :: ps, us, h => by
    cases h with
    | cons r t => exact .cons r (each_vals t)
theorem each_reads {pins : List (Addr × Obj)} {s : Shared} {σ : L2.St} {H : Hp} (I : Inv X pins σ H s) (enc : D → PyData) : ∀ {ps : List (V × D)} {us : List Value}, PySem.W.EachIs (fun u (p : V × D) => RelV p.1 u) us ps → (∀ p ∈ ps, Dp X.K H p.1 (enc p.2)) →
    PySem.W.EachIs (fun u (p : V × D) => ∃ as, Reads s.heap u (enc p.2) as) us ps
  | [], us, h, _ => by cases h; exact .nil
  | p :: ps, us, h, hd => by
    cases h with
    | cons r t => exact .cons (Dp.reads I _ _ _ (hd p (List.mem_cons_self ..)) r) (each_reads I enc t fun q hq => hd q (List.mem_cons_of_mem _ hq))
theorem cr_sortG (hu : X.A.units + 65 < cLine) : CallR X (.builtin "sorted") (rSortG X.K) := by
  intro pins s σ H vs us Q I r h
  obtain ⟨a, ps, enc, rfl, hs, hd, al, so, dp, ln, q⟩ := h
  obtain ⟨its, rv, hl, hz⟩ := I.list hs
  rw [Vals.ref1 r]
  have ev := vals_each rv
  refine PySem.W.sorted_data (enc := fun p : V × D => enc p.2) (bs := ps) hl.isList ev (each_reads I enc ev hd) al so (small_line ln) (fun b hb => ?_) fun out hlen ho => ?_
  · have := dp b hb
    omega
  · obtain ⟨ep, he'⟩ := PyProof.Rows.sortedAll_at s.heap its out.toArray
    have hv := each_vals ho
    have hlen2 : ((ps.mergeSort (PySem.W.dataLe false fun p => enc p.2)).map Prod.fst).length ≤ sizeLine := by
      rw [List.length_map, List.length_mergeSort]
      exact small_line ln
    exact ⟨.ref _, upd H (s.heap.objs.size + 1) (.lst ((ps.mergeSort (PySem.W.dataLe false fun p => enc p.2)).map Prod.fst)), I.laid (t' := s.toks) (fun _ _ => PyProof.Rows.sortedAll_old) (Nat.le_succ _) ⟨hlen2, out, ep, hv, he'⟩, rfl, q _ (I.hok.fresh (Nat.le_succ _))⟩
end
section
variable {C : Cs} {g : Gh} {A : HostSt} {F H : Hp}
theorem reps_zip : ∀ {ds : List D} {vs : List V}, Reps C g F ds vs → ∀ p ∈ vs.zip ds, Rep C g F p.2 p.1
  | [], vs, h, p, hp => by simp at hp
  | d :: ds, vs, h, p, hp => by
    simp only [Reps] at h
    obtain ⟨v, r, rfl, h2, h3⟩ := h
    rw [List.zip_cons_cons] at hp
    rcases List.mem_cons.mp hp with e | hp
    · subst e; exact h2
    · exact reps_zip h3 p hp
theorem reps_of : ∀ {ps : List (V × D)}, (∀ p ∈ ps, Rep C g F p.2 p.1) → Reps C g F (ps.map Prod.snd) (ps.map Prod.fst)
  | [], _ => .nil
  | p :: ps, h => .cons (h p (List.mem_cons_self ..)) (reps_of fun q hq => h q (List.mem_cons_of_mem _ hq))
theorem zip_fst {ds : List D} {vs : List V} (r : Reps C g F ds vs) : (vs.zip ds).map Prod.fst = vs := by
  rw [List.map_fst_zip]
  rw [r.length]
  exact Nat.le_refl _
theorem zip_snd {ds : List D} {vs : List V} (r : Reps C g F ds vs) : (vs.zip ds).map Prod.snd = ds := by
  rw [List.map_snd_zip]
  rw [r.length]
  exact Nat.le_refl _
/-- sorted pairs stand for the sorted data -/
theorem sort_rep {ds : List D} {vs : List V} (r : Reps C g F ds vs) (enc : D → PyData) : Reps C g F (ds.mergeSort (PySem.W.dataLe false enc)) (((vs.zip ds).mergeSort (PySem.W.dataLe false fun p => enc p.2)).map Prod.fst) := by
  have h := reps_of (C := C) (g := g) (F := F) (ps := (vs.zip ds).mergeSort (PySem.W.dataLe false fun p => enc p.2)) fun p hp => reps_zip r p (List.mem_mergeSort.mp hp)
  have e := PySem.W.sort_maps (r := PySem.W.dataLe false fun p : V × D => enc p.2) (s := PySem.W.dataLe false enc) Prod.snd (l := vs.zip ds) (fun _ _ _ _ => rfl)
  rw [e, zip_snd r] at h
  exact h
theorem map_enc (enc : D → PyData) {ds : List D} {vs : List V} (r : Reps C g F ds vs) : ((vs.zip ds).map fun p => enc p.2) = ds.map enc := by
  have : ((vs.zip ds).map fun p => enc p.2) = ((vs.zip ds).map Prod.snd).map enc := by rw [List.map_map]; rfl
  rw [this, zip_snd r]
theorem ed_sorted {X : Cx} {E : XK} {e : Expr} {ev : Ev} {pos p : Pos} (T : Txt C X.mg) (hu : Deep X) (ha : PEd C X E e ev) (hK : X.K = C.K := by rfl) (hg : Gl X "sorted" := by rfl)
    (he : starEach [e] X.env = (false, eval e X.env) :: starEach [] X.env := by rfl) (hpl : (backTo pos (starEach [] X.env)).any (·.1) = false := by rfl) : PEd C X E (.Call (.Name "sorted" p) [e] [] pos) (vUn sortD ev) := by
  obtain ⟨t, h1, h2⟩ := ha
  refine ⟨_, pe_callB (cr_sortG hu) hg T.sorted (by decide +kernel) (pa_cons h1 pa_nil he) (by decide) (by decide) he hpl, fun g A F H σ ρ Q w er h => ?_⟩
  refine h2 g A F H σ ρ _ w er (PostG.bind h fun d v F' H' x r h => ?_)
  cases d with
  | lst ds =>
    unfold sortD at h
    dsimp only at h
    by_cases hs : SortOk A ds
    · rw [if_pos hs] at h
      simp only [Rep] at r
      obtain ⟨a, vs, rfl, r1, r2⟩ := r
      refine ⟨a, vs.zip ds, pyD A, rfl, by rw [zip_fst r2]; exact SqL.of (x.w.sub _ _ r1), fun p hp => ?_, by rw [map_enc _ r2]; exact hs.al, by rw [map_enc _ r2]; exact hs.so, fun p hp => hs.dp _ (List.of_mem_zip hp).2, by rw [List.length_zip, r2.length]; exact Nat.le_trans (Nat.min_le_right _ _) hs.ln, fun p hp => ?_⟩
      · obtain ⟨y, hy⟩ := hs.py p.2 (List.of_mem_zip hp).2
        have := rep_dp x.w (reps_zip r2 p hp) hy
        unfold pyD
        rw [hy, hK]
        exact this
      · have y := Ext.frz x.w hp (o := .lst (((vs.zip ds).mergeSort (PySem.W.dataLe false fun p => pyD A p.2)).map Prod.fst)) (by intro ps q; cases q)
        refine h _ _ _ y ?_
        simp only [Rep]
        exact ⟨p, _, rfl, upd_same, (sort_rep r2 (pyD A)).up y.fup⟩
    · rw [if_neg hs] at h
      exact h.elim
  | _ => exact h.elim
end
end FK
set_option Elab.async false
set_option linter.all false
set_option maxRecDepth 100000
set_option maxHeartbeats 1000000
/-! The defs that make, put and take away things. -/
namespace FK
open PySem PySem.Spec PyProof.Rows L2
section
variable {C : Cs} {P : Program} {w : World} {mg : Str → Option Value} {base : Heap}
/-! ### Node -/
def nodeV (va vp : V) (t : Int) (vk vt : V) : List (Str × V) := [("area", va), ("path", vp), ("thing", .int t), ("kind", vk), ("text", vt), ("runs", .bl false), ("count", .int 0), ("cuts", .int 0), ("staged", .bl false)]
def spNode (C : Cs) : Sp := fun vs H Q _ => ∃ (p dx : Addr) (va vp vk vt : V) (t : Int), vs = [.ref p, va, vp, .int t, vk, vt] ∧ H p = some (.ins C.CN dx []) ∧ Q .non (upd H p (.ins C.CN dx (nodeV va vp t vk vt)))
theorem sc_Node_init : FnScope ["self", "area", "path", "thing", "kind", "text"] ["self", "area", "path", "thing", "kind", "text"] (defScope s_Node_init) := ⟨rfl, rfl, rfl, by decide +kernel, rfl, by decide +kernel, by decide +kernel⟩
theorem ok_Node_init (X : Facts C mg base) {f : Addr} {fd : FuncData} (Fn : Fun C.K "__init__" "Node.__init__" s_Node_init f fd) : FnOk P w C.K mg base (L2.CX P w) 1 f fd ["self", "area", "path", "thing", "kind", "text"] (spNode C) := by
  have S := sc_Node_init
  refine Fn.okX S (fun vs H Q E h => ?_) (fun cdv A outer s H vs Q E hr h => ?_)
  · obtain ⟨p, dx, va, vp, vk, vt, t, rfl, _⟩ := h
    rfl
  · obtain ⟨p, dx, va, vp, vk, vt, t, rfl, hp, q⟩ := h
    refine ⟨_, PSs.nox (pss_cons (ps_fld (pv 0) (pv 1) rfl) (pss_cons (ps_fld (pv 0) (pv 2) rfl) (pss_cons (ps_fld (pv 0) (pv 3) rfl) (pss_cons (ps_fld (pv 0) (pv 4) rfl) (pss_cons (ps_fld (pv 0) (pv 5) rfl)
      (pss_cons (ps_fld (pv 0) pe_bl rfl) (pss_cons (ps_fld (pv 0) pe_int rfl) (pss_cons (ps_fld (pv 0) pe_int rfl) (pss_one (ps_fld (pv 0) pe_bl rfl)))))))))), ?_⟩
    have n : ∀ f ∈ nodeNames, NoAttr C.K C.CN f := X.T.nN
    refine ⟨_, rfl, _, rfl, p, C.CN, dx, _, rfl, hp, X.T.clN, n _ (by decide +kernel), (by show 0 < 1000; decide), ?_⟩
    refine ⟨_, rfl, _, rfl, p, C.CN, dx, _, rfl, upd_same, X.T.clN, n _ (by decide +kernel), (by show 1 < 1000; decide), ?_⟩
    rw [upd_upd]
    refine ⟨_, rfl, _, rfl, p, C.CN, dx, _, rfl, upd_same, X.T.clN, n _ (by decide +kernel), (by show 2 < 1000; decide), ?_⟩
    rw [upd_upd]
    refine ⟨_, rfl, _, rfl, p, C.CN, dx, _, rfl, upd_same, X.T.clN, n _ (by decide +kernel), (by show 3 < 1000; decide), ?_⟩
    rw [upd_upd]
    refine ⟨_, rfl, _, rfl, p, C.CN, dx, _, rfl, upd_same, X.T.clN, n _ (by decide +kernel), (by show 4 < 1000; decide), ?_⟩
    rw [upd_upd]
    refine ⟨_, rfl, p, C.CN, dx, _, rfl, upd_same, X.T.clN, n _ (by decide +kernel), (by show 5 < 1000; decide), ?_⟩
    rw [upd_upd]
    refine ⟨_, rfl, p, C.CN, dx, _, rfl, upd_same, X.T.clN, n _ (by decide +kernel), (by show 6 < 1000; decide), ?_⟩
    rw [upd_upd]
    refine ⟨_, rfl, p, C.CN, dx, _, rfl, upd_same, X.T.clN, n _ (by decide +kernel), (by show 7 < 1000; decide), ?_⟩
    rw [upd_upd]
    refine ⟨_, rfl, p, C.CN, dx, _, rfl, upd_same, X.T.clN, n _ (by decide +kernel), (by show 8 < 1000; decide), ?_⟩
    rw [upd_upd]
    exact q

/-! ### put_new -/
def toArea : D → Option Area
  | .str x => some (.s x)
  | .int n => some (.i n)
  | _ => none
def toPath : D → Option (List Str)
  | .tup ds => strsOf ds
  | _ => none
def putNew (A : HostSt) (a : Area) (p : List Str) (k t : Str) : HostSt :=
  { A with rows := A.rows ++ [⟨a, p, A.next, k, t, false, 0, 0, false⟩], next := A.next + 1, turned := A.turned + 1 }
noncomputable def D_Host_put_new : List D → HostSt → ResE
  | [.host, da, dp, .str k, .str t], A => (match toArea da, toPath dp with
    | some a, some p => if A.rows.length < 1000 then .ok (.node A.next) (putNew A a p k t) else .bad
    | _, _ => .bad)
  | _, _ => .bad
theorem RowsAt.mono {g g' : Gh} {F H H' : Hp} (ha : ∀ t a, g.ad t = some a → g'.ad t = some a) (hh : ∀ b dx fs, H b = some (.ins C.CN dx fs) → H' b = some (.ins C.CN dx fs)) : ∀ {rs : List Row} {vs : List V}, RowsAt C g F H rs vs → RowsAt C g' F H' rs vs
  | [], vs, h => h
  | r :: rs, vs, h => by
    obtain ⟨a, vr, rfl, q2, q3, ⟨dx, pa, q4, q5⟩, q6⟩ := h
    exact ⟨a, vr, rfl, ha _ _ q2, q3, ⟨dx, pa, hh _ _ _ q4, q5⟩, RowsAt.mono ha hh q6⟩
theorem RowsAt.snoc {g : Gh} {F H : Hp} {r : Row} {a : Addr} (h1 : g.ad r.thing = some a) (h2 : F a = none) (h3 : NodeAt C F H a r) : ∀ {rs : List Row} {vs : List V}, RowsAt C g F H rs vs → RowsAt C g F H (rs ++ [r]) (vs ++ [.ref a])
  | [], vs, h => by
    have h : vs = [] := h
    subst h
    exact ⟨a, [], rfl, h1, h2, h3, rfl⟩
  | r' :: rs, vs, h => by
    obtain ⟨b, vr, rfl, q2, q3, q4, q6⟩ := h
    exact ⟨b, vr ++ [.ref a], rfl, q2, q3, q4, RowsAt.snoc h1 h2 h3 q6⟩
/-- the list of things is changed in place -/
theorem Wd.setNodes {g g' : Gh} {A A' : HostSt} {F H : Hp} {vs : List V} (wd : Wd C g A F H) (e1 : g'.host = g.host) (e0 : g'.hdx = g.hdx) (e2 : g'.ln = g.ln) (e3 : g'.lo = g.lo) (e4 : g'.lh = g.lh) (hR : A'.rule = A.rule) (hO : A'.opened = A.opened) (hH : A'.had = A.had) (hN : A'.next = A.next) (hT : A'.turned = A.turned)
    (ha : ∀ t a, g'.ad t = some a → t < A'.next) (hr : RowsAt C g' F (upd H g.ln (.lst vs)) A'.rows vs) : Wd C g' A' F (upd H g.ln (.lst vs)) := by
  obtain ⟨us, a3, a4⟩ := wd.nodes
  have nl : ∀ b u, H b = some u → (∀ ys, u ≠ .lst ys) → upd H g.ln (.lst vs) b = some u := fun b u e n => by
    rw [upd_ne (fun z => n us (by rw [z, a3] at e; exact (Option.some.inj e).symm))]
    exact e
  obtain ⟨ra, a1, a2⟩ := wd.host
  obtain ⟨ws, a5, a6⟩ := wd.had
  have hf : hostF ra g' A' = hostF ra g A := by unfold hostF; rw [e2, e3, e4, hN, hT]
  refine ⟨fun b u e => ?_, wd.nt, ?_, ⟨ra, ?_, by rw [hR]; exact a2⟩, ⟨vs, by rw [e2]; exact upd_same, hr⟩, ?_, ⟨ws, ?_, ?_⟩, by rw [e1]; exact wd.fhost, by rw [e2]; exact wd.fln, by rw [e3]; exact wd.flo, by rw [e4]; exact wd.flh, ha, by rw [e2, e3]; exact wd.dj1, by rw [e2, e4]; exact wd.dj2, by rw [e3, e4]; exact wd.dj3⟩
  · rw [upd_ne (fun z => by rw [z, wd.fln] at e; cases e)]
    exact wd.sub _ _ e
  · obtain ⟨ps, b1, b2, b3⟩ := wd.tab
    refine ⟨ps, nl _ _ b1 (by intro ys q; cases q), b2, fun pos cv hc => ?_⟩
    obtain ⟨c, c1, c2⟩ := b3 pos cv hc
    exact ⟨c, c1, nl _ _ c2 (by intro ys q; unfold LamX.CodeO at q; cases q)⟩
  · rw [e1, e0, hf]
    exact nl _ _ a1 (by intro ys q; cases q)
  · rw [e3, hO, upd_ne wd.dj1.symm]
    exact wd.opened
  · rw [e4, upd_ne wd.dj2.symm]
    exact a5
  · rw [hH]
    generalize A.had = l at a6
    clear a5
    induction l generalizing ws with
    | nil => exact a6
    | cons p r ih =>
      simp only [List.map_cons, Reps, encHad, Rep] at a6 ⊢
      obtain ⟨v, us', rfl, ⟨a, ts, rfl, h3, h4⟩, h5⟩ := a6
      exact ⟨_, us', rfl, ⟨a, ts, rfl, h3, h4⟩, ih us' h5⟩
theorem sc_Host_put_new : FnScope ["self", "area", "path", "kind", "text", "node"] ["self", "area", "path", "kind", "text"] (defScope s_Host_put_new) := ⟨rfl, rfl, rfl, by decide +kernel, rfl, by decide +kernel, by decide +kernel⟩
theorem ok_Host_put_new (X : Facts C mg base) : MetP P w C mg base C.CH "put_new" 3 5 (spE C 5 D_Host_put_new) := by
  obtain ⟨f, fd, Fn, hm⟩ := X.d_Host_put_new
  refine ⟨f, fd, ["self", "area", "path", "kind", "text"], ?_, hm, Fn.binds fun _ _ _ _ _ _ us hl => match us, hl with | [_, _, _, _, _], _ => rfl, rfl⟩
  have S := sc_Host_put_new
  obtain ⟨fN, fdN, FnN, MN⟩ := X.d_Node_init
  have GN : FnOk P w C.K mg base (L2.CX P w) 1 fN fdN ["self", "area", "path", "thing", "kind", "text"] (spNode C) := ok_Node_init X FnN
  have bN : Binds C.K fdN ["self", "area", "path", "thing", "kind", "text"] [] := FnN.binds fun _ _ _ _ _ _ us hl => match us, hl with | [_, _, _, _, _, _], _ => rfl
  refine Fn.okX S (fun vs H Q E h => ?_) (fun cdv Ar outer s H vs Q E hr h => ?_)
  · obtain ⟨g, A, F, ds, _, r, hn, _⟩ := h
    rw [r.length, hn]
    rfl
  · obtain ⟨g, A, F, ds, wd, r, hn, h⟩ := h
    unfold D_Host_put_new at h
    split at h
    · rename_i da dp kk tt
      split at h
      · rename_i ar pp hda hdp
        split at h
        · rename_i hlen
          simp only [Reps] at r
          obtain ⟨v0, _, rfl, r0, va, _, rfl, ra', vp, _, rfl, rp, vk, _, rfl, rk, vt, _, rfl, rt, rfl⟩ := r
          simp only [Rep] at r0 rk rt
          subst r0
          subst rk
          subst rt
          have eva : va = areaV ar := by
            cases da <;> simp only [toArea, reduceCtorEq, Option.some.injEq] at hda
            · subst hda; simp only [Rep] at ra'; exact ra'
            · subst hda; simp only [Rep] at ra'; exact ra'
          subst eva
          obtain ⟨pa, evp, hpa⟩ : ∃ pa, vp = .ref pa ∧ SqT C.K F pa (pp.map .str) := by
            cases dp <;> simp only [toPath, reduceCtorEq] at hdp
            simp only [Rep] at rp
            obtain ⟨a, us, rfl, h1, h2⟩ := rp
            have := strs_rep h2 hdp
            subst this
            exact ⟨a, rfl, h1⟩
          subst evp
          obtain ⟨rr, h1, h2⟩ := wd.host
          have nH : ∀ f ∈ hostNames, NoAttr C.K C.CH f := X.T.nH
          refine ⟨_, PSs.nox (pss_cons (ps_set (i := 5) S.nd rfl (Or.inl rfl) (pe_make (dvs := []) MN GN (hr.mono (by decide)) rfl X.gN bN .nil passL (pa_cons (pv 1) (pa_cons (pv 2) (pa_cons (pe_fld (pv 0) rfl) (pa_cons (pv 3) (pa_cons (pv 4) pa_nil)))))))
            (pss_cons (ps_fld (pv 0) (pe_op op_add (pe_fld (pv 0) rfl) pe_int) rfl) (pss_cons (ps_fld (pv 0) (pe_op op_add (pe_fld (pv 0) rfl) pe_int) rfl)
            (pss_cons (ps_expr (pe_bm PySem.F.plainAttrs_list PySem.F.slot_list_append PySem.F.type_list_append mt_append (pe_fld (pv 0) rfl) (pa_cons (pv 5) pa_nil))) (pss_one (ps_ret (pv 5))))))), ?_⟩
          refine ⟨_, rfl, _, rfl, _, rfl, g.host, C.CH, g.hdx, _, _, rfl, h1, X.T.clH, nH _ (by decide +kernel), rfl, _, rfl, _, rfl, fun x dx nx ndx ne => ?_⟩
          refine ⟨x, dx, areaV ar, .ref pa, .str kk, .str tt, A.next, rfl, upd_same, rfl, ?_⟩
          rw [upd_upd]
          have hdx : upd H dx (.own x) x = none := by rw [upd_ne ne.symm]; exact nx
          have x1 := Ext.lay (o := .own x) wd ndx
          have x2 := x1.trans (Ext.lay (o := .ins C.CN dx (nodeV (areaV ar) (.ref pa) A.next (.str kk) (.str tt))) x1.w hdx)
          have fx : F x = none := by
            cases q : F x with
            | none => rfl
            | some o => rw [wd.sub _ _ q] at nx; cases nx
          generalize hHa : upd (upd H dx (.own x)) x (.ins C.CN dx (nodeV (areaV ar) (.ref pa) A.next (.str kk) (.str tt))) = Ha at x2 ⊢
          have hax : Ha x = some (.ins C.CN dx (nodeV (areaV ar) (.ref pa) A.next (.str kk) (.str tt))) := by rw [← hHa]; exact upd_same
          obtain ⟨ra, b1, b2⟩ := x2.w.host
          refine ⟨_, rfl, g.host, C.CH, g.hdx, _, _, rfl, b1, X.T.clH, nH _ (by decide +kernel), rfl, _, _, rfl, rfl, _, rfl, g.host, C.CH, g.hdx, _, rfl, b1, X.T.clH, nH _ (by decide +kernel), (by show 6 < 1000; decide), ?_⟩
          have w3 := x2.w.setHost (A' := { A with next := A.next + 1 }) b1 b2 rfl rfl rfl rfl (by show A.next ≤ A.next + 1; omega)
          have hne : x ≠ g.host := ne_of_none h1 nx |>.symm
          obtain ⟨ra3, c1, c2⟩ := w3.host
          have w4 := w3.setHost (A' := { A with next := A.next + 1, turned := A.turned + 1 }) (ra := ra) upd_same b2 rfl rfl rfl rfl (Int.le_refl _)
          refine ⟨_, rfl, g.host, C.CH, g.hdx, hostF ra g { A with next := A.next + 1 }, .int A.turned, rfl, upd_same, X.T.clH, nH _ (by decide +kernel), rfl, _, _, rfl, rfl, _, rfl, g.host, C.CH, g.hdx, hostF ra g { A with next := A.next + 1 }, rfl, upd_same, X.T.clH, nH _ (by decide +kernel), (by show 6 < 1000; decide), ?_⟩
          have e5 : upd (upd Ha g.host (.ins C.CH g.hdx (putF "next_thing" (.int (A.next + 1)) (hostF ra g A)))) g.host (.ins C.CH g.hdx (putF "turned" (.int (A.turned + 1)) (hostF ra g { A with next := A.next + 1 }))) = upd (upd Ha g.host (.ins C.CH g.hdx (hostF ra g { A with next := A.next + 1 }))) g.host (.ins C.CH g.hdx (hostF ra g { A with next := A.next + 1, turned := A.turned + 1 })) := rfl
          rw [e5]
          generalize hHb : upd (upd Ha g.host (.ins C.CH g.hdx (hostF ra g { A with next := A.next + 1 }))) g.host (.ins C.CH g.hdx (hostF ra g { A with next := A.next + 1, turned := A.turned + 1 })) = Hb at w4 ⊢
          have hbx : Hb x = some (.ins C.CN dx (nodeV (areaV ar) (.ref pa) A.next (.str kk) (.str tt))) := by rw [← hHb, upd_ne hne, upd_ne hne]; exact hax
          obtain ⟨rb, d1, d2⟩ := w4.host
          obtain ⟨us, d3, d4⟩ := w4.nodes
          refine ⟨_, rfl, g.host, C.CH, g.hdx, _, .ref g.ln, rfl, d1, X.T.clH, nH _ (by decide +kernel), rfl, .inl ⟨rfl, us, SqL.of d3⟩, _, rfl, g.ln, us, .ref x, rfl, rfl, d3, by rw [d4.len]; exact small1000 (Nat.le_of_lt hlen), ?_⟩
          -- the new state
          have had : ∀ t a, g.ad t = some a → (fun t => if t = A.next then some x else g.ad t) t = some a := fun t a e => by
            have := wd.ad t a e
            dsimp only
            rw [if_neg (by omega)]
            exact e
          have nlx : x ≠ g.ln := fun z => by rw [z, d3] at hbx; cases hbx
          have hrow : RowsAt C { g with ad := fun t => if t = A.next then some x else g.ad t } F (upd Hb g.ln (.lst (us ++ [.ref x]))) (putNew A ar pp kk tt).rows (us ++ [.ref x]) := by
            refine RowsAt.snoc (by simp) fx ⟨dx, pa, by rw [upd_ne nlx]; exact hbx, hpa⟩ (d4.mono had fun b dx fs e => ?_)
            rw [upd_ne (fun z => by rw [z, d3] at e; cases e)]
            exact e
          have w5 := w4.setNodes (g' := { g with ad := fun t => if t = A.next then some x else g.ad t }) (A' := putNew A ar pp kk tt) (vs := us ++ [.ref x]) rfl rfl rfl rfl rfl rfl rfl rfl rfl rfl (fun t a e => by
            show t < A.next + 1
            dsimp only at e
            by_cases ht : t = A.next
            · omega
            · rw [if_neg ht] at e
              have := wd.ad t a e
              omega) hrow
          refine ⟨_, rfl, h { g with ad := fun t => if t = A.next then some x else g.ad t } (.ref x) F _ ⟨fun p e => ?_, fun _ _ h => h, fun _ _ h => .inl h, rfl, rfl, rfl, had, Nat.le_refl _, fun _ => rfl, w5⟩ (by simp [Rep])⟩
          have e1 := upd_dom p e
          rw [← hHb] at e1
          exact x2.dom p (upd_dom p (upd_dom p e1))
        · exact h.elim
      · exact h.elim
    · exact h.elim

/-! ### take_away -/
def nodesOf (A : HostSt) : List D → Option (List Row)
  | [] => some []
  | .node t :: ds => match A.row t with
    | some r => (nodesOf A ds).map fun l => r :: l
    | none => none
  | _ :: _ => none
theorem nodesOf_at {g : Gh} {A : HostSt} {F H : Hp} (wd : Wd C g A F H) : ∀ {ds : List D} {vs : List V} {rs : List Row}, Reps C g F ds vs → nodesOf A ds = some rs → RowsAt C g F H rs vs
  | [], vs, rs, h, e => by
    simp only [Reps] at h
    simp only [nodesOf, Option.some.injEq] at e
    subst h
    subst e
    rfl
  | d :: ds, vs, rs, h, e => by
    simp only [Reps] at h
    obtain ⟨v, us, rfl, h1, h2⟩ := h
    cases d <;> simp only [nodesOf, reduceCtorEq] at e
    rename_i t
    split at e
    · rename_i r hr
      rw [Option.map_eq_some_iff] at e
      obtain ⟨l, e1, rfl⟩ := e
      simp only [Rep] at h1
      obtain ⟨a, ea, rfl⟩ := h1
      obtain ⟨ws, _, hw⟩ := wd.nodes
      obtain ⟨a', z1, z2, z3⟩ := hw.find hr
      rw [ea] at z1
      cases z1
      have et : r.thing = t := by
        have z := List.find?_some (show A.rows.find? (fun r => decide (r.thing = t)) = some r from hr)
        exact of_decide_eq_true z
      exact ⟨a, us, rfl, by rw [et]; exact ea, z2, z3, nodesOf_at wd h2 e1⟩
    · cases e
def eNodes (i : Nat) (it : Iv) (t : Tv) (e : Ev) (o : Ev) : Se := fun ρ A => match it ρ A with
  | .ok ds => (match lcGo i t e (ρ.set i none) A ds [] with
    | .ok l => (match nodesOf A l, o ρ A with
      | some rs, .ok .host => .next ρ { A with rows := rs, ver := A.ver + 1 }
      | _, _ => .bad)
    | _ => .bad)
  | _ => .bad
section
variable {X : Cx} {i : Nat} {x : Str} {px pos pos' spos : Pos} {elt iter o : Expr} {ifs : List Expr} {scope : Scope} {iv : Iv} {tv : Tv} {ev eo : Ev}
theorem se_nodes (T : Txt C X.mg) (hN : X.N.Nodup) (ho : PEd C X E0 o eo) (hi : PId C X E0 (.Name x px) iter iv) (ok : BlkOk X.N X.env.scope scope [(x, i)])
    (hg : ∀ (s : Shared) (H : Hp) (K : Addr) (cl : List (Str × Addr)) (fp : List Addr), PG (X.blk s H scope (compEnvC scope cl K X.env) fp) (.Name x px) (gName i))
    (ht : ∀ (s : Shared) (H : Hp) (K : Addr) (cl : List (Str × Addr)) (fp : List Addr), PTsd C (X.blk s H scope (compEnvC scope cl K X.env) fp) E0 ifs tv)
    (he : ∀ (s : Shared) (H : Hp) (K : Addr) (cl : List (Str × Addr)) (fp : List Addr), PEd C (X.blk s H scope (compEnvC scope cl K X.env) fp) E0 elt ev)
    (hsw : swapsWith (.ListComp elt [⟨.Name x px, iter, ifs, 0⟩] scope pos) (some (.Attribute o "nodes" pos')) spos.line X.env = pure false) (hc : X.calm = true := by rfl) (hs : ∀ x, foldedSetIterable iter X.env x = pure x := by intro _; rfl) (hK : X.K = C.K := by rfl) :
    PSe C X E0 (.Assign [.Attribute o "nodes" pos'] (.ListComp elt [⟨.Name x px, iter, ifs, 0⟩] scope pos) spos) (eNodes i iv tv ev eo) := by
  obtain ⟨wi, h1, h2⟩ := hi
  obtain ⟨u, h3, h4⟩ := ho
  refine ⟨_, ps_fld h3 (pe_lc (own := [(x, i)]) hc hN h1 ok hg ht (fun s H K cl fp => (he s H K cl fp).can) hs) hsw, fun g A F H σ ρ D wd er h => ?_⟩
  refine h2 g A F H σ ρ _ wd er ?_
  unfold eNodes at h
  cases q : iv ρ A with
  | exc => rw [q] at h; exact h.elim
  | bad => rw [q] at h; exact h.elim
  | ok ds =>
    rw [q] at h
    dsimp only at h
    intro J F' H' x' wk
    cases hR : lcGo i tv ev (ρ.set i none) A ds [] with
    | exc => rw [hR] at h; exact h.elim
    | bad => rw [hR] at h; exact h.elim
    | ok l =>
      rw [hR] at h
      dsimp only at h
      cases hn : nodesOf A l with
      | none => rw [hn] at h; exact h.elim
      | some rs =>
        rw [hn] at h
        cases hq : eo ρ A with
        | exc => rw [hq] at h; exact h.elim
        | bad => rw [hq] at h; exact h.elim
        | ok d =>
          rw [hq] at h
          cases d with
          | host =>
            dsimp only at h
            intro p hp
            refine lc_raw (Q := fun y H1 => u σ H1 fun z H2 => ∃ a Cl dx fs, z = V.ref a ∧ H2 a = some (.ins Cl dx fs) ∧ Cls X.K Cl ∧ NoAttr X.K Cl "nodes" ∧ fs.length < 1000 ∧ D.nx σ (upd H2 a (.ins Cl dx (putF "nodes" y fs)))) x'.w (er.up x'.fup) wk hR p hp fun F1 H1 acc x1 f1 e1 r1 => ?_
            refine h4 g A F1 H1 σ ρ _ x1.w ((er.up x'.fup).up x1.fup) ?_
            rw [hq]
            intro vo F2 H2 x2 r2
            simp only [Rep] at r2
            subst r2
            obtain ⟨ra, a1, a2⟩ := x2.w.host
            have e2 : H2 p = some (.lst acc) := x2.up _ _ e1 (by intro ps z; cases z)
            have f2 : F2 p = none := by
              cases z : F2 p with
              | none => rfl
              | some o =>
                rcases x2.new _ _ z with z | z
                · rw [f1] at z; cases z
                · rw [e1] at z; cases z
            refine ⟨g.host, C.CH, g.hdx, _, rfl, a1, by rw [hK]; exact T.clH, by rw [hK]; exact T.nH _ (by decide +kernel), (by show 6 < 1000; decide), ?_⟩
            have X2 := (x'.trans x1).trans x2
            have pHost : p ≠ g.host := fun z => by rw [z, a1] at e2; cases e2
            have hp0 : H p = none := x'.dom p hp
            have n2 : g.lo ≠ p := ne_of_none wd.opened hp0
            have n3 : g.lh ≠ p := by
              obtain ⟨us, e, _⟩ := wd.had
              exact ne_of_none e hp0
            have ne : ∀ b u, H2 b = some u → b ≠ g.host → upd H2 g.host (.ins C.CH g.hdx (hostF ra { g with ln := p } A)) b = some u := fun b u e n => by
              rw [upd_ne n]
              exact e
            have nh : ∀ b u, H2 b = some u → (∀ fs, u ≠ .ins C.CH g.hdx fs) → b ≠ g.host := fun b u e n z => by
              rw [z, a1] at e
              exact n _ (Option.some.inj e).symm
            have rows := nodesOf_at (A := A) x2.w (r1.up x2.fup) hn
            have w3 : Wd C { g with ln := p } { A with rows := rs, ver := A.ver + 1 } F2 (upd H2 g.host (.ins C.CH g.hdx (hostF ra { g with ln := p } A))) := by
              refine ⟨fun b u e => ne _ _ (x2.w.sub _ _ e) (fun z => by rw [z, x2.w.fhost] at e; cases e), x2.w.nt, ?_, ⟨ra, upd_same, a2⟩, ⟨acc, ne _ _ e2 pHost, ?_⟩, ne _ _ x2.w.opened (nh _ _ x2.w.opened (by intro ys q; cases q)), ?_, x2.w.fhost, f2, x2.w.flo, x2.w.flh, x2.w.ad, n2.symm, n3.symm, x2.w.dj3⟩
              · obtain ⟨ps, b1, b2, b3⟩ := x2.w.tab
                refine ⟨ps, ne _ _ b1 (nh _ _ b1 (by intro ys q; cases q)), b2, fun pos cv hc => ?_⟩
                obtain ⟨c, c1, c2⟩ := b3 pos cv hc
                exact ⟨c, c1, ne _ _ c2 (nh _ _ c2 (by intro ys q; unfold LamX.CodeO at q; cases q))⟩
              · show RowsAt C { g with ln := p } F2 _ rs acc
                clear hn hR r1 e1 e2 h
                induction rs generalizing acc with
                | nil => exact rows
                | cons r rs ih =>
                  obtain ⟨b, vr, rfl, q2, q3, ⟨dy, pa, q4, q5⟩, q6⟩ := rows
                  refine ⟨b, vr, rfl, q2, q3, ⟨dy, pa, ne _ _ q4 (fun z => ?_), q5⟩, ih vr q6⟩
                  rw [z, a1] at q4
                  have := Option.some.inj q4
                  injection this with _ _ z3
                  have := congrArg List.length z3
                  simp [nodeF, hostF] at this
              · obtain ⟨us, b1, b2⟩ := x2.w.had
                refine ⟨us, ne _ _ b1 (nh _ _ b1 (by intro ys q; cases q)), ?_⟩
                exact Reps.stp (C := C) (g := g) (g' := { g with ln := p }) (F := F2) (F' := F2) (fun _ _ h => h) rfl rfl rfl (fun _ _ h => h) (ds := A.had.map encHad) b2
            have st : Stp C g A F H { g with ln := p } { A with rows := rs, ver := A.ver + 1 } F2 (upd H2 g.host (.ins C.CH g.hdx (hostF ra { g with ln := p } A))) :=
              ⟨fun b e => X2.dom b (upd_dom b e), X2.fup, X2.new, rfl, rfl, rfl, fun _ _ h => h, Nat.le_succ _, fun e => by
                have : A.ver + 1 = A.ver := e
                omega, w3⟩
            exact h { g with ln := p } σ F2 _ st (st.env er)
          | _ => exact h.elim
end
theorem sc_Host_take_away : FnScope ["self", "node", "other"] ["self", "node"] (defScope s_Host_take_away) := ⟨rfl, rfl, rfl, by decide +kernel, rfl, by decide +kernel, by decide +kernel⟩
noncomputable def b_Host_take_away : Se := eSeq (eNodes 2 (itN (vVar 0)) (tOfV (vBin neD (vUn (fdN fun r => .int r.thing) (vVar 2)) (vUn (fdN fun r => .int r.thing) (vVar 1)))) (vVar 2) (vVar 0)) (eStH putTurned (vBin addD (vUn (fdH fun A => .int A.turned) (vVar 0)) (vC (.int 1))) (vVar 0))
noncomputable def D_Host_take_away : List D → HostSt → ResE := fun ds A => noexcE (runE b_Host_take_away 3 2 ds A)
theorem ok_Host_take_away (X : Facts C mg base) : MetP P w C mg base C.CH "take_away" 1 2 (spE C 2 D_Host_take_away) := by
  obtain ⟨f, fd, Fn, hm⟩ := X.d_Host_take_away
  refine ⟨f, fd, ["self", "node"], ?_, hm, Fn.binds fun _ _ _ _ _ _ us hl => match us, hl with | [_, _], _ => rfl, rfl⟩
  have S := sc_Host_take_away
  refine fn_eff (sv := b_Host_take_away) (N := ["self", "node", "other"]) (ps := ["self", "node"]) Fn S (fun cdv A outer s H E hr => ?_)
  have hu : Deep (cxOf (L2.CX P w) P w C.K mg base ["self", "node", "other"] "Host.take_away" (defScope s_Host_take_away) f cdv A outer s H E).nox := deep_of hr
  exact se_cons (se_nodes (i := 2) X.T S.nd (ed_var 0) (id_N X.T (ed_var 0)) (blkOk_by (own := [("other", 2)]) (N := ["self", "node", "other"]) (sc := defScope s_Host_take_away) (by decide +kernel)) (fun _ _ _ _ _ => pg_name (i := 2) S.nd rfl (by first | exact Or.inl rfl | exact Or.inr rfl))
    (fun _ _ _ _ _ => tsd_one (td_ne hu (ed_fld (fld_thing X.T) (ed_var 2)) (ed_fld (fld_thing X.T) (ed_var 1)))) (fun _ _ _ _ _ => ed_var 2) rfl) (se_one (se_turned X.T (ed_var 0) (ed_add (ed_fld (fld_turned X.T) (ed_var 0)) ed_int)))
end
end FK
set_option Elab.async false
set_option linter.all false
set_option maxRecDepth 100000
set_option maxHeartbeats 1000000
/-! Sorting by keys that are tuples, empty ones among them. -/
namespace FK
open PySem PySem.W PySem.SeqAt PySem.Calls PyProof.Rows
section
variable {prog : Program} {w : World} {A : Around} {E : Value → Shared → Prop} {s : Shared}
/-- tuple against tuple, by tuple.__lt__ itself -/
theorem tl_one {xs ys : List PyData} {u v : Value} {as bs : List Addr} {Q : Bool → Shared → Prop} (ru : Reads s.heap u (.tuple xs) as) (rv : Reads s.heap v (.tuple ys) bs) (hal : alike (.tuple xs) (.tuple ys) = true)
    (hu : A.units + min (PyData.tuple xs).depth (PyData.tuple ys).depth < cLine) (hq : Q (dataLt (.tuple xs) (.tuple ys)) s) : wpAny (model prog w) A (oneLt' true u v) Q E s := by
  have ha : alikeAll xs ys = true := by simpa [alike] using hal
  cases ru with
  | @tuple l o vs n _ as1 p1 p2 p3 p4 =>
    cases rv with
    | @tuple l2 o2 vs2 n2 _ bs1 q1 q2 q3 q4 =>
      have z1 : vs.size = xs.length := by simpa using ReadsAll.length _ _ _ p4
      have z2 : vs2.size = ys.length := by simpa using ReadsAll.length _ _ _ q4
      rw [dataLt_tuple, ← firstLt_toks xs ys ha, ← z1, ← z2] at hq
      obtain ⟨cl, d1, dt, sl⟩ := o
      obtain ⟨cl2, d2, dt2, sl2⟩ := o2
      simp only at p2 p3 q2 q3
      subst p2 p3 q2 q3
      rw [oneLt'_eq]
      simp only [if_true]
      refine wpAny_bind (wpAny_cRoomFor (room_here hu) ?_)
      refine wpAny_bind (wpAny_callSpecialIfBound?_slot (T := "tuple") ⟨_, p1, rfl⟩ F.slot_tuple_lt ?_)
      refine call_meets F.slot_tuple_lt ⟨_, p1, rfl⟩ F.entry_tuple_lt (F.args_tuple_lt_2 _ _) (tuple_ltAt l l2 vs vs2 n n2 d1 d2 sl sl2 (pairEq xs ys) fun j => dataLt (xs.getD j .none) (ys.getD j .none)) ⟨p1, q1, fun j j1 j2 => ?_, fun j j1 j2 hj => ?_, ?_⟩
      · have t := eqAt_alikeAll xs ys A.in1 s vs.toList vs2.toList _ _ p4 q4 ha (room_in hu) j (by simpa using j1) (by simpa using j2)
        simpa using t
      · have t := rcLt_alikeAll xs ys A.in1 s vs.toList vs2.toList _ _ p4 q4 ha (room_in hu) j (by simpa using j1) (by simpa using j2) hj
        simpa using t
      · exact wpAny_truthy_bool hq
theorem tl_gen (x y : Value) : keyLt' general' x y = oneLt' false x y := rfl
theorem maps_each {α β : Type} {f : α → Sem β} {r : α → β} : ∀ (l : List α) {Q : List β → Shared → Prop}, (∀ v ∈ l, ∀ Q' : β → Shared → Prop, Q' (r v) s → wpAny (model prog w) A (f v) Q' E s) → Q (l.map r) s → wpAny (model prog w) A (l.mapM f) Q E s
  | [], Q, _, h => by
    rw [List.mapM_nil]
    exact wpAny_pure h
  | x :: l, Q, hf, h => by
    rw [List.mapM_cons]
    refine wpAny_bind (hf x (List.mem_cons_self ..) _ (wpAny_bind (maps_each l (Q := fun bs s' => wpAny (model prog w) A (pure (r x :: bs)) Q E s') (fun v hv => hf v (List.mem_cons_of_mem _ hv)) ?_)))
    exact wpAny_pure h
/-- the first item of a tuple's value -/
noncomputable def firstIn (h : Heap) (v : Value) : Option Value := match v with
  | .ref a => (match h.get? a with
    | some o => (match o.data with
      | .seq vs _ => vs[0]?
      | _ => none)
    | none => none)
  | _ => none
theorem first_wp {v : Value} {xs : List PyData} {as : List Addr} {Q : Option Value → Shared → Prop} (r : Reads s.heap v (.tuple xs) as) (h : Q (firstIn s.heap v) s) : wpAny (model prog w) A (firstOfTuple' v) Q E s := by
  cases r with
  | @tuple l o vs n _ as1 p1 p2 p3 p4 =>
    rw [kas_first_eq]
    refine wpAny_bind (Looks.here (show Looks (model prog w) s.heap (typeOf (.ref l)) o.cls from (Looks.ld p1).andThen .now) ?_)
    rw [p2, if_neg (by first | decide | simp)]
    refine wpAny_bind (listItems_at p1 p3 (wpAny_pure ?_))
    have e : firstIn s.heap (.ref l) = vs[0]? := by
      unfold firstIn
      simp only [p1, p3]
    rw [e] at h
    exact h
theorem first_some {h : Heap} {v : Value} {x : PyData} {xs : List PyData} {as : List Addr} (r : Reads h v (.tuple (x :: xs)) as) : (firstIn h v).isSome = true := by
  cases r with
  | @tuple l o vs n _ as1 p1 p2 p3 p4 =>
    have z : vs.toList.length = (x :: xs).length := ReadsAll.length _ _ _ p4
    unfold firstIn
    simp only [p1, p3]
    have : 0 < vs.size := by
      rw [← Array.length_toList, z]
      exact Nat.succ_pos _
    rw [Array.getElem?_eq_getElem this]
    rfl
theorem first_none {h : Heap} {v : Value} {as : List Addr} (r : Reads h v (.tuple []) as) : firstIn h v = none := by
  cases r with
  | @tuple l o vs n _ as1 p1 p2 p3 p4 =>
    have z : vs.toList.length = ([] : List PyData).length := ReadsAll.length _ _ _ p4
    unfold firstIn
    simp only [p1, p3]
    have : vs.size = 0 := by
      rw [← Array.length_toList, z]
      rfl
    rw [Array.getElem?_eq_none (by omega)]
/-- tuples can be sorted, an empty one among them -/
theorem sorts_tups {vs : List Value} {ds : List PyData} (e : EachIs (fun v d => ∃ as, Reads s.heap v d as) vs ds) (hal : AllAlike ds) (ht : ∀ d, d ∈ ds → ∃ xs, d = .tuple xs) (hu : ∀ d, d ∈ ds → A.units + d.depth < cLine) : SortsAt prog w A s (dataKind s.heap ds) vs := by
  by_cases hne : ∀ d, d ∈ ds → ∃ x r, d = .tuple (x :: r)
  · exact SortsAt.data e hal (.inl hne) hu
  · have room : ∀ {d d' : PyData}, d ∈ ds → A.units + min d.depth d'.depth < cLine := fun {d d'} hd => Nat.lt_of_le_of_lt (Nat.add_le_add_left (Nat.min_le_left _ _) _) (hu d hd)
    have keys : ∀ v, v ∈ vs → ∃ a, (dataKind s.heap ds).keyOf v = some a := fun v hv => by
      obtain ⟨d, hd, as, r⟩ := e.left v hv
      exact ⟨_, dataKind_some hal hd r⟩
    have one : H.LtAt prog w A s (dataKind s.heap ds) oneType' := by
      intro E x y a b Q ha hb hq
      obtain ⟨d, as, hd, ra, rfl⟩ := dataKind_inv ha
      obtain ⟨d', bs, hd', rb, rfl⟩ := dataKind_inv hb
      obtain ⟨xs, rfl⟩ := ht d hd
      obtain ⟨ys, rfl⟩ := ht d' hd'
      rw [keyLt'_oneType]
      exact tl_one ra rb (hal _ hd _ hd') (room hd) hq
    have gen : H.LtAt prog w A s (dataKind s.heap ds) general' := by
      intro E x y a b Q ha hb hq
      obtain ⟨d, as, hd, ra, rfl⟩ := dataKind_inv ha
      obtain ⟨d', bs, hd', rb, rfl⟩ := dataKind_inv hb
      obtain ⟨xs, rfl⟩ := ht d hd
      rw [tl_gen]
      exact oneLt_alike (fun q => by cases q) ra rb (hal _ hd _ hd') (fun q => by cases q) (room hd) hq
    have allTup : ∀ v, v ∈ vs → ∃ xs as, Reads s.heap v (.tuple xs) as := fun v hv => by
      obtain ⟨d, hd, as, r⟩ := e.left v hv
      obtain ⟨xs, rfl⟩ := ht d hd
      exact ⟨xs, as, r⟩
    have hall : ((vs.map (firstIn s.heap)).toArray.all fun x => x.isSome) = false := by
      rw [Bool.eq_false_iff]
      intro q
      apply hne
      intro d hd
      obtain ⟨xs, rfl⟩ := ht d hd
      cases xs with
      | cons x r => exact ⟨x, r, rfl⟩
      | nil =>
        exfalso
        have : ∃ v ∈ vs, ∃ as, Reads s.heap v (.tuple []) as := by
          clear q hne allTup one gen keys room hal hu ht
          induction e with
          | nil => cases hd
          | cons r t ih =>
            rcases List.mem_cons.mp hd with e | hd
            · subst e
              exact ⟨_, List.mem_cons_self .., r⟩
            · obtain ⟨v, hv, z⟩ := ih hd
              exact ⟨v, List.mem_cons_of_mem _ hv, z⟩
        obtain ⟨v, hv, as, r⟩ := this
        simp only [List.all_toArray, List.all_map, List.all_eq_true] at q
        have := q v hv
        simp only [Function.comp, first_none r] at this
        cases this
    have step : ∀ (E : Value → Shared → Prop) {Q : SortKind → Shared → Prop}, 2 ≤ vs.length → Q (if ((vs[0]?.bind (firstIn s.heap))).isSome then general' else oneType') s → wpAny (model prog w) A (keyKind' vs.toArray) Q E s := by
      intro E Q h2 hq
      obtain ⟨v1, rest, rfl⟩ : ∃ v1 rest, vs = v1 :: rest := by
        cases vs with
        | nil => simp at h2
        | cons v r => exact ⟨v, r, rfl⟩
      rw [keyKind'_eq, List.mapM_toArray, map_eq_pure_bind]
      refine wpAny_bind (wpAny_bind (maps_each (r := firstIn s.heap) _ (fun v hv Q' hq' => ?_) (wpAny_pure ?_)))
      · obtain ⟨xs, as, r⟩ := allTup v hv
        exact first_wp r hq'
      · rw [if_neg (by rw [hall]; exact Bool.false_ne_true)]
        have h0 : ((List.map (firstIn s.heap) (v1 :: rest)).toArray[0]?.bind id) = firstIn s.heap v1 := by simp
        rw [h0]
        have e0 : ((v1 :: rest)[0]?.bind (firstIn s.heap)) = firstIn s.heap v1 := rfl
        rw [e0] at hq
        by_cases hs : (firstIn s.heap v1).isSome = true
        · rw [if_pos hs] at hq ⊢
          exact wpAny_pure hq
        · rw [if_neg hs] at hq ⊢
          rw [oneTypeOnly'_eq, List.mapM_toArray, map_eq_pure_bind]
          refine wpAny_bind (wpAny_bind (wpAny_bind (maps_each (r := fun _ => Value.type "tuple") _ (fun v hv Q' hq' => ?_) (wpAny_pure ?_))))
          · obtain ⟨xs, as, r⟩ := allTup v hv
            exact (looks_reads r).here hq'
          · have ha2 : ((List.map (fun _ => Value.type "tuple") (v1 :: rest)).toArray.all fun x => x == Value.type "tuple") = true := by
              simp only [List.all_toArray, List.all_map, List.all_eq_true]
              intro _ _
              exact beq_self_eq_true _
            have h1 : (List.map (fun _ => Value.type "tuple") (v1 :: rest)).toArray[0]? = some (Value.type "tuple") := by simp
            rw [h1]
            simp only [ha2, if_true]
            exact wpAny_pure (wpAny_pure hq)
    by_cases hs : ((vs[0]?.bind (firstIn s.heap))).isSome = true
    · exact ⟨keys, general', gen, fun h2 E Q hq => step E h2 (by rw [if_pos hs]; exact hq)⟩
    · exact ⟨keys, oneType', one, fun h2 E Q hq => step E h2 (by rw [if_neg hs]; exact hq)⟩
end

/-! ### sorted(xs, key=f), the keys tuples -/
section
variable {prog : Program} {w : World} {A : Around} {E : Value → Shared → Prop} {s : Shared} {a kS : Addr} {vs : List Value} {e1 : Nat} {P : PySem.Fin → Shared → Prop} {kz : List PyData}
/-- the keys are asked for, one by one; then the sort -/
theorem kt_rest {f : Value} {g₁ : Heap} (kp : KeepsBut a g₁ s.heap) (hn : g₁.get? kS = none) (hk : s.heap.get? kS = some (seqObj "list" #[] 0)) (ha : s.heap.get? a = some (seqObj "list" #[] e1)) (hne : kS ≠ a)
    (hl : kz.length = vs.length) (hZ : vs.length ≤ sizeLine) (hal : AllAlike kz) (hts : ∀ d, d ∈ kz → ∃ xs, d = .tuple xs) (hu : ∀ d, d ∈ kz → A.units + d.depth < cLine)
    (turn : ∀ (i : Nat) (v : Value) (k : PyData), vs[i]? = some v → kz[i]? = some k → ∀ (h : Heap) (t : Nat), KeepsBut a g₁ h → wpAny (model prog w) A (call f [v]) (KeyPure k { s with heap := h, toks := t }) (fun _ _ => False) { s with heap := h, toks := t })
    (fin : ∀ h' t out c, KeepsBut a g₁ h' → h'.get? a = some (seqObj "list" (List.toArray out) c) → KeyedOut false kz vs out → P (.done (.ret .none)) { s with heap := h', toks := t }) :
    wpAny (model prog w) A (ksk_rest a f false vs.toArray e1 (.ref kS)) P E s := by
  unfold ksk_rest
  refine wpAny_bind (wpAny_rule ?_)
  first | rw [List.forIn_toArray] | rw [← Array.forIn_toList]
  refine wpAny_bind (ksk_fold (fun i z => ∃ g t ka c, z = { s with heap := g, toks := t } ∧ KeepsBut a g₁ g ∧ g.get? kS = some (seqObj "list" ka c) ∧ g.get? a = some (seqObj "list" #[] e1) ∧ EachIs (fun v k => Reads g v k [] ∧ alike k k = true) ka.toList (kz.take i)) vs 0 s
    ⟨s.heap, s.toks, #[], 0, rfl, kp, hk, ha, by rw [List.take_zero]; exact EachIs.nil⟩ ?_ ?_)
  · rintro j x z hx ⟨g, t, ka, c, rfl, kg, gk, ga, each⟩
    simp only [Nat.zero_add] at each ⊢
    have hj : j < vs.length := (List.getElem?_eq_some_iff.mp hx).1
    obtain ⟨k, hkj⟩ : ∃ k, kz[j]? = some k := ⟨_, List.getElem?_eq_getElem (by omega)⟩
    have self : alike k k = true := hal k (List.mem_of_getElem? hkj) k (List.mem_of_getElem? hkj)
    have few : ka.size ≤ vs.length := by
      have q := each.length
      rw [Array.length_toList, List.length_take] at q
      omega
    refine wpAny_bind (wpAny_attempt (wpAny_mono (turn j x k hx hkj g t kg) (fun v z' hv => ?_) fun _ _ no => no.elim))
    obtain ⟨g2, t2, rfl, up, rd⟩ := hv
    try dsimp only
    have gk2 := up _ _ gk
    have ga2 := up _ _ ga
    have same := Heap.SameBut.update g2 kS (Obj.mapSeq (·.push v))
    obtain ⟨c2, hc2⟩ : ∃ c2, (g2.update kS (Obj.mapSeq (·.push v))).get? kS = some (seqObj "list" (ka.push v) c2) := ⟨_, get?_update_seq gk2 (·.push v)⟩
    refine wpAny_bind (listUpdate_at gk2 rfl ?_ (Nat.le_trans few hZ) (Nat.le_trans (Nat.le_of_eq (Array.size_push ..)) (Nat.succ_le_succ (Nat.le_trans few hZ))))
    have stay : ∀ (u : Value) (d : PyData), Reads g2 u d [] ∧ alike d d = true → Reads (g2.update kS (Obj.mapSeq (·.push v))) u d [] ∧ alike d d = true := fun u d q =>
      ⟨Reads.keepBut (a := kS) (fun b o hb q => (same.2 b hb).trans q) (fun o q => by rw [gk2] at q; rw [← Option.some.inj q]) d u [] q.2 q.1 (by simp), q.2⟩
    refine wpAny_pure ⟨rfl, _, _, ka.push v, c2, rfl, (kg.trans_all up).same same (.inr hn), hc2, (same.2 a hne.symm).trans ga2, ?_⟩
    rw [show (ka.push v).toList = ka.toList ++ [v] by simp, show kz.take (j + 1) = kz.take j ++ [k] by rw [List.take_add_one, hkj]; simp]
    exact each_snoc (R := fun (u : Value) (d : PyData) => Reads (g2.update kS (Obj.mapSeq (·.push v))) u d [] ∧ alike d d = true) (stay v k ⟨rd, self⟩) (each.mono fun u d q => stay u d ⟨PyProof.Rows.Reads.keeps up q.1, q.2⟩)
  · rintro z ⟨g, t, ka, c, rfl, kg, gk, ga, each⟩
    have each' : EachIs (fun v k => ∃ as, Reads g v k as) ka.toList kz := by
      rw [List.take_of_length_le (by omega)] at each
      exact each.mono fun v k q => ⟨[], q.1⟩
    have size : ka.size = vs.length := by
      have q := each'.length
      rw [Array.length_toList] at q
      omega
    try dsimp only
    refine wpAny_bind (listItems_at gk rfl ?_)
    exact keyH_end (κ := dataKind g kz) (h₁ := g₁) kg hn gk ga hne (sorts_tups (s := { s with heap := g, toks := t }) each' hal hts hu) size hZ fun g3 t3 c3 k3 n3 => fin g3 t3 _ c3 k3 n3 ⟨g, ka.toList, hal, rfl, each'⟩
theorem kt_tree {f : Value} {n : Nat} (ho : s.heap.get? a = some (seqObj "list" vs.toArray n)) (hl : kz.length = vs.length) (hZ : vs.length ≤ sizeLine) (hal : AllAlike kz) (hts : ∀ d, d ∈ kz → ∃ xs, d = .tuple xs) (hu : ∀ d, d ∈ kz → A.units + d.depth < cLine)
    (turn : ∀ (i : Nat) (v : Value) (k : PyData), vs[i]? = some v → kz[i]? = some k → ∀ (h : Heap) (t : Nat), KeepsBut a s.heap h → wpAny (model prog w) A (call f [v]) (KeyPure k { s with heap := h, toks := t }) (fun _ _ => False) { s with heap := h, toks := t })
    (fin : ∀ h' t out c, KeepsBut a s.heap h' → h'.get? a = some (seqObj "list" (List.toArray out) c) → KeyedOut false kz vs out → P (.done (.ret .none)) { s with heap := h', toks := t }) :
    wpAny (model prog w) A (ksk_tree a f false) P E s := by
  obtain ⟨e1, ho1⟩ : ∃ e1, (s.heap.update a (Obj.mapSeq fun _ => (#[] : Array Value))).get? a = some (seqObj "list" #[] e1) := ⟨_, get?_update_seq ho fun _ => #[]⟩
  have sz : ((s.heap.update a (Obj.mapSeq fun _ => (#[] : Array Value))).push (seqObj "tuple" vs.toArray 0)).objs.size = s.heap.objs.size + 1 := by rw [size_push', Heap.size_update]
  unfold ksk_tree
  refine wpAny_bind (listItems_at ho rfl ?_)
  refine wpAny_bind (listUpdate_at ho rfl ?_ (by rw [List.size_toArray]; exact hZ) (Nat.zero_le _))
  refine wpAny_bind (seqEpoch_at ho1 rfl ?_)
  refine wpAny_bind (wpAny_newTuple ?_ (by show vs.length ≤ _; exact hZ))
  refine wpAny_bind (wpAny_newList ?_ (Nat.zero_le _))
  refine wpAny_holding ?_
  have kp : KeepsBut a s.heap (sortingHeap s.heap a vs) := fun b o hb q => sortingHeap_old hb q
  refine kt_rest (kz := kz) (g₁ := s.heap) (s := { s with heap := ((s.heap.update a (Obj.mapSeq fun _ => (#[] : Array Value))).push (seqObj "tuple" vs.toArray 0)).push (seqObj "list" #[] 0) }) (kS := ((s.heap.update a (Obj.mapSeq fun _ => (#[] : Array Value))).push (seqObj "tuple" vs.toArray 0)).objs.size)
    kp ?_ (Heap.get?_push_size _ rfl) (Heap.get?_push_of_some _ (Heap.get?_push_of_some _ ho1)) ?_ hl hZ hal hts hu turn fin
  · exact Heap.get?_none_of_le (by rw [sz]; exact Nat.le_succ _)
  · rw [sz]
    exact Nat.ne_of_gt (Nat.lt_succ_of_lt (Heap.lt_size ho))
end
section
variable {prog : Program} {w : World} {A : Around} {E : Value → Shared → Prop} {s : Shared} {β : Type} {vs : List Value} {bs : List β} {R : Value → β → Prop}
/-- sorted(xs, key=f), f a function object -/
theorem kt_sorted {l q0 : Addr} {Q : Value → Shared → Prop} (k : β → PyData) (hl : s.heap.IsList l vs.toArray) (e : EachIs R vs bs) (hal : AllAlike (bs.map k)) (hts : ∀ x, x ∈ bs → ∃ xs, k x = .tuple xs) (hL : bs.length ≤ sizeLine) (hu : ∀ x, x ∈ bs → A.units + 2 + (k x).depth < cLine)
    (turn : ∀ (v : Value) (x : β), R v x → x ∈ bs → ∀ (h : Heap) (t : Nat), (∀ b o, s.heap.get? b = some o → h.get? b = some o) → wpAny (model prog w) A.in1.in1 (call (.ref q0) [v]) (KeyPure (k x) { s with heap := h, toks := t }) (fun _ _ => False) { s with heap := h, toks := t })
    (fin : ∀ out c h' t, (∀ b o, s.heap.get? b = some o → h'.get? b = some o) → h'.get? (s.heap.objs.size + 1) = some (seqObj "list" (List.toArray out) c) → EachIs R out (bs.mergeSort (dataLe false k)) → Q (.ref (s.heap.objs.size + 1)) { s with heap := h', toks := t }) :
    wpAny (model prog w) A (call (.builtin "sorted") [.ref l] [(Str.ofString "key", .ref q0)]) Q E s := by
  have up : ∀ {g : Heap}, KeepsBut (s.heap.objs.size + 1) (copyHeap s.heap vs) g → ∀ b o, s.heap.get? b = some o → g.get? b = some o := fun {g} kp b o q =>
    kp b o (Nat.ne_of_lt (Nat.lt_succ_of_lt (Heap.lt_size q))) (copyHeap_old q)
  refine sorted_of_sort hl (by rw [e.length]; exact hL) (ksk_s1 _ _) (fun _ => ksk_l1 _ _) fun E' => ?_
  rw [ksk_t1]
  refine kt_tree (kz := bs.map k) (s := { s with heap := copyHeap s.heap vs }) (copyHeap_at s.heap vs) (by rw [List.length_map]; exact e.length.symm) (by rw [e.length]; exact hL) hal (fun d hd => ?_) (bound_map (A := A.in1.in1) hu)
    (keyH_turns (s := { s with heap := copyHeap s.heap vs }) e fun v x hR hx h t kp => turn v x hR hx h t (up kp)) fun h' t out c kp hD ko => ⟨rfl, ?_⟩
  · obtain ⟨b, hb, rfl⟩ := List.mem_map.mp hd
    exact hts b hb
  · exact fin out c h' t (up kp) hD (keyedOut_each k ko e)
end
end FK
set_option Elab.async false
set_option linter.all false
set_option maxRecDepth 100000
set_option maxHeartbeats 1000000
/-! sorted(xs, key=lambda row: row[0]) -/
namespace FK
open PySem PySem.Spec PyProof.Rows L2
def keyStrs : D → Option (List Str)
  | .tup (.tup xs :: _) => strsOf xs
  | _ => none
def encK (d : D) : PyData := .tuple (((keyStrs d).getD []).map PyData.str)
noncomputable def sortKD (d : D) (_ : HostSt) : Res D := match d with
  | .lst ds => if (ds.all fun d => (keyStrs d).isSome) = true ∧ ds.length ≤ 1000 then .ok (.lst (ds.mergeSort (PySem.W.dataLe false encK))) else .bad
  | _ => .bad
section
theorem strs_alike : ∀ xs ys : List Str, PySem.W.alikeAll (xs.map PyData.str) (ys.map PyData.str) = true
  | [], _ => by simp [PySem.W.alikeAll]
  | _ :: _, [] => by simp [PySem.W.alikeAll]
  | x :: xs, y :: ys => by
    simp only [List.map_cons, PySem.W.alikeAll, PySem.W.alike, Bool.true_and]
    exact strs_alike xs ys
theorem strs_depth : ∀ xs : List Str, PyData.depthAll (xs.map PyData.str) = 0
  | [] => by simp [PyData.depthAll]
  | x :: xs => by simp [PyData.depthAll, PyData.depth, strs_depth xs]
theorem reads_strs {h : Heap} : ∀ {xs : List Str} {vs : List Value} {as : List Addr}, ReadsAll h vs (xs.map PyData.str) as → as = []
  | [], vs, as, r => by cases r; rfl
  | x :: xs, vs, as, r => by
    cases r with
    | cons a b =>
      cases a
      rw [reads_strs b]
      rfl
theorem reads_key {h : Heap} {xs : List Str} {v : Value} {as : List Addr} (r : Reads h v (.tuple (xs.map PyData.str)) as) : Reads h v (.tuple (xs.map PyData.str)) [] := by
  cases r with
  | tuple a b c d =>
    have e := reads_strs d
    subst e
    exact .tuple a b c d
section
variable {prog : Program} {w : World} {A : Around} {s : Shared}
/-- (lambda row: row[0])(t), t a tuple whose first item reads as kd -/
theorem lam_call {f c' t : Addr} {qual : Str} {params : Arguments} {scope : Scope} {pm ctv x : Value} {items : Array Value} {kd : PyData} {p1 p2 p3 : Pos} {k : Nat}
    (ho : s.heap.get? f = some (PySem.W.kla_obj "<lambda>" qual params (.Subscript (.Name "row" p1) (.Constant (.int 0) k p2) p3) scope [] pm c' ctv)) (hcd : s.heap.CodeRec (.ref c') qual) (hlim : s.heap.NoLimit) (hroom : A.depth < recursionLimit)
    (hbind : bindArgs (PySem.W.kla_fn "<lambda>" qual params (.Subscript (.Name "row" p1) (.Constant (.int 0) k p2) p3) scope [] pm (.ref c') ctv) ⟨[.ref t], []⟩ = pure [(("row" : Str), Value.ref t)])
    (hk : scope.kind = .function) (hco : scope.isCoroutine = false) (hgen : scope.isGenerator = false) (hcell : ∀ y ∈ scope.names, y.2 ≠ .cell) (hloc : scope.names.lookup ("row" : Str) = some .local)
    (ht : IsTup s.heap t items) (hx : items[0]? = some x) (hr : Reads s.heap x kd []) : wpAny (model prog w) A (call (.ref f) [.ref t]) (PySem.W.KeyPure kd s) (fun _ _ => False) s := by
  refine wpAny_call (PySem.W.kla_callFunE hroom ho rfl hco hgen rfl hcd ?_)
  rw [hbind]
  refine wpAny_pure (wpAny_newFunctionEnv hcell (fun y hy => ?_) (fun h₁ hns hsb => ⟨hlim.fresh _ hsb, ?_⟩) hk)
  · have e : y = (("row" : Str), Value.ref t) := by simpa using hy
    subst e
    exact hloc
  · have kp : ∀ b o, s.heap.get? b = some o → h₁.get? b = some o := fun b o e => hsb.extBut b o (Nat.ne_of_lt (Heap.lt_size e)) (Heap.get?_push_of_some _ e)
    have ht2 := ht.keeps kp
    refine PySem.W.kla_codeExpr (Subscript_ (wpAny_Name (wpAny_loadName_local hk hloc hns rfl (wpAny_Constant_int ?_)) (by decide)))
    have hsz : 0 < items.size := (Array.getElem?_eq_some_iff.mp hx).1
    refine item_tuple (j := 0) ht2 (by decide) (by decide) ?_ hx ?_
    · have : seqIndex? (0 : Int) items.size = some 0 := by
        unfold seqIndex?
        simp [hsz]
      exact this
    · exact ⟨h₁, _, rfl, kp, PyProof.Rows.Reads.keeps kp hr⟩
end
/-- the lambda's object is made; what was tracked stays, but the table, which grows -/
theorem lam_mk {X : Cx} {pins : List (Addr × Obj)} {σ : L2.St} {H : Hp} {s : Shared} {cc PT : Addr} {q : Str} {pr : Arguments} {bd : Expr} {sc : Scope} {ps0 : Pos} {E : Value → Shared → Prop} {Q : Value → Shared → Prop} (I : Inv X pins σ H s) (B : LamX.TabB X.base X.mg cc PT) (hc : X.env.code = .ref cc)
    (hq : X.env.qual ++ "<lambda>" = q) (tb : LamX.TabS H PT q) (hd : defaultsOf pr X.env = ([], [])) (hf : ∀ y ∈ sc.names, y.2 = .free → ∃ c, X.env.cells.lookup y.1 = some c)
    (fin : ∀ (f k : Addr) (m z : Value) (H' : Hp) (s' : Shared), Inv X pins σ H' s' → LamX.ExtN H H' → (∀ b, H' b = none → H b = none) → LamX.TabS H' PT q → s'.heap.get? f = some (PySem.W.kla_obj "<lambda>" q pr bd sc (cloFrom X.env.cells sc.names []) m k z) → H' k = some (LamX.CodeO k q) → Q (.ref f) s') :
    wpAny (model X.prog X.w) X.A (eval (.Lambda pr bd sc ps0) X.env) Q E s := by
  subst hq
  obtain ⟨tab, t1, t2, t3⟩ := tb
  refine PySem.W.kla_eval hd ?_
  have bi : s.heap.BuiltinsAt X.mg PT := B.bm.keeps I.bk
  have t1' : s.heap.get? PT = some { cls := .none, data := .fields tab } := I.hok PT _ t1
  cases hit : codeAmong ps0 tab.toList with
  | some cv =>
    obtain ⟨k, e, hk⟩ := t3 ps0 cv hit
    subst e
    refine PySem.W.kla_makeFunctionHit (mg := X.mg) (c := cc) (P := PT) (ps := tab) (closure_ok hf) I.ok.glob (I.mod.glob.keeps I.bk) hc (B.code.keeps I.bk) t1' t2 hit bi fun z h' tk up sz => ?_
    have J : Inv X pins σ H { s with heap := h'.push (PySem.W.kla_obj "<lambda>" (X.env.qual ++ "<lambda>") pr bd sc (cloFrom X.env.cells sc.names []) ((X.mg "__name__").getD .none) k z), toks := tk } := I.kept fun b o e => Heap.get?_push_of_some _ (up b o e)
    exact fin h'.objs.size k _ z H _ J (LamX.ExtN.refl H) (fun _ h => h) ⟨tab, t1, t2, t3⟩ (Heap.get?_push_size _ rfl) hk
  | none =>
    refine PySem.W.kla_makeFunction (mg := X.mg) (c := cc) (P := PT) (ps := tab) (closure_ok hf) I.ok.glob (I.mod.glob.keeps I.bk) hc (B.code.keeps I.bk) t1' t2 hit B.gP bi fun k z h' tk up ge lt rec_ tb' => ?_
    obtain ⟨k2, oc, vs, t, e2, oc1, oc2, oc3⟩ := rec_
    cases e2
    have fresh : H k = none := I.hok.fresh ge
    have J := LamX.inv_table (t' := tk) (more := #[rawInt ps0.line, rawInt ps0.col, .ref k]) (h' := h'.push (PySem.W.kla_obj "<lambda>" (X.env.qual ++ "<lambda>") pr bd sc (cloFrom X.env.cells sc.names []) ((X.mg "__name__").getD .none) k z)) I t1
      (fun b o hb e => Heap.get?_push_of_some _ (up b o hb e)) (Heap.get?_push_of_some _ tb') ge ⟨oc, vs, t, Heap.get?_push_of_some _ oc1, oc2, oc3⟩
    have grow : LamX.ExtN H (upd (upd H PT (.tbl (tab ++ #[rawInt ps0.line, rawInt ps0.col, .ref k]))) k (LamX.CodeO k (X.env.qual ++ "<lambda>"))) := fun b o e n => by
      rw [upd_ne (ne_of_none e fresh), upd_ne (fun z => n tab (Option.some.inj (e.symm.trans (by rw [z]; exact t1))))]
      exact e
    have flat : (tab ++ #[rawInt ps0.line, rawInt ps0.col, .ref k]).toList = tab.toList ++ [rawInt ps0.line, rawInt ps0.col, .ref k] := by simp
    refine fin h'.objs.size k _ z _ _ J grow (fun b e => upd_dom b (upd_dom b e)) ⟨_, by rw [upd_ne (ne_of_none t1 fresh), upd_same], by rw [flat]; exact PySem.TriplesOk_snoc _ _ _ _ t2, fun p' cv hcv => ?_⟩ (Heap.get?_push_size _ rfl) upd_same
    rw [flat] at hcv
    rcases LamX.among_app _ t2 hcv with y | y
    · obtain ⟨c0, e1, e2⟩ := t3 p' cv y
      exact ⟨c0, e1, grow _ _ e2 LamX.codeO_ne⟩
    · exact ⟨k, y, upd_same⟩
section
variable {C : Cs} {X : Cx} {E : XK}
theorem ed_sortedKey {e : Expr} {ev : Ev} {pos p p1 p2 p3 lpos kpos : Pos} {k : Nat} {params : Arguments} {scope : Scope} (T : Txt C X.mg) (TB : LamX.TabB X.base X.mg C.cA C.PT) (ha : PEd C X E e ev) (hr : Room 0 X.A) (hcode : X.env.code = .ref C.cA) (hq : X.env.qual ++ "<lambda>" = C.tq)
    (hsn : scope.names = [(("row" : Str), NameKind.local)]) (hk : scope.kind = .function) (hco : scope.isCoroutine = false) (hgen : scope.isGenerator = false)
    (hbind : ∀ (pm ctv : Value) (c' t : Addr), bindArgs (PySem.W.kla_fn "<lambda>" (X.env.qual ++ "<lambda>") params (.Subscript (.Name "row" p1) (.Constant (.int 0) k p2) p3) scope [] pm (.ref c') ctv) ⟨[.ref t], []⟩ = pure [(("row" : Str), Value.ref t)])
    (hdef : defaultsOf params X.env = ([], [])) (hK : X.K = C.K := by rfl) (hg : Gl X "sorted" := by rfl)
    (he : backTo pos (starEach [e] X.env) = (false, eval e X.env) :: backTo pos (starEach [] X.env) := by rfl) (he' : starEach [e] X.env = (false, eval e X.env) :: starEach [] X.env := by rfl) (hpl : (backTo pos (starEach [e] X.env)).any (·.1) = false := by rfl)
    (hall : (backToKw pos (keywordEach [⟨some "key", .Lambda params (.Subscript (.Name "row" p1) (.Constant (.int 0) k p2) p3) scope lpos, kpos⟩] X.env)).all (·.1.isSome) = true := by rfl)
    (hks : (backToKw pos (keywordEach [⟨some "key", .Lambda params (.Subscript (.Name "row" p1) (.Constant (.int 0) k p2) p3) scope lpos, kpos⟩] X.env)).filterMap (·.1) = [Str.ofString "key"] := by rfl) :
    PEd C X E (.Call (.Name "sorted" p) [e] [⟨some "key", .Lambda params (.Subscript (.Name "row" p1) (.Constant (.int 0) k p2) p3) scope lpos, kpos⟩] pos) (vUn sortKD ev) := by
  refine ⟨tEv C E (vUn sortKD ev), ⟨fun pins s σ H Q I hh => ?_⟩, fun g A F H σ ρ Q w er h => ⟨g, A, F, ρ, w, er, h⟩⟩
  obtain ⟨g, A, F, ρ, w, er, h⟩ := hh
  obtain ⟨t, h1, h2⟩ := ha
  refine wpAny_Call_Name_kw (ld_blt I hg T.sorted (u := .builtin "sorted") (by decide +kernel) ?_ (by decide) (by decide))
  refine PyProof.Rows.callWith_kw (thn ((pa_cons h1 pa_nil he').run pos pins s σ H (fun vs H' => ∃ (d : D) (v : V) (F' : Hp), vs = [v] ∧ Ext C g A F H F' H' ∧ Rep C g F' d v ∧ PostE C g A F' H' (sortKD d A) Q E) I ?_) fun us s1 hz => ?_) he hpl hall
  · refine h2 g A F H σ ρ _ w er (PostG.bind h fun d v F' H' x r h => ⟨d, v, F', rfl, x, r, h⟩)
  obtain ⟨vs, H1, I1, r1, d, v, F1, rfl, x1, rv, h⟩ := hz
  rw [hks]
  show wpAny _ _ (evalAll ((do let v ← eval _ X.env; standAt pos; pure v) :: [])) _ _ s1
  refine wpAny_evalAll_cons (wpAny_bind (lam_mk I1 TB hcode hq x1.w.tab hdef (fun y hy e => ?_) fun f c' pm ctv H2 s2 I2 up dom tb ho hc => ?_))
  · rw [hsn] at hy
    have e2 : y = (("row" : Str), NameKind.local) := by simpa using hy
    subst e2
    cases e
  refine wpAny_bind (wpAny_standAt (wpAny_pure (wpAny_evalAll_nil ?_)))
  have x2 : Ext C g A F1 H1 F1 H2 := by
    have sb : SubF F1 H2 := fun b o e => up b o (x1.w.sub b o e) (fun ps z => x1.w.nt b ps (by rw [e, z]))
    exact ⟨up, dom, fun _ _ h => h, fun _ _ h => .inl h, x1.w.grow up (fun _ _ h => h) (fun _ _ h => .inl h) sb x1.w.nt tb⟩
  cases d with
  | lst ds =>
    unfold sortKD at h
    dsimp only at h
    by_cases hs : (ds.all fun d => (keyStrs d).isSome) = true ∧ ds.length ≤ 1000
    · rw [if_pos hs] at h
      have rl := rv
      simp only [Rep] at rv
      obtain ⟨a, vs, rfl, q1, q2⟩ := rv
      obtain rfl := Vals.ref1 r1
      have hL : SqL X.K H2 a vs := SqL.of (x2.w.sub _ _ q1)
      obtain ⟨its, rvs, hl, hz⟩ := I2.list hL
      have eclo : cloFrom X.env.cells scope.names [] = [] := by rw [hsn]; rfl
      rw [eclo, ← hq] at ho
      have hfst : (vs.zip ds).map Prod.fst = vs := zip_fst q2
      have ev : PySem.W.EachIs (fun u (p : V × D) => RelV p.1 u) its (vs.zip ds) := vals_each (by rw [hfst]; exact rvs)
      have ks : ∀ p ∈ vs.zip ds, ∃ l, keyStrs p.2 = some l := fun p hp => by
        have := List.all_eq_true.mp hs.1 p.2 (List.of_mem_zip hp).2
        exact Option.isSome_iff_exists.mp this
      refine kt_sorted (fun p : V × D => encK p.2) hl.isList ev ?_ (fun p hp => ⟨_, rfl⟩) ?_ (fun p hp => ?_) (fun u p hR hp hh t up2 => ?_) fun out c h' t up2 hD ho2 => ?_
      · intro x hx y hy
        obtain ⟨p, _, rfl⟩ := List.mem_map.mp hx
        obtain ⟨p', _, rfl⟩ := List.mem_map.mp hy
        simp only [encK, PySem.W.alike]
        exact strs_alike _ _
      · rw [List.length_zip, q2.length, Nat.min_self]
        exact small_line hs.2
      · have : (encK p.2).depth = 1 := by simp [encK, PyData.depth, strs_depth]
        rw [this]
        have := hr.un
        omega
      · obtain ⟨l, hl2⟩ := ks p hp
        have rp := (reps_zip q2 p hp)
        obtain ⟨xs, rest, ed⟩ : ∃ xs rest, p.2 = .tup (.tup xs :: rest) := by
          unfold keyStrs at hl2
          split at hl2
          · rename_i e; exact ⟨_, _, e⟩
          · cases hl2
        have hl3 : strsOf xs = some l := by
          rw [ed] at hl2
          exact hl2
        have ek : encK p.2 = .tuple (l.map PyData.str) := by unfold encK; rw [hl2]; rfl
        rw [ed] at rp
        simp only [Rep, Reps] at rp
        obtain ⟨tt, ws, e1, e2, w0, r0, e3, ⟨t0, us, e4, e5, e6⟩, e7⟩ := rp
        have e8 := strs_rep e6 hl3
        subst e8
        subst e3
        subst e4
        rw [e1] at hR
        have hu : u = .ref tt := hR
        subst hu
        have hT1 : SqT X.K H2 tt (.ref t0 :: r0) := by rw [hK]; exact sqT_up x2.w.sub e2
        have hT2 : SqT X.K H2 t0 (l.map V.str) := by rw [hK]; exact sqT_up x2.w.sub e5
        obtain ⟨its1, k1, k2, _⟩ := I2.tuple hT1
        cases k1 with
        | cons k3 k4 =>
          have k3' : _ = Value.ref t0 := k3
          subst k3'
          have dpk : Dp X.K H2 (.ref t0) (.tuple (l.map PyData.str)) := .tup hT2 (by
            clear hT2 e5 e6 hl3 ek hl2
            induction l with
            | nil => exact .nil
            | cons x r ih => exact .cons (.str x) ih)
          obtain ⟨as, rd⟩ := Dp.reads I2 _ _ _ dpk rfl
          rw [ek]
          refine lam_call (s := { s2 with heap := hh, toks := t }) (up2 _ _ ho) (Heap.CodeRec.keeps (by rw [hq]; exact NdefX.codeO_at I2.hok hc) up2) (I2.nolimit.keeps up2) ?_ (hbind _ _ _ _) hk hco hgen ?_ (by rw [hsn]; rfl) (k2.keeps up2) (by simp) (PyProof.Rows.Reads.keeps up2 (reads_key rd))
          · show X.A.in1.in1.depth < recursionLimit
            exact hr.depth
          · intro y hy
            rw [hsn] at hy
            have e2 : y = (("row" : Str), NameKind.local) := by simpa using hy
            subst e2
            intro z
            cases z
      · have hv := each_vals ho2
        have nf := I2.hok.fresh (Nat.le_succ s2.heap.objs.size)
        have y := Ext.frz x2.w nf (o := .lst (((vs.zip ds).mergeSort (PySem.W.dataLe false fun p => encK p.2)).map Prod.fst)) (by intro ps q; cases q)
        have hlen2 : (((vs.zip ds).mergeSort (PySem.W.dataLe false fun p => encK p.2)).map Prod.fst).length ≤ sizeLine := by
          rw [List.length_map, List.length_mergeSort, List.length_zip, q2.length, Nat.min_self]
          exact small_line hs.2
        refine ⟨.ref (s2.heap.objs.size + 1), upd H2 (s2.heap.objs.size + 1) (.lst (((vs.zip ds).mergeSort (PySem.W.dataLe false fun p => encK p.2)).map Prod.fst)), I2.laid (t' := t) up2 (Nat.le_succ _) ⟨hlen2, out, c, hv, hD⟩, rfl, ?_⟩
        refine h _ _ _ (x2.trans y) ?_
        simp only [Rep]
        exact ⟨_, _, rfl, upd_same, (sort_rep q2 encK).up y.fup⟩
    · rw [if_neg hs] at h
      exact h.elim
  | _ => exact h.elim
end
section
variable {C : Cs} {P : Program} {w : World} {mg : Str → Option Value} {base : Heap}
/-- a def whose code object is told, that raises nothing -/
theorem fn_pureC {x qual : Str} {st : Stmt} {f : Addr} {fd : FuncData} {N ps : List Str} {k : Nat} {sv : Sv} (Fn : FunC C.K x qual st f fd C.cA) (S : FnScope N ps (defScope st))
    (hbody : ∀ (A : Around) (outer : List PySem.Env) (s : Shared) (H : Hp) (E : XK), Room k (A.deeper (envOfC qual (defScope st) s.heap.objs.size f (.ref C.cA))) →
      PSsd C (cxOf (L2.CX P w) P w C.K mg base N qual (defScope st) f (.ref C.cA) A outer s H E).nox E0 (defBody st) sv) :
    FnOk P w C.K mg base (L2.CX P w) (k + 1) f fd ps (spP C ps.length fun ds A => noexc (runF sv N.length ps.length ds A)) := by
  obtain ⟨oc, od, kV, doc, pm, an, ct, osl, rfl, lk, hcd⟩ := Fn.ex
  refine fn_of lk hcd S (fun vs H Q E h => ?_) (fun A outer s H vs Q E hr h => ?_)
  · obtain ⟨g, A, F, ds, _, r, hn, _⟩ := h
    rw [r.length, hn]
  · obtain ⟨g, B, F, ds, w0, r, hn, h⟩ := h
    obtain ⟨t, h1, h2⟩ := hbody A outer s H E hr
    refine ⟨t, h1.nox, h2 g B F H _ _ _ w0 (start_rep (N := N) r) ?_⟩
    unfold runF at h
    dsimp only at h
    rw [hn]
    cases q : sv (ds.map some ++ List.replicate (N.length - ps.length) none) B with
    | next ρ => rw [q] at h; exact fun σ' F' H' x _ => h .non F' H' x (by simp [Rep])
    | ret d => rw [q] at h; exact h
    | exc => rw [q] at h; exact h.elim
    | bad => rw [q] at h; exact h.elim
end
end
end FK
set_option Elab.async false
set_option linter.all false
set_option maxRecDepth 100000
/-! The mirrors of the defs, printed by gen.py. -/
namespace FK
open PySem L2
noncomputable def b_is_name : Sv :=
  (seqS (sIf (tvOr (tvNot (tvChain (vC (.int 1)) (vApp lenD (vCons (vVar 0) vNil)) (vC (.int 100)))) (tOfV (vBin inTD (vVar 0) (vTup (vCons (vC (.str ".")) (vCons (vC (.str "..")) vNil))))))
      (sRet (vC (.bl false)))
      sNil)
    (seqS (sFor 1 (itS (vVar 0))
      (sIf (tvOr (tOfV (vBin ltD (vApp ordD (vCons (vVar 1) vNil)) (vC (.int 32)))) (tOfV (vBin eqD (vVar 1) (vC (.str "/")))))
      (sRet (vC (.bl false)))
      sNil))
    (sRet (vC (.bl true)))))
noncomputable def D_is_name : List D → HostSt → Res D := fun ds A => noexc (runF b_is_name 2 1 ds A)
noncomputable def b_counterpart : Sv :=
  (seqS (sFor 2 (itT (vUn (fdR fun r => pathD r.alike) (vVar 0)))
      (sIf (tOfV (vBin eqD (vBin ixD (vVar 2) (vC (.int 0))) (vVar 1)))
      (sRet (vBin ixD (vVar 2) (vC (.int 1))))
      sNil))
    (sRet (vVar 1)))
noncomputable def D_counterpart : List D → HostSt → Res D := fun ds A => noexc (runF b_counterpart 3 2 ds A)
noncomputable def b_same_name : Sv :=
  (seqS (sIf (tOfV (vBin neD (vApp lenD (vCons (vVar 1) vNil)) (vApp lenD (vCons (vVar 2) vNil))))
      (sRet (vC (.bl false)))
      sNil)
    (seqS (sFor 3 (itR (vApp lenD (vCons (vVar 1) vNil)))
      (sIf (tOfV (vBin neD (vCall 2 D_counterpart (vCons (vVar 0) (vCons (vBin ixD (vVar 1) (vVar 3)) vNil))) (vCall 2 D_counterpart (vCons (vVar 0) (vCons (vBin ixD (vVar 2) (vVar 3)) vNil)))))
      (sRet (vC (.bl false)))
      sNil))
    (sRet (vC (.bl true)))))
noncomputable def D_same_name : List D → HostSt → Res D := fun ds A => noexc (runF b_same_name 4 3 ds A)
noncomputable def b_in_use : Sv :=
  (seqS (sFor 3 (itT (vVar 1))
      (sIf (tOfV (vCall 3 D_same_name (vCons (vVar 0) (vCons (vVar 3) (vCons (vVar 2) vNil)))))
      (sRet (vC (.bl true)))
      sNil))
    (sRet (vC (.bl false))))
noncomputable def D_in_use : List D → HostSt → Res D := fun ds A => noexc (runF b_in_use 4 3 ds A)
noncomputable def b_fits : Sv :=
  (sRet (vAnd (vCall 1 D_is_name (vCons (vVar 1) vNil)) (vAnd (vBin leD (vApp lenD (vCons (vVar 1) vNil)) (vUn (fdR fun r => .int r.longest) (vVar 0))) (vNot (vCall 3 D_in_use (vCons (vVar 0) (vCons (vUn (fdR fun r => pathD r.unfit) (vVar 0)) (vCons (vVar 1) vNil))))))))
noncomputable def D_fits : List D → HostSt → Res D := fun ds A => noexc (runF b_fits 2 2 ds A)
noncomputable def b_same_path : Sv :=
  (seqS (sIf (tOfV (vBin neD (vApp lenD (vCons (vVar 1) vNil)) (vApp lenD (vCons (vVar 2) vNil))))
      (sRet (vC (.bl false)))
      sNil)
    (seqS (sFor 3 (itR (vApp lenD (vCons (vVar 1) vNil)))
      (sIf (tvNot (tOfV (vCall 3 D_same_name (vCons (vVar 0) (vCons (vBin ixD (vVar 1) (vVar 3)) (vCons (vBin ixD (vVar 2) (vVar 3)) vNil))))))
      (sRet (vC (.bl false)))
      sNil))
    (sRet (vC (.bl true)))))
noncomputable def D_same_path : List D → HostSt → Res D := fun ds A => noexc (runF b_same_path 4 3 ds A)
noncomputable def b_Node_stands : Sv :=
  (sRet (vTup (vCons (vUn (fdN fun r => pathD r.path) (vVar 0)) (vCons (vUn (fdN fun r => .str r.kind) (vVar 0)) (vCons (vUn (fdN fun r => .int r.thing) (vVar 0)) (vCons (vUn (fdN fun r => .int r.count) (vVar 0)) (vCons (vUn fdCuts (vVar 0)) (vCons (vUn (fdN fun r => .str r.text) (vVar 0)) (vCons (vUn (fdN fun r => .bl r.runs) (vVar 0)) vNil)))))))))
noncomputable def D_Node_stands : List D → HostSt → Res D := fun ds A => noexc (runF b_Node_stands 1 1 ds A)
noncomputable def b_written : Se :=
  (eSeq (eStN putText (vVar 1) (vVar 0))
    (eSeq (eStN putRuns (vVar 2) (vVar 0))
    (eStN putCount (vBin addD (vUn (fdN fun r => .int r.count) (vVar 0)) (vC (.int 1))) (vVar 0))))
noncomputable def D_written : List D → HostSt → ResE := fun ds A => noexcE (runE b_written 3 3 ds A)
noncomputable def b_within : Sv :=
  (sRet (vAnd (vBin eqD (vUn (fdN fun r => areaD r.area) (vVar 0)) (vVar 1)) (vBin eqD (vSl (vUn (fdN fun r => pathD r.path) (vVar 0)) oNone (oSome (vApp lenD (vCons (vVar 2) vNil)))) (vVar 2))))
noncomputable def D_within : List D → HostSt → Res D := fun ds A => noexc (runF b_within 3 3 ds A)
noncomputable def b_moved : Se :=
  (eSeq (eStN putPath (vBin addD (vVar 3) (vSl (vUn (fdN fun r => pathD r.path) (vVar 0)) (oSome (vApp lenD (vCons (vVar 1) vNil))) oNone)) (vVar 0))
    (eSeq (eStN putArea (vVar 2) (vVar 0))
    (eStN putStaged (vC (.bl false)) (vVar 0))))
noncomputable def D_moved : List D → HostSt → ResE := fun ds A => noexcE (runE b_moved 4 4 ds A)
noncomputable def b_Host_node_of : Sv :=
  (seqS (sFor 2 (itN (vVar 0))
      (sIf (tOfV (vBin eqD (vUn (fdN fun r => .int r.thing) (vVar 2)) (vVar 1)))
      (sRet (vVar 2))
      sNil))
    (sRet (vC .non)))
noncomputable def D_Host_node_of : List D → HostSt → Res D := fun ds A => noexc (runF b_Host_node_of 3 2 ds A)
noncomputable def b_spot_place : Sv :=
  (seqS (sSet2 3 4 (vVar 1))
    (seqS (sIf (tOfV (vBin eqD (vVar 4) (vTup vNil)))
      sRaise
      sNil)
    (seqS (sIf (tOfV (vUn isStrD (vVar 3)))
      (sRet (vTup (vCons (vVar 3) (vCons (vVar 4) vNil))))
      sNil)
    (seqS (sSet 2 (vMeth 2 D_Host_node_of (vVar 0) (vCons (vVar 3) vNil)))
    (seqS (sIf (tvOr (tOfV (vBin ninLD (vVar 3) (vUn (fdH fun _ => .opened) (vVar 0)))) (tvOr (tOfV (vBin isND (vVar 2) (vC .non))) (tOfV (vBin neD (vUn (fdN fun r => .str r.kind) (vVar 2)) (vC (.str "folder"))))))
      sRaise
      sNil)
    (sRet (vTup (vCons (vUn (fdN fun r => areaD r.area) (vVar 2)) (vCons (vBin addD (vUn (fdN fun r => pathD r.path) (vVar 2)) (vVar 4)) vNil)))))))))
noncomputable def D_spot_place : List D → HostSt → Res D := fun ds A => runF b_spot_place 5 2 ds A
noncomputable def b_Host_node_at : Sv :=
  (seqS (sFor 3 (itN (vVar 0))
      (sIf (tvAnd (tOfV (vBin eqD (vUn (fdN fun r => areaD r.area) (vVar 3)) (vVar 1))) (tOfV (vCall 3 D_same_path (vCons (vUn (fdH fun A => .rule A.rule) (vVar 0)) (vCons (vUn (fdN fun r => pathD r.path) (vVar 3)) (vCons (vVar 2) vNil))))))
      (sRet (vVar 3))
      sNil))
    (sRet (vC .non)))
noncomputable def D_Host_node_at : List D → HostSt → Res D := fun ds A => noexc (runF b_Host_node_at 4 3 ds A)
noncomputable def b_thing_at : Sv :=
  (seqS (sSet2 3 4 (vCall 2 D_spot_place (vCons (vVar 0) (vCons (vVar 1) vNil))))
    (seqS (sSet 2 (vMeth 3 D_Host_node_at (vVar 0) (vCons (vVar 3) (vCons (vVar 4) vNil))))
    (seqS (sIf (tOfV (vBin isND (vVar 2) (vC .non)))
      sRaise
      sNil)
    (sRet (vVar 2)))))
noncomputable def D_thing_at : List D → HostSt → Res D := fun ds A => runF b_thing_at 5 2 ds A
noncomputable def b_Host_folder_path : Sv :=
  (seqS (sIf (tvAnd (tOfV (vBin eqD (vVar 2) (vTup vNil))) (tvNot (tOfV (vUn isIntD (vVar 1)))))
      (sRet (vTup vNil))
      sNil)
    (seqS (sSet 3 (vMeth 3 D_Host_node_at (vVar 0) (vCons (vVar 1) (vCons (vVar 2) vNil))))
    (seqS (sIf (tvOr (tOfV (vBin isND (vVar 3) (vC .non))) (tOfV (vBin neD (vUn (fdN fun r => .str r.kind) (vVar 3)) (vC (.str "folder")))))
      (sRet (vC .non))
      sNil)
    (sRet (vUn (fdN fun r => pathD r.path) (vVar 3))))))
noncomputable def D_Host_folder_path : List D → HostSt → Res D := fun ds A => noexc (runF b_Host_folder_path 4 3 ds A)
noncomputable def b_Host_free_path : Sv :=
  (seqS (sIf (tvOr (tOfV (vBin eqD (vVar 2) (vTup vNil))) (tvOr (tOfV (vBin notND (vMeth 3 D_Host_node_at (vVar 0) (vCons (vVar 1) (vCons (vVar 2) vNil))) (vC .non))) (tvNot (tOfV (vCall 2 D_fits (vCons (vUn (fdH fun A => .rule A.rule) (vVar 0)) (vCons (vBin ixD (vVar 2) (vUn negD (vC (.int 1)))) vNil)))))))
      (sRet (vC .non))
      sNil)
    (seqS (sSet 3 (vMeth 3 D_Host_folder_path (vVar 0) (vCons (vVar 1) (vCons (vSl (vVar 2) oNone (oSome (vUn negD (vC (.int 1))))) vNil))))
    (seqS (sIf (tOfV (vBin isND (vVar 3) (vC .non)))
      (sRet (vC .non))
      sNil)
    (sRet (vBin addD (vVar 3) (vTup (vCons (vBin ixD (vVar 2) (vUn negD (vC (.int 1)))) vNil)))))))
noncomputable def D_Host_free_path : List D → HostSt → Res D := fun ds A => noexc (runF b_Host_free_path 4 3 ds A)
noncomputable def b_room_at : Sv :=
  (seqS (sSet2 3 4 (vCall 2 D_spot_place (vCons (vVar 0) (vCons (vVar 1) vNil))))
    (seqS (sSet 2 (vMeth 3 D_Host_free_path (vVar 0) (vCons (vVar 3) (vCons (vVar 4) vNil))))
    (seqS (sIf (tOfV (vBin isND (vVar 2) (vC .non)))
      sRaise
      sNil)
    (sRet (vTup (vCons (vVar 3) (vCons (vVar 2) vNil)))))))
noncomputable def D_room_at : List D → HostSt → Res D := fun ds A => runF b_room_at 5 2 ds A
noncomputable def b_file_named : Sv :=
  (seqS (sIf (tOfV (vUn isIntD (vVar 1)))
      (seqS (sSet 2 (vMeth 2 D_Host_node_of (vVar 0) (vCons (vVar 1) vNil)))
    (sIf (tOfV (vBin ninLD (vVar 1) (vUn (fdH fun _ => .opened) (vVar 0))))
      (sSet 2 (vC .non))
      sNil))
      (sSet 2 (vCall 2 D_thing_at (vCons (vVar 0) (vCons (vVar 1) vNil)))))
    (seqS (sIf (tvOr (tOfV (vBin isND (vVar 2) (vC .non))) (tOfV (vBin neD (vUn (fdN fun r => .str r.kind) (vVar 2)) (vC (.str "file")))))
      sRaise
      sNil)
    (sRet (vVar 2))))
noncomputable def D_file_named : List D → HostSt → Res D := fun ds A => runF b_file_named 3 2 ds A
noncomputable def b_make : Se :=
  (eSeq (lift (sSet2 5 6 (vCall 2 D_room_at (vCons (vVar 0) (vCons (vVar 1) vNil)))))
    (eSeq (eSet 4 (eMeth 5 D_Host_put_new (vVar 0) (vCons (vVar 5) (vCons (vVar 6) (vCons (vC (.str "file")) (vCons (vVar 2) vNil))))))
    (eStN putRuns (vVar 3) (vVar 4))))
noncomputable def D_make : List D → HostSt → ResE := fun ds A => runE b_make 7 4 ds A
noncomputable def b_make_kind : Se :=
  (eSeq (lift (sSet2 3 4 (vCall 2 D_room_at (vCons (vVar 0) (vCons (vVar 1) vNil)))))
    (eDrop (eMeth 5 D_Host_put_new (vVar 0) (vCons (vVar 3) (vCons (vVar 4) (vCons (vVar 2) (vCons (vC (.str "")) vNil)))))))
noncomputable def D_make_kind : List D → HostSt → ResE := fun ds A => runE b_make_kind 5 3 ds A
noncomputable def b_remove : Se :=
  (eSeq (lift (sSet 2 (vCall 2 D_thing_at (vCons (vVar 0) (vCons (vVar 1) vNil)))))
    (eSeq (lift (sIf (tOfV (vBin eqD (vUn (fdN fun r => .str r.kind) (vVar 2)) (vC (.str "folder"))))
      sRaise
      sNil))
    (eDrop (eMeth 2 D_Host_take_away (vVar 0) (vCons (vVar 2) vNil)))))
noncomputable def D_remove : List D → HostSt → ResE := fun ds A => runE b_remove 3 2 ds A
noncomputable def b_Host_holds_something : Sv :=
  (seqS (sFor 2 (itN (vVar 0))
      (sIf (tvAnd (tOfV (vCall 3 D_within (vCons (vVar 2) (vCons (vUn (fdN fun r => areaD r.area) (vVar 1)) (vCons (vUn (fdN fun r => pathD r.path) (vVar 1)) vNil))))) (tOfV (vBin gtD (vApp lenD (vCons (vUn (fdN fun r => pathD r.path) (vVar 2)) vNil)) (vApp lenD (vCons (vUn (fdN fun r => pathD r.path) (vVar 1)) vNil)))))
      (sRet (vC (.bl true)))
      sNil))
    (sRet (vC (.bl false))))
noncomputable def D_Host_holds_something : List D → HostSt → Res D := fun ds A => noexc (runF b_Host_holds_something 3 2 ds A)
noncomputable def b_remove_folder_programs : Se :=
  (eSeq (lift (sSet 2 (vCall 2 D_thing_at (vCons (vVar 0) (vCons (vVar 1) vNil)))))
    (eSeq (lift (sIf (tvOr (tOfV (vBin neD (vUn (fdN fun r => .str r.kind) (vVar 2)) (vC (.str "folder")))) (tOfV (vMeth 2 D_Host_holds_something (vVar 0) (vCons (vVar 2) vNil))))
      sRaise
      sNil))
    (eDrop (eMeth 2 D_Host_take_away (vVar 0) (vCons (vVar 2) vNil)))))
noncomputable def D_remove_folder_programs : List D → HostSt → ResE := fun ds A => runE b_remove_folder_programs 3 2 ds A
noncomputable def b_Host_carry : Se :=
  (eSeq (lift (sSet 4 (vUn (fdN fun r => areaD r.area) (vVar 1))))
    (eSeq (lift (sSet 5 (vUn (fdN fun r => pathD r.path) (vVar 1))))
    (eSeq (eFor 6 (itN (vVar 0))
      (eIf (tOfV (vCall 3 D_within (vCons (vVar 6) (vCons (vVar 4) (vCons (vVar 5) vNil)))))
      (eDrop (eCall 4 D_moved (vCons (vVar 6) (vCons (vVar 5) (vCons (vVar 2) (vCons (vVar 3) vNil))))))
      eNil))
    (eStH putTurned (vBin addD (vUn (fdH fun A => .int A.turned) (vVar 0)) (vC (.int 1))) (vVar 0)))))
noncomputable def D_Host_carry : List D → HostSt → ResE := fun ds A => noexcE (runE b_Host_carry 7 4 ds A)
noncomputable def b_Host_can_have : Sv :=
  (sRet (vCall 2 D_fits (vCons (vUn (fdH fun A => .rule A.rule) (vVar 0)) (vCons (vVar 1) vNil))))
noncomputable def D_Host_can_have : List D → HostSt → Res D := fun ds A => noexc (runF b_Host_can_have 2 2 ds A)
noncomputable def b_spelled : Sv :=
  (seqS (sIf (tvNot (tOfV (vMeth 2 D_Host_can_have (vVar 0) (vCons (vBin ixD (vVar 2) (vUn negD (vC (.int 1)))) vNil))))
      sRaise
      sNil)
    (sRet (vBin addD (vSl (vUn (fdN fun r => pathD r.path) (vVar 1)) oNone (oSome (vUn negD (vC (.int 1))))) (vTup (vCons (vBin ixD (vVar 2) (vUn negD (vC (.int 1)))) vNil)))))
noncomputable def D_spelled : List D → HostSt → Res D := fun ds A => runF b_spelled 3 3 ds A
noncomputable def b_rename : Se :=
  (eSeq (lift (sSet 3 (vCall 2 D_thing_at (vCons (vVar 0) (vCons (vVar 1) vNil)))))
    (eSeq (lift (sSet2 5 6 (vCall 2 D_spot_place (vCons (vVar 0) (vCons (vVar 2) vNil)))))
    (eSeq (lift (sSet 4 (vMeth 3 D_Host_node_at (vVar 0) (vCons (vVar 5) (vCons (vVar 6) vNil)))))
    (eIf (tOfV (vBin isND (vVar 4) (vC .non)))
      (eSeq (lift (sSet2 5 7 (vCall 2 D_room_at (vCons (vVar 0) (vCons (vVar 2) vNil)))))
    (eSeq (lift (sIf (tvAnd (tOfV (vBin eqD (vVar 5) (vUn (fdN fun r => areaD r.area) (vVar 3)))) (tOfV (vBin eqD (vSl (vVar 7) oNone (oSome (vApp lenD (vCons (vUn (fdN fun r => pathD r.path) (vVar 3)) vNil)))) (vUn (fdN fun r => pathD r.path) (vVar 3)))))
      sRaise
      sNil))
    (eDrop (eMeth 4 D_Host_carry (vVar 0) (vCons (vVar 3) (vCons (vVar 5) (vCons (vVar 7) vNil)))))))
      (eIf (tOfV (vBin eqD (vUn (fdN fun r => .int r.thing) (vVar 4)) (vUn (fdN fun r => .int r.thing) (vVar 3))))
      (eSeq (lift (sSet 7 (vCall 3 D_spelled (vCons (vVar 0) (vCons (vVar 3) (vCons (vVar 6) vNil))))))
    (eDrop (eMeth 4 D_Host_carry (vVar 0) (vCons (vVar 3) (vCons (vVar 5) (vCons (vVar 7) vNil))))))
      (eSeq (lift (sIf (tvOr (tOfV (vBin eqD (vUn (fdN fun r => .str r.kind) (vVar 3)) (vC (.str "folder")))) (tOfV (vBin eqD (vUn (fdN fun r => .str r.kind) (vVar 4)) (vC (.str "folder")))))
      sRaise
      sNil))
    (eSeq (lift (sSet 7 (vUn (fdN fun r => pathD r.path) (vVar 4))))
    (eSeq (eDrop (eMeth 2 D_Host_take_away (vVar 0) (vCons (vVar 4) vNil)))
    (eDrop (eMeth 4 D_Host_carry (vVar 0) (vCons (vVar 3) (vCons (vVar 5) (vCons (vVar 7) vNil)))))))))))))
noncomputable def D_rename : List D → HostSt → ResE := fun ds A => runE b_rename 8 3 ds A
noncomputable def b_write : Se :=
  (eSeq (lift (sSet 4 (vCall 2 D_file_named (vCons (vVar 0) (vCons (vVar 1) vNil)))))
    (eSeq (lift (sIf (tOfV (vBin gtD (vVar 2) (vApp lenD (vCons (vUn (fdN fun r => .str r.text) (vVar 4)) vNil))))
      sRaise
      sNil))
    (eDrop (eCall 3 D_written (vCons (vVar 4) (vCons (vBin addD (vBin addD (vSl (vUn (fdN fun r => .str r.text) (vVar 4)) oNone (oSome (vVar 2))) (vVar 3)) (vSl (vUn (fdN fun r => .str r.text) (vVar 4)) (oSome (vBin addD (vVar 2) (vApp lenD (vCons (vVar 3) vNil)))) oNone)) (vCons (vUn (fdN fun r => .bl r.runs) (vVar 4)) vNil)))))))
noncomputable def D_write : List D → HostSt → ResE := fun ds A => runE b_write 5 4 ds A
noncomputable def b_cut : Se :=
  (eSeq (lift (sSet 2 (vCall 2 D_file_named (vCons (vVar 0) (vCons (vVar 1) vNil)))))
    (eSeq (eDrop (eCall 3 D_written (vCons (vVar 2) (vCons (vC (.str "")) (vCons (vUn (fdN fun r => .bl r.runs) (vVar 2)) vNil)))))
    (eStN putCuts (vBin addD (vUn fdCuts (vVar 2)) (vC (.int 1))) (vVar 2))))
noncomputable def D_cut : List D → HostSt → ResE := fun ds A => runE b_cut 3 2 ds A
noncomputable def b_close : Se :=
  (eSeq (lift (sIf (tOfV (vBin ninLD (vVar 1) (vUn (fdH fun _ => .opened) (vVar 0))))
      sRaise
      sNil))
    (eRemove (vUn (fdH fun _ => .opened) (vVar 0)) (vVar 1)))
noncomputable def D_close : List D → HostSt → ResE := fun ds A => runE b_close 2 2 ds A
noncomputable def b_doing_in_files : Se :=
  (eSeq (lift (sSet 2 (vBin ixD (vVar 1) (vC (.int 0)))))
    (eIf (tOfV (vBin eqD (vVar 2) (vC (.str "cut"))))
      (eDrop (eCall 2 D_cut (vCons (vVar 0) (vCons (vBin ixD (vVar 1) (vC (.int 1))) vNil))))
      (eIf (tOfV (vBin eqD (vVar 2) (vC (.str "write"))))
      (eDrop (eCall 4 D_write (vCons (vVar 0) (vCons (vBin ixD (vVar 1) (vC (.int 1))) (vCons (vBin ixD (vVar 1) (vC (.int 2))) (vCons (vBin ixD (vVar 1) (vC (.int 3))) vNil))))))
      (eIf (tOfV (vBin eqD (vVar 2) (vC (.str "set_runs"))))
      (eSeq (lift (sSet 3 (vCall 2 D_file_named (vCons (vVar 0) (vCons (vBin ixD (vVar 1) (vC (.int 1))) vNil)))))
    (eDrop (eCall 3 D_written (vCons (vVar 3) (vCons (vUn (fdN fun r => .str r.text) (vVar 3)) (vCons (vBin ixD (vVar 1) (vC (.int 2))) vNil))))))
      (eIf (tOfV (vBin eqD (vVar 2) (vC (.str "read"))))
      (eSeq (lift (sSet 3 (vCall 2 D_file_named (vCons (vVar 0) (vCons (vBin ixD (vVar 1) (vC (.int 1))) vNil)))))
    (ePush (vUn (fdH fun _ => .reads) (vVar 0)) (vTup (vCons (vUn (fdN fun r => .int r.thing) (vVar 3)) (vCons (vUn (fdN fun r => .int r.count) (vVar 3)) vNil)))))
      (eSeq (lift (sSet 3 (vCall 2 D_thing_at (vCons (vVar 0) (vCons (vBin ixD (vVar 1) (vC (.int 1))) vNil)))))
    (eInsert (vUn (fdH fun _ => .opened) (vVar 0)) (vUn (fdN fun r => .int r.thing) (vVar 3)))))))))
noncomputable def D_doing_in_files : List D → HostSt → ResE := fun ds A => runE b_doing_in_files 4 2 ds A
noncomputable def b_doing : Se :=
  (eSeq (lift (sSet 2 (vBin ixD (vVar 1) (vC (.int 0)))))
    (eIf (tOfV (vBin eqD (vVar 2) (vC (.str "make"))))
      (eDrop (eCall 4 D_make (vCons (vVar 0) (vCons (vBin ixD (vVar 1) (vC (.int 1))) (vCons (vBin ixD (vVar 1) (vC (.int 2))) (vCons (vBin ixD (vVar 1) (vC (.int 3))) vNil))))))
      (eIf (tOfV (vBin eqD (vVar 2) (vC (.str "make_folder"))))
      (eDrop (eCall 3 D_make_kind (vCons (vVar 0) (vCons (vBin ixD (vVar 1) (vC (.int 1))) (vCons (vC (.str "folder")) vNil)))))
      (eIf (tOfV (vBin eqD (vVar 2) (vC (.str "make_other"))))
      (eDrop (eCall 3 D_make_kind (vCons (vVar 0) (vCons (vBin ixD (vVar 1) (vC (.int 1))) (vCons (vC (.str "other")) vNil)))))
      (eIf (tOfV (vBin eqD (vVar 2) (vC (.str "remove"))))
      (eDrop (eCall 2 D_remove (vCons (vVar 0) (vCons (vBin ixD (vVar 1) (vC (.int 1))) vNil))))
      (eIf (tOfV (vBin eqD (vVar 2) (vC (.str "remove_folder"))))
      (eDrop (eCall 2 D_remove_folder_programs (vCons (vVar 0) (vCons (vBin ixD (vVar 1) (vC (.int 1))) vNil))))
      (eIf (tOfV (vBin eqD (vVar 2) (vC (.str "rename"))))
      (eDrop (eCall 3 D_rename (vCons (vVar 0) (vCons (vBin ixD (vVar 1) (vC (.int 1))) (vCons (vBin ixD (vVar 1) (vC (.int 2))) vNil)))))
      (eIf (tOfV (vBin eqD (vVar 2) (vC (.str "close"))))
      (eDrop (eCall 2 D_close (vCons (vVar 0) (vCons (vBin ixD (vVar 1) (vC (.int 1))) vNil))))
      (eDrop (eCall 2 D_doing_in_files (vCons (vVar 0) (vCons (vVar 1) vNil))))))))))))
noncomputable def D_doing : List D → HostSt → ResE := fun ds A => runE b_doing 3 2 ds A
noncomputable def b_told_cuts : Sv :=
  (seqS (sIf (tOfV (vUn fdCuts (vUn (fdH fun A => .rule A.rule) (vVar 0))))
      (sRet (vUn fdCuts (vVar 1)))
      sNil)
    (sRet (vC (.int 0))))
noncomputable def D_told_cuts : List D → HostSt → Res D := fun ds A => noexc (runF b_told_cuts 2 2 ds A)
noncomputable def b_names_answer : Sv :=
  (seqS (sSet 2 (vMeth 3 D_Host_folder_path (vVar 0) (vCons (vC (.str "folder")) (vCons (vVar 1) vNil))))
    (seqS (sIf (tOfV (vBin isND (vVar 2) (vC .non)))
      (sRet (vC (.tup [.str "refused"])))
      sNil)
    (seqS (sAcc 4 3 (itN (vVar 0)) (tvAnd (tOfV (vBin eqD (vUn (fdN fun r => areaD r.area) (vVar 4)) (vC (.str "folder")))) (tvAnd (tOfV (vBin neD (vUn (fdN fun r => pathD r.path) (vVar 4)) (vTup vNil))) (tOfV (vBin eqD (vSl (vUn (fdN fun r => pathD r.path) (vVar 4)) oNone (oSome (vUn negD (vC (.int 1))))) (vVar 2))))) (vTup (vCons (vBin ixD (vUn (fdN fun r => pathD r.path) (vVar 4)) (vUn negD (vC (.int 1)))) (vCons (vUn (fdN fun r => .int r.thing) (vVar 4)) (vCons (vUn (fdN fun r => .str r.kind) (vVar 4)) (vCons (vUn (fdN fun r => .int r.count) (vVar 4)) (vCons (vCall 2 D_told_cuts (vCons (vVar 0) (vCons (vVar 4) vNil))) vNil)))))))
    (sRet (vTup (vCons (vC (.str "names")) (vCons (vUn sortD (vVar 3)) vNil)))))))
noncomputable def D_names_answer : List D → HostSt → Res D := fun ds A => noexc (runF b_names_answer 5 2 ds A)
noncomputable def b_text_answer : Sv :=
  (seqS (sIf (tvOr (tOfV (vBin isND (vVar 1) (vC .non))) (tOfV (vBin neD (vUn (fdN fun r => .str r.kind) (vVar 1)) (vC (.str "file")))))
      (sRet (vC (.tup [.str "refused"])))
      sNil)
    (sRet (vTup (vCons (vC (.str "text")) (vCons (vUn (fdN fun r => .int r.thing) (vVar 1)) (vCons (vUn (fdN fun r => .int r.count) (vVar 1)) (vCons (vCall 2 D_told_cuts (vCons (vVar 0) (vCons (vVar 1) vNil))) (vCons (vUn (fdN fun r => .str r.text) (vVar 1)) (vCons (vUn (fdN fun r => .bl r.runs) (vVar 1)) vNil)))))))))
noncomputable def D_text_answer : List D → HostSt → Res D := fun ds A => noexc (runF b_text_answer 2 2 ds A)
noncomputable def b_file_in_folder : Sv :=
  (seqS (sIf (tOfV (vBin eqD (vVar 1) (vTup vNil)))
      (sRet (vC .non))
      sNil)
    (sRet (vMeth 3 D_Host_node_at (vVar 0) (vCons (vC (.str "folder")) (vCons (vVar 1) vNil)))))
noncomputable def D_file_in_folder : List D → HostSt → Res D := fun ds A => noexc (runF b_file_in_folder 2 2 ds A)
noncomputable def b_shelf_answer : Sv :=
  (seqS (sAcc 2 1 (itN (vVar 0)) (tvAnd (tOfV (vUn isIntD (vUn (fdN fun r => areaD r.area) (vVar 2)))) (tOfV (vBin eqD (vUn (fdN fun r => pathD r.path) (vVar 2)) (vTup vNil)))) (vTup (vCons (vUn (fdN fun r => areaD r.area) (vVar 2)) (vCons (vUn (fdN fun r => .int r.thing) (vVar 2)) (vCons (vUn (fdN fun r => .str r.kind) (vVar 2)) (vCons (vUn (fdN fun r => .int r.count) (vVar 2)) (vCons (vCall 2 D_told_cuts (vCons (vVar 0) (vCons (vVar 2) vNil))) (vCons (vApp lenD (vCons (vUn (fdN fun r => .str r.text) (vVar 2)) vNil)) vNil))))))))
    (sRet (vTup (vCons (vC (.str "shelf")) (vCons (vUn sortD (vVar 1)) vNil)))))
noncomputable def D_shelf_answer : List D → HostSt → Res D := fun ds A => noexc (runF b_shelf_answer 3 1 ds A)
noncomputable def b_read_answer : Sv :=
  (seqS (sIf (tvNot (tOfV (vUn (fdR fun r => .bl r.reads) (vUn (fdH fun A => .rule A.rule) (vVar 0)))))
      (sRet (vTup (vCons (vC (.str "was_read")) (vCons (vC .non) vNil))))
      sNil)
    (sRet (vTup (vCons (vC (.str "was_read")) (vCons (vBin inLD (vTup (vCons (vVar 1) (vCons (vVar 2) vNil))) (vUn (fdH fun _ => .reads) (vVar 0))) vNil)))))
noncomputable def D_read_answer : List D → HostSt → Res D := fun ds A => noexc (runF b_read_answer 3 3 ds A)
noncomputable def b_stage : Se :=
  (eSeq (lift (sSet 4 (vMeth 3 D_Host_node_at (vVar 0) (vCons (vVar 1) (vCons (vTup vNil) vNil)))))
    (eSeq (eIf (tOfV (vBin isND (vVar 4) (vC .non)))
      (eSeq (eDrop (eMeth 5 D_Host_put_new (vVar 0) (vCons (vVar 1) (vCons (vTup vNil) (vCons (vC (.str "file")) (vCons (vVar 2) vNil))))))
    (eSeq (lift (sSet 4 (vMeth 3 D_Host_node_at (vVar 0) (vCons (vVar 1) (vCons (vTup vNil) vNil)))))
    (eSeq (eStN putRuns (vVar 3) (vVar 4))
    (eSeq (eStN putStaged (vC (.bl true)) (vVar 4))
    (lift (sRet (vC (.tup [.str "done"]))))))))
      eNil)
    (eSeq (lift (sIf (tvNot (tOfV (vUn (fdN fun r => .bl r.staged) (vVar 4))))
      (sRet (vC (.tup [.str "refused"])))
      sNil))
    (eSeq (eStN putText (vBin addD (vUn (fdN fun r => .str r.text) (vVar 4)) (vVar 2)) (vVar 4))
    (eSeq (eStN putRuns (vVar 3) (vVar 4))
    (eSeq (eStN putCount (vBin addD (vUn (fdN fun r => .int r.count) (vVar 4)) (vC (.int 1))) (vVar 4))
    (lift (sRet (vC (.tup [.str "done"]))))))))))
noncomputable def D_stage : List D → HostSt → ResE := fun ds A => noexcE (runE b_stage 5 4 ds A)
noncomputable def b_take : Se :=
  (eSeq (lift (sSet 3 (vCall 2 D_file_in_folder (vCons (vVar 0) (vCons (vVar 1) vNil)))))
    (eSeq (lift (sIf (tvOr (tOfV (vBin isND (vVar 3) (vC .non))) (tOfV (vBin notND (vMeth 3 D_Host_node_at (vVar 0) (vCons (vVar 2) (vCons (vTup vNil) vNil))) (vC .non))))
      (sRet (vC (.tup [.str "refused"])))
      sNil))
    (eSeq (eDrop (eMeth 4 D_Host_carry (vVar 0) (vCons (vVar 3) (vCons (vVar 2) (vCons (vTup vNil) vNil)))))
    (lift (sRet (vC (.tup [.str "done"])))))))
noncomputable def D_take : List D → HostSt → ResE := fun ds A => noexcE (runE b_take 4 3 ds A)
noncomputable def b_give : Se :=
  (eSeq (lift (sSet 3 (vMeth 3 D_Host_node_at (vVar 0) (vCons (vVar 1) (vCons (vTup vNil) vNil)))))
    (eSeq (lift (sSet 4 (vMeth 3 D_Host_free_path (vVar 0) (vCons (vC (.str "folder")) (vCons (vVar 2) vNil)))))
    (eSeq (lift (sIf (tvOr (tOfV (vBin isND (vVar 3) (vC .non))) (tOfV (vBin isND (vVar 4) (vC .non))))
      (sRet (vC (.tup [.str "refused"])))
      sNil))
    (eSeq (eDrop (eMeth 4 D_Host_carry (vVar 0) (vCons (vVar 3) (vCons (vC (.str "folder")) (vCons (vVar 4) vNil)))))
    (lift (sRet (vC (.tup [.str "done"]))))))))
noncomputable def D_give : List D → HostSt → ResE := fun ds A => noexcE (runE b_give 5 3 ds A)
noncomputable def b_swap : Se :=
  (eSeq (lift (sSet 3 (vMeth 3 D_Host_node_at (vVar 0) (vCons (vVar 1) (vCons (vTup vNil) vNil)))))
    (eSeq (lift (sSet 4 (vCall 2 D_file_in_folder (vCons (vVar 0) (vCons (vVar 2) vNil)))))
    (eSeq (lift (sIf (tvOr (tvNot (tOfV (vUn (fdR fun r => .bl r.swaps) (vUn (fdH fun A => .rule A.rule) (vVar 0))))) (tvOr (tOfV (vBin isND (vVar 3) (vC .non))) (tOfV (vBin isND (vVar 4) (vC .non)))))
      (sRet (vC (.tup [.str "refused"])))
      sNil))
    (eSeq (lift (sSet 5 (vUn (fdN fun r => pathD r.path) (vVar 4))))
    (eSeq (eDrop (eMeth 4 D_Host_carry (vVar 0) (vCons (vVar 4) (vCons (vC (.str "between")) (vCons (vTup vNil) vNil)))))
    (eSeq (eDrop (eMeth 4 D_Host_carry (vVar 0) (vCons (vVar 3) (vCons (vC (.str "folder")) (vCons (vVar 5) vNil)))))
    (eSeq (eDrop (eMeth 4 D_Host_carry (vVar 0) (vCons (vVar 4) (vCons (vVar 1) (vCons (vTup vNil) vNil)))))
    (eSeq (eStH putTurned (vBin subD (vUn (fdH fun A => .int A.turned) (vVar 0)) (vC (.int 2))) (vVar 0))
    (lift (sRet (vC (.tup [.str "done"]))))))))))))
noncomputable def D_swap : List D → HostSt → ResE := fun ds A => noexcE (runE b_swap 6 3 ds A)
noncomputable def b_make_folder : Se :=
  (eSeq (lift (sSet 2 (vMeth 3 D_Host_free_path (vVar 0) (vCons (vC (.str "folder")) (vCons (vVar 1) vNil)))))
    (eSeq (lift (sIf (tOfV (vBin isND (vVar 2) (vC .non)))
      (sRet (vC (.tup [.str "refused"])))
      sNil))
    (eSeq (eDrop (eMeth 5 D_Host_put_new (vVar 0) (vCons (vC (.str "folder")) (vCons (vVar 2) (vCons (vC (.str "folder")) (vCons (vC (.str "")) vNil))))))
    (lift (sRet (vC (.tup [.str "done"])))))))
noncomputable def D_make_folder : List D → HostSt → ResE := fun ds A => noexcE (runE b_make_folder 3 2 ds A)
noncomputable def b_remove_folder_asking : Se :=
  (eSeq (lift (sSet 2 (vCall 2 D_file_in_folder (vCons (vVar 0) (vCons (vVar 1) vNil)))))
    (eSeq (lift (sIf (tvOr (tOfV (vBin isND (vVar 2) (vC .non))) (tvOr (tOfV (vBin neD (vUn (fdN fun r => .str r.kind) (vVar 2)) (vC (.str "folder")))) (tOfV (vMeth 2 D_Host_holds_something (vVar 0) (vCons (vVar 2) vNil)))))
      (sRet (vC (.tup [.str "refused"])))
      sNil))
    (eSeq (eDrop (eMeth 2 D_Host_take_away (vVar 0) (vCons (vVar 2) vNil)))
    (lift (sRet (vC (.tup [.str "done"])))))))
noncomputable def D_remove_folder_asking : List D → HostSt → ResE := fun ds A => noexcE (runE b_remove_folder_asking 3 2 ds A)
noncomputable def b_drop : Se :=
  (eSeq (lift (sSet 3 (vMeth 3 D_Host_node_at (vVar 0) (vCons (vVar 1) (vCons (vTup vNil) vNil)))))
    (eSeq (lift (sIf (tvOr (tOfV (vBin isND (vVar 3) (vC .non))) (tvOr (tOfV (vBin neD (vUn (fdN fun r => .str r.kind) (vVar 3)) (vC (.str "file")))) (tvOr (tOfV (vBin neD (vUn (fdN fun r => .int r.count) (vVar 3)) (vVar 2))) (tOfV (vBin inLD (vUn (fdN fun r => .int r.thing) (vVar 3)) (vUn (fdH fun _ => .opened) (vVar 0)))))))
      (sRet (vC (.tup [.str "refused"])))
      sNil))
    (eSeq (eDrop (eMeth 2 D_Host_take_away (vVar 0) (vCons (vVar 3) vNil)))
    (lift (sRet (vC (.tup [.str "done"])))))))
noncomputable def D_drop : List D → HostSt → ResE := fun ds A => noexcE (runE b_drop 4 3 ds A)
noncomputable def b_change_answer : Se :=
  (eSeq (lift (sSet 2 (vBin ixD (vVar 1) (vC (.int 0)))))
    (eSeq (eIf (tOfV (vBin eqD (vVar 2) (vC (.str "stage"))))
      (eRet (eCall 4 D_stage (vCons (vVar 0) (vCons (vBin ixD (vVar 1) (vC (.int 1))) (vCons (vBin ixD (vVar 1) (vC (.int 2))) (vCons (vBin ixD (vVar 1) (vC (.int 3))) vNil))))))
      eNil)
    (eSeq (eIf (tOfV (vBin eqD (vVar 2) (vC (.str "take"))))
      (eRet (eCall 3 D_take (vCons (vVar 0) (vCons (vBin ixD (vVar 1) (vC (.int 1))) (vCons (vBin ixD (vVar 1) (vC (.int 2))) vNil)))))
      eNil)
    (eSeq (eIf (tOfV (vBin eqD (vVar 2) (vC (.str "give"))))
      (eRet (eCall 3 D_give (vCons (vVar 0) (vCons (vBin ixD (vVar 1) (vC (.int 1))) (vCons (vBin ixD (vVar 1) (vC (.int 2))) vNil)))))
      eNil)
    (eSeq (eIf (tOfV (vBin eqD (vVar 2) (vC (.str "swap"))))
      (eRet (eCall 3 D_swap (vCons (vVar 0) (vCons (vBin ixD (vVar 1) (vC (.int 1))) (vCons (vBin ixD (vVar 1) (vC (.int 2))) vNil)))))
      eNil)
    (eSeq (eIf (tOfV (vBin eqD (vVar 2) (vC (.str "make_folder"))))
      (eRet (eCall 2 D_make_folder (vCons (vVar 0) (vCons (vBin ixD (vVar 1) (vC (.int 1))) vNil))))
      eNil)
    (eSeq (eIf (tOfV (vBin eqD (vVar 2) (vC (.str "remove_folder"))))
      (eRet (eCall 2 D_remove_folder_asking (vCons (vVar 0) (vCons (vBin ixD (vVar 1) (vC (.int 1))) vNil))))
      eNil)
    (eRet (eCall 3 D_drop (vCons (vVar 0) (vCons (vBin ixD (vVar 1) (vC (.int 1))) (vCons (vBin ixD (vVar 1) (vC (.int 2))) vNil))))))))))))
noncomputable def D_change_answer : List D → HostSt → ResE := fun ds A => noexcE (runE b_change_answer 3 2 ds A)
noncomputable def b_answer : Se :=
  (eSeq (lift (sSet 2 (vBin ixD (vVar 1) (vC (.int 0)))))
    (eSeq (lift (sIf (tOfV (vBin eqD (vVar 2) (vC (.str "names"))))
      (sRet (vCall 2 D_names_answer (vCons (vVar 0) (vCons (vBin ixD (vVar 1) (vC (.int 1))) vNil))))
      sNil))
    (eSeq (lift (sIf (tOfV (vBin eqD (vVar 2) (vC (.str "total"))))
      (seqS (sIf (tOfV (vUn (fdR fun r => .bl r.turns) (vUn (fdH fun A => .rule A.rule) (vVar 0))))
      (sRet (vTup (vCons (vC (.str "total")) (vCons (vUn (fdH fun A => .int A.turned) (vVar 0)) vNil))))
      sNil)
    (sRet (vTup (vCons (vC (.str "total")) (vCons (vC .non) vNil)))))
      sNil))
    (eSeq (lift (sIf (tOfV (vBin eqD (vVar 2) (vC (.str "read"))))
      (sRet (vCall 2 D_text_answer (vCons (vVar 0) (vCons (vCall 2 D_file_in_folder (vCons (vVar 0) (vCons (vBin ixD (vVar 1) (vC (.int 1))) vNil))) vNil))))
      sNil))
    (eSeq (lift (sIf (tOfV (vBin eqD (vVar 2) (vC (.str "read_shelf"))))
      (sRet (vCall 2 D_text_answer (vCons (vVar 0) (vCons (vMeth 3 D_Host_node_at (vVar 0) (vCons (vBin ixD (vVar 1) (vC (.int 1))) (vCons (vTup vNil) vNil))) vNil))))
      sNil))
    (eSeq (lift (sIf (tOfV (vBin eqD (vVar 2) (vC (.str "was_read"))))
      (sRet (vCall 3 D_read_answer (vCons (vVar 0) (vCons (vBin ixD (vVar 1) (vC (.int 1))) (vCons (vBin ixD (vVar 1) (vC (.int 2))) vNil)))))
      sNil))
    (eSeq (lift (sIf (tOfV (vBin eqD (vVar 2) (vC (.str "shelf"))))
      (sRet (vCall 1 D_shelf_answer (vCons (vVar 0) vNil)))
      sNil))
    (eRet (eCall 2 D_change_answer (vCons (vVar 0) (vCons (vVar 1) vNil)))))))))))
noncomputable def D_answer : List D → HostSt → ResE := fun ds A => noexcE (runE b_answer 3 2 ds A)
noncomputable def b_Host_program : Se :=
  (eDrop (eCall 2 D_doing (vCons (vVar 0) (vCons (vVar 1) vNil))))
noncomputable def D_Host_program : List D → HostSt → ResE := fun ds A => runE b_Host_program 2 2 ds A
noncomputable def b_Host_ask : Se :=
  (eRet (eCall 2 D_answer (vCons (vVar 0) (vCons (vVar 1) vNil))))
noncomputable def D_Host_ask : List D → HostSt → ResE := fun ds A => noexcE (runE b_Host_ask 2 2 ds A)
noncomputable def b_Host_area_list : Sv :=
  (sRet (vUn sortKD (vLc 2 (itN (vVar 0)) (tOfV (vBin eqD (vUn (fdN fun r => areaD r.area) (vVar 2)) (vVar 1))) (vMethN D_Node_stands (vVar 2)))))
noncomputable def D_Host_area_list : List D → HostSt → Res D := fun ds A => noexc (runF b_Host_area_list 3 2 ds A)
noncomputable def b_Host_tree : Sv :=
  (sRet (vMeth 2 D_Host_area_list (vVar 0) (vCons (vC (.str "folder")) vNil)))
noncomputable def D_Host_tree : List D → HostSt → Res D := fun ds A => noexc (runF b_Host_tree 1 1 ds A)
noncomputable def b_Host_outside : Sv :=
  (sRet (vMeth 2 D_Host_area_list (vVar 0) (vCons (vC (.str "outside")) vNil)))
noncomputable def D_Host_outside : List D → HostSt → Res D := fun ds A => noexc (runF b_Host_outside 1 1 ds A)
noncomputable def b_Host_shelf : Sv :=
  (seqS (sSet 1 (vUn sortD (vLc 3 (itN (vVar 0)) (tvAnd (tOfV (vUn isIntD (vUn (fdN fun r => areaD r.area) (vVar 3)))) (tOfV (vBin eqD (vUn (fdN fun r => pathD r.path) (vVar 3)) (vTup vNil)))) (vUn (fdN fun r => areaD r.area) (vVar 3)))))
    (sRet (vLc 2 (itL (vVar 1)) tvYes (vTup (vCons (vVar 2) (vCons (vMeth 2 D_Host_area_list (vVar 0) (vCons (vVar 2) vNil)) vNil))))))
noncomputable def D_Host_shelf : List D → HostSt → Res D := fun ds A => noexc (runF b_Host_shelf 4 1 ds A)
noncomputable def b__law_pick : Sv :=
  (sRet (vBin ixD (vVar 1) (vBin modD (vApp intD (vCons (vVar 0) vNil)) (vApp lenD (vCons (vVar 1) vNil)))))
noncomputable def D__law_pick : List D → HostSt → Res D := fun ds A => noexc (runF b__law_pick 2 2 ds A)
noncomputable def b__law_text : Sv :=
  (sRet (vBin ixD (vLst (vCons (vC (.str "")) (vCons (vC (.str "a")) (vCons (vC (.str "b")) (vCons (vC (.str "one")) (vCons (vC (.str "two")) (vCons (vC (.str "line\nline")) (vCons (vC (.str "x y")) (vCons (vC (.str "{}")) vNil))))))))) (vBin modD (vApp intD (vCons (vVar 0) vNil)) (vC (.int 8)))))
noncomputable def D__law_text : List D → HostSt → Res D := fun ds A => noexc (runF b__law_text 1 1 ds A)
noncomputable def b__law_name : Sv :=
  (sRet (vBin ixD (vLst (vCons (vC (.str "a")) (vCons (vC (.str "b")) (vCons (vC (.str "A")) (vCons (vC (.str "c.txt")) (vCons (vC (.str "d")) (vCons (vC (.str "B")) (vCons (vC (.str "c.TXT")) (vCons (vC (.str "e.e.e")) (vCons (vC (.str "f")) vNil)))))))))) (vBin modD (vApp intD (vCons (vVar 0) vNil)) (vC (.int 9)))))
noncomputable def D__law_name : List D → HostSt → Res D := fun ds A => noexc (runF b__law_name 1 1 ds A)
noncomputable def b__law_path : Sv :=
  (seqS (sSet 1 (vCall 1 D__law_name (vCons (vVar 0) vNil)))
    (seqS (sIf (tOfV (vBin eqD (vBin modD (vBin fdivD (vApp intD (vCons (vVar 0) vNil)) (vC (.int 9))) (vC (.int 3))) (vC (.int 0))))
      (sRet (vTup (vCons (vVar 1) vNil)))
      sNil)
    (seqS (sSet 2 (vCall 1 D__law_name (vCons (vBin fdivD (vVar 0) (vC (.int 27))) vNil)))
    (seqS (sIf (tOfV (vBin ltD (vBin modD (vBin fdivD (vApp intD (vCons (vVar 0) vNil)) (vC (.int 243))) (vC (.int 3))) (vC (.int 2))))
      (sRet (vTup (vCons (vVar 1) (vCons (vVar 2) vNil))))
      sNil)
    (sRet (vTup (vCons (vVar 1) (vCons (vVar 2) (vCons (vCall 1 D__law_name (vCons (vBin fdivD (vVar 0) (vC (.int 729))) vNil)) vNil)))))))))
noncomputable def D__law_path : List D → HostSt → Res D := fun ds A => noexc (runF b__law_path 3 1 ds A)
noncomputable def b__law_spot : Sv :=
  (seqS (sSet 2 (vBin modD (vApp intD (vCons (vVar 0) vNil)) (vC (.int 7))))
    (seqS (sSet 3 (vCall 1 D__law_path (vCons (vBin fdivD (vVar 0) (vC (.int 7))) vNil)))
    (seqS (sIf (tOfV (vBin eqD (vVar 2) (vC (.int 5))))
      (sRet (vTup (vCons (vC (.str "outside")) (vCons (vVar 3) vNil))))
      sNil)
    (seqS (sIf (tvAnd (tOfV (vBin eqD (vVar 2) (vC (.int 6)))) (tOfV (vBin gtD (vApp lenD (vCons (vUn (fdH fun _ => .opened) (vVar 1)) vNil)) (vC (.int 0)))))
      (sRet (vTup (vCons (vCall 2 D__law_pick (vCons (vBin fdivD (vVar 0) (vC (.int 3))) (vCons (vUn (fdH fun _ => .opened) (vVar 1)) vNil))) (vCons (vVar 3) vNil))))
      sNil)
    (sRet (vTup (vCons (vC (.str "folder")) (vCons (vVar 3) vNil))))))))
noncomputable def D__law_spot : List D → HostSt → Res D := fun ds A => noexc (runF b__law_spot 4 2 ds A)
noncomputable def b__law_target : Sv :=
  (seqS (sIf (tvAnd (tOfV (vBin eqD (vBin modD (vApp intD (vCons (vVar 0) vNil)) (vC (.int 4))) (vC (.int 0)))) (tOfV (vBin gtD (vApp lenD (vCons (vUn (fdH fun _ => .opened) (vVar 1)) vNil)) (vC (.int 0)))))
      (sRet (vCall 2 D__law_pick (vCons (vBin fdivD (vVar 0) (vC (.int 4))) (vCons (vUn (fdH fun _ => .opened) (vVar 1)) vNil))))
      sNil)
    (sRet (vCall 2 D__law_spot (vCons (vBin fdivD (vVar 0) (vC (.int 4))) (vCons (vVar 1) vNil)))))
noncomputable def D__law_target : List D → HostSt → Res D := fun ds A => noexc (runF b__law_target 2 2 ds A)
noncomputable def b__law_deed : Sv :=
  (seqS (sSet 2 (vBin modD (vApp intD (vCons (vVar 0) vNil)) (vC (.int 14))))
    (seqS (sSet 3 (vBin fdivD (vVar 0) (vC (.int 14))))
    (seqS (sSet 4 (vCall 2 D__law_spot (vCons (vVar 3) (vCons (vVar 1) vNil))))
    (seqS (sIf (tOfV (vBin ltD (vVar 2) (vC (.int 4))))
      (sRet (vTup (vCons (vC (.str "make")) (vCons (vVar 4) (vCons (vCall 1 D__law_text (vCons (vBin fdivD (vVar 3) (vC (.int 5))) vNil)) (vCons (vBin eqD (vBin modD (vBin fdivD (vApp intD (vCons (vVar 3) vNil)) (vC (.int 40))) (vC (.int 5))) (vC (.int 0))) vNil))))))
      sNil)
    (seqS (sIf (tOfV (vBin eqD (vVar 2) (vC (.int 4))))
      (sRet (vTup (vCons (vC (.str "make_folder")) (vCons (vVar 4) vNil))))
      sNil)
    (seqS (sIf (tOfV (vBin eqD (vVar 2) (vC (.int 5))))
      (sRet (vTup (vCons (vC (.str "make_other")) (vCons (vVar 4) vNil))))
      sNil)
    (seqS (sIf (tOfV (vBin eqD (vVar 2) (vC (.int 6))))
      (sRet (vTup (vCons (vC (.str "remove")) (vCons (vVar 4) vNil))))
      sNil)
    (seqS (sIf (tOfV (vBin eqD (vVar 2) (vC (.int 7))))
      (sRet (vTup (vCons (vC (.str "remove_folder")) (vCons (vVar 4) vNil))))
      sNil)
    (seqS (sIf (tOfV (vBin ltD (vVar 2) (vC (.int 10))))
      (sRet (vTup (vCons (vC (.str "rename")) (vCons (vVar 4) (vCons (vCall 2 D__law_spot (vCons (vBin fdivD (vVar 3) (vC (.int 50021))) (vCons (vVar 1) vNil))) vNil)))))
      sNil)
    (seqS (sIf (tOfV (vBin eqD (vVar 2) (vC (.int 10))))
      (sRet (vTup (vCons (vC (.str "cut")) (vCons (vCall 2 D__law_target (vCons (vVar 3) (vCons (vVar 1) vNil))) vNil))))
      sNil)
    (seqS (sIf (tOfV (vBin eqD (vVar 2) (vC (.int 11))))
      (sRet (vTup (vCons (vC (.str "write")) (vCons (vCall 2 D__law_target (vCons (vVar 3) (vCons (vVar 1) vNil))) (vCons (vBin modD (vBin fdivD (vApp intD (vCons (vVar 3) vNil)) (vC (.int 11))) (vC (.int 4))) (vCons (vCall 1 D__law_text (vCons (vBin fdivD (vVar 3) (vC (.int 44))) vNil)) vNil))))))
      sNil)
    (seqS (sIf (tOfV (vBin eqD (vVar 2) (vC (.int 12))))
      (sRet (vCall 2 D__law_pick (vCons (vVar 3) (vCons (vLst (vCons (vTup (vCons (vC (.str "read")) (vCons (vCall 2 D__law_target (vCons (vBin fdivD (vVar 3) (vC (.int 2))) (vCons (vVar 1) vNil))) vNil))) (vCons (vTup (vCons (vC (.str "set_runs")) (vCons (vCall 2 D__law_target (vCons (vVar 3) (vCons (vVar 1) vNil))) (vCons (vC (.bl true)) vNil)))) vNil))) vNil))))
      sNil)
    (seqS (sIf (tvOr (tOfV (vBin eqD (vBin modD (vApp intD (vCons (vVar 3) vNil)) (vC (.int 2))) (vC (.int 0)))) (tOfV (vBin eqD (vApp lenD (vCons (vUn (fdH fun _ => .opened) (vVar 1)) vNil)) (vC (.int 0)))))
      (sRet (vTup (vCons (vC (.str "open")) (vCons (vVar 4) vNil))))
      sNil)
    (sRet (vTup (vCons (vC (.str "close")) (vCons (vCall 2 D__law_pick (vCons (vBin fdivD (vVar 3) (vC (.int 2))) (vCons (vUn (fdH fun _ => .opened) (vVar 1)) vNil))) vNil)))))))))))))))))
noncomputable def D__law_deed : List D → HostSt → Res D := fun ds A => noexc (runF b__law_deed 5 2 ds A)
noncomputable def b__law_as : Sv :=
  (seqS (sFor 2 (itT (vVar 0))
      (sIf (tOfV (vBin eqD (vBin ixD (vVar 2) (vC (.int 0))) (vVar 1)))
      (sRet (vBin ixD (vVar 2) (vC (.int 1))))
      sNil))
    (sRet (vVar 1)))
noncomputable def D__law_as : List D → HostSt → Res D := fun ds A => noexc (runF b__law_as 3 2 ds A)
noncomputable def b__law_same : Sv :=
  (seqS (sIf (tOfV (vBin neD (vApp lenD (vCons (vVar 1) vNil)) (vApp lenD (vCons (vVar 2) vNil))))
      (sRet (vC (.bl false)))
      sNil)
    (seqS (sFor 3 (itR (vApp lenD (vCons (vVar 1) vNil)))
      (seqS (sSet 4 (vBin ixD (vVar 1) (vVar 3)))
    (seqS (sSet 5 (vBin ixD (vVar 2) (vVar 3)))
    (seqS (sIf (tOfV (vBin neD (vApp lenD (vCons (vVar 4) vNil)) (vApp lenD (vCons (vVar 5) vNil))))
      (sRet (vC (.bl false)))
      sNil)
    (sFor 6 (itR (vApp lenD (vCons (vVar 4) vNil)))
      (sIf (tOfV (vBin neD (vCall 2 D__law_as (vCons (vVar 0) (vCons (vBin ixD (vVar 4) (vVar 6)) vNil))) (vCall 2 D__law_as (vCons (vVar 0) (vCons (vBin ixD (vVar 5) (vVar 6)) vNil)))))
      (sRet (vC (.bl false)))
      sNil))))))
    (sRet (vC (.bl true)))))
noncomputable def D__law_same : List D → HostSt → Res D := fun ds A => noexc (runF b__law_same 7 3 ds A)
noncomputable def b__law_at : Sv :=
  (seqS (sFor 4 (itL (vVar 0))
      (sIf (tvAnd (tOfV (vBin eqD (vBin ixD (vVar 4) (vC (.int 0))) (vVar 2))) (tOfV (vCall 3 D__law_same (vCons (vUn (fdR fun r => pathD r.alike) (vVar 1)) (vCons (vBin ixD (vVar 4) (vC (.int 1))) (vCons (vVar 3) vNil))))))
      (sRet (vVar 4))
      sNil))
    (sRet (vC .non)))
noncomputable def D__law_at : List D → HostSt → Res D := fun ds A => noexc (runF b__law_at 5 4 ds A)
noncomputable def b__law_above : Sv :=
  (seqS (sIf (tvAnd (tOfV (vBin eqD (vVar 3) (vTup vNil))) (tvOr (tOfV (vBin eqD (vVar 2) (vC (.str "folder")))) (tOfV (vBin eqD (vVar 2) (vC (.str "outside"))))))
      (sRet (vTup vNil))
      sNil)
    (seqS (sSet 4 (vCall 4 D__law_at (vCons (vVar 0) (vCons (vVar 1) (vCons (vVar 2) (vCons (vVar 3) vNil))))))
    (seqS (sIf (tvOr (tOfV (vBin isND (vVar 4) (vC .non))) (tOfV (vBin neD (vBin ixD (vVar 4) (vC (.int 3))) (vC (.str "folder")))))
      (sRet (vC .non))
      sNil)
    (sRet (vBin ixD (vVar 4) (vC (.int 1)))))))
noncomputable def D__law_above : List D → HostSt → Res D := fun ds A => noexc (runF b__law_above 5 4 ds A)
noncomputable def b__law_free : Sv :=
  (seqS (sIf (tvOr (tOfV (vBin eqD (vVar 3) (vTup vNil))) (tOfV (vBin notND (vCall 4 D__law_at (vCons (vVar 0) (vCons (vVar 1) (vCons (vVar 2) (vCons (vVar 3) vNil))))) (vC .non))))
      (sRet (vC .non))
      sNil)
    (seqS (sIf (tOfV (vBin gtD (vApp lenD (vCons (vBin ixD (vVar 3) (vUn negD (vC (.int 1)))) vNil)) (vUn (fdR fun r => .int r.longest) (vVar 1))))
      (sRet (vC .non))
      sNil)
    (seqS (sFor 4 (itT (vUn (fdR fun r => pathD r.unfit) (vVar 1)))
      (sIf (tOfV (vCall 3 D__law_same (vCons (vUn (fdR fun r => pathD r.alike) (vVar 1)) (vCons (vTup (vCons (vVar 4) vNil)) (vCons (vTup (vCons (vBin ixD (vVar 3) (vUn negD (vC (.int 1)))) vNil)) vNil)))))
      (sRet (vC .non))
      sNil))
    (seqS (sSet 5 (vCall 4 D__law_above (vCons (vVar 0) (vCons (vVar 1) (vCons (vVar 2) (vCons (vSl (vVar 3) oNone (oSome (vUn negD (vC (.int 1))))) vNil))))))
    (seqS (sIf (tOfV (vBin isND (vVar 5) (vC .non)))
      (sRet (vC .non))
      sNil)
    (sRet (vBin addD (vVar 5) (vTup (vCons (vBin ixD (vVar 3) (vUn negD (vC (.int 1)))) vNil)))))))))
noncomputable def D__law_free : List D → HostSt → Res D := fun ds A => noexc (runF b__law_free 6 4 ds A)
noncomputable def b__law_moved : Sv :=
  (seqS (sSet 4 (vTup (vCons (vBin ixD (vVar 1) (vC (.int 0))) (vCons (vBin ixD (vVar 1) (vC (.int 1))) vNil))))
    (seqS (sAcc 6 5 (itL (vVar 0)) tvYes (vIf (tvAnd (tOfV (vBin eqD (vBin ixD (vVar 6) (vC (.int 0))) (vBin ixD (vVar 4) (vC (.int 0))))) (tOfV (vBin eqD (vSl (vBin ixD (vVar 6) (vC (.int 1))) oNone (oSome (vApp lenD (vCons (vBin ixD (vVar 4) (vC (.int 1))) vNil)))) (vBin ixD (vVar 4) (vC (.int 1)))))) (vLst (vCons (vVar 2) (vCons (vBin addD (vVar 3) (vSl (vBin ixD (vVar 6) (vC (.int 1))) (oSome (vApp lenD (vCons (vBin ixD (vVar 4) (vC (.int 1))) vNil))) oNone)) (vCons (vBin ixD (vVar 6) (vC (.int 2))) (vCons (vBin ixD (vVar 6) (vC (.int 3))) (vCons (vBin ixD (vVar 6) (vC (.int 4))) (vCons (vBin ixD (vVar 6) (vC (.int 5))) (vCons (vBin ixD (vVar 6) (vC (.int 6))) (vCons (vBin ixD (vVar 6) (vC (.int 7))) (vCons (vC (.bl false)) vNil)))))))))) (vVar 6)))
    (sRet (vVar 5))))
noncomputable def D__law_moved : List D → HostSt → Res D := fun ds A => noexc (runF b__law_moved 7 4 ds A)
noncomputable def b__law_filled : Sv :=
  (seqS (sFor 2 (itL (vVar 0))
      (sIf (tvAnd (tOfV (vBin eqD (vBin ixD (vVar 2) (vC (.int 0))) (vBin ixD (vVar 1) (vC (.int 0))))) (tvAnd (tOfV (vBin eqD (vSl (vBin ixD (vVar 2) (vC (.int 1))) oNone (oSome (vApp lenD (vCons (vBin ixD (vVar 1) (vC (.int 1))) vNil)))) (vBin ixD (vVar 1) (vC (.int 1))))) (tOfV (vBin gtD (vApp lenD (vCons (vBin ixD (vVar 2) (vC (.int 1))) vNil)) (vApp lenD (vCons (vBin ixD (vVar 1) (vC (.int 1))) vNil))))))
      (sRet (vC (.bl true)))
      sNil))
    (sRet (vC (.bl false))))
noncomputable def D__law_filled : List D → HostSt → Res D := fun ds A => noexc (runF b__law_filled 3 2 ds A)
noncomputable def b__law_spot_of : Sv :=
  (seqS (sIf (tOfV (vBin eqD (vBin ixD (vVar 2) (vC (.int 1))) (vTup vNil)))
      (sRet (vC .non))
      sNil)
    (seqS (sIf (tOfV (vUn isStrD (vBin ixD (vVar 2) (vC (.int 0)))))
      (sRet (vTup (vCons (vBin ixD (vVar 2) (vC (.int 0))) (vCons (vBin ixD (vVar 2) (vC (.int 1))) vNil))))
      sNil)
    (seqS (sFor 3 (itL (vBin ixD (vVar 0) (vC (.int 0))))
      (sIf (tvAnd (tOfV (vBin eqD (vBin ixD (vVar 3) (vC (.int 2))) (vBin ixD (vVar 2) (vC (.int 0))))) (tvAnd (tOfV (vBin eqD (vBin ixD (vVar 3) (vC (.int 3))) (vC (.str "folder")))) (tOfV (vBin inLD (vBin ixD (vVar 2) (vC (.int 0))) (vBin ixD (vVar 0) (vC (.int 1)))))))
      (sRet (vTup (vCons (vBin ixD (vVar 3) (vC (.int 0))) (vCons (vBin addD (vBin ixD (vVar 3) (vC (.int 1))) (vBin ixD (vVar 2) (vC (.int 1)))) vNil))))
      sNil))
    (sRet (vC .non)))))
noncomputable def D__law_spot_of : List D → HostSt → Res D := fun ds A => noexc (runF b__law_spot_of 4 3 ds A)
noncomputable def b__law_row_at : Sv :=
  (seqS (sSet 3 (vCall 3 D__law_spot_of (vCons (vVar 0) (vCons (vVar 1) (vCons (vVar 2) vNil)))))
    (seqS (sIf (tOfV (vBin isND (vVar 3) (vC .non)))
      (sRet (vC .non))
      sNil)
    (sRet (vCall 4 D__law_at (vCons (vBin ixD (vVar 0) (vC (.int 0))) (vCons (vVar 1) (vCons (vBin ixD (vVar 3) (vC (.int 0))) (vCons (vBin ixD (vVar 3) (vC (.int 1))) vNil))))))))
noncomputable def D__law_row_at : List D → HostSt → Res D := fun ds A => noexc (runF b__law_row_at 4 3 ds A)
noncomputable def b__law_file_at : Sv :=
  (seqS (sIf (tOfV (vUn isIntD (vVar 2)))
      (seqS (sFor 3 (itL (vBin ixD (vVar 0) (vC (.int 0))))
      (sIf (tvAnd (tOfV (vBin eqD (vBin ixD (vVar 3) (vC (.int 2))) (vVar 2))) (tvAnd (tOfV (vBin eqD (vBin ixD (vVar 3) (vC (.int 3))) (vC (.str "file")))) (tOfV (vBin inLD (vVar 2) (vBin ixD (vVar 0) (vC (.int 1)))))))
      (sRet (vVar 3))
      sNil))
    (sRet (vC .non)))
      sNil)
    (seqS (sSet 3 (vCall 3 D__law_row_at (vCons (vVar 0) (vCons (vVar 1) (vCons (vVar 2) vNil)))))
    (seqS (sIf (tvOr (tOfV (vBin isND (vVar 3) (vC .non))) (tOfV (vBin neD (vBin ixD (vVar 3) (vC (.int 3))) (vC (.str "file")))))
      (sRet (vC .non))
      sNil)
    (sRet (vVar 3)))))
noncomputable def D__law_file_at : List D → HostSt → Res D := fun ds A => noexc (runF b__law_file_at 4 3 ds A)
noncomputable def b__law_put : Sv :=
  (seqS (sSet 7 (vLst (vCons (vVar 1) (vCons (vVar 2) (vCons (vBin ixD (vVar 0) (vC (.int 2))) (vCons (vVar 3) (vCons (vVar 4) (vCons (vVar 5) (vCons (vC (.int 0)) (vCons (vC (.int 0)) (vCons (vVar 6) vNil)))))))))))
    (sRet (vLst (vCons (vBin addD (vBin ixD (vVar 0) (vC (.int 0))) (vLst (vCons (vVar 7) vNil))) (vCons (vBin ixD (vVar 0) (vC (.int 1))) (vCons (vBin addD (vBin ixD (vVar 0) (vC (.int 2))) (vC (.int 1))) (vCons (vBin addD (vBin ixD (vVar 0) (vC (.int 3))) (vC (.int 1))) (vCons (vBin ixD (vVar 0) (vC (.int 4))) vNil))))))))
noncomputable def D__law_put : List D → HostSt → Res D := fun ds A => noexc (runF b__law_put 8 7 ds A)
noncomputable def b__law_gone : Sv :=
  (sRet (vLst (vCons (vLc 2 (itL (vBin ixD (vVar 0) (vC (.int 0)))) (tOfV (vBin neD (vBin ixD (vVar 2) (vC (.int 2))) (vVar 1))) (vVar 2)) (vCons (vBin ixD (vVar 0) (vC (.int 1))) (vCons (vBin ixD (vVar 0) (vC (.int 2))) (vCons (vBin addD (vBin ixD (vVar 0) (vC (.int 3))) (vC (.int 1))) (vCons (vBin ixD (vVar 0) (vC (.int 4))) vNil)))))))
noncomputable def D__law_gone : List D → HostSt → Res D := fun ds A => noexc (runF b__law_gone 3 2 ds A)
noncomputable def b__law_carried : Sv :=
  (sRet (vLst (vCons (vCall 4 D__law_moved (vCons (vBin ixD (vVar 0) (vC (.int 0))) (vCons (vVar 1) (vCons (vVar 2) (vCons (vVar 3) vNil))))) (vCons (vBin ixD (vVar 0) (vC (.int 1))) (vCons (vBin ixD (vVar 0) (vC (.int 2))) (vCons (vBin addD (vBin ixD (vVar 0) (vC (.int 3))) (vC (.int 1))) (vCons (vBin ixD (vVar 0) (vC (.int 4))) vNil)))))))
noncomputable def D__law_carried : List D → HostSt → Res D := fun ds A => noexc (runF b__law_carried 4 4 ds A)
noncomputable def b__law_with_text : Sv :=
  (seqS (sAcc 6 5 (itL (vBin ixD (vVar 0) (vC (.int 0)))) tvYes (vIf (tOfV (vBin eqD (vBin ixD (vVar 6) (vC (.int 2))) (vBin ixD (vVar 1) (vC (.int 2))))) (vLst (vCons (vBin ixD (vVar 1) (vC (.int 0))) (vCons (vBin ixD (vVar 1) (vC (.int 1))) (vCons (vBin ixD (vVar 1) (vC (.int 2))) (vCons (vBin ixD (vVar 1) (vC (.int 3))) (vCons (vVar 2) (vCons (vVar 3) (vCons (vBin addD (vBin ixD (vVar 1) (vC (.int 6))) (vC (.int 1))) (vCons (vBin addD (vBin ixD (vVar 1) (vC (.int 7))) (vVar 4)) (vCons (vBin ixD (vVar 1) (vC (.int 8))) vNil)))))))))) (vVar 6)))
    (sRet (vLst (vCons (vVar 5) (vCons (vBin ixD (vVar 0) (vC (.int 1))) (vCons (vBin ixD (vVar 0) (vC (.int 2))) (vCons (vBin ixD (vVar 0) (vC (.int 3))) (vCons (vBin ixD (vVar 0) (vC (.int 4))) vNil))))))))
noncomputable def D__law_with_text : List D → HostSt → Res D := fun ds A => noexc (runF b__law_with_text 7 5 ds A)
noncomputable def b__law_renamed : Sv :=
  (seqS (sSet 4 (vCall 3 D__law_row_at (vCons (vVar 0) (vCons (vVar 1) (vCons (vVar 2) vNil)))))
    (seqS (sSet 5 (vCall 3 D__law_spot_of (vCons (vVar 0) (vCons (vVar 1) (vCons (vVar 3) vNil)))))
    (seqS (sIf (tvOr (tOfV (vBin isND (vVar 4) (vC .non))) (tOfV (vBin isND (vVar 5) (vC .non))))
      (sRet (vC .non))
      sNil)
    (seqS (sSet 6 (vCall 4 D__law_at (vCons (vBin ixD (vVar 0) (vC (.int 0))) (vCons (vVar 1) (vCons (vBin ixD (vVar 5) (vC (.int 0))) (vCons (vBin ixD (vVar 5) (vC (.int 1))) vNil))))))
    (seqS (sIf (tOfV (vBin isND (vVar 6) (vC .non)))
      (seqS (sSet 7 (vCall 4 D__law_free (vCons (vBin ixD (vVar 0) (vC (.int 0))) (vCons (vVar 1) (vCons (vBin ixD (vVar 5) (vC (.int 0))) (vCons (vBin ixD (vVar 5) (vC (.int 1))) vNil))))))
    (seqS (sIf (tvOr (tOfV (vBin isND (vVar 7) (vC .non))) (tvAnd (tOfV (vBin eqD (vBin ixD (vVar 5) (vC (.int 0))) (vBin ixD (vVar 4) (vC (.int 0))))) (tOfV (vBin eqD (vSl (vVar 7) oNone (oSome (vApp lenD (vCons (vBin ixD (vVar 4) (vC (.int 1))) vNil)))) (vBin ixD (vVar 4) (vC (.int 1)))))))
      (sRet (vC .non))
      sNil)
    (sRet (vCall 4 D__law_carried (vCons (vVar 0) (vCons (vVar 4) (vCons (vBin ixD (vVar 5) (vC (.int 0))) (vCons (vVar 7) vNil))))))))
      sNil)
    (seqS (sIf (tOfV (vBin eqD (vBin ixD (vVar 6) (vC (.int 2))) (vBin ixD (vVar 4) (vC (.int 2)))))
      (seqS (sSet 8 (vBin ixD (vBin ixD (vVar 5) (vC (.int 1))) (vUn negD (vC (.int 1)))))
    (seqS (sSet 9 (vLc 10 (itT (vUn (fdR fun r => pathD r.unfit) (vVar 1))) (tOfV (vCall 3 D__law_same (vCons (vUn (fdR fun r => pathD r.alike) (vVar 1)) (vCons (vTup (vCons (vVar 10) vNil)) (vCons (vTup (vCons (vVar 8) vNil)) vNil))))) (vVar 10)))
    (seqS (sIf (tvOr (tOfV (vBin gtD (vApp lenD (vCons (vVar 8) vNil)) (vUn (fdR fun r => .int r.longest) (vVar 1)))) (tOfV (vBin gtD (vApp lenD (vCons (vVar 9) vNil)) (vC (.int 0)))))
      (sRet (vC .non))
      sNil)
    (sRet (vCall 4 D__law_carried (vCons (vVar 0) (vCons (vVar 4) (vCons (vBin ixD (vVar 4) (vC (.int 0))) (vCons (vBin addD (vSl (vBin ixD (vVar 4) (vC (.int 1))) oNone (oSome (vUn negD (vC (.int 1))))) (vTup (vCons (vVar 8) vNil))) vNil)))))))))
      sNil)
    (seqS (sIf (tvOr (tOfV (vBin eqD (vBin ixD (vVar 4) (vC (.int 3))) (vC (.str "folder")))) (tOfV (vBin eqD (vBin ixD (vVar 6) (vC (.int 3))) (vC (.str "folder")))))
      (sRet (vC .non))
      sNil)
    (sRet (vCall 4 D__law_carried (vCons (vCall 2 D__law_gone (vCons (vVar 0) (vCons (vBin ixD (vVar 6) (vC (.int 2))) vNil))) (vCons (vVar 4) (vCons (vBin ixD (vVar 6) (vC (.int 0))) (vCons (vBin ixD (vVar 6) (vC (.int 1))) vNil)))))))))))))
noncomputable def D__law_renamed : List D → HostSt → Res D := fun ds A => noexc (runF b__law_renamed 11 4 ds A)
noncomputable def b__law_done_in : Sv :=
  (seqS (sSet 3 (vCall 3 D__law_file_at (vCons (vVar 0) (vCons (vVar 1) (vCons (vBin ixD (vVar 2) (vC (.int 1))) vNil)))))
    (seqS (sIf (tOfV (vBin isND (vVar 3) (vC .non)))
      (sRet (vC .non))
      sNil)
    (seqS (sIf (tOfV (vBin eqD (vBin ixD (vVar 2) (vC (.int 0))) (vC (.str "cut"))))
      (sRet (vCall 5 D__law_with_text (vCons (vVar 0) (vCons (vVar 3) (vCons (vC (.str "")) (vCons (vBin ixD (vVar 3) (vC (.int 5))) (vCons (vC (.int 1)) vNil)))))))
      sNil)
    (seqS (sIf (tOfV (vBin eqD (vBin ixD (vVar 2) (vC (.int 0))) (vC (.str "set_runs"))))
      (sRet (vCall 5 D__law_with_text (vCons (vVar 0) (vCons (vVar 3) (vCons (vBin ixD (vVar 3) (vC (.int 4))) (vCons (vBin ixD (vVar 2) (vC (.int 2))) (vCons (vC (.int 0)) vNil)))))))
      sNil)
    (seqS (sIf (tOfV (vBin eqD (vBin ixD (vVar 2) (vC (.int 0))) (vC (.str "read"))))
      (sRet (vLst (vCons (vBin ixD (vVar 0) (vC (.int 0))) (vCons (vBin ixD (vVar 0) (vC (.int 1))) (vCons (vBin ixD (vVar 0) (vC (.int 2))) (vCons (vBin ixD (vVar 0) (vC (.int 3))) (vCons (vBin addD (vBin ixD (vVar 0) (vC (.int 4))) (vLst (vCons (vTup (vCons (vBin ixD (vVar 3) (vC (.int 2))) (vCons (vBin ixD (vVar 3) (vC (.int 6))) vNil))) vNil))) vNil)))))))
      sNil)
    (seqS (sIf (tOfV (vBin gtD (vBin ixD (vVar 2) (vC (.int 2))) (vApp lenD (vCons (vBin ixD (vVar 3) (vC (.int 4))) vNil))))
      (sRet (vC .non))
      sNil)
    (seqS (sSet 4 (vBin addD (vBin addD (vSl (vBin ixD (vVar 3) (vC (.int 4))) oNone (oSome (vBin ixD (vVar 2) (vC (.int 2))))) (vBin ixD (vVar 2) (vC (.int 3)))) (vSl (vBin ixD (vVar 3) (vC (.int 4))) (oSome (vBin addD (vBin ixD (vVar 2) (vC (.int 2))) (vApp lenD (vCons (vBin ixD (vVar 2) (vC (.int 3))) vNil)))) oNone)))
    (sRet (vCall 5 D__law_with_text (vCons (vVar 0) (vCons (vVar 3) (vCons (vVar 4) (vCons (vBin ixD (vVar 3) (vC (.int 5))) (vCons (vC (.int 0)) vNil))))))))))))))
noncomputable def D__law_done_in : List D → HostSt → Res D := fun ds A => noexc (runF b__law_done_in 5 3 ds A)
noncomputable def b__law_done : Sv :=
  (seqS (sSet 3 (vBin ixD (vVar 2) (vC (.int 0))))
    (seqS (sIf (tOfV (vBin inTD (vVar 3) (vTup (vCons (vC (.str "make")) (vCons (vC (.str "make_folder")) (vCons (vC (.str "make_other")) vNil))))))
      (seqS (sSet 4 (vCall 3 D__law_spot_of (vCons (vVar 0) (vCons (vVar 1) (vCons (vBin ixD (vVar 2) (vC (.int 1))) vNil)))))
    (seqS (sSet 5 (vC .non))
    (seqS (sIf (tOfV (vBin notND (vVar 4) (vC .non)))
      (sSet 5 (vCall 4 D__law_free (vCons (vBin ixD (vVar 0) (vC (.int 0))) (vCons (vVar 1) (vCons (vBin ixD (vVar 4) (vC (.int 0))) (vCons (vBin ixD (vVar 4) (vC (.int 1))) vNil))))))
      sNil)
    (seqS (sIf (tOfV (vBin isND (vVar 5) (vC .non)))
      (sRet (vC .non))
      sNil)
    (seqS (sIf (tOfV (vBin eqD (vVar 3) (vC (.str "make"))))
      (sRet (vCall 7 D__law_put (vCons (vVar 0) (vCons (vBin ixD (vVar 4) (vC (.int 0))) (vCons (vVar 5) (vCons (vC (.str "file")) (vCons (vBin ixD (vVar 2) (vC (.int 2))) (vCons (vBin ixD (vVar 2) (vC (.int 3))) (vCons (vC (.bl false)) vNil)))))))))
      sNil)
    (sRet (vCall 7 D__law_put (vCons (vVar 0) (vCons (vBin ixD (vVar 4) (vC (.int 0))) (vCons (vVar 5) (vCons (vSl (vVar 3) (oSome (vC (.int 5))) oNone) (vCons (vC (.str "")) (vCons (vC (.bl false)) (vCons (vC (.bl false)) vNil))))))))))))))
      sNil)
    (seqS (sIf (tOfV (vBin eqD (vVar 3) (vC (.str "rename"))))
      (sRet (vCall 4 D__law_renamed (vCons (vVar 0) (vCons (vVar 1) (vCons (vBin ixD (vVar 2) (vC (.int 1))) (vCons (vBin ixD (vVar 2) (vC (.int 2))) vNil))))))
      sNil)
    (seqS (sIf (tOfV (vBin inTD (vVar 3) (vTup (vCons (vC (.str "remove")) (vCons (vC (.str "remove_folder")) (vCons (vC (.str "open")) vNil))))))
      (seqS (sSet 6 (vCall 3 D__law_row_at (vCons (vVar 0) (vCons (vVar 1) (vCons (vBin ixD (vVar 2) (vC (.int 1))) vNil)))))
    (seqS (sIf (tOfV (vBin isND (vVar 6) (vC .non)))
      (sRet (vC .non))
      sNil)
    (seqS (sIf (tOfV (vBin eqD (vVar 3) (vC (.str "open"))))
      (sRet (vLst (vCons (vBin ixD (vVar 0) (vC (.int 0))) (vCons (vBin addD (vLst (vCons (vBin ixD (vVar 6) (vC (.int 2))) vNil)) (vBin ixD (vVar 0) (vC (.int 1)))) (vCons (vBin ixD (vVar 0) (vC (.int 2))) (vCons (vBin ixD (vVar 0) (vC (.int 3))) (vCons (vBin ixD (vVar 0) (vC (.int 4))) vNil)))))))
      sNil)
    (seqS (sIf (tvOr (tOfV (vBin neD (vBin eqD (vBin ixD (vVar 6) (vC (.int 3))) (vC (.str "folder"))) (vBin eqD (vVar 3) (vC (.str "remove_folder"))))) (tOfV (vCall 2 D__law_filled (vCons (vBin ixD (vVar 0) (vC (.int 0))) (vCons (vVar 6) vNil)))))
      (sRet (vC .non))
      sNil)
    (sRet (vCall 2 D__law_gone (vCons (vVar 0) (vCons (vBin ixD (vVar 6) (vC (.int 2))) vNil))))))))
      sNil)
    (seqS (sIf (tOfV (vBin eqD (vVar 3) (vC (.str "close"))))
      (seqS (sIf (tOfV (vBin ninLD (vBin ixD (vVar 2) (vC (.int 1))) (vBin ixD (vVar 0) (vC (.int 1)))))
      (sRet (vC .non))
      sNil)
    (seqS (sSet 7 (vIdx (vBin ixD (vVar 0) (vC (.int 1))) (vBin ixD (vVar 2) (vC (.int 1)))))
    (sRet (vLst (vCons (vBin ixD (vVar 0) (vC (.int 0))) (vCons (vBin addD (vSl (vBin ixD (vVar 0) (vC (.int 1))) oNone (oSome (vVar 7))) (vSl (vBin ixD (vVar 0) (vC (.int 1))) (oSome (vBin addD (vVar 7) (vC (.int 1)))) oNone)) (vCons (vBin ixD (vVar 0) (vC (.int 2))) (vCons (vBin ixD (vVar 0) (vC (.int 3))) (vCons (vBin ixD (vVar 0) (vC (.int 4))) vNil)))))))))
      sNil)
    (sRet (vCall 3 D__law_done_in (vCons (vVar 0) (vCons (vVar 1) (vCons (vVar 2) vNil))))))))))
noncomputable def D__law_done : List D → HostSt → Res D := fun ds A => noexc (runF b__law_done 8 3 ds A)
noncomputable def b__law_tree : Sv :=
  (sRet (vUn sortD (vLc 2 (itL (vBin ixD (vVar 0) (vC (.int 0)))) (tOfV (vBin eqD (vBin ixD (vVar 2) (vC (.int 0))) (vVar 1))) (vTup (vCons (vBin ixD (vVar 2) (vC (.int 1))) (vCons (vBin ixD (vVar 2) (vC (.int 3))) (vCons (vBin ixD (vVar 2) (vC (.int 2))) (vCons (vBin ixD (vVar 2) (vC (.int 6))) (vCons (vBin ixD (vVar 2) (vC (.int 7))) (vCons (vBin ixD (vVar 2) (vC (.int 4))) (vCons (vBin ixD (vVar 2) (vC (.int 5))) vNil)))))))))))
noncomputable def D__law_tree : List D → HostSt → Res D := fun ds A => noexc (runF b__law_tree 3 2 ds A)
noncomputable def b__law_shelf : Sv :=
  (seqS (sSet 1 (vUn sortD (vLc 3 (itL (vBin ixD (vVar 0) (vC (.int 0)))) (tvAnd (tOfV (vUn isIntD (vBin ixD (vVar 3) (vC (.int 0))))) (tOfV (vBin eqD (vBin ixD (vVar 3) (vC (.int 1))) (vTup vNil)))) (vBin ixD (vVar 3) (vC (.int 0))))))
    (sRet (vLc 2 (itL (vVar 1)) tvYes (vTup (vCons (vVar 2) (vCons (vCall 2 D__law_tree (vCons (vVar 0) (vCons (vVar 2) vNil))) vNil))))))
noncomputable def D__law_shelf : List D → HostSt → Res D := fun ds A => noexc (runF b__law_shelf 4 1 ds A)
noncomputable def b__law_is : Sv :=
  (seqS (sIf (tvOr (tOfV (vBin neD (vMeth 1 D_Host_tree (vVar 0) vNil) (vCall 2 D__law_tree (vCons (vVar 1) (vCons (vC (.str "folder")) vNil))))) (tOfV (vBin neD (vMeth 1 D_Host_outside (vVar 0) vNil) (vCall 2 D__law_tree (vCons (vVar 1) (vCons (vC (.str "outside")) vNil))))))
      (sRet (vC (.bl false)))
      sNil)
    (sRet (vAnd (vBin eqD (vMeth 1 D_Host_shelf (vVar 0) vNil) (vCall 1 D__law_shelf (vCons (vVar 1) vNil))) (vAnd (vBin eqD (vUn (fdH fun _ => .opened) (vVar 0)) (vBin ixD (vVar 1) (vC (.int 1)))) (vBin eqD (vUn (fdH fun A => .int A.turned) (vVar 0)) (vBin ixD (vVar 1) (vC (.int 3))))))))
noncomputable def D__law_is : List D → HostSt → Res D := fun ds A => noexc (runF b__law_is 2 2 ds A)
noncomputable def b__law_operation : Sv :=
  (seqS (sSet 2 (vBin modD (vApp intD (vCons (vVar 0) vNil)) (vC (.int 15))))
    (seqS (sSet 3 (vBin fdivD (vVar 0) (vC (.int 15))))
    (seqS (sSet 4 (vCall 1 D__law_path (vCons (vVar 3) vNil)))
    (seqS (sSet 5 (vMeth 1 D_Host_tree (vVar 1) vNil))
    (seqS (sIf (tvAnd (tOfV (vBin gtD (vApp lenD (vCons (vVar 5) vNil)) (vC (.int 0)))) (tOfV (vBin gtD (vBin modD (vApp intD (vCons (vVar 3) vNil)) (vC (.int 3))) (vC (.int 0)))))
      (sSet 4 (vBin ixD (vCall 2 D__law_pick (vCons (vBin fdivD (vVar 3) (vC (.int 3))) (vCons (vVar 5) vNil))) (vC (.int 0))))
      sNil)
    (seqS (sSet 6 (vBin modD (vBin fdivD (vApp intD (vCons (vVar 3) vNil)) (vC (.int 7))) (vC (.int 5))))
    (seqS (sSet 7 (vMeth 1 D_Host_shelf (vVar 1) vNil))
    (seqS (sIf (tvAnd (tOfV (vBin gtD (vApp lenD (vCons (vVar 7) vNil)) (vC (.int 0)))) (tOfV (vBin gtD (vBin modD (vBin fdivD (vApp intD (vCons (vVar 3) vNil)) (vC (.int 5))) (vC (.int 3))) (vC (.int 0)))))
      (sSet 6 (vBin ixD (vCall 2 D__law_pick (vCons (vBin fdivD (vVar 3) (vC (.int 11))) (vCons (vVar 7) vNil))) (vC (.int 0))))
      sNil)
    (seqS (sIf (tOfV (vBin eqD (vVar 2) (vC (.int 0))))
      (sRet (vTup (vCons (vC (.str "names")) (vCons (vBin ixD (vLst (vCons (vTup vNil) (vCons (vVar 4) (vCons (vSl (vVar 4) oNone (oSome (vUn negD (vC (.int 1))))) vNil)))) (vBin modD (vApp intD (vCons (vVar 3) vNil)) (vC (.int 3)))) vNil))))
      sNil)
    (seqS (sIf (tOfV (vBin ltD (vVar 2) (vC (.int 3))))
      (sRet (vBin ixD (vLst (vCons (vTup (vCons (vC (.str "total")) vNil)) (vCons (vTup (vCons (vC (.str "shelf")) vNil)) vNil))) (vBin subD (vVar 2) (vC (.int 1)))))
      sNil)
    (seqS (sIf (tOfV (vBin eqD (vVar 2) (vC (.int 3))))
      (sRet (vTup (vCons (vC (.str "read")) (vCons (vVar 4) vNil))))
      sNil)
    (seqS (sIf (tOfV (vBin eqD (vVar 2) (vC (.int 4))))
      (sRet (vTup (vCons (vC (.str "read_shelf")) (vCons (vVar 6) vNil))))
      sNil)
    (seqS (sIf (tOfV (vBin eqD (vVar 2) (vC (.int 5))))
      (sRet (vTup (vCons (vC (.str "was_read")) (vCons (vBin addD (vC (.int 1)) (vBin modD (vApp intD (vCons (vVar 3) vNil)) (vC (.int 9)))) (vCons (vBin modD (vBin fdivD (vApp intD (vCons (vVar 3) vNil)) (vC (.int 9))) (vC (.int 3))) vNil)))))
      sNil)
    (seqS (sIf (tOfV (vBin ltD (vVar 2) (vC (.int 8))))
      (sRet (vTup (vCons (vC (.str "stage")) (vCons (vVar 6) (vCons (vCall 1 D__law_text (vCons (vBin fdivD (vVar 3) (vC (.int 13))) vNil)) (vCons (vBin eqD (vBin modD (vApp intD (vCons (vVar 3) vNil)) (vC (.int 4))) (vC (.int 0))) vNil))))))
      sNil)
    (seqS (sIf (tOfV (vBin ltD (vVar 2) (vC (.int 10))))
      (sRet (vTup (vCons (vC (.str "take")) (vCons (vVar 4) (vCons (vVar 6) vNil)))))
      sNil)
    (seqS (sIf (tOfV (vBin eqD (vVar 2) (vC (.int 10))))
      (sRet (vTup (vCons (vC (.str "give")) (vCons (vVar 6) (vCons (vCall 1 D__law_path (vCons (vBin fdivD (vVar 3) (vC (.int 17))) vNil)) vNil)))))
      sNil)
    (seqS (sIf (tOfV (vBin eqD (vVar 2) (vC (.int 11))))
      (sRet (vTup (vCons (vC (.str "swap")) (vCons (vVar 6) (vCons (vVar 4) vNil)))))
      sNil)
    (seqS (sIf (tOfV (vBin eqD (vVar 2) (vC (.int 12))))
      (sRet (vTup (vCons (vC (.str "make_folder")) (vCons (vVar 4) vNil))))
      sNil)
    (seqS (sIf (tOfV (vBin eqD (vVar 2) (vC (.int 13))))
      (sRet (vTup (vCons (vC (.str "remove_folder")) (vCons (vVar 4) vNil))))
      sNil)
    (sRet (vTup (vCons (vC (.str "drop")) (vCons (vVar 6) (vCons (vBin modD (vBin fdivD (vApp intD (vCons (vVar 3) vNil)) (vC (.int 19))) (vC (.int 3))) vNil))))))))))))))))))))))))
noncomputable def D__law_operation : List D → HostSt → Res D := fun ds A => noexc (runF b__law_operation 8 2 ds A)
noncomputable def b__law_cuts : Sv :=
  (seqS (sIf (tOfV (vUn fdCuts (vVar 0)))
      (sRet (vBin ixD (vVar 1) (vC (.int 7))))
      sNil)
    (sRet (vC (.int 0))))
noncomputable def D__law_cuts : List D → HostSt → Res D := fun ds A => noexc (runF b__law_cuts 2 2 ds A)
noncomputable def b__law_read : Sv :=
  (seqS (sIf (tvOr (tOfV (vBin isND (vVar 1) (vC .non))) (tOfV (vBin neD (vBin ixD (vVar 1) (vC (.int 3))) (vC (.str "file")))))
      (sRet (vTup (vCons (vC (.str "refused")) vNil)))
      sNil)
    (sRet (vTup (vCons (vC (.str "text")) (vCons (vBin ixD (vVar 1) (vC (.int 2))) (vCons (vBin ixD (vVar 1) (vC (.int 6))) (vCons (vCall 2 D__law_cuts (vCons (vVar 0) (vCons (vVar 1) vNil))) (vCons (vBin ixD (vVar 1) (vC (.int 4))) (vCons (vBin ixD (vVar 1) (vC (.int 5))) vNil)))))))))
noncomputable def D__law_read : List D → HostSt → Res D := fun ds A => noexc (runF b__law_read 2 2 ds A)
noncomputable def b__law_told : Sv :=
  (seqS (sSet 3 (vBin ixD (vVar 2) (vC (.int 0))))
    (seqS (sIf (tOfV (vBin eqD (vVar 3) (vC (.str "names"))))
      (seqS (sSet 5 (vCall 4 D__law_above (vCons (vBin ixD (vVar 0) (vC (.int 0))) (vCons (vVar 1) (vCons (vC (.str "folder")) (vCons (vBin ixD (vVar 2) (vC (.int 1))) vNil))))))
    (seqS (sIf (tOfV (vBin isND (vVar 5) (vC .non)))
      (sRet (vTup (vCons (vC (.str "refused")) vNil)))
      sNil)
    (seqS (sSet 4 (vLc 6 (itL (vBin ixD (vVar 0) (vC (.int 0)))) (tvAnd (tOfV (vBin eqD (vBin ixD (vVar 6) (vC (.int 0))) (vC (.str "folder")))) (tvAnd (tOfV (vBin eqD (vSl (vBin ixD (vVar 6) (vC (.int 1))) oNone (oSome (vUn negD (vC (.int 1))))) (vVar 5))) (tOfV (vBin neD (vBin ixD (vVar 6) (vC (.int 1))) (vTup vNil))))) (vVar 6)))
    (sRet (vTup (vCons (vC (.str "names")) (vCons (vUn sortD (vLc 6 (itL (vVar 4)) tvYes (vTup (vCons (vBin ixD (vBin ixD (vVar 6) (vC (.int 1))) (vUn negD (vC (.int 1)))) (vCons (vBin ixD (vVar 6) (vC (.int 2))) (vCons (vBin ixD (vVar 6) (vC (.int 3))) (vCons (vBin ixD (vVar 6) (vC (.int 6))) (vCons (vCall 2 D__law_cuts (vCons (vVar 1) (vCons (vVar 6) vNil))) vNil)))))))) vNil)))))))
      sNil)
    (seqS (sIf (tOfV (vBin eqD (vVar 3) (vC (.str "total"))))
      (seqS (sIf (tOfV (vUn (fdR fun r => .bl r.turns) (vVar 1)))
      (sRet (vTup (vCons (vC (.str "total")) (vCons (vBin ixD (vVar 0) (vC (.int 3))) vNil))))
      sNil)
    (sRet (vTup (vCons (vC (.str "total")) (vCons (vC .non) vNil)))))
      sNil)
    (seqS (sIf (tOfV (vBin eqD (vVar 3) (vC (.str "read"))))
      (seqS (sIf (tOfV (vBin eqD (vBin ixD (vVar 2) (vC (.int 1))) (vTup vNil)))
      (sRet (vTup (vCons (vC (.str "refused")) vNil)))
      sNil)
    (sRet (vCall 2 D__law_read (vCons (vVar 1) (vCons (vCall 4 D__law_at (vCons (vBin ixD (vVar 0) (vC (.int 0))) (vCons (vVar 1) (vCons (vC (.str "folder")) (vCons (vBin ixD (vVar 2) (vC (.int 1))) vNil))))) vNil)))))
      sNil)
    (seqS (sIf (tOfV (vBin eqD (vVar 3) (vC (.str "read_shelf"))))
      (sRet (vCall 2 D__law_read (vCons (vVar 1) (vCons (vCall 4 D__law_at (vCons (vBin ixD (vVar 0) (vC (.int 0))) (vCons (vVar 1) (vCons (vBin ixD (vVar 2) (vC (.int 1))) (vCons (vTup vNil) vNil))))) vNil))))
      sNil)
    (seqS (sIf (tOfV (vBin eqD (vVar 3) (vC (.str "was_read"))))
      (seqS (sIf (tOfV (vUn (fdR fun r => .bl r.reads) (vVar 1)))
      (sRet (vTup (vCons (vC (.str "was_read")) (vCons (vBin inLD (vTup (vCons (vBin ixD (vVar 2) (vC (.int 1))) (vCons (vBin ixD (vVar 2) (vC (.int 2))) vNil))) (vBin ixD (vVar 0) (vC (.int 4)))) vNil))))
      sNil)
    (sRet (vTup (vCons (vC (.str "was_read")) (vCons (vC .non) vNil)))))
      sNil)
    (seqS (sSet 4 (vLc 6 (itL (vBin ixD (vVar 0) (vC (.int 0)))) (tvAnd (tOfV (vUn isIntD (vBin ixD (vVar 6) (vC (.int 0))))) (tOfV (vBin eqD (vBin ixD (vVar 6) (vC (.int 1))) (vTup vNil)))) (vVar 6)))
    (sRet (vTup (vCons (vC (.str "shelf")) (vCons (vUn sortD (vLc 6 (itL (vVar 4)) tvYes (vTup (vCons (vBin ixD (vVar 6) (vC (.int 0))) (vCons (vBin ixD (vVar 6) (vC (.int 2))) (vCons (vBin ixD (vVar 6) (vC (.int 3))) (vCons (vBin ixD (vVar 6) (vC (.int 6))) (vCons (vCall 2 D__law_cuts (vCons (vVar 1) (vCons (vVar 6) vNil))) (vCons (vApp lenD (vCons (vBin ixD (vVar 6) (vC (.int 4))) vNil)) vNil))))))))) vNil)))))))))))
noncomputable def D__law_told : List D → HostSt → Res D := fun ds A => noexc (runF b__law_told 7 3 ds A)
noncomputable def b__law_carry : Sv :=
  (seqS (sSet 3 (vBin ixD (vVar 2) (vC (.int 0))))
    (seqS (sSet 4 (vBin ixD (vVar 2) (vC (.int 1))))
    (seqS (sSet 5 (vBin ixD (vVar 2) (vC (.int 1))))
    (seqS (sIf (tOfV (vBin eqD (vVar 3) (vC (.str "take"))))
      (sSet 4 (vBin ixD (vVar 2) (vC (.int 2))))
      (sIf (tOfV (vBin neD (vVar 3) (vC (.str "remove_folder"))))
      (sSet 5 (vBin ixD (vVar 2) (vC (.int 2))))
      sNil))
    (seqS (sSet 6 (vC .non))
    (seqS (sIf (tOfV (vBin neD (vVar 5) (vTup vNil)))
      (sSet 6 (vCall 4 D__law_at (vCons (vBin ixD (vVar 0) (vC (.int 0))) (vCons (vVar 1) (vCons (vC (.str "folder")) (vCons (vVar 5) vNil))))))
      sNil)
    (seqS (sIf (tOfV (vBin eqD (vVar 3) (vC (.str "remove_folder"))))
      (seqS (sIf (tvOr (tOfV (vBin isND (vVar 6) (vC .non))) (tvOr (tOfV (vBin neD (vBin ixD (vVar 6) (vC (.int 3))) (vC (.str "folder")))) (tOfV (vCall 2 D__law_filled (vCons (vBin ixD (vVar 0) (vC (.int 0))) (vCons (vVar 6) vNil))))))
      (sRet (vC .non))
      sNil)
    (sRet (vCall 2 D__law_gone (vCons (vVar 0) (vCons (vBin ixD (vVar 6) (vC (.int 2))) vNil)))))
      sNil)
    (seqS (sSet 7 (vCall 4 D__law_at (vCons (vBin ixD (vVar 0) (vC (.int 0))) (vCons (vVar 1) (vCons (vVar 4) (vCons (vTup vNil) vNil))))))
    (seqS (sIf (tOfV (vBin eqD (vVar 3) (vC (.str "take"))))
      (seqS (sIf (tvOr (tOfV (vBin isND (vVar 6) (vC .non))) (tOfV (vBin notND (vVar 7) (vC .non))))
      (sRet (vC .non))
      sNil)
    (sRet (vCall 4 D__law_carried (vCons (vVar 0) (vCons (vVar 6) (vCons (vVar 4) (vCons (vTup vNil) vNil)))))))
      sNil)
    (seqS (sIf (tOfV (vBin eqD (vVar 3) (vC (.str "give"))))
      (seqS (sSet 12 (vCall 4 D__law_free (vCons (vBin ixD (vVar 0) (vC (.int 0))) (vCons (vVar 1) (vCons (vC (.str "folder")) (vCons (vVar 5) vNil))))))
    (seqS (sIf (tvOr (tOfV (vBin isND (vVar 7) (vC .non))) (tOfV (vBin isND (vVar 12) (vC .non))))
      (sRet (vC .non))
      sNil)
    (sRet (vCall 4 D__law_carried (vCons (vVar 0) (vCons (vVar 7) (vCons (vC (.str "folder")) (vCons (vVar 12) vNil))))))))
      sNil)
    (seqS (sIf (tvOr (tvNot (tOfV (vUn (fdR fun r => .bl r.swaps) (vVar 1)))) (tvOr (tOfV (vBin isND (vVar 7) (vC .non))) (tOfV (vBin isND (vVar 6) (vC .non)))))
      (sRet (vC .non))
      sNil)
    (seqS (sSet 8 (vCall 4 D__law_carried (vCons (vVar 0) (vCons (vVar 6) (vCons (vC (.str "away")) (vCons (vTup vNil) vNil))))))
    (seqS (sSet 9 (vCall 4 D__law_carried (vCons (vVar 8) (vCons (vVar 7) (vCons (vC (.str "folder")) (vCons (vBin ixD (vVar 6) (vC (.int 1))) vNil))))))
    (seqS (sSet 10 (vBin ixD (vLc 13 (itL (vBin ixD (vVar 9) (vC (.int 0)))) (tOfV (vBin eqD (vBin ixD (vVar 13) (vC (.int 2))) (vBin ixD (vVar 6) (vC (.int 2))))) (vVar 13)) (vC (.int 0))))
    (seqS (sSet 11 (vCall 4 D__law_carried (vCons (vVar 9) (vCons (vVar 10) (vCons (vVar 4) (vCons (vTup vNil) vNil))))))
    (sRet (vLst (vCons (vBin ixD (vVar 11) (vC (.int 0))) (vCons (vBin ixD (vVar 11) (vC (.int 1))) (vCons (vBin ixD (vVar 11) (vC (.int 2))) (vCons (vBin addD (vBin ixD (vVar 0) (vC (.int 3))) (vC (.int 1))) (vCons (vBin ixD (vVar 11) (vC (.int 4))) vNil))))))))))))))))))))))
noncomputable def D__law_carry : List D → HostSt → Res D := fun ds A => noexc (runF b__law_carry 14 3 ds A)
noncomputable def b__law_change : Sv :=
  (seqS (sSet 3 (vBin ixD (vVar 2) (vC (.int 0))))
    (seqS (sIf (tOfV (vBin eqD (vVar 3) (vC (.str "stage"))))
      (seqS (sSet 4 (vCall 4 D__law_at (vCons (vBin ixD (vVar 0) (vC (.int 0))) (vCons (vVar 1) (vCons (vBin ixD (vVar 2) (vC (.int 1))) (vCons (vTup vNil) vNil))))))
    (seqS (sIf (tOfV (vBin isND (vVar 4) (vC .non)))
      (sRet (vCall 7 D__law_put (vCons (vVar 0) (vCons (vBin ixD (vVar 2) (vC (.int 1))) (vCons (vTup vNil) (vCons (vC (.str "file")) (vCons (vBin ixD (vVar 2) (vC (.int 2))) (vCons (vBin ixD (vVar 2) (vC (.int 3))) (vCons (vC (.bl true)) vNil)))))))))
      sNil)
    (seqS (sIf (tvNot (tOfV (vBin ixD (vVar 4) (vC (.int 8)))))
      (sRet (vC .non))
      sNil)
    (sRet (vCall 5 D__law_with_text (vCons (vVar 0) (vCons (vVar 4) (vCons (vBin addD (vBin ixD (vVar 4) (vC (.int 4))) (vBin ixD (vVar 2) (vC (.int 2)))) (vCons (vBin ixD (vVar 2) (vC (.int 3))) (vCons (vC (.int 0)) vNil))))))))))
      sNil)
    (seqS (sIf (tOfV (vBin eqD (vVar 3) (vC (.str "make_folder"))))
      (seqS (sSet 5 (vCall 4 D__law_free (vCons (vBin ixD (vVar 0) (vC (.int 0))) (vCons (vVar 1) (vCons (vC (.str "folder")) (vCons (vBin ixD (vVar 2) (vC (.int 1))) vNil))))))
    (seqS (sIf (tOfV (vBin isND (vVar 5) (vC .non)))
      (sRet (vC .non))
      sNil)
    (sRet (vCall 7 D__law_put (vCons (vVar 0) (vCons (vC (.str "folder")) (vCons (vVar 5) (vCons (vC (.str "folder")) (vCons (vC (.str "")) (vCons (vC (.bl false)) (vCons (vC (.bl false)) vNil)))))))))))
      sNil)
    (seqS (sIf (tOfV (vBin eqD (vVar 3) (vC (.str "drop"))))
      (seqS (sSet 4 (vCall 4 D__law_at (vCons (vBin ixD (vVar 0) (vC (.int 0))) (vCons (vVar 1) (vCons (vBin ixD (vVar 2) (vC (.int 1))) (vCons (vTup vNil) vNil))))))
    (seqS (sIf (tvOr (tOfV (vBin isND (vVar 4) (vC .non))) (tvOr (tOfV (vBin neD (vBin ixD (vVar 4) (vC (.int 3))) (vC (.str "file")))) (tvOr (tOfV (vBin neD (vBin ixD (vVar 4) (vC (.int 6))) (vBin ixD (vVar 2) (vC (.int 2))))) (tOfV (vBin inLD (vBin ixD (vVar 4) (vC (.int 2))) (vBin ixD (vVar 0) (vC (.int 1))))))))
      (sRet (vC .non))
      sNil)
    (sRet (vCall 2 D__law_gone (vCons (vVar 0) (vCons (vBin ixD (vVar 4) (vC (.int 2))) vNil))))))
      sNil)
    (sRet (vCall 3 D__law_carry (vCons (vVar 0) (vCons (vVar 1) (vCons (vVar 2) vNil)))))))))
noncomputable def D__law_change : List D → HostSt → Res D := fun ds A => noexc (runF b__law_change 6 3 ds A)
end FK
set_option Elab.async false
set_option linter.all false
set_option maxRecDepth 100000
set_option maxHeartbeats 4000000
/-! The walks of the defs, printed by gen.py. -/
namespace FK
open PySem PySem.Spec PyProof.Rows L2
section
variable {C : Cs} {P : Program} {w : World} {mg : Str → Option Value} {base : Heap}
theorem sc_is_name : FnScope ["text", "sign"] ["text"] (defScope s_is_name) := ⟨rfl, rfl, rfl, by decide +kernel, rfl, by decide +kernel, by decide +kernel⟩
theorem ok_is_name (X : Facts C mg base) : CalP P w C mg base "is_name" 1 1 (spP C 1 D_is_name) := by
  obtain ⟨f, fd, Fn, hm⟩ := X.d_is_name
  refine ⟨f, fd, ["text"], ?_, hm, Fn.kp, Fn.binds fun _ _ _ _ _ _ us hl => match us, hl with | [_], _ => rfl, rfl⟩
  have S := sc_is_name
  refine fn_pure (sv := b_is_name) (N := ["text", "sign"]) (ps := ["text"]) Fn S (fun cdv A outer s H E hr => ?_)
  have hx : Passes (L2.CX P w) (cxOf (L2.CX P w) P w C.K mg base ["text", "sign"] "is_name" (defScope s_is_name) f cdv A outer s H E).nox E0 := passL
  have hu : Deep (cxOf (L2.CX P w) P w C.K mg base ["text", "sign"] "is_name" (defScope s_is_name) f cdv A outer s H E).nox := deep_of hr
  exact (sd_cons (sd_if (PWd.t (wd_or (td_not (td_chainLe ed_int (ed_len X.T (ad_cons (ed_var 0) ad_nil)) ed_int)) (wd_or1 (td_inT (ed_var 0) (ed_tup (ad_cons ed_str (ad_cons ed_str ad_nil)))))))
        (sd_one (sd_ret ed_bl))
        sd_nil)
      (sd_cons (sd_for (i := 1) PassesOwn.never S.nd (id_S (ed_var 0))
        (sd_one (sd_if (PWd.t (wd_or (td_lt (ed_ord X.T (ad_cons (ed_var 1) ad_nil)) ed_int) (wd_or1 (td_eq hu (ed_var 1) ed_str))))
        (sd_one (sd_ret ed_bl))
        sd_nil)))
      (sd_one (sd_ret ed_bl))))
theorem sc_counterpart : FnScope ["rule", "sign", "pair"] ["rule", "sign"] (defScope s_counterpart) := ⟨rfl, rfl, rfl, by decide +kernel, rfl, by decide +kernel, by decide +kernel⟩
theorem ok_counterpart (X : Facts C mg base) : CalP P w C mg base "counterpart" 1 2 (spP C 2 D_counterpart) := by
  obtain ⟨f, fd, Fn, hm⟩ := X.d_counterpart
  refine ⟨f, fd, ["rule", "sign"], ?_, hm, Fn.kp, Fn.binds fun _ _ _ _ _ _ us hl => match us, hl with | [_, _], _ => rfl, rfl⟩
  have S := sc_counterpart
  refine fn_pure (sv := b_counterpart) (N := ["rule", "sign", "pair"]) (ps := ["rule", "sign"]) Fn S (fun cdv A outer s H E hr => ?_)
  have hx : Passes (L2.CX P w) (cxOf (L2.CX P w) P w C.K mg base ["rule", "sign", "pair"] "counterpart" (defScope s_counterpart) f cdv A outer s H E).nox E0 := passL
  have hu : Deep (cxOf (L2.CX P w) P w C.K mg base ["rule", "sign", "pair"] "counterpart" (defScope s_counterpart) f cdv A outer s H E).nox := deep_of hr
  exact (sd_cons (sd_for (i := 2) PassesOwn.never S.nd (id_T (ed_fld (fld_alike X.T) (ed_var 0)))
        (sd_one (sd_if (td_eq hu (ed_ix (ed_var 2) ed_int) (ed_var 1))
        (sd_one (sd_ret (ed_ix (ed_var 2) ed_int)))
        sd_nil)))
      (sd_one (sd_ret (ed_var 1))))
theorem sc_same_name : FnScope ["rule", "first", "second", "k"] ["rule", "first", "second"] (defScope s_same_name) := ⟨rfl, rfl, rfl, by decide +kernel, rfl, by decide +kernel, by decide +kernel⟩
theorem ok_same_name (X : Facts C mg base) : CalP P w C mg base "same_name" 2 3 (spP C 3 D_same_name) := by
  obtain ⟨f, fd, Fn, hm⟩ := X.d_same_name
  refine ⟨f, fd, ["rule", "first", "second"], ?_, hm, Fn.kp, Fn.binds fun _ _ _ _ _ _ us hl => match us, hl with | [_, _, _], _ => rfl, rfl⟩
  have S := sc_same_name
  refine fn_pure (sv := b_same_name) (N := ["rule", "first", "second", "k"]) (ps := ["rule", "first", "second"]) Fn S (fun cdv A outer s H E hr => ?_)
  have hx : Passes (L2.CX P w) (cxOf (L2.CX P w) P w C.K mg base ["rule", "first", "second", "k"] "same_name" (defScope s_same_name) f cdv A outer s H E).nox E0 := passL
  have hu : Deep (cxOf (L2.CX P w) P w C.K mg base ["rule", "first", "second", "k"] "same_name" (defScope s_same_name) f cdv A outer s H E).nox := deep_of hr
  exact (sd_cons (sd_if (td_ne hu (ed_len X.T (ad_cons (ed_var 1) ad_nil)) (ed_len X.T (ad_cons (ed_var 2) ad_nil)))
        (sd_one (sd_ret ed_bl))
        sd_nil)
      (sd_cons (sd_for (i := 3) PassesOwn.never S.nd (id_R X.T (ed_len X.T (ad_cons (ed_var 1) ad_nil)) (fun h => pi_range1 rfl X.T.range h))
        (sd_one (sd_if (td_ne hu (ed_callC hx (ok_counterpart X) (hr.mono (by decide)) (ad_cons (ed_var 0) (ad_cons (ed_ix (ed_var 1) (ed_var 3)) ad_nil))) (ed_callC hx (ok_counterpart X) (hr.mono (by decide)) (ad_cons (ed_var 0) (ad_cons (ed_ix (ed_var 2) (ed_var 3)) ad_nil))))
        (sd_one (sd_ret ed_bl))
        sd_nil)))
      (sd_one (sd_ret ed_bl))))
theorem sc_in_use : FnScope ["rule", "names", "name", "other"] ["rule", "names", "name"] (defScope s_in_use) := ⟨rfl, rfl, rfl, by decide +kernel, rfl, by decide +kernel, by decide +kernel⟩
theorem ok_in_use (X : Facts C mg base) : CalP P w C mg base "in_use" 3 3 (spP C 3 D_in_use) := by
  obtain ⟨f, fd, Fn, hm⟩ := X.d_in_use
  refine ⟨f, fd, ["rule", "names", "name"], ?_, hm, Fn.kp, Fn.binds fun _ _ _ _ _ _ us hl => match us, hl with | [_, _, _], _ => rfl, rfl⟩
  have S := sc_in_use
  refine fn_pure (sv := b_in_use) (N := ["rule", "names", "name", "other"]) (ps := ["rule", "names", "name"]) Fn S (fun cdv A outer s H E hr => ?_)
  have hx : Passes (L2.CX P w) (cxOf (L2.CX P w) P w C.K mg base ["rule", "names", "name", "other"] "in_use" (defScope s_in_use) f cdv A outer s H E).nox E0 := passL
  have hu : Deep (cxOf (L2.CX P w) P w C.K mg base ["rule", "names", "name", "other"] "in_use" (defScope s_in_use) f cdv A outer s H E).nox := deep_of hr
  exact (sd_cons (sd_for (i := 3) PassesOwn.never S.nd (id_T (ed_var 1))
        (sd_one (sd_if (td_val (ed_callC hx (ok_same_name X) (hr.mono (by decide)) (ad_cons (ed_var 0) (ad_cons (ed_var 3) (ad_cons (ed_var 2) ad_nil)))))
        (sd_one (sd_ret ed_bl))
        sd_nil)))
      (sd_one (sd_ret ed_bl)))
theorem sc_fits : FnScope ["rule", "name"] ["rule", "name"] (defScope s_fits) := ⟨rfl, rfl, rfl, by decide +kernel, rfl, by decide +kernel, by decide +kernel⟩
theorem ok_fits (X : Facts C mg base) : CalP P w C mg base "fits" 4 2 (spP C 2 D_fits) := by
  obtain ⟨f, fd, Fn, hm⟩ := X.d_fits
  refine ⟨f, fd, ["rule", "name"], ?_, hm, Fn.kp, Fn.binds fun _ _ _ _ _ _ us hl => match us, hl with | [_, _], _ => rfl, rfl⟩
  have S := sc_fits
  refine fn_pure (sv := b_fits) (N := ["rule", "name"]) (ps := ["rule", "name"]) Fn S (fun cdv A outer s H E hr => ?_)
  have hx : Passes (L2.CX P w) (cxOf (L2.CX P w) P w C.K mg base ["rule", "name"] "fits" (defScope s_fits) f cdv A outer s H E).nox E0 := passL
  have hu : Deep (cxOf (L2.CX P w) P w C.K mg base ["rule", "name"] "fits" (defScope s_fits) f cdv A outer s H E).nox := deep_of hr
  exact (sd_one (sd_ret (ed_and (ed_callC hx (ok_is_name X) (hr.mono (by decide)) (ad_cons (ed_var 1) ad_nil)) (ed_and (ed_le (ed_len X.T (ad_cons (ed_var 1) ad_nil)) (ed_fld (fld_longest X.T) (ed_var 0))) (ed_one (ed_not (ed_callC hx (ok_in_use X) (hr.mono (by decide)) (ad_cons (ed_var 0) (ad_cons (ed_fld (fld_unfit X.T) (ed_var 0)) (ad_cons (ed_var 1) ad_nil))))))))))
theorem sc_same_path : FnScope ["rule", "first", "second", "k"] ["rule", "first", "second"] (defScope s_same_path) := ⟨rfl, rfl, rfl, by decide +kernel, rfl, by decide +kernel, by decide +kernel⟩
theorem ok_same_path (X : Facts C mg base) : CalP P w C mg base "same_path" 3 3 (spP C 3 D_same_path) := by
  obtain ⟨f, fd, Fn, hm⟩ := X.d_same_path
  refine ⟨f, fd, ["rule", "first", "second"], ?_, hm, Fn.kp, Fn.binds fun _ _ _ _ _ _ us hl => match us, hl with | [_, _, _], _ => rfl, rfl⟩
  have S := sc_same_path
  refine fn_pure (sv := b_same_path) (N := ["rule", "first", "second", "k"]) (ps := ["rule", "first", "second"]) Fn S (fun cdv A outer s H E hr => ?_)
  have hx : Passes (L2.CX P w) (cxOf (L2.CX P w) P w C.K mg base ["rule", "first", "second", "k"] "same_path" (defScope s_same_path) f cdv A outer s H E).nox E0 := passL
  have hu : Deep (cxOf (L2.CX P w) P w C.K mg base ["rule", "first", "second", "k"] "same_path" (defScope s_same_path) f cdv A outer s H E).nox := deep_of hr
  exact (sd_cons (sd_if (td_ne hu (ed_len X.T (ad_cons (ed_var 1) ad_nil)) (ed_len X.T (ad_cons (ed_var 2) ad_nil)))
        (sd_one (sd_ret ed_bl))
        sd_nil)
      (sd_cons (sd_for (i := 3) PassesOwn.never S.nd (id_R X.T (ed_len X.T (ad_cons (ed_var 1) ad_nil)) (fun h => pi_range1 rfl X.T.range h))
        (sd_one (sd_if (td_not (td_val (ed_callC hx (ok_same_name X) (hr.mono (by decide)) (ad_cons (ed_var 0) (ad_cons (ed_ix (ed_var 1) (ed_var 3)) (ad_cons (ed_ix (ed_var 2) (ed_var 3)) ad_nil))))))
        (sd_one (sd_ret ed_bl))
        sd_nil)))
      (sd_one (sd_ret ed_bl))))
theorem sc_Node_stands : FnScope ["self"] ["self"] (defScope s_Node_stands) := ⟨rfl, rfl, rfl, by decide +kernel, rfl, by decide +kernel, by decide +kernel⟩
theorem ok_Node_stands (X : Facts C mg base) : MetP P w C mg base C.CN "stands" 1 1 (spP C 1 D_Node_stands) := by
  obtain ⟨f, fd, Fn, hm⟩ := X.d_Node_stands
  refine ⟨f, fd, ["self"], ?_, hm, Fn.binds fun _ _ _ _ _ _ us hl => match us, hl with | [_], _ => rfl, rfl⟩
  have S := sc_Node_stands
  refine fn_pure (sv := b_Node_stands) (N := ["self"]) (ps := ["self"]) Fn S (fun cdv A outer s H E hr => ?_)
  have hx : Passes (L2.CX P w) (cxOf (L2.CX P w) P w C.K mg base ["self"] "Node.stands" (defScope s_Node_stands) f cdv A outer s H E).nox E0 := passL
  have hu : Deep (cxOf (L2.CX P w) P w C.K mg base ["self"] "Node.stands" (defScope s_Node_stands) f cdv A outer s H E).nox := deep_of hr
  exact (sd_one (sd_ret (ed_tup (ad_cons (ed_fld (fld_path X.T) (ed_var 0)) (ad_cons (ed_fld (fld_kind X.T) (ed_var 0)) (ad_cons (ed_fld (fld_thing X.T) (ed_var 0)) (ad_cons (ed_fld (fld_count X.T) (ed_var 0)) (ad_cons (ed_fld (fld_cuts X.T) (ed_var 0)) (ad_cons (ed_fld (fld_text X.T) (ed_var 0)) (ad_cons (ed_fld (fld_runs X.T) (ed_var 0)) ad_nil))))))))))
theorem sc_written : FnScope ["node", "text", "runs"] ["node", "text", "runs"] (defScope s_written) := ⟨rfl, rfl, rfl, by decide +kernel, rfl, by decide +kernel, by decide +kernel⟩
theorem ok_written (X : Facts C mg base) : CalP P w C mg base "written" 1 3 (spE C 3 D_written) := by
  obtain ⟨f, fd, Fn, hm⟩ := X.d_written
  refine ⟨f, fd, ["node", "text", "runs"], ?_, hm, Fn.kp, Fn.binds fun _ _ _ _ _ _ us hl => match us, hl with | [_, _, _], _ => rfl, rfl⟩
  have S := sc_written
  refine fn_eff (sv := b_written) (N := ["node", "text", "runs"]) (ps := ["node", "text", "runs"]) Fn S (fun cdv A outer s H E hr => ?_)
  have hx : Passes (L2.CX P w) (cxOf (L2.CX P w) P w C.K mg base ["node", "text", "runs"] "written" (defScope s_written) f cdv A outer s H E).nox E0 := passL
  have hu : Deep (cxOf (L2.CX P w) P w C.K mg base ["node", "text", "runs"] "written" (defScope s_written) f cdv A outer s H E).nox := deep_of hr
  exact (se_cons (se_stN X.T put_text (ed_var 0) (ed_var 1))
      (se_cons (se_stN X.T put_runs (ed_var 0) (ed_var 2))
      (se_one (se_stN X.T put_count (ed_var 0) (ed_add (ed_fld (fld_count X.T) (ed_var 0)) ed_int)))))
theorem sc_within : FnScope ["node", "area", "path"] ["node", "area", "path"] (defScope s_within) := ⟨rfl, rfl, rfl, by decide +kernel, rfl, by decide +kernel, by decide +kernel⟩
theorem ok_within (X : Facts C mg base) : CalP P w C mg base "within" 1 3 (spP C 3 D_within) := by
  obtain ⟨f, fd, Fn, hm⟩ := X.d_within
  refine ⟨f, fd, ["node", "area", "path"], ?_, hm, Fn.kp, Fn.binds fun _ _ _ _ _ _ us hl => match us, hl with | [_, _, _], _ => rfl, rfl⟩
  have S := sc_within
  refine fn_pure (sv := b_within) (N := ["node", "area", "path"]) (ps := ["node", "area", "path"]) Fn S (fun cdv A outer s H E hr => ?_)
  have hx : Passes (L2.CX P w) (cxOf (L2.CX P w) P w C.K mg base ["node", "area", "path"] "within" (defScope s_within) f cdv A outer s H E).nox E0 := passL
  have hu : Deep (cxOf (L2.CX P w) P w C.K mg base ["node", "area", "path"] "within" (defScope s_within) f cdv A outer s H E).nox := deep_of hr
  exact (sd_one (sd_ret (ed_and (ed_eq hu (ed_fld (fld_area X.T) (ed_var 0)) (ed_var 1)) (ed_one (ed_eq hu (ed_sl (ed_fld (fld_path X.T) (ed_var 0)) od_none (od_some (ed_len X.T (ad_cons (ed_var 2) ad_nil)))) (ed_var 2))))))
theorem sc_moved : FnScope ["node", "above", "area", "path"] ["node", "above", "area", "path"] (defScope s_moved) := ⟨rfl, rfl, rfl, by decide +kernel, rfl, by decide +kernel, by decide +kernel⟩
theorem ok_moved (X : Facts C mg base) : CalP P w C mg base "moved" 1 4 (spE C 4 D_moved) := by
  obtain ⟨f, fd, Fn, hm⟩ := X.d_moved
  refine ⟨f, fd, ["node", "above", "area", "path"], ?_, hm, Fn.kp, Fn.binds fun _ _ _ _ _ _ us hl => match us, hl with | [_, _, _, _], _ => rfl, rfl⟩
  have S := sc_moved
  refine fn_eff (sv := b_moved) (N := ["node", "above", "area", "path"]) (ps := ["node", "above", "area", "path"]) Fn S (fun cdv A outer s H E hr => ?_)
  have hx : Passes (L2.CX P w) (cxOf (L2.CX P w) P w C.K mg base ["node", "above", "area", "path"] "moved" (defScope s_moved) f cdv A outer s H E).nox E0 := passL
  have hu : Deep (cxOf (L2.CX P w) P w C.K mg base ["node", "above", "area", "path"] "moved" (defScope s_moved) f cdv A outer s H E).nox := deep_of hr
  exact (se_cons (se_stN X.T put_path (ed_var 0) (ed_add (ed_var 3) (ed_sl (ed_fld (fld_path X.T) (ed_var 0)) (od_some (ed_len X.T (ad_cons (ed_var 1) ad_nil))) od_none)))
      (se_cons (se_stN X.T put_area (ed_var 0) (ed_var 2))
      (se_one (se_stN X.T put_staged (ed_var 0) ed_bl))))
theorem sc_Host_node_of : FnScope ["self", "thing", "node"] ["self", "thing"] (defScope s_Host_node_of) := ⟨rfl, rfl, rfl, by decide +kernel, rfl, by decide +kernel, by decide +kernel⟩
theorem ok_Host_node_of (X : Facts C mg base) : MetP P w C mg base C.CH "node_of" 1 2 (spP C 2 D_Host_node_of) := by
  obtain ⟨f, fd, Fn, hm⟩ := X.d_Host_node_of
  refine ⟨f, fd, ["self", "thing"], ?_, hm, Fn.binds fun _ _ _ _ _ _ us hl => match us, hl with | [_, _], _ => rfl, rfl⟩
  have S := sc_Host_node_of
  refine fn_pure (sv := b_Host_node_of) (N := ["self", "thing", "node"]) (ps := ["self", "thing"]) Fn S (fun cdv A outer s H E hr => ?_)
  have hx : Passes (L2.CX P w) (cxOf (L2.CX P w) P w C.K mg base ["self", "thing", "node"] "Host.node_of" (defScope s_Host_node_of) f cdv A outer s H E).nox E0 := passL
  have hu : Deep (cxOf (L2.CX P w) P w C.K mg base ["self", "thing", "node"] "Host.node_of" (defScope s_Host_node_of) f cdv A outer s H E).nox := deep_of hr
  exact (sd_cons (sd_for (i := 2) PassesOwn.never S.nd (id_N X.T (ed_var 0))
        (sd_one (sd_if (td_eq hu (ed_fld (fld_thing X.T) (ed_var 2)) (ed_var 1))
        (sd_one (sd_ret (ed_var 2)))
        sd_nil)))
      (sd_one (sd_ret ed_non)))
end
end FK
set_option Elab.async false
set_option linter.all false
set_option maxRecDepth 100000
set_option maxHeartbeats 4000000
/-! The walks of the defs, printed by gen.py. -/
namespace FK
open PySem PySem.Spec PyProof.Rows L2
section
variable {C : Cs} {P : Program} {w : World} {mg : Str → Option Value} {base : Heap}
theorem sc_spot_place : FnScope ["host", "spot", "node", "base", "path"] ["host", "spot"] (defScope s_spot_place) := ⟨rfl, rfl, rfl, by decide +kernel, rfl, by decide +kernel, by decide +kernel⟩
theorem ok_spot_place (X : Facts C mg base) : CalP P w C mg base "spot_place" 2 2 (spP C 2 D_spot_place) := by
  obtain ⟨f, fd, Fn, hm⟩ := X.d_spot_place
  refine ⟨f, fd, ["host", "spot"], ?_, hm, Fn.kp, Fn.binds fun _ _ _ _ _ _ us hl => match us, hl with | [_, _], _ => rfl, rfl⟩
  have S := sc_spot_place
  refine fn_pureX (sv := b_spot_place) (N := ["host", "spot", "node", "base", "path"]) (ps := ["host", "spot"]) Fn S (fun cdv A outer s H E hr => ?_)
  have tk : Takes (cxOf (L2.CX P w) P w C.K mg base ["host", "spot", "node", "base", "path"] "spot_place" (defScope s_spot_place) f cdv A outer s H E) (fun cls d _ H => E cls d H) := takes_of rfl rfl rfl rfl
  have hx : Passes (L2.CX P w) (cxOf (L2.CX P w) P w C.K mg base ["host", "spot", "node", "base", "path"] "spot_place" (defScope s_spot_place) f cdv A outer s H E) E := passes_call tk fun _ _ _ _ h => h
  have hu : Deep (cxOf (L2.CX P w) P w C.K mg base ["host", "spot", "node", "base", "path"] "spot_place" (defScope s_spot_place) f cdv A outer s H E).nox := deep_of hr
  exact (sd_cons (sd_set2 (i := 3) (j := 4) S.nd (ed_var 1))
      (sd_cons (sd_if (td_eq hu (ed_var 4) (ed_tup ad_nil))
        (sd_one (sd_raise tk (X.pmk rfl rfl rfl)))
        sd_nil)
      (sd_cons (sd_if (td_val (ed_isStr X.T (ed_var 3)))
        (sd_one (sd_ret (ed_tup (ad_cons (ed_var 3) (ad_cons (ed_var 4) ad_nil)))))
        sd_nil)
      (sd_cons (sd_set (i := 2) S.nd (ed_methC X.T hx (ok_Host_node_of X) (hr.mono (by decide)) (ed_var 0) (ad_cons (ed_var 3) ad_nil)))
      (sd_cons (sd_if (PWd.t (wd_or (td_ninL hu (ed_var 3) (ed_fld (fld_opened X.T) (ed_var 0))) (wd_or (td_isN (ed_var 2) ed_non) (wd_or1 (td_ne hu (ed_fld (fld_kind X.T) (ed_var 2)) ed_str)))))
        (sd_one (sd_raise tk (X.pmk rfl rfl rfl)))
        sd_nil)
      (sd_one (sd_ret (ed_tup (ad_cons (ed_fld (fld_area X.T) (ed_var 2)) (ad_cons (ed_add (ed_fld (fld_path X.T) (ed_var 2)) (ed_var 4)) ad_nil))))))))))
theorem sc_Host_node_at : FnScope ["self", "area", "path", "node"] ["self", "area", "path"] (defScope s_Host_node_at) := ⟨rfl, rfl, rfl, by decide +kernel, rfl, by decide +kernel, by decide +kernel⟩
theorem ok_Host_node_at (X : Facts C mg base) : MetP P w C mg base C.CH "node_at" 4 3 (spP C 3 D_Host_node_at) := by
  obtain ⟨f, fd, Fn, hm⟩ := X.d_Host_node_at
  refine ⟨f, fd, ["self", "area", "path"], ?_, hm, Fn.binds fun _ _ _ _ _ _ us hl => match us, hl with | [_, _, _], _ => rfl, rfl⟩
  have S := sc_Host_node_at
  refine fn_pure (sv := b_Host_node_at) (N := ["self", "area", "path", "node"]) (ps := ["self", "area", "path"]) Fn S (fun cdv A outer s H E hr => ?_)
  have hx : Passes (L2.CX P w) (cxOf (L2.CX P w) P w C.K mg base ["self", "area", "path", "node"] "Host.node_at" (defScope s_Host_node_at) f cdv A outer s H E).nox E0 := passL
  have hu : Deep (cxOf (L2.CX P w) P w C.K mg base ["self", "area", "path", "node"] "Host.node_at" (defScope s_Host_node_at) f cdv A outer s H E).nox := deep_of hr
  exact (sd_cons (sd_for (i := 3) PassesOwn.never S.nd (id_N X.T (ed_var 0))
        (sd_one (sd_if (PWd.t (wd_and (td_eq hu (ed_fld (fld_area X.T) (ed_var 3)) (ed_var 1)) (wd_and1 (td_val (ed_callC hx (ok_same_path X) (hr.mono (by decide)) (ad_cons (ed_fld (fld_rule X.T) (ed_var 0)) (ad_cons (ed_fld (fld_path X.T) (ed_var 3)) (ad_cons (ed_var 2) ad_nil))))))))
        (sd_one (sd_ret (ed_var 3)))
        sd_nil)))
      (sd_one (sd_ret ed_non)))
theorem sc_thing_at : FnScope ["host", "spot", "node", "area", "path"] ["host", "spot"] (defScope s_thing_at) := ⟨rfl, rfl, rfl, by decide +kernel, rfl, by decide +kernel, by decide +kernel⟩
theorem ok_thing_at (X : Facts C mg base) : CalP P w C mg base "thing_at" 5 2 (spP C 2 D_thing_at) := by
  obtain ⟨f, fd, Fn, hm⟩ := X.d_thing_at
  refine ⟨f, fd, ["host", "spot"], ?_, hm, Fn.kp, Fn.binds fun _ _ _ _ _ _ us hl => match us, hl with | [_, _], _ => rfl, rfl⟩
  have S := sc_thing_at
  refine fn_pureX (sv := b_thing_at) (N := ["host", "spot", "node", "area", "path"]) (ps := ["host", "spot"]) Fn S (fun cdv A outer s H E hr => ?_)
  have tk : Takes (cxOf (L2.CX P w) P w C.K mg base ["host", "spot", "node", "area", "path"] "thing_at" (defScope s_thing_at) f cdv A outer s H E) (fun cls d _ H => E cls d H) := takes_of rfl rfl rfl rfl
  have hx : Passes (L2.CX P w) (cxOf (L2.CX P w) P w C.K mg base ["host", "spot", "node", "area", "path"] "thing_at" (defScope s_thing_at) f cdv A outer s H E) E := passes_call tk fun _ _ _ _ h => h
  have hu : Deep (cxOf (L2.CX P w) P w C.K mg base ["host", "spot", "node", "area", "path"] "thing_at" (defScope s_thing_at) f cdv A outer s H E).nox := deep_of hr
  exact (sd_cons (sd_set2 (i := 3) (j := 4) S.nd (ed_callC hx (ok_spot_place X) (hr.mono (by decide)) (ad_cons (ed_var 0) (ad_cons (ed_var 1) ad_nil))))
      (sd_cons (sd_set (i := 2) S.nd (ed_methC X.T hx (ok_Host_node_at X) (hr.mono (by decide)) (ed_var 0) (ad_cons (ed_var 3) (ad_cons (ed_var 4) ad_nil))))
      (sd_cons (sd_if (td_isN (ed_var 2) ed_non)
        (sd_one (sd_raise tk (X.pmk rfl rfl rfl)))
        sd_nil)
      (sd_one (sd_ret (ed_var 2))))))
theorem sc_Host_folder_path : FnScope ["self", "area", "path", "node"] ["self", "area", "path"] (defScope s_Host_folder_path) := ⟨rfl, rfl, rfl, by decide +kernel, rfl, by decide +kernel, by decide +kernel⟩
theorem ok_Host_folder_path (X : Facts C mg base) : MetP P w C mg base C.CH "folder_path" 5 3 (spP C 3 D_Host_folder_path) := by
  obtain ⟨f, fd, Fn, hm⟩ := X.d_Host_folder_path
  refine ⟨f, fd, ["self", "area", "path"], ?_, hm, Fn.binds fun _ _ _ _ _ _ us hl => match us, hl with | [_, _, _], _ => rfl, rfl⟩
  have S := sc_Host_folder_path
  refine fn_pure (sv := b_Host_folder_path) (N := ["self", "area", "path", "node"]) (ps := ["self", "area", "path"]) Fn S (fun cdv A outer s H E hr => ?_)
  have hx : Passes (L2.CX P w) (cxOf (L2.CX P w) P w C.K mg base ["self", "area", "path", "node"] "Host.folder_path" (defScope s_Host_folder_path) f cdv A outer s H E).nox E0 := passL
  have hu : Deep (cxOf (L2.CX P w) P w C.K mg base ["self", "area", "path", "node"] "Host.folder_path" (defScope s_Host_folder_path) f cdv A outer s H E).nox := deep_of hr
  exact (sd_cons (sd_if (PWd.t (wd_and (td_eq hu (ed_var 2) (ed_tup ad_nil)) (wd_and1 (td_not (td_val (ed_isInt X.T (ed_var 1)))))))
        (sd_one (sd_ret (ed_tup ad_nil)))
        sd_nil)
      (sd_cons (sd_set (i := 3) S.nd (ed_methC X.T hx (ok_Host_node_at X) (hr.mono (by decide)) (ed_var 0) (ad_cons (ed_var 1) (ad_cons (ed_var 2) ad_nil))))
      (sd_cons (sd_if (PWd.t (wd_or (td_isN (ed_var 3) ed_non) (wd_or1 (td_ne hu (ed_fld (fld_kind X.T) (ed_var 3)) ed_str))))
        (sd_one (sd_ret ed_non))
        sd_nil)
      (sd_one (sd_ret (ed_fld (fld_path X.T) (ed_var 3)))))))
theorem sc_Host_free_path : FnScope ["self", "area", "path", "above"] ["self", "area", "path"] (defScope s_Host_free_path) := ⟨rfl, rfl, rfl, by decide +kernel, rfl, by decide +kernel, by decide +kernel⟩
theorem ok_Host_free_path (X : Facts C mg base) : MetP P w C mg base C.CH "free_path" 6 3 (spP C 3 D_Host_free_path) := by
  obtain ⟨f, fd, Fn, hm⟩ := X.d_Host_free_path
  refine ⟨f, fd, ["self", "area", "path"], ?_, hm, Fn.binds fun _ _ _ _ _ _ us hl => match us, hl with | [_, _, _], _ => rfl, rfl⟩
  have S := sc_Host_free_path
  refine fn_pure (sv := b_Host_free_path) (N := ["self", "area", "path", "above"]) (ps := ["self", "area", "path"]) Fn S (fun cdv A outer s H E hr => ?_)
  have hx : Passes (L2.CX P w) (cxOf (L2.CX P w) P w C.K mg base ["self", "area", "path", "above"] "Host.free_path" (defScope s_Host_free_path) f cdv A outer s H E).nox E0 := passL
  have hu : Deep (cxOf (L2.CX P w) P w C.K mg base ["self", "area", "path", "above"] "Host.free_path" (defScope s_Host_free_path) f cdv A outer s H E).nox := deep_of hr
  exact (sd_cons (sd_if (PWd.t (wd_or (td_eq hu (ed_var 2) (ed_tup ad_nil)) (wd_or (td_notN (ed_methC X.T hx (ok_Host_node_at X) (hr.mono (by decide)) (ed_var 0) (ad_cons (ed_var 1) (ad_cons (ed_var 2) ad_nil))) ed_non) (wd_or1 (td_not (td_val (ed_callC hx (ok_fits X) (hr.mono (by decide)) (ad_cons (ed_fld (fld_rule X.T) (ed_var 0)) (ad_cons (ed_ix (ed_var 2) (ed_neg ed_int)) ad_nil)))))))))
        (sd_one (sd_ret ed_non))
        sd_nil)
      (sd_cons (sd_set (i := 3) S.nd (ed_methC X.T hx (ok_Host_folder_path X) (hr.mono (by decide)) (ed_var 0) (ad_cons (ed_var 1) (ad_cons (ed_sl (ed_var 2) od_none (od_some (ed_neg ed_int))) ad_nil))))
      (sd_cons (sd_if (td_isN (ed_var 3) ed_non)
        (sd_one (sd_ret ed_non))
        sd_nil)
      (sd_one (sd_ret (ed_add (ed_var 3) (ed_tup (ad_cons (ed_ix (ed_var 2) (ed_neg ed_int)) ad_nil))))))))
theorem sc_room_at : FnScope ["host", "spot", "free", "area", "path"] ["host", "spot"] (defScope s_room_at) := ⟨rfl, rfl, rfl, by decide +kernel, rfl, by decide +kernel, by decide +kernel⟩
theorem ok_room_at (X : Facts C mg base) : CalP P w C mg base "room_at" 7 2 (spP C 2 D_room_at) := by
  obtain ⟨f, fd, Fn, hm⟩ := X.d_room_at
  refine ⟨f, fd, ["host", "spot"], ?_, hm, Fn.kp, Fn.binds fun _ _ _ _ _ _ us hl => match us, hl with | [_, _], _ => rfl, rfl⟩
  have S := sc_room_at
  refine fn_pureX (sv := b_room_at) (N := ["host", "spot", "free", "area", "path"]) (ps := ["host", "spot"]) Fn S (fun cdv A outer s H E hr => ?_)
  have tk : Takes (cxOf (L2.CX P w) P w C.K mg base ["host", "spot", "free", "area", "path"] "room_at" (defScope s_room_at) f cdv A outer s H E) (fun cls d _ H => E cls d H) := takes_of rfl rfl rfl rfl
  have hx : Passes (L2.CX P w) (cxOf (L2.CX P w) P w C.K mg base ["host", "spot", "free", "area", "path"] "room_at" (defScope s_room_at) f cdv A outer s H E) E := passes_call tk fun _ _ _ _ h => h
  have hu : Deep (cxOf (L2.CX P w) P w C.K mg base ["host", "spot", "free", "area", "path"] "room_at" (defScope s_room_at) f cdv A outer s H E).nox := deep_of hr
  exact (sd_cons (sd_set2 (i := 3) (j := 4) S.nd (ed_callC hx (ok_spot_place X) (hr.mono (by decide)) (ad_cons (ed_var 0) (ad_cons (ed_var 1) ad_nil))))
      (sd_cons (sd_set (i := 2) S.nd (ed_methC X.T hx (ok_Host_free_path X) (hr.mono (by decide)) (ed_var 0) (ad_cons (ed_var 3) (ad_cons (ed_var 4) ad_nil))))
      (sd_cons (sd_if (td_isN (ed_var 2) ed_non)
        (sd_one (sd_raise tk (X.pmk rfl rfl rfl)))
        sd_nil)
      (sd_one (sd_ret (ed_tup (ad_cons (ed_var 3) (ad_cons (ed_var 2) ad_nil))))))))
theorem sc_file_named : FnScope ["host", "target", "node"] ["host", "target"] (defScope s_file_named) := ⟨rfl, rfl, rfl, by decide +kernel, rfl, by decide +kernel, by decide +kernel⟩
theorem ok_file_named (X : Facts C mg base) : CalP P w C mg base "file_named" 6 2 (spP C 2 D_file_named) := by
  obtain ⟨f, fd, Fn, hm⟩ := X.d_file_named
  refine ⟨f, fd, ["host", "target"], ?_, hm, Fn.kp, Fn.binds fun _ _ _ _ _ _ us hl => match us, hl with | [_, _], _ => rfl, rfl⟩
  have S := sc_file_named
  refine fn_pureX (sv := b_file_named) (N := ["host", "target", "node"]) (ps := ["host", "target"]) Fn S (fun cdv A outer s H E hr => ?_)
  have tk : Takes (cxOf (L2.CX P w) P w C.K mg base ["host", "target", "node"] "file_named" (defScope s_file_named) f cdv A outer s H E) (fun cls d _ H => E cls d H) := takes_of rfl rfl rfl rfl
  have hx : Passes (L2.CX P w) (cxOf (L2.CX P w) P w C.K mg base ["host", "target", "node"] "file_named" (defScope s_file_named) f cdv A outer s H E) E := passes_call tk fun _ _ _ _ h => h
  have hu : Deep (cxOf (L2.CX P w) P w C.K mg base ["host", "target", "node"] "file_named" (defScope s_file_named) f cdv A outer s H E).nox := deep_of hr
  exact (sd_cons (sd_if (td_val (ed_isInt X.T (ed_var 1)))
        (sd_cons (sd_set (i := 2) S.nd (ed_methC X.T hx (ok_Host_node_of X) (hr.mono (by decide)) (ed_var 0) (ad_cons (ed_var 1) ad_nil)))
      (sd_one (sd_if (td_ninL hu (ed_var 1) (ed_fld (fld_opened X.T) (ed_var 0)))
        (sd_one (sd_set (i := 2) S.nd ed_non))
        sd_nil)))
        (sd_one (sd_set (i := 2) S.nd (ed_callC hx (ok_thing_at X) (hr.mono (by decide)) (ad_cons (ed_var 0) (ad_cons (ed_var 1) ad_nil))))))
      (sd_cons (sd_if (PWd.t (wd_or (td_isN (ed_var 2) ed_non) (wd_or1 (td_ne hu (ed_fld (fld_kind X.T) (ed_var 2)) ed_str))))
        (sd_one (sd_raise tk (X.pmk rfl rfl rfl)))
        sd_nil)
      (sd_one (sd_ret (ed_var 2)))))
theorem sc_make : FnScope ["host", "spot", "text", "runs", "node", "area", "path"] ["host", "spot", "text", "runs"] (defScope s_make) := ⟨rfl, rfl, rfl, by decide +kernel, rfl, by decide +kernel, by decide +kernel⟩
theorem ok_make (X : Facts C mg base) : CalP P w C mg base "make" 8 4 (spE C 4 D_make) := by
  obtain ⟨f, fd, Fn, hm⟩ := X.d_make
  refine ⟨f, fd, ["host", "spot", "text", "runs"], ?_, hm, Fn.kp, Fn.binds fun _ _ _ _ _ _ us hl => match us, hl with | [_, _, _, _], _ => rfl, rfl⟩
  have S := sc_make
  refine fn_effX (sv := b_make) (N := ["host", "spot", "text", "runs", "node", "area", "path"]) (ps := ["host", "spot", "text", "runs"]) Fn S (fun cdv A outer s H E hr => ?_)
  have tk : Takes (cxOf (L2.CX P w) P w C.K mg base ["host", "spot", "text", "runs", "node", "area", "path"] "make" (defScope s_make) f cdv A outer s H E) (fun cls d _ H => E cls d H) := takes_of rfl rfl rfl rfl
  have hx : Passes (L2.CX P w) (cxOf (L2.CX P w) P w C.K mg base ["host", "spot", "text", "runs", "node", "area", "path"] "make" (defScope s_make) f cdv A outer s H E) E := passes_call tk fun _ _ _ _ h => h
  have hu : Deep (cxOf (L2.CX P w) P w C.K mg base ["host", "spot", "text", "runs", "node", "area", "path"] "make" (defScope s_make) f cdv A outer s H E).nox := deep_of hr
  exact (se_cons (se_lift (sd_set2 (i := 5) (j := 6) S.nd (ed_callC hx (ok_room_at X) (hr.mono (by decide)) (ad_cons (ed_var 0) (ad_cons (ed_var 1) ad_nil)))))
      (se_cons (se_set (i := 4) S.nd (ee_methC X.T hx (ok_Host_put_new X) (hr.mono (by decide)) (ed_var 0) (ad_cons (ed_var 5) (ad_cons (ed_var 6) (ad_cons ed_str (ad_cons (ed_var 2) ad_nil))))))
      (se_one (se_stN X.T put_runs (ed_var 4) (ed_var 3)))))
theorem sc_make_kind : FnScope ["host", "spot", "kind", "area", "path"] ["host", "spot", "kind"] (defScope s_make_kind) := ⟨rfl, rfl, rfl, by decide +kernel, rfl, by decide +kernel, by decide +kernel⟩
theorem ok_make_kind (X : Facts C mg base) : CalP P w C mg base "make_kind" 8 3 (spE C 3 D_make_kind) := by
  obtain ⟨f, fd, Fn, hm⟩ := X.d_make_kind
  refine ⟨f, fd, ["host", "spot", "kind"], ?_, hm, Fn.kp, Fn.binds fun _ _ _ _ _ _ us hl => match us, hl with | [_, _, _], _ => rfl, rfl⟩
  have S := sc_make_kind
  refine fn_effX (sv := b_make_kind) (N := ["host", "spot", "kind", "area", "path"]) (ps := ["host", "spot", "kind"]) Fn S (fun cdv A outer s H E hr => ?_)
  have tk : Takes (cxOf (L2.CX P w) P w C.K mg base ["host", "spot", "kind", "area", "path"] "make_kind" (defScope s_make_kind) f cdv A outer s H E) (fun cls d _ H => E cls d H) := takes_of rfl rfl rfl rfl
  have hx : Passes (L2.CX P w) (cxOf (L2.CX P w) P w C.K mg base ["host", "spot", "kind", "area", "path"] "make_kind" (defScope s_make_kind) f cdv A outer s H E) E := passes_call tk fun _ _ _ _ h => h
  have hu : Deep (cxOf (L2.CX P w) P w C.K mg base ["host", "spot", "kind", "area", "path"] "make_kind" (defScope s_make_kind) f cdv A outer s H E).nox := deep_of hr
  exact (se_cons (se_lift (sd_set2 (i := 3) (j := 4) S.nd (ed_callC hx (ok_room_at X) (hr.mono (by decide)) (ad_cons (ed_var 0) (ad_cons (ed_var 1) ad_nil)))))
      (se_one (se_drop (ee_methC X.T hx (ok_Host_put_new X) (hr.mono (by decide)) (ed_var 0) (ad_cons (ed_var 3) (ad_cons (ed_var 4) (ad_cons (ed_var 2) (ad_cons ed_str ad_nil))))))))
theorem sc_remove : FnScope ["host", "spot", "node"] ["host", "spot"] (defScope s_remove) := ⟨rfl, rfl, rfl, by decide +kernel, rfl, by decide +kernel, by decide +kernel⟩
theorem ok_remove (X : Facts C mg base) : CalP P w C mg base "remove" 6 2 (spE C 2 D_remove) := by
  obtain ⟨f, fd, Fn, hm⟩ := X.d_remove
  refine ⟨f, fd, ["host", "spot"], ?_, hm, Fn.kp, Fn.binds fun _ _ _ _ _ _ us hl => match us, hl with | [_, _], _ => rfl, rfl⟩
  have S := sc_remove
  refine fn_effX (sv := b_remove) (N := ["host", "spot", "node"]) (ps := ["host", "spot"]) Fn S (fun cdv A outer s H E hr => ?_)
  have tk : Takes (cxOf (L2.CX P w) P w C.K mg base ["host", "spot", "node"] "remove" (defScope s_remove) f cdv A outer s H E) (fun cls d _ H => E cls d H) := takes_of rfl rfl rfl rfl
  have hx : Passes (L2.CX P w) (cxOf (L2.CX P w) P w C.K mg base ["host", "spot", "node"] "remove" (defScope s_remove) f cdv A outer s H E) E := passes_call tk fun _ _ _ _ h => h
  have hu : Deep (cxOf (L2.CX P w) P w C.K mg base ["host", "spot", "node"] "remove" (defScope s_remove) f cdv A outer s H E).nox := deep_of hr
  exact (se_cons (se_lift (sd_set (i := 2) S.nd (ed_callC hx (ok_thing_at X) (hr.mono (by decide)) (ad_cons (ed_var 0) (ad_cons (ed_var 1) ad_nil)))))
      (se_cons (se_lift (sd_if (td_eq hu (ed_fld (fld_kind X.T) (ed_var 2)) ed_str)
        (sd_one (sd_raise tk (X.pmk rfl rfl rfl)))
        sd_nil))
      (se_one (se_drop (ee_methC X.T hx (ok_Host_take_away X) (hr.mono (by decide)) (ed_var 0) (ad_cons (ed_var 2) ad_nil))))))
theorem sc_Host_holds_something : FnScope ["self", "node", "other"] ["self", "node"] (defScope s_Host_holds_something) := ⟨rfl, rfl, rfl, by decide +kernel, rfl, by decide +kernel, by decide +kernel⟩
theorem ok_Host_holds_something (X : Facts C mg base) : MetP P w C mg base C.CH "holds_something" 2 2 (spP C 2 D_Host_holds_something) := by
  obtain ⟨f, fd, Fn, hm⟩ := X.d_Host_holds_something
  refine ⟨f, fd, ["self", "node"], ?_, hm, Fn.binds fun _ _ _ _ _ _ us hl => match us, hl with | [_, _], _ => rfl, rfl⟩
  have S := sc_Host_holds_something
  refine fn_pure (sv := b_Host_holds_something) (N := ["self", "node", "other"]) (ps := ["self", "node"]) Fn S (fun cdv A outer s H E hr => ?_)
  have hx : Passes (L2.CX P w) (cxOf (L2.CX P w) P w C.K mg base ["self", "node", "other"] "Host.holds_something" (defScope s_Host_holds_something) f cdv A outer s H E).nox E0 := passL
  have hu : Deep (cxOf (L2.CX P w) P w C.K mg base ["self", "node", "other"] "Host.holds_something" (defScope s_Host_holds_something) f cdv A outer s H E).nox := deep_of hr
  exact (sd_cons (sd_for (i := 2) PassesOwn.never S.nd (id_N X.T (ed_var 0))
        (sd_one (sd_if (PWd.t (wd_and (td_val (ed_callC hx (ok_within X) (hr.mono (by decide)) (ad_cons (ed_var 2) (ad_cons (ed_fld (fld_area X.T) (ed_var 1)) (ad_cons (ed_fld (fld_path X.T) (ed_var 1)) ad_nil))))) (wd_and1 (td_gt (ed_len X.T (ad_cons (ed_fld (fld_path X.T) (ed_var 2)) ad_nil)) (ed_len X.T (ad_cons (ed_fld (fld_path X.T) (ed_var 1)) ad_nil))))))
        (sd_one (sd_ret ed_bl))
        sd_nil)))
      (sd_one (sd_ret ed_bl)))
end
end FK
set_option Elab.async false
set_option linter.all false
set_option maxRecDepth 100000
set_option maxHeartbeats 4000000
/-! The walks of the defs, printed by gen.py. -/
namespace FK
open PySem PySem.Spec PyProof.Rows L2
section
variable {C : Cs} {P : Program} {w : World} {mg : Str → Option Value} {base : Heap}
theorem sc_remove_folder_programs : FnScope ["host", "spot", "node"] ["host", "spot"] (defScope s_remove_folder_programs) := ⟨rfl, rfl, rfl, by decide +kernel, rfl, by decide +kernel, by decide +kernel⟩
theorem ok_remove_folder_programs (X : Facts C mg base) : CalP P w C mg base "remove_folder_programs" 6 2 (spE C 2 D_remove_folder_programs) := by
  obtain ⟨f, fd, Fn, hm⟩ := X.d_remove_folder_programs
  refine ⟨f, fd, ["host", "spot"], ?_, hm, Fn.kp, Fn.binds fun _ _ _ _ _ _ us hl => match us, hl with | [_, _], _ => rfl, rfl⟩
  have S := sc_remove_folder_programs
  refine fn_effX (sv := b_remove_folder_programs) (N := ["host", "spot", "node"]) (ps := ["host", "spot"]) Fn S (fun cdv A outer s H E hr => ?_)
  have tk : Takes (cxOf (L2.CX P w) P w C.K mg base ["host", "spot", "node"] "remove_folder" (defScope s_remove_folder_programs) f cdv A outer s H E) (fun cls d _ H => E cls d H) := takes_of rfl rfl rfl rfl
  have hx : Passes (L2.CX P w) (cxOf (L2.CX P w) P w C.K mg base ["host", "spot", "node"] "remove_folder" (defScope s_remove_folder_programs) f cdv A outer s H E) E := passes_call tk fun _ _ _ _ h => h
  have hu : Deep (cxOf (L2.CX P w) P w C.K mg base ["host", "spot", "node"] "remove_folder" (defScope s_remove_folder_programs) f cdv A outer s H E).nox := deep_of hr
  exact (se_cons (se_lift (sd_set (i := 2) S.nd (ed_callC hx (ok_thing_at X) (hr.mono (by decide)) (ad_cons (ed_var 0) (ad_cons (ed_var 1) ad_nil)))))
      (se_cons (se_lift (sd_if (PWd.t (wd_or (td_ne hu (ed_fld (fld_kind X.T) (ed_var 2)) ed_str) (wd_or1 (td_val (ed_methC X.T hx (ok_Host_holds_something X) (hr.mono (by decide)) (ed_var 0) (ad_cons (ed_var 2) ad_nil))))))
        (sd_one (sd_raise tk (X.pmk rfl rfl rfl)))
        sd_nil))
      (se_one (se_drop (ee_methC X.T hx (ok_Host_take_away X) (hr.mono (by decide)) (ed_var 0) (ad_cons (ed_var 2) ad_nil))))))
theorem sc_Host_carry : FnScope ["self", "node", "area", "path", "old_area", "above", "other"] ["self", "node", "area", "path"] (defScope s_Host_carry) := ⟨rfl, rfl, rfl, by decide +kernel, rfl, by decide +kernel, by decide +kernel⟩
theorem ok_Host_carry (X : Facts C mg base) : MetP P w C mg base C.CH "carry" 2 4 (spE C 4 D_Host_carry) := by
  obtain ⟨f, fd, Fn, hm⟩ := X.d_Host_carry
  refine ⟨f, fd, ["self", "node", "area", "path"], ?_, hm, Fn.binds fun _ _ _ _ _ _ us hl => match us, hl with | [_, _, _, _], _ => rfl, rfl⟩
  have S := sc_Host_carry
  refine fn_eff (sv := b_Host_carry) (N := ["self", "node", "area", "path", "old_area", "above", "other"]) (ps := ["self", "node", "area", "path"]) Fn S (fun cdv A outer s H E hr => ?_)
  have hx : Passes (L2.CX P w) (cxOf (L2.CX P w) P w C.K mg base ["self", "node", "area", "path", "old_area", "above", "other"] "Host.carry" (defScope s_Host_carry) f cdv A outer s H E).nox E0 := passL
  have hu : Deep (cxOf (L2.CX P w) P w C.K mg base ["self", "node", "area", "path", "old_area", "above", "other"] "Host.carry" (defScope s_Host_carry) f cdv A outer s H E).nox := deep_of hr
  exact (se_cons (se_lift (sd_set (i := 4) S.nd (ed_fld (fld_area X.T) (ed_var 1))))
      (se_cons (se_lift (sd_set (i := 5) S.nd (ed_fld (fld_path X.T) (ed_var 1))))
      (se_cons (se_for (i := 6) X.T PassesOwn.never S.nd (ed_var 0)
        (se_one (se_if (td_val (ed_callC hx (ok_within X) (hr.mono (by decide)) (ad_cons (ed_var 6) (ad_cons (ed_var 4) (ad_cons (ed_var 5) ad_nil)))))
        (se_one (se_drop (ee_callC hx (ok_moved X) (hr.mono (by decide)) (ad_cons (ed_var 6) (ad_cons (ed_var 5) (ad_cons (ed_var 2) (ad_cons (ed_var 3) ad_nil)))))))
        se_nil)))
      (se_one (se_turned X.T (ed_var 0) (ed_add (ed_fld (fld_turned X.T) (ed_var 0)) ed_int))))))
theorem sc_Host_can_have : FnScope ["self", "name"] ["self", "name"] (defScope s_Host_can_have) := ⟨rfl, rfl, rfl, by decide +kernel, rfl, by decide +kernel, by decide +kernel⟩
theorem ok_Host_can_have (X : Facts C mg base) : MetP P w C mg base C.CH "can_have" 5 2 (spP C 2 D_Host_can_have) := by
  obtain ⟨f, fd, Fn, hm⟩ := X.d_Host_can_have
  refine ⟨f, fd, ["self", "name"], ?_, hm, Fn.binds fun _ _ _ _ _ _ us hl => match us, hl with | [_, _], _ => rfl, rfl⟩
  have S := sc_Host_can_have
  refine fn_pure (sv := b_Host_can_have) (N := ["self", "name"]) (ps := ["self", "name"]) Fn S (fun cdv A outer s H E hr => ?_)
  have hx : Passes (L2.CX P w) (cxOf (L2.CX P w) P w C.K mg base ["self", "name"] "Host.can_have" (defScope s_Host_can_have) f cdv A outer s H E).nox E0 := passL
  have hu : Deep (cxOf (L2.CX P w) P w C.K mg base ["self", "name"] "Host.can_have" (defScope s_Host_can_have) f cdv A outer s H E).nox := deep_of hr
  exact (sd_one (sd_ret (ed_callC hx (ok_fits X) (hr.mono (by decide)) (ad_cons (ed_fld (fld_rule X.T) (ed_var 0)) (ad_cons (ed_var 1) ad_nil)))))
theorem sc_spelled : FnScope ["host", "node", "path"] ["host", "node", "path"] (defScope s_spelled) := ⟨rfl, rfl, rfl, by decide +kernel, rfl, by decide +kernel, by decide +kernel⟩
theorem ok_spelled (X : Facts C mg base) : CalP P w C mg base "spelled" 6 3 (spP C 3 D_spelled) := by
  obtain ⟨f, fd, Fn, hm⟩ := X.d_spelled
  refine ⟨f, fd, ["host", "node", "path"], ?_, hm, Fn.kp, Fn.binds fun _ _ _ _ _ _ us hl => match us, hl with | [_, _, _], _ => rfl, rfl⟩
  have S := sc_spelled
  refine fn_pureX (sv := b_spelled) (N := ["host", "node", "path"]) (ps := ["host", "node", "path"]) Fn S (fun cdv A outer s H E hr => ?_)
  have tk : Takes (cxOf (L2.CX P w) P w C.K mg base ["host", "node", "path"] "spelled" (defScope s_spelled) f cdv A outer s H E) (fun cls d _ H => E cls d H) := takes_of rfl rfl rfl rfl
  have hx : Passes (L2.CX P w) (cxOf (L2.CX P w) P w C.K mg base ["host", "node", "path"] "spelled" (defScope s_spelled) f cdv A outer s H E) E := passes_call tk fun _ _ _ _ h => h
  have hu : Deep (cxOf (L2.CX P w) P w C.K mg base ["host", "node", "path"] "spelled" (defScope s_spelled) f cdv A outer s H E).nox := deep_of hr
  exact (sd_cons (sd_if (td_not (td_val (ed_methC X.T hx (ok_Host_can_have X) (hr.mono (by decide)) (ed_var 0) (ad_cons (ed_ix (ed_var 2) (ed_neg ed_int)) ad_nil))))
        (sd_one (sd_raise tk (X.pmk rfl rfl rfl)))
        sd_nil)
      (sd_one (sd_ret (ed_add (ed_sl (ed_fld (fld_path X.T) (ed_var 1)) od_none (od_some (ed_neg ed_int))) (ed_tup (ad_cons (ed_ix (ed_var 2) (ed_neg ed_int)) ad_nil))))))
theorem sc_rename : FnScope ["host", "spot", "goal", "node", "other", "area", "path", "free"] ["host", "spot", "goal"] (defScope s_rename) := ⟨rfl, rfl, rfl, by decide +kernel, rfl, by decide +kernel, by decide +kernel⟩
theorem ok_rename (X : Facts C mg base) : CalP P w C mg base "rename" 8 3 (spE C 3 D_rename) := by
  obtain ⟨f, fd, Fn, hm⟩ := X.d_rename
  refine ⟨f, fd, ["host", "spot", "goal"], ?_, hm, Fn.kp, Fn.binds fun _ _ _ _ _ _ us hl => match us, hl with | [_, _, _], _ => rfl, rfl⟩
  have S := sc_rename
  refine fn_effX (sv := b_rename) (N := ["host", "spot", "goal", "node", "other", "area", "path", "free"]) (ps := ["host", "spot", "goal"]) Fn S (fun cdv A outer s H E hr => ?_)
  have tk : Takes (cxOf (L2.CX P w) P w C.K mg base ["host", "spot", "goal", "node", "other", "area", "path", "free"] "rename" (defScope s_rename) f cdv A outer s H E) (fun cls d _ H => E cls d H) := takes_of rfl rfl rfl rfl
  have hx : Passes (L2.CX P w) (cxOf (L2.CX P w) P w C.K mg base ["host", "spot", "goal", "node", "other", "area", "path", "free"] "rename" (defScope s_rename) f cdv A outer s H E) E := passes_call tk fun _ _ _ _ h => h
  have hu : Deep (cxOf (L2.CX P w) P w C.K mg base ["host", "spot", "goal", "node", "other", "area", "path", "free"] "rename" (defScope s_rename) f cdv A outer s H E).nox := deep_of hr
  exact (se_cons (se_lift (sd_set (i := 3) S.nd (ed_callC hx (ok_thing_at X) (hr.mono (by decide)) (ad_cons (ed_var 0) (ad_cons (ed_var 1) ad_nil)))))
      (se_cons (se_lift (sd_set2 (i := 5) (j := 6) S.nd (ed_callC hx (ok_spot_place X) (hr.mono (by decide)) (ad_cons (ed_var 0) (ad_cons (ed_var 2) ad_nil)))))
      (se_cons (se_lift (sd_set (i := 4) S.nd (ed_methC X.T hx (ok_Host_node_at X) (hr.mono (by decide)) (ed_var 0) (ad_cons (ed_var 5) (ad_cons (ed_var 6) ad_nil)))))
      (se_one (se_if (td_isN (ed_var 4) ed_non)
        (se_cons (se_lift (sd_set2 (i := 5) (j := 7) S.nd (ed_callC hx (ok_room_at X) (hr.mono (by decide)) (ad_cons (ed_var 0) (ad_cons (ed_var 2) ad_nil)))))
      (se_cons (se_lift (sd_if (PWd.t (wd_and (td_eq hu (ed_var 5) (ed_fld (fld_area X.T) (ed_var 3))) (wd_and1 (td_eq hu (ed_sl (ed_var 7) od_none (od_some (ed_len X.T (ad_cons (ed_fld (fld_path X.T) (ed_var 3)) ad_nil)))) (ed_fld (fld_path X.T) (ed_var 3))))))
        (sd_one (sd_raise tk (X.pmk rfl rfl rfl)))
        sd_nil))
      (se_one (se_drop (ee_methC X.T hx (ok_Host_carry X) (hr.mono (by decide)) (ed_var 0) (ad_cons (ed_var 3) (ad_cons (ed_var 5) (ad_cons (ed_var 7) ad_nil))))))))
        (se_one (se_if (td_eq hu (ed_fld (fld_thing X.T) (ed_var 4)) (ed_fld (fld_thing X.T) (ed_var 3)))
        (se_cons (se_lift (sd_set (i := 7) S.nd (ed_callC hx (ok_spelled X) (hr.mono (by decide)) (ad_cons (ed_var 0) (ad_cons (ed_var 3) (ad_cons (ed_var 6) ad_nil))))))
      (se_one (se_drop (ee_methC X.T hx (ok_Host_carry X) (hr.mono (by decide)) (ed_var 0) (ad_cons (ed_var 3) (ad_cons (ed_var 5) (ad_cons (ed_var 7) ad_nil)))))))
        (se_cons (se_lift (sd_if (PWd.t (wd_or (td_eq hu (ed_fld (fld_kind X.T) (ed_var 3)) ed_str) (wd_or1 (td_eq hu (ed_fld (fld_kind X.T) (ed_var 4)) ed_str))))
        (sd_one (sd_raise tk (X.pmk rfl rfl rfl)))
        sd_nil))
      (se_cons (se_lift (sd_set (i := 7) S.nd (ed_fld (fld_path X.T) (ed_var 4))))
      (se_cons (se_drop (ee_methC X.T hx (ok_Host_take_away X) (hr.mono (by decide)) (ed_var 0) (ad_cons (ed_var 4) ad_nil)))
      (se_one (se_drop (ee_methC X.T hx (ok_Host_carry X) (hr.mono (by decide)) (ed_var 0) (ad_cons (ed_var 3) (ad_cons (ed_var 5) (ad_cons (ed_var 7) ad_nil))))))))))))))))
theorem sc_write : FnScope ["host", "target", "at", "text", "node"] ["host", "target", "at", "text"] (defScope s_write) := ⟨rfl, rfl, rfl, by decide +kernel, rfl, by decide +kernel, by decide +kernel⟩
theorem ok_write (X : Facts C mg base) : CalP P w C mg base "write" 7 4 (spE C 4 D_write) := by
  obtain ⟨f, fd, Fn, hm⟩ := X.d_write
  refine ⟨f, fd, ["host", "target", "at", "text"], ?_, hm, Fn.kp, Fn.binds fun _ _ _ _ _ _ us hl => match us, hl with | [_, _, _, _], _ => rfl, rfl⟩
  have S := sc_write
  refine fn_effX (sv := b_write) (N := ["host", "target", "at", "text", "node"]) (ps := ["host", "target", "at", "text"]) Fn S (fun cdv A outer s H E hr => ?_)
  have tk : Takes (cxOf (L2.CX P w) P w C.K mg base ["host", "target", "at", "text", "node"] "write" (defScope s_write) f cdv A outer s H E) (fun cls d _ H => E cls d H) := takes_of rfl rfl rfl rfl
  have hx : Passes (L2.CX P w) (cxOf (L2.CX P w) P w C.K mg base ["host", "target", "at", "text", "node"] "write" (defScope s_write) f cdv A outer s H E) E := passes_call tk fun _ _ _ _ h => h
  have hu : Deep (cxOf (L2.CX P w) P w C.K mg base ["host", "target", "at", "text", "node"] "write" (defScope s_write) f cdv A outer s H E).nox := deep_of hr
  exact (se_cons (se_lift (sd_set (i := 4) S.nd (ed_callC hx (ok_file_named X) (hr.mono (by decide)) (ad_cons (ed_var 0) (ad_cons (ed_var 1) ad_nil)))))
      (se_cons (se_lift (sd_if (td_gt (ed_var 2) (ed_len X.T (ad_cons (ed_fld (fld_text X.T) (ed_var 4)) ad_nil)))
        (sd_one (sd_raise tk (X.pmk rfl rfl rfl)))
        sd_nil))
      (se_one (se_drop (ee_callC hx (ok_written X) (hr.mono (by decide)) (ad_cons (ed_var 4) (ad_cons (ed_add (ed_add (ed_sl (ed_fld (fld_text X.T) (ed_var 4)) od_none (od_some (ed_var 2))) (ed_var 3)) (ed_sl (ed_fld (fld_text X.T) (ed_var 4)) (od_some (ed_add (ed_var 2) (ed_len X.T (ad_cons (ed_var 3) ad_nil)))) od_none)) (ad_cons (ed_fld (fld_runs X.T) (ed_var 4)) ad_nil))))))))
theorem sc_cut : FnScope ["host", "target", "node"] ["host", "target"] (defScope s_cut) := ⟨rfl, rfl, rfl, by decide +kernel, rfl, by decide +kernel, by decide +kernel⟩
theorem ok_cut (X : Facts C mg base) : CalP P w C mg base "cut" 7 2 (spE C 2 D_cut) := by
  obtain ⟨f, fd, Fn, hm⟩ := X.d_cut
  refine ⟨f, fd, ["host", "target"], ?_, hm, Fn.kp, Fn.binds fun _ _ _ _ _ _ us hl => match us, hl with | [_, _], _ => rfl, rfl⟩
  have S := sc_cut
  refine fn_effX (sv := b_cut) (N := ["host", "target", "node"]) (ps := ["host", "target"]) Fn S (fun cdv A outer s H E hr => ?_)
  have tk : Takes (cxOf (L2.CX P w) P w C.K mg base ["host", "target", "node"] "cut" (defScope s_cut) f cdv A outer s H E) (fun cls d _ H => E cls d H) := takes_of rfl rfl rfl rfl
  have hx : Passes (L2.CX P w) (cxOf (L2.CX P w) P w C.K mg base ["host", "target", "node"] "cut" (defScope s_cut) f cdv A outer s H E) E := passes_call tk fun _ _ _ _ h => h
  have hu : Deep (cxOf (L2.CX P w) P w C.K mg base ["host", "target", "node"] "cut" (defScope s_cut) f cdv A outer s H E).nox := deep_of hr
  exact (se_cons (se_lift (sd_set (i := 2) S.nd (ed_callC hx (ok_file_named X) (hr.mono (by decide)) (ad_cons (ed_var 0) (ad_cons (ed_var 1) ad_nil)))))
      (se_cons (se_drop (ee_callC hx (ok_written X) (hr.mono (by decide)) (ad_cons (ed_var 2) (ad_cons ed_str (ad_cons (ed_fld (fld_runs X.T) (ed_var 2)) ad_nil)))))
      (se_one (se_stN X.T put_cuts (ed_var 2) (ed_add (ed_fld (fld_cuts X.T) (ed_var 2)) ed_int)))))
theorem sc_close : FnScope ["host", "thing"] ["host", "thing"] (defScope s_close) := ⟨rfl, rfl, rfl, by decide +kernel, rfl, by decide +kernel, by decide +kernel⟩
theorem ok_close (X : Facts C mg base) : CalP P w C mg base "close" 1 2 (spE C 2 D_close) := by
  obtain ⟨f, fd, Fn, hm⟩ := X.d_close
  refine ⟨f, fd, ["host", "thing"], ?_, hm, Fn.kp, Fn.binds fun _ _ _ _ _ _ us hl => match us, hl with | [_, _], _ => rfl, rfl⟩
  have S := sc_close
  refine fn_effX (sv := b_close) (N := ["host", "thing"]) (ps := ["host", "thing"]) Fn S (fun cdv A outer s H E hr => ?_)
  have tk : Takes (cxOf (L2.CX P w) P w C.K mg base ["host", "thing"] "close" (defScope s_close) f cdv A outer s H E) (fun cls d _ H => E cls d H) := takes_of rfl rfl rfl rfl
  have hx : Passes (L2.CX P w) (cxOf (L2.CX P w) P w C.K mg base ["host", "thing"] "close" (defScope s_close) f cdv A outer s H E) E := passes_call tk fun _ _ _ _ h => h
  have hu : Deep (cxOf (L2.CX P w) P w C.K mg base ["host", "thing"] "close" (defScope s_close) f cdv A outer s H E).nox := deep_of hr
  exact (se_cons (se_lift (sd_if (td_ninL hu (ed_var 1) (ed_fld (fld_opened X.T) (ed_var 0)))
        (sd_one (sd_raise tk (X.pmk rfl rfl rfl)))
        sd_nil))
      (se_one (se_remove (ed_fld (fld_opened X.T) (ed_var 0)) (ed_var 1))))
theorem sc_doing_in_files : FnScope ["host", "deed", "word", "node"] ["host", "deed"] (defScope s_doing_in_files) := ⟨rfl, rfl, rfl, by decide +kernel, rfl, by decide +kernel, by decide +kernel⟩
theorem ok_doing_in_files (X : Facts C mg base) : CalP P w C mg base "doing_in_files" 8 2 (spE C 2 D_doing_in_files) := by
  obtain ⟨f, fd, Fn, hm⟩ := X.d_doing_in_files
  refine ⟨f, fd, ["host", "deed"], ?_, hm, Fn.kp, Fn.binds fun _ _ _ _ _ _ us hl => match us, hl with | [_, _], _ => rfl, rfl⟩
  have S := sc_doing_in_files
  refine fn_effX (sv := b_doing_in_files) (N := ["host", "deed", "word", "node"]) (ps := ["host", "deed"]) Fn S (fun cdv A outer s H E hr => ?_)
  have tk : Takes (cxOf (L2.CX P w) P w C.K mg base ["host", "deed", "word", "node"] "doing_in_files" (defScope s_doing_in_files) f cdv A outer s H E) (fun cls d _ H => E cls d H) := takes_of rfl rfl rfl rfl
  have hx : Passes (L2.CX P w) (cxOf (L2.CX P w) P w C.K mg base ["host", "deed", "word", "node"] "doing_in_files" (defScope s_doing_in_files) f cdv A outer s H E) E := passes_call tk fun _ _ _ _ h => h
  have hu : Deep (cxOf (L2.CX P w) P w C.K mg base ["host", "deed", "word", "node"] "doing_in_files" (defScope s_doing_in_files) f cdv A outer s H E).nox := deep_of hr
  exact (se_cons (se_lift (sd_set (i := 2) S.nd (ed_ix (ed_var 1) ed_int)))
      (se_one (se_if (td_eq hu (ed_var 2) ed_str)
        (se_one (se_drop (ee_callC hx (ok_cut X) (hr.mono (by decide)) (ad_cons (ed_var 0) (ad_cons (ed_ix (ed_var 1) ed_int) ad_nil)))))
        (se_one (se_if (td_eq hu (ed_var 2) ed_str)
        (se_one (se_drop (ee_callC hx (ok_write X) (hr.mono (by decide)) (ad_cons (ed_var 0) (ad_cons (ed_ix (ed_var 1) ed_int) (ad_cons (ed_ix (ed_var 1) ed_int) (ad_cons (ed_ix (ed_var 1) ed_int) ad_nil)))))))
        (se_one (se_if (td_eq hu (ed_var 2) ed_str)
        (se_cons (se_lift (sd_set (i := 3) S.nd (ed_callC hx (ok_file_named X) (hr.mono (by decide)) (ad_cons (ed_var 0) (ad_cons (ed_ix (ed_var 1) ed_int) ad_nil)))))
      (se_one (se_drop (ee_callC hx (ok_written X) (hr.mono (by decide)) (ad_cons (ed_var 3) (ad_cons (ed_fld (fld_text X.T) (ed_var 3)) (ad_cons (ed_ix (ed_var 1) ed_int) ad_nil)))))))
        (se_one (se_if (td_eq hu (ed_var 2) ed_str)
        (se_cons (se_lift (sd_set (i := 3) S.nd (ed_callC hx (ok_file_named X) (hr.mono (by decide)) (ad_cons (ed_var 0) (ad_cons (ed_ix (ed_var 1) ed_int) ad_nil)))))
      (se_one (se_push (ed_fld (fld_had X.T) (ed_var 0)) (ed_tup (ad_cons (ed_fld (fld_thing X.T) (ed_var 3)) (ad_cons (ed_fld (fld_count X.T) (ed_var 3)) ad_nil))))))
        (se_cons (se_lift (sd_set (i := 3) S.nd (ed_callC hx (ok_thing_at X) (hr.mono (by decide)) (ad_cons (ed_var 0) (ad_cons (ed_ix (ed_var 1) ed_int) ad_nil)))))
      (se_one (se_insert (ed_fld (fld_opened X.T) (ed_var 0)) (ed_fld (fld_thing X.T) (ed_var 3))))))))))))))
theorem sc_doing : FnScope ["host", "deed", "word"] ["host", "deed"] (defScope s_doing) := ⟨rfl, rfl, rfl, by decide +kernel, rfl, by decide +kernel, by decide +kernel⟩
theorem ok_doing (X : Facts C mg base) : CalP P w C mg base "doing" 9 2 (spE C 2 D_doing) := by
  obtain ⟨f, fd, Fn, hm⟩ := X.d_doing
  refine ⟨f, fd, ["host", "deed"], ?_, hm, Fn.kp, Fn.binds fun _ _ _ _ _ _ us hl => match us, hl with | [_, _], _ => rfl, rfl⟩
  have S := sc_doing
  refine fn_effX (sv := b_doing) (N := ["host", "deed", "word"]) (ps := ["host", "deed"]) Fn S (fun cdv A outer s H E hr => ?_)
  have tk : Takes (cxOf (L2.CX P w) P w C.K mg base ["host", "deed", "word"] "doing" (defScope s_doing) f cdv A outer s H E) (fun cls d _ H => E cls d H) := takes_of rfl rfl rfl rfl
  have hx : Passes (L2.CX P w) (cxOf (L2.CX P w) P w C.K mg base ["host", "deed", "word"] "doing" (defScope s_doing) f cdv A outer s H E) E := passes_call tk fun _ _ _ _ h => h
  have hu : Deep (cxOf (L2.CX P w) P w C.K mg base ["host", "deed", "word"] "doing" (defScope s_doing) f cdv A outer s H E).nox := deep_of hr
  exact (se_cons (se_lift (sd_set (i := 2) S.nd (ed_ix (ed_var 1) ed_int)))
      (se_one (se_if (td_eq hu (ed_var 2) ed_str)
        (se_one (se_drop (ee_callC hx (ok_make X) (hr.mono (by decide)) (ad_cons (ed_var 0) (ad_cons (ed_ix (ed_var 1) ed_int) (ad_cons (ed_ix (ed_var 1) ed_int) (ad_cons (ed_ix (ed_var 1) ed_int) ad_nil)))))))
        (se_one (se_if (td_eq hu (ed_var 2) ed_str)
        (se_one (se_drop (ee_callC hx (ok_make_kind X) (hr.mono (by decide)) (ad_cons (ed_var 0) (ad_cons (ed_ix (ed_var 1) ed_int) (ad_cons ed_str ad_nil))))))
        (se_one (se_if (td_eq hu (ed_var 2) ed_str)
        (se_one (se_drop (ee_callC hx (ok_make_kind X) (hr.mono (by decide)) (ad_cons (ed_var 0) (ad_cons (ed_ix (ed_var 1) ed_int) (ad_cons ed_str ad_nil))))))
        (se_one (se_if (td_eq hu (ed_var 2) ed_str)
        (se_one (se_drop (ee_callC hx (ok_remove X) (hr.mono (by decide)) (ad_cons (ed_var 0) (ad_cons (ed_ix (ed_var 1) ed_int) ad_nil)))))
        (se_one (se_if (td_eq hu (ed_var 2) ed_str)
        (se_one (se_drop (ee_callC hx (ok_remove_folder_programs X) (hr.mono (by decide)) (ad_cons (ed_var 0) (ad_cons (ed_ix (ed_var 1) ed_int) ad_nil)))))
        (se_one (se_if (td_eq hu (ed_var 2) ed_str)
        (se_one (se_drop (ee_callC hx (ok_rename X) (hr.mono (by decide)) (ad_cons (ed_var 0) (ad_cons (ed_ix (ed_var 1) ed_int) (ad_cons (ed_ix (ed_var 1) ed_int) ad_nil))))))
        (se_one (se_if (td_eq hu (ed_var 2) ed_str)
        (se_one (se_drop (ee_callC hx (ok_close X) (hr.mono (by decide)) (ad_cons (ed_var 0) (ad_cons (ed_ix (ed_var 1) ed_int) ad_nil)))))
        (se_one (se_drop (ee_callC hx (ok_doing_in_files X) (hr.mono (by decide)) (ad_cons (ed_var 0) (ad_cons (ed_var 1) ad_nil))))))))))))))))))))
theorem sc_told_cuts : FnScope ["host", "node"] ["host", "node"] (defScope s_told_cuts) := ⟨rfl, rfl, rfl, by decide +kernel, rfl, by decide +kernel, by decide +kernel⟩
theorem ok_told_cuts (X : Facts C mg base) : CalP P w C mg base "told_cuts" 1 2 (spP C 2 D_told_cuts) := by
  obtain ⟨f, fd, Fn, hm⟩ := X.d_told_cuts
  refine ⟨f, fd, ["host", "node"], ?_, hm, Fn.kp, Fn.binds fun _ _ _ _ _ _ us hl => match us, hl with | [_, _], _ => rfl, rfl⟩
  have S := sc_told_cuts
  refine fn_pure (sv := b_told_cuts) (N := ["host", "node"]) (ps := ["host", "node"]) Fn S (fun cdv A outer s H E hr => ?_)
  have hx : Passes (L2.CX P w) (cxOf (L2.CX P w) P w C.K mg base ["host", "node"] "told_cuts" (defScope s_told_cuts) f cdv A outer s H E).nox E0 := passL
  have hu : Deep (cxOf (L2.CX P w) P w C.K mg base ["host", "node"] "told_cuts" (defScope s_told_cuts) f cdv A outer s H E).nox := deep_of hr
  exact (sd_cons (sd_if (td_val (ed_fld (fld_cuts X.T) (ed_fld (fld_rule X.T) (ed_var 0))))
        (sd_one (sd_ret (ed_fld (fld_cuts X.T) (ed_var 1))))
        sd_nil)
      (sd_one (sd_ret ed_int)))
end
end FK
set_option Elab.async false
set_option linter.all false
set_option maxRecDepth 100000
set_option maxHeartbeats 4000000
/-! The walks of the defs, printed by gen.py. -/
namespace FK
open PySem PySem.Spec PyProof.Rows L2
section
variable {C : Cs} {P : Program} {w : World} {mg : Str → Option Value} {base : Heap}
theorem sc_names_answer : FnScope ["host", "path", "above", "rows", "node"] ["host", "path"] (defScope s_names_answer) := ⟨rfl, rfl, rfl, by decide +kernel, rfl, by decide +kernel, by decide +kernel⟩
theorem ok_names_answer (X : Facts C mg base) : CalP P w C mg base "names_answer" 6 2 (spP C 2 D_names_answer) := by
  obtain ⟨f, fd, Fn, hm⟩ := X.d_names_answer
  refine ⟨f, fd, ["host", "path"], ?_, hm, Fn.kp, Fn.binds fun _ _ _ _ _ _ us hl => match us, hl with | [_, _], _ => rfl, rfl⟩
  have S := sc_names_answer
  refine fn_pure (sv := b_names_answer) (N := ["host", "path", "above", "rows", "node"]) (ps := ["host", "path"]) Fn S (fun cdv A outer s H E hr => ?_)
  have hx : Passes (L2.CX P w) (cxOf (L2.CX P w) P w C.K mg base ["host", "path", "above", "rows", "node"] "names_answer" (defScope s_names_answer) f cdv A outer s H E).nox E0 := passL
  have hu : Deep (cxOf (L2.CX P w) P w C.K mg base ["host", "path", "above", "rows", "node"] "names_answer" (defScope s_names_answer) f cdv A outer s H E).nox := deep_of hr
  exact (sd_cons (sd_set (i := 2) S.nd (ed_methC X.T hx (ok_Host_folder_path X) (hr.mono (by decide)) (ed_var 0) (ad_cons ed_str (ad_cons (ed_var 1) ad_nil))))
      (sd_cons (sd_if (td_isN (ed_var 2) ed_non)
        (sd_one (sd_ret (ed_globT X.gREFUSED)))
        sd_nil)
      (sd_acc (i := 4) (j := 3) PassesOwn.never S.nd (id_N X.T (ed_var 0)) (pss_one (ps_if (PTd.can (PWd.t (wd_and (td_eq hu (ed_fld (fld_area X.T) (ed_var 4)) ed_str) (wd_and (td_ne hu (ed_fld (fld_path X.T) (ed_var 4)) (ed_tup ad_nil)) (wd_and1 (td_eq hu (ed_sl (ed_fld (fld_path X.T) (ed_var 4)) od_none (od_some (ed_neg ed_int))) (ed_var 2))))))) (pss_one (ps_expr (pe_bm PySem.F.plainAttrs_list PySem.F.slot_list_append PySem.F.type_list_append mt_append (pv 3) (pa_cons (PEd.can (ed_tup (ad_cons (ed_ix (ed_fld (fld_path X.T) (ed_var 4)) (ed_neg ed_int)) (ad_cons (ed_fld (fld_thing X.T) (ed_var 4)) (ad_cons (ed_fld (fld_kind X.T) (ed_var 4)) (ad_cons (ed_fld (fld_count X.T) (ed_var 4)) (ad_cons (ed_callC hx (ok_told_cuts X) (hr.mono (by decide)) (ad_cons (ed_var 0) (ad_cons (ed_var 4) ad_nil))) ad_nil))))))) pa_nil)))) pss_nil)) (accB_if (i := 4) (j := 3) (tv := (tvAnd (tOfV (vBin eqD (vUn (fdN fun r => areaD r.area) (vVar 4)) (vC (.str "folder")))) (tvAnd (tOfV (vBin neD (vUn (fdN fun r => pathD r.path) (vVar 4)) (vTup vNil))) (tOfV (vBin eqD (vSl (vUn (fdN fun r => pathD r.path) (vVar 4)) oNone (oSome (vUn negD (vC (.int 1))))) (vVar 2)))))) (ev := (vTup (vCons (vBin ixD (vUn (fdN fun r => pathD r.path) (vVar 4)) (vUn negD (vC (.int 1)))) (vCons (vUn (fdN fun r => .int r.thing) (vVar 4)) (vCons (vUn (fdN fun r => .str r.kind) (vVar 4)) (vCons (vUn (fdN fun r => .int r.count) (vVar 4)) (vCons (vCall 2 D_told_cuts (vCons (vVar 0) (vCons (vVar 4) vNil))) vNil))))))) rfl)
      (sd_one (sd_ret (ed_tup (ad_cons ed_str (ad_cons (ed_sorted X.T hu (ed_var 3)) ad_nil))))))))
theorem sc_text_answer : FnScope ["host", "node"] ["host", "node"] (defScope s_text_answer) := ⟨rfl, rfl, rfl, by decide +kernel, rfl, by decide +kernel, by decide +kernel⟩
theorem ok_text_answer (X : Facts C mg base) : CalP P w C mg base "text_answer" 2 2 (spP C 2 D_text_answer) := by
  obtain ⟨f, fd, Fn, hm⟩ := X.d_text_answer
  refine ⟨f, fd, ["host", "node"], ?_, hm, Fn.kp, Fn.binds fun _ _ _ _ _ _ us hl => match us, hl with | [_, _], _ => rfl, rfl⟩
  have S := sc_text_answer
  refine fn_pure (sv := b_text_answer) (N := ["host", "node"]) (ps := ["host", "node"]) Fn S (fun cdv A outer s H E hr => ?_)
  have hx : Passes (L2.CX P w) (cxOf (L2.CX P w) P w C.K mg base ["host", "node"] "text_answer" (defScope s_text_answer) f cdv A outer s H E).nox E0 := passL
  have hu : Deep (cxOf (L2.CX P w) P w C.K mg base ["host", "node"] "text_answer" (defScope s_text_answer) f cdv A outer s H E).nox := deep_of hr
  exact (sd_cons (sd_if (PWd.t (wd_or (td_isN (ed_var 1) ed_non) (wd_or1 (td_ne hu (ed_fld (fld_kind X.T) (ed_var 1)) ed_str))))
        (sd_one (sd_ret (ed_globT X.gREFUSED)))
        sd_nil)
      (sd_one (sd_ret (ed_tup (ad_cons ed_str (ad_cons (ed_fld (fld_thing X.T) (ed_var 1)) (ad_cons (ed_fld (fld_count X.T) (ed_var 1)) (ad_cons (ed_callC hx (ok_told_cuts X) (hr.mono (by decide)) (ad_cons (ed_var 0) (ad_cons (ed_var 1) ad_nil))) (ad_cons (ed_fld (fld_text X.T) (ed_var 1)) (ad_cons (ed_fld (fld_runs X.T) (ed_var 1)) ad_nil))))))))))
theorem sc_file_in_folder : FnScope ["host", "path"] ["host", "path"] (defScope s_file_in_folder) := ⟨rfl, rfl, rfl, by decide +kernel, rfl, by decide +kernel, by decide +kernel⟩
theorem ok_file_in_folder (X : Facts C mg base) : CalP P w C mg base "file_in_folder" 5 2 (spP C 2 D_file_in_folder) := by
  obtain ⟨f, fd, Fn, hm⟩ := X.d_file_in_folder
  refine ⟨f, fd, ["host", "path"], ?_, hm, Fn.kp, Fn.binds fun _ _ _ _ _ _ us hl => match us, hl with | [_, _], _ => rfl, rfl⟩
  have S := sc_file_in_folder
  refine fn_pure (sv := b_file_in_folder) (N := ["host", "path"]) (ps := ["host", "path"]) Fn S (fun cdv A outer s H E hr => ?_)
  have hx : Passes (L2.CX P w) (cxOf (L2.CX P w) P w C.K mg base ["host", "path"] "file_in_folder" (defScope s_file_in_folder) f cdv A outer s H E).nox E0 := passL
  have hu : Deep (cxOf (L2.CX P w) P w C.K mg base ["host", "path"] "file_in_folder" (defScope s_file_in_folder) f cdv A outer s H E).nox := deep_of hr
  exact (sd_cons (sd_if (td_eq hu (ed_var 1) (ed_tup ad_nil))
        (sd_one (sd_ret ed_non))
        sd_nil)
      (sd_one (sd_ret (ed_methC X.T hx (ok_Host_node_at X) (hr.mono (by decide)) (ed_var 0) (ad_cons ed_str (ad_cons (ed_var 1) ad_nil))))))
theorem sc_shelf_answer : FnScope ["host", "rows", "node"] ["host"] (defScope s_shelf_answer) := ⟨rfl, rfl, rfl, by decide +kernel, rfl, by decide +kernel, by decide +kernel⟩
theorem ok_shelf_answer (X : Facts C mg base) : CalP P w C mg base "shelf_answer" 2 1 (spP C 1 D_shelf_answer) := by
  obtain ⟨f, fd, Fn, hm⟩ := X.d_shelf_answer
  refine ⟨f, fd, ["host"], ?_, hm, Fn.kp, Fn.binds fun _ _ _ _ _ _ us hl => match us, hl with | [_], _ => rfl, rfl⟩
  have S := sc_shelf_answer
  refine fn_pure (sv := b_shelf_answer) (N := ["host", "rows", "node"]) (ps := ["host"]) Fn S (fun cdv A outer s H E hr => ?_)
  have hx : Passes (L2.CX P w) (cxOf (L2.CX P w) P w C.K mg base ["host", "rows", "node"] "shelf_answer" (defScope s_shelf_answer) f cdv A outer s H E).nox E0 := passL
  have hu : Deep (cxOf (L2.CX P w) P w C.K mg base ["host", "rows", "node"] "shelf_answer" (defScope s_shelf_answer) f cdv A outer s H E).nox := deep_of hr
  exact (sd_acc (i := 2) (j := 1) PassesOwn.never S.nd (id_N X.T (ed_var 0)) (pss_one (ps_if (PTd.can (PWd.t (wd_and (td_val (ed_isInt X.T (ed_fld (fld_area X.T) (ed_var 2)))) (wd_and1 (td_eq hu (ed_fld (fld_path X.T) (ed_var 2)) (ed_tup ad_nil)))))) (pss_one (ps_expr (pe_bm PySem.F.plainAttrs_list PySem.F.slot_list_append PySem.F.type_list_append mt_append (pv 1) (pa_cons (PEd.can (ed_tup (ad_cons (ed_fld (fld_area X.T) (ed_var 2)) (ad_cons (ed_fld (fld_thing X.T) (ed_var 2)) (ad_cons (ed_fld (fld_kind X.T) (ed_var 2)) (ad_cons (ed_fld (fld_count X.T) (ed_var 2)) (ad_cons (ed_callC hx (ok_told_cuts X) (hr.mono (by decide)) (ad_cons (ed_var 0) (ad_cons (ed_var 2) ad_nil))) (ad_cons (ed_len X.T (ad_cons (ed_fld (fld_text X.T) (ed_var 2)) ad_nil)) ad_nil)))))))) pa_nil)))) pss_nil)) (accB_if (i := 2) (j := 1) (tv := (tvAnd (tOfV (vUn isIntD (vUn (fdN fun r => areaD r.area) (vVar 2)))) (tOfV (vBin eqD (vUn (fdN fun r => pathD r.path) (vVar 2)) (vTup vNil))))) (ev := (vTup (vCons (vUn (fdN fun r => areaD r.area) (vVar 2)) (vCons (vUn (fdN fun r => .int r.thing) (vVar 2)) (vCons (vUn (fdN fun r => .str r.kind) (vVar 2)) (vCons (vUn (fdN fun r => .int r.count) (vVar 2)) (vCons (vCall 2 D_told_cuts (vCons (vVar 0) (vCons (vVar 2) vNil))) (vCons (vApp lenD (vCons (vUn (fdN fun r => .str r.text) (vVar 2)) vNil)) vNil)))))))) rfl)
      (sd_one (sd_ret (ed_tup (ad_cons ed_str (ad_cons (ed_sorted X.T hu (ed_var 1)) ad_nil))))))
theorem sc_read_answer : FnScope ["host", "thing", "count"] ["host", "thing", "count"] (defScope s_read_answer) := ⟨rfl, rfl, rfl, by decide +kernel, rfl, by decide +kernel, by decide +kernel⟩
theorem ok_read_answer (X : Facts C mg base) : CalP P w C mg base "read_answer" 1 3 (spP C 3 D_read_answer) := by
  obtain ⟨f, fd, Fn, hm⟩ := X.d_read_answer
  refine ⟨f, fd, ["host", "thing", "count"], ?_, hm, Fn.kp, Fn.binds fun _ _ _ _ _ _ us hl => match us, hl with | [_, _, _], _ => rfl, rfl⟩
  have S := sc_read_answer
  refine fn_pure (sv := b_read_answer) (N := ["host", "thing", "count"]) (ps := ["host", "thing", "count"]) Fn S (fun cdv A outer s H E hr => ?_)
  have hx : Passes (L2.CX P w) (cxOf (L2.CX P w) P w C.K mg base ["host", "thing", "count"] "read_answer" (defScope s_read_answer) f cdv A outer s H E).nox E0 := passL
  have hu : Deep (cxOf (L2.CX P w) P w C.K mg base ["host", "thing", "count"] "read_answer" (defScope s_read_answer) f cdv A outer s H E).nox := deep_of hr
  exact (sd_cons (sd_if (td_not (td_val (ed_fld (fld_reads X.T) (ed_fld (fld_rule X.T) (ed_var 0)))))
        (sd_one (sd_ret (ed_tup (ad_cons ed_str (ad_cons ed_non ad_nil)))))
        sd_nil)
      (sd_one (sd_ret (ed_tup (ad_cons ed_str (ad_cons (ed_inL hu (ed_tup (ad_cons (ed_var 1) (ad_cons (ed_var 2) ad_nil))) (ed_fld (fld_had X.T) (ed_var 0))) ad_nil))))))
theorem sc_stage : FnScope ["host", "place", "text", "runs", "node"] ["host", "place", "text", "runs"] (defScope s_stage) := ⟨rfl, rfl, rfl, by decide +kernel, rfl, by decide +kernel, by decide +kernel⟩
theorem ok_stage (X : Facts C mg base) : CalP P w C mg base "stage" 5 4 (spE C 4 D_stage) := by
  obtain ⟨f, fd, Fn, hm⟩ := X.d_stage
  refine ⟨f, fd, ["host", "place", "text", "runs"], ?_, hm, Fn.kp, Fn.binds fun _ _ _ _ _ _ us hl => match us, hl with | [_, _, _, _], _ => rfl, rfl⟩
  have S := sc_stage
  refine fn_eff (sv := b_stage) (N := ["host", "place", "text", "runs", "node"]) (ps := ["host", "place", "text", "runs"]) Fn S (fun cdv A outer s H E hr => ?_)
  have hx : Passes (L2.CX P w) (cxOf (L2.CX P w) P w C.K mg base ["host", "place", "text", "runs", "node"] "stage" (defScope s_stage) f cdv A outer s H E).nox E0 := passL
  have hu : Deep (cxOf (L2.CX P w) P w C.K mg base ["host", "place", "text", "runs", "node"] "stage" (defScope s_stage) f cdv A outer s H E).nox := deep_of hr
  exact (se_cons (se_lift (sd_set (i := 4) S.nd (ed_methC X.T hx (ok_Host_node_at X) (hr.mono (by decide)) (ed_var 0) (ad_cons (ed_var 1) (ad_cons (ed_tup ad_nil) ad_nil)))))
      (se_cons (se_if (td_isN (ed_var 4) ed_non)
        (se_cons (se_drop (ee_methC X.T hx (ok_Host_put_new X) (hr.mono (by decide)) (ed_var 0) (ad_cons (ed_var 1) (ad_cons (ed_tup ad_nil) (ad_cons ed_str (ad_cons (ed_var 2) ad_nil))))))
      (se_cons (se_lift (sd_set (i := 4) S.nd (ed_methC X.T hx (ok_Host_node_at X) (hr.mono (by decide)) (ed_var 0) (ad_cons (ed_var 1) (ad_cons (ed_tup ad_nil) ad_nil)))))
      (se_cons (se_stN X.T put_runs (ed_var 4) (ed_var 3))
      (se_cons (se_stN X.T put_staged (ed_var 4) ed_bl)
      (se_one (se_lift (sd_ret (ed_globT X.gDONE))))))))
        se_nil)
      (se_cons (se_lift (sd_if (td_not (td_val (ed_fld (fld_staged X.T) (ed_var 4))))
        (sd_one (sd_ret (ed_globT X.gREFUSED)))
        sd_nil))
      (se_cons (se_stN X.T put_text (ed_var 4) (ed_add (ed_fld (fld_text X.T) (ed_var 4)) (ed_var 2)))
      (se_cons (se_stN X.T put_runs (ed_var 4) (ed_var 3))
      (se_cons (se_stN X.T put_count (ed_var 4) (ed_add (ed_fld (fld_count X.T) (ed_var 4)) ed_int))
      (se_one (se_lift (sd_ret (ed_globT X.gDONE))))))))))
theorem sc_take : FnScope ["host", "path", "place", "node"] ["host", "path", "place"] (defScope s_take) := ⟨rfl, rfl, rfl, by decide +kernel, rfl, by decide +kernel, by decide +kernel⟩
theorem ok_take (X : Facts C mg base) : CalP P w C mg base "take" 6 3 (spE C 3 D_take) := by
  obtain ⟨f, fd, Fn, hm⟩ := X.d_take
  refine ⟨f, fd, ["host", "path", "place"], ?_, hm, Fn.kp, Fn.binds fun _ _ _ _ _ _ us hl => match us, hl with | [_, _, _], _ => rfl, rfl⟩
  have S := sc_take
  refine fn_eff (sv := b_take) (N := ["host", "path", "place", "node"]) (ps := ["host", "path", "place"]) Fn S (fun cdv A outer s H E hr => ?_)
  have hx : Passes (L2.CX P w) (cxOf (L2.CX P w) P w C.K mg base ["host", "path", "place", "node"] "take" (defScope s_take) f cdv A outer s H E).nox E0 := passL
  have hu : Deep (cxOf (L2.CX P w) P w C.K mg base ["host", "path", "place", "node"] "take" (defScope s_take) f cdv A outer s H E).nox := deep_of hr
  exact (se_cons (se_lift (sd_set (i := 3) S.nd (ed_callC hx (ok_file_in_folder X) (hr.mono (by decide)) (ad_cons (ed_var 0) (ad_cons (ed_var 1) ad_nil)))))
      (se_cons (se_lift (sd_if (PWd.t (wd_or (td_isN (ed_var 3) ed_non) (wd_or1 (td_notN (ed_methC X.T hx (ok_Host_node_at X) (hr.mono (by decide)) (ed_var 0) (ad_cons (ed_var 2) (ad_cons (ed_tup ad_nil) ad_nil))) ed_non))))
        (sd_one (sd_ret (ed_globT X.gREFUSED)))
        sd_nil))
      (se_cons (se_drop (ee_methC X.T hx (ok_Host_carry X) (hr.mono (by decide)) (ed_var 0) (ad_cons (ed_var 3) (ad_cons (ed_var 2) (ad_cons (ed_tup ad_nil) ad_nil)))))
      (se_one (se_lift (sd_ret (ed_globT X.gDONE)))))))
theorem sc_give : FnScope ["host", "place", "path", "node", "free"] ["host", "place", "path"] (defScope s_give) := ⟨rfl, rfl, rfl, by decide +kernel, rfl, by decide +kernel, by decide +kernel⟩
theorem ok_give (X : Facts C mg base) : CalP P w C mg base "give" 7 3 (spE C 3 D_give) := by
  obtain ⟨f, fd, Fn, hm⟩ := X.d_give
  refine ⟨f, fd, ["host", "place", "path"], ?_, hm, Fn.kp, Fn.binds fun _ _ _ _ _ _ us hl => match us, hl with | [_, _, _], _ => rfl, rfl⟩
  have S := sc_give
  refine fn_eff (sv := b_give) (N := ["host", "place", "path", "node", "free"]) (ps := ["host", "place", "path"]) Fn S (fun cdv A outer s H E hr => ?_)
  have hx : Passes (L2.CX P w) (cxOf (L2.CX P w) P w C.K mg base ["host", "place", "path", "node", "free"] "give" (defScope s_give) f cdv A outer s H E).nox E0 := passL
  have hu : Deep (cxOf (L2.CX P w) P w C.K mg base ["host", "place", "path", "node", "free"] "give" (defScope s_give) f cdv A outer s H E).nox := deep_of hr
  exact (se_cons (se_lift (sd_set (i := 3) S.nd (ed_methC X.T hx (ok_Host_node_at X) (hr.mono (by decide)) (ed_var 0) (ad_cons (ed_var 1) (ad_cons (ed_tup ad_nil) ad_nil)))))
      (se_cons (se_lift (sd_set (i := 4) S.nd (ed_methC X.T hx (ok_Host_free_path X) (hr.mono (by decide)) (ed_var 0) (ad_cons ed_str (ad_cons (ed_var 2) ad_nil)))))
      (se_cons (se_lift (sd_if (PWd.t (wd_or (td_isN (ed_var 3) ed_non) (wd_or1 (td_isN (ed_var 4) ed_non))))
        (sd_one (sd_ret (ed_globT X.gREFUSED)))
        sd_nil))
      (se_cons (se_drop (ee_methC X.T hx (ok_Host_carry X) (hr.mono (by decide)) (ed_var 0) (ad_cons (ed_var 3) (ad_cons ed_str (ad_cons (ed_var 4) ad_nil)))))
      (se_one (se_lift (sd_ret (ed_globT X.gDONE))))))))
theorem sc_swap : FnScope ["host", "place", "path", "lying", "standing", "spelled"] ["host", "place", "path"] (defScope s_swap) := ⟨rfl, rfl, rfl, by decide +kernel, rfl, by decide +kernel, by decide +kernel⟩
theorem ok_swap (X : Facts C mg base) : CalP P w C mg base "swap" 6 3 (spE C 3 D_swap) := by
  obtain ⟨f, fd, Fn, hm⟩ := X.d_swap
  refine ⟨f, fd, ["host", "place", "path"], ?_, hm, Fn.kp, Fn.binds fun _ _ _ _ _ _ us hl => match us, hl with | [_, _, _], _ => rfl, rfl⟩
  have S := sc_swap
  refine fn_eff (sv := b_swap) (N := ["host", "place", "path", "lying", "standing", "spelled"]) (ps := ["host", "place", "path"]) Fn S (fun cdv A outer s H E hr => ?_)
  have hx : Passes (L2.CX P w) (cxOf (L2.CX P w) P w C.K mg base ["host", "place", "path", "lying", "standing", "spelled"] "swap" (defScope s_swap) f cdv A outer s H E).nox E0 := passL
  have hu : Deep (cxOf (L2.CX P w) P w C.K mg base ["host", "place", "path", "lying", "standing", "spelled"] "swap" (defScope s_swap) f cdv A outer s H E).nox := deep_of hr
  exact (se_cons (se_lift (sd_set (i := 3) S.nd (ed_methC X.T hx (ok_Host_node_at X) (hr.mono (by decide)) (ed_var 0) (ad_cons (ed_var 1) (ad_cons (ed_tup ad_nil) ad_nil)))))
      (se_cons (se_lift (sd_set (i := 4) S.nd (ed_callC hx (ok_file_in_folder X) (hr.mono (by decide)) (ad_cons (ed_var 0) (ad_cons (ed_var 2) ad_nil)))))
      (se_cons (se_lift (sd_if (PWd.t (wd_or (td_not (td_val (ed_fld (fld_swaps X.T) (ed_fld (fld_rule X.T) (ed_var 0))))) (wd_or (td_isN (ed_var 3) ed_non) (wd_or1 (td_isN (ed_var 4) ed_non)))))
        (sd_one (sd_ret (ed_globT X.gREFUSED)))
        sd_nil))
      (se_cons (se_lift (sd_set (i := 5) S.nd (ed_fld (fld_path X.T) (ed_var 4))))
      (se_cons (se_drop (ee_methC X.T hx (ok_Host_carry X) (hr.mono (by decide)) (ed_var 0) (ad_cons (ed_var 4) (ad_cons ed_str (ad_cons (ed_tup ad_nil) ad_nil)))))
      (se_cons (se_drop (ee_methC X.T hx (ok_Host_carry X) (hr.mono (by decide)) (ed_var 0) (ad_cons (ed_var 3) (ad_cons ed_str (ad_cons (ed_var 5) ad_nil)))))
      (se_cons (se_drop (ee_methC X.T hx (ok_Host_carry X) (hr.mono (by decide)) (ed_var 0) (ad_cons (ed_var 4) (ad_cons (ed_var 1) (ad_cons (ed_tup ad_nil) ad_nil)))))
      (se_cons (se_turned X.T (ed_var 0) (ed_sub (ed_fld (fld_turned X.T) (ed_var 0)) ed_int))
      (se_one (se_lift (sd_ret (ed_globT X.gDONE))))))))))))
theorem sc_make_folder : FnScope ["host", "path", "free"] ["host", "path"] (defScope s_make_folder) := ⟨rfl, rfl, rfl, by decide +kernel, rfl, by decide +kernel, by decide +kernel⟩
theorem ok_make_folder (X : Facts C mg base) : CalP P w C mg base "make_folder" 7 2 (spE C 2 D_make_folder) := by
  obtain ⟨f, fd, Fn, hm⟩ := X.d_make_folder
  refine ⟨f, fd, ["host", "path"], ?_, hm, Fn.kp, Fn.binds fun _ _ _ _ _ _ us hl => match us, hl with | [_, _], _ => rfl, rfl⟩
  have S := sc_make_folder
  refine fn_eff (sv := b_make_folder) (N := ["host", "path", "free"]) (ps := ["host", "path"]) Fn S (fun cdv A outer s H E hr => ?_)
  have hx : Passes (L2.CX P w) (cxOf (L2.CX P w) P w C.K mg base ["host", "path", "free"] "make_folder" (defScope s_make_folder) f cdv A outer s H E).nox E0 := passL
  have hu : Deep (cxOf (L2.CX P w) P w C.K mg base ["host", "path", "free"] "make_folder" (defScope s_make_folder) f cdv A outer s H E).nox := deep_of hr
  exact (se_cons (se_lift (sd_set (i := 2) S.nd (ed_methC X.T hx (ok_Host_free_path X) (hr.mono (by decide)) (ed_var 0) (ad_cons ed_str (ad_cons (ed_var 1) ad_nil)))))
      (se_cons (se_lift (sd_if (td_isN (ed_var 2) ed_non)
        (sd_one (sd_ret (ed_globT X.gREFUSED)))
        sd_nil))
      (se_cons (se_drop (ee_methC X.T hx (ok_Host_put_new X) (hr.mono (by decide)) (ed_var 0) (ad_cons ed_str (ad_cons (ed_var 2) (ad_cons ed_str (ad_cons ed_str ad_nil))))))
      (se_one (se_lift (sd_ret (ed_globT X.gDONE)))))))
end
end FK
set_option Elab.async false
set_option linter.all false
set_option maxRecDepth 100000
set_option maxHeartbeats 4000000
/-! The walks of the defs, printed by gen.py. -/
namespace FK
open PySem PySem.Spec PyProof.Rows L2
section
variable {C : Cs} {P : Program} {w : World} {mg : Str → Option Value} {base : Heap}
theorem sc_remove_folder_asking : FnScope ["host", "path", "node"] ["host", "path"] (defScope s_remove_folder_asking) := ⟨rfl, rfl, rfl, by decide +kernel, rfl, by decide +kernel, by decide +kernel⟩
theorem ok_remove_folder_asking (X : Facts C mg base) : CalP P w C mg base "remove_folder_asking" 6 2 (spE C 2 D_remove_folder_asking) := by
  obtain ⟨f, fd, Fn, hm⟩ := X.d_remove_folder_asking
  refine ⟨f, fd, ["host", "path"], ?_, hm, Fn.kp, Fn.binds fun _ _ _ _ _ _ us hl => match us, hl with | [_, _], _ => rfl, rfl⟩
  have S := sc_remove_folder_asking
  refine fn_eff (sv := b_remove_folder_asking) (N := ["host", "path", "node"]) (ps := ["host", "path"]) Fn S (fun cdv A outer s H E hr => ?_)
  have hx : Passes (L2.CX P w) (cxOf (L2.CX P w) P w C.K mg base ["host", "path", "node"] "remove_folder" (defScope s_remove_folder_asking) f cdv A outer s H E).nox E0 := passL
  have hu : Deep (cxOf (L2.CX P w) P w C.K mg base ["host", "path", "node"] "remove_folder" (defScope s_remove_folder_asking) f cdv A outer s H E).nox := deep_of hr
  exact (se_cons (se_lift (sd_set (i := 2) S.nd (ed_callC hx (ok_file_in_folder X) (hr.mono (by decide)) (ad_cons (ed_var 0) (ad_cons (ed_var 1) ad_nil)))))
      (se_cons (se_lift (sd_if (PWd.t (wd_or (td_isN (ed_var 2) ed_non) (wd_or (td_ne hu (ed_fld (fld_kind X.T) (ed_var 2)) ed_str) (wd_or1 (td_val (ed_methC X.T hx (ok_Host_holds_something X) (hr.mono (by decide)) (ed_var 0) (ad_cons (ed_var 2) ad_nil)))))))
        (sd_one (sd_ret (ed_globT X.gREFUSED)))
        sd_nil))
      (se_cons (se_drop (ee_methC X.T hx (ok_Host_take_away X) (hr.mono (by decide)) (ed_var 0) (ad_cons (ed_var 2) ad_nil)))
      (se_one (se_lift (sd_ret (ed_globT X.gDONE)))))))
theorem sc_drop : FnScope ["host", "place", "count", "node"] ["host", "place", "count"] (defScope s_drop) := ⟨rfl, rfl, rfl, by decide +kernel, rfl, by decide +kernel, by decide +kernel⟩
theorem ok_drop (X : Facts C mg base) : CalP P w C mg base "drop" 5 3 (spE C 3 D_drop) := by
  obtain ⟨f, fd, Fn, hm⟩ := X.d_drop
  refine ⟨f, fd, ["host", "place", "count"], ?_, hm, Fn.kp, Fn.binds fun _ _ _ _ _ _ us hl => match us, hl with | [_, _, _], _ => rfl, rfl⟩
  have S := sc_drop
  refine fn_eff (sv := b_drop) (N := ["host", "place", "count", "node"]) (ps := ["host", "place", "count"]) Fn S (fun cdv A outer s H E hr => ?_)
  have hx : Passes (L2.CX P w) (cxOf (L2.CX P w) P w C.K mg base ["host", "place", "count", "node"] "drop" (defScope s_drop) f cdv A outer s H E).nox E0 := passL
  have hu : Deep (cxOf (L2.CX P w) P w C.K mg base ["host", "place", "count", "node"] "drop" (defScope s_drop) f cdv A outer s H E).nox := deep_of hr
  exact (se_cons (se_lift (sd_set (i := 3) S.nd (ed_methC X.T hx (ok_Host_node_at X) (hr.mono (by decide)) (ed_var 0) (ad_cons (ed_var 1) (ad_cons (ed_tup ad_nil) ad_nil)))))
      (se_cons (se_lift (sd_if (PWd.t (wd_or (td_isN (ed_var 3) ed_non) (wd_or (td_ne hu (ed_fld (fld_kind X.T) (ed_var 3)) ed_str) (wd_or (td_ne hu (ed_fld (fld_count X.T) (ed_var 3)) (ed_var 2)) (wd_or1 (td_inL hu (ed_fld (fld_thing X.T) (ed_var 3)) (ed_fld (fld_opened X.T) (ed_var 0))))))))
        (sd_one (sd_ret (ed_globT X.gREFUSED)))
        sd_nil))
      (se_cons (se_drop (ee_methC X.T hx (ok_Host_take_away X) (hr.mono (by decide)) (ed_var 0) (ad_cons (ed_var 3) ad_nil)))
      (se_one (se_lift (sd_ret (ed_globT X.gDONE)))))))
theorem sc_change_answer : FnScope ["host", "operation", "word"] ["host", "operation"] (defScope s_change_answer) := ⟨rfl, rfl, rfl, by decide +kernel, rfl, by decide +kernel, by decide +kernel⟩
theorem ok_change_answer (X : Facts C mg base) : CalP P w C mg base "change_answer" 8 2 (spE C 2 D_change_answer) := by
  obtain ⟨f, fd, Fn, hm⟩ := X.d_change_answer
  refine ⟨f, fd, ["host", "operation"], ?_, hm, Fn.kp, Fn.binds fun _ _ _ _ _ _ us hl => match us, hl with | [_, _], _ => rfl, rfl⟩
  have S := sc_change_answer
  refine fn_eff (sv := b_change_answer) (N := ["host", "operation", "word"]) (ps := ["host", "operation"]) Fn S (fun cdv A outer s H E hr => ?_)
  have hx : Passes (L2.CX P w) (cxOf (L2.CX P w) P w C.K mg base ["host", "operation", "word"] "change_answer" (defScope s_change_answer) f cdv A outer s H E).nox E0 := passL
  have hu : Deep (cxOf (L2.CX P w) P w C.K mg base ["host", "operation", "word"] "change_answer" (defScope s_change_answer) f cdv A outer s H E).nox := deep_of hr
  exact (se_cons (se_lift (sd_set (i := 2) S.nd (ed_ix (ed_var 1) ed_int)))
      (se_cons (se_if (td_eq hu (ed_var 2) ed_str)
        (se_one (se_ret (ee_callC hx (ok_stage X) (hr.mono (by decide)) (ad_cons (ed_var 0) (ad_cons (ed_ix (ed_var 1) ed_int) (ad_cons (ed_ix (ed_var 1) ed_int) (ad_cons (ed_ix (ed_var 1) ed_int) ad_nil)))))))
        se_nil)
      (se_cons (se_if (td_eq hu (ed_var 2) ed_str)
        (se_one (se_ret (ee_callC hx (ok_take X) (hr.mono (by decide)) (ad_cons (ed_var 0) (ad_cons (ed_ix (ed_var 1) ed_int) (ad_cons (ed_ix (ed_var 1) ed_int) ad_nil))))))
        se_nil)
      (se_cons (se_if (td_eq hu (ed_var 2) ed_str)
        (se_one (se_ret (ee_callC hx (ok_give X) (hr.mono (by decide)) (ad_cons (ed_var 0) (ad_cons (ed_ix (ed_var 1) ed_int) (ad_cons (ed_ix (ed_var 1) ed_int) ad_nil))))))
        se_nil)
      (se_cons (se_if (td_eq hu (ed_var 2) ed_str)
        (se_one (se_ret (ee_callC hx (ok_swap X) (hr.mono (by decide)) (ad_cons (ed_var 0) (ad_cons (ed_ix (ed_var 1) ed_int) (ad_cons (ed_ix (ed_var 1) ed_int) ad_nil))))))
        se_nil)
      (se_cons (se_if (td_eq hu (ed_var 2) ed_str)
        (se_one (se_ret (ee_callC hx (ok_make_folder X) (hr.mono (by decide)) (ad_cons (ed_var 0) (ad_cons (ed_ix (ed_var 1) ed_int) ad_nil)))))
        se_nil)
      (se_cons (se_if (td_eq hu (ed_var 2) ed_str)
        (se_one (se_ret (ee_callC hx (ok_remove_folder_asking X) (hr.mono (by decide)) (ad_cons (ed_var 0) (ad_cons (ed_ix (ed_var 1) ed_int) ad_nil)))))
        se_nil)
      (se_one (se_ret (ee_callC hx (ok_drop X) (hr.mono (by decide)) (ad_cons (ed_var 0) (ad_cons (ed_ix (ed_var 1) ed_int) (ad_cons (ed_ix (ed_var 1) ed_int) ad_nil)))))))))))))
theorem sc_answer : FnScope ["host", "operation", "word"] ["host", "operation"] (defScope s_answer) := ⟨rfl, rfl, rfl, by decide +kernel, rfl, by decide +kernel, by decide +kernel⟩
theorem ok_answer (X : Facts C mg base) : CalP P w C mg base "answer" 9 2 (spE C 2 D_answer) := by
  obtain ⟨f, fd, Fn, hm⟩ := X.d_answer
  refine ⟨f, fd, ["host", "operation"], ?_, hm, Fn.kp, Fn.binds fun _ _ _ _ _ _ us hl => match us, hl with | [_, _], _ => rfl, rfl⟩
  have S := sc_answer
  refine fn_eff (sv := b_answer) (N := ["host", "operation", "word"]) (ps := ["host", "operation"]) Fn S (fun cdv A outer s H E hr => ?_)
  have hx : Passes (L2.CX P w) (cxOf (L2.CX P w) P w C.K mg base ["host", "operation", "word"] "answer" (defScope s_answer) f cdv A outer s H E).nox E0 := passL
  have hu : Deep (cxOf (L2.CX P w) P w C.K mg base ["host", "operation", "word"] "answer" (defScope s_answer) f cdv A outer s H E).nox := deep_of hr
  exact (se_cons (se_lift (sd_set (i := 2) S.nd (ed_ix (ed_var 1) ed_int)))
      (se_cons (se_lift (sd_if (td_eq hu (ed_var 2) ed_str)
        (sd_one (sd_ret (ed_callC hx (ok_names_answer X) (hr.mono (by decide)) (ad_cons (ed_var 0) (ad_cons (ed_ix (ed_var 1) ed_int) ad_nil)))))
        sd_nil))
      (se_cons (se_lift (sd_if (td_eq hu (ed_var 2) ed_str)
        (sd_cons (sd_if (td_val (ed_fld (fld_turns X.T) (ed_fld (fld_rule X.T) (ed_var 0))))
        (sd_one (sd_ret (ed_tup (ad_cons ed_str (ad_cons (ed_fld (fld_turned X.T) (ed_var 0)) ad_nil)))))
        sd_nil)
      (sd_one (sd_ret (ed_tup (ad_cons ed_str (ad_cons ed_non ad_nil))))))
        sd_nil))
      (se_cons (se_lift (sd_if (td_eq hu (ed_var 2) ed_str)
        (sd_one (sd_ret (ed_callC hx (ok_text_answer X) (hr.mono (by decide)) (ad_cons (ed_var 0) (ad_cons (ed_callC hx (ok_file_in_folder X) (hr.mono (by decide)) (ad_cons (ed_var 0) (ad_cons (ed_ix (ed_var 1) ed_int) ad_nil))) ad_nil)))))
        sd_nil))
      (se_cons (se_lift (sd_if (td_eq hu (ed_var 2) ed_str)
        (sd_one (sd_ret (ed_callC hx (ok_text_answer X) (hr.mono (by decide)) (ad_cons (ed_var 0) (ad_cons (ed_methC X.T hx (ok_Host_node_at X) (hr.mono (by decide)) (ed_var 0) (ad_cons (ed_ix (ed_var 1) ed_int) (ad_cons (ed_tup ad_nil) ad_nil))) ad_nil)))))
        sd_nil))
      (se_cons (se_lift (sd_if (td_eq hu (ed_var 2) ed_str)
        (sd_one (sd_ret (ed_callC hx (ok_read_answer X) (hr.mono (by decide)) (ad_cons (ed_var 0) (ad_cons (ed_ix (ed_var 1) ed_int) (ad_cons (ed_ix (ed_var 1) ed_int) ad_nil))))))
        sd_nil))
      (se_cons (se_lift (sd_if (td_eq hu (ed_var 2) ed_str)
        (sd_one (sd_ret (ed_callC hx (ok_shelf_answer X) (hr.mono (by decide)) (ad_cons (ed_var 0) ad_nil))))
        sd_nil))
      (se_one (se_ret (ee_callC hx (ok_change_answer X) (hr.mono (by decide)) (ad_cons (ed_var 0) (ad_cons (ed_var 1) ad_nil))))))))))))
theorem sc_Host_program : FnScope ["self", "deed"] ["self", "deed"] (defScope s_Host_program) := ⟨rfl, rfl, rfl, by decide +kernel, rfl, by decide +kernel, by decide +kernel⟩
theorem ok_Host_program (X : Facts C mg base) : MetP P w C mg base C.CH "program" 10 2 (spE C 2 D_Host_program) := by
  obtain ⟨f, fd, Fn, hm⟩ := X.d_Host_program
  refine ⟨f, fd, ["self", "deed"], ?_, hm, Fn.binds fun _ _ _ _ _ _ us hl => match us, hl with | [_, _], _ => rfl, rfl⟩
  have S := sc_Host_program
  refine fn_effX (sv := b_Host_program) (N := ["self", "deed"]) (ps := ["self", "deed"]) Fn S (fun cdv A outer s H E hr => ?_)
  have tk : Takes (cxOf (L2.CX P w) P w C.K mg base ["self", "deed"] "Host.program" (defScope s_Host_program) f cdv A outer s H E) (fun cls d _ H => E cls d H) := takes_of rfl rfl rfl rfl
  have hx : Passes (L2.CX P w) (cxOf (L2.CX P w) P w C.K mg base ["self", "deed"] "Host.program" (defScope s_Host_program) f cdv A outer s H E) E := passes_call tk fun _ _ _ _ h => h
  have hu : Deep (cxOf (L2.CX P w) P w C.K mg base ["self", "deed"] "Host.program" (defScope s_Host_program) f cdv A outer s H E).nox := deep_of hr
  exact (se_one (se_drop (ee_callC hx (ok_doing X) (hr.mono (by decide)) (ad_cons (ed_var 0) (ad_cons (ed_var 1) ad_nil)))))
theorem sc_Host_ask : FnScope ["self", "operation"] ["self", "operation"] (defScope s_Host_ask) := ⟨rfl, rfl, rfl, by decide +kernel, rfl, by decide +kernel, by decide +kernel⟩
theorem ok_Host_ask (X : Facts C mg base) : MetP P w C mg base C.CH "ask" 10 2 (spE C 2 D_Host_ask) := by
  obtain ⟨f, fd, Fn, hm⟩ := X.d_Host_ask
  refine ⟨f, fd, ["self", "operation"], ?_, hm, Fn.binds fun _ _ _ _ _ _ us hl => match us, hl with | [_, _], _ => rfl, rfl⟩
  have S := sc_Host_ask
  refine fn_eff (sv := b_Host_ask) (N := ["self", "operation"]) (ps := ["self", "operation"]) Fn S (fun cdv A outer s H E hr => ?_)
  have hx : Passes (L2.CX P w) (cxOf (L2.CX P w) P w C.K mg base ["self", "operation"] "Host.ask" (defScope s_Host_ask) f cdv A outer s H E).nox E0 := passL
  have hu : Deep (cxOf (L2.CX P w) P w C.K mg base ["self", "operation"] "Host.ask" (defScope s_Host_ask) f cdv A outer s H E).nox := deep_of hr
  exact (se_one (se_ret (ee_callC hx (ok_answer X) (hr.mono (by decide)) (ad_cons (ed_var 0) (ad_cons (ed_var 1) ad_nil)))))
theorem sc_Host_area_list : FnScope ["self", "area", "node"] ["self", "area"] (defScope s_Host_area_list) := ⟨rfl, rfl, rfl, by decide +kernel, rfl, by decide +kernel, by decide +kernel⟩
theorem ok_Host_area_list (X : Facts C mg base) : MetP P w C mg base C.CH "area_list" 2 2 (spP C 2 D_Host_area_list) := by
  obtain ⟨f, fd, Fn, hm⟩ := X.d_Host_area_list
  refine ⟨f, fd, ["self", "area"], ?_, hm, Fn.fun.binds fun _ _ _ _ _ _ us hl => match us, hl with | [_, _], _ => rfl, rfl⟩
  have S := sc_Host_area_list
  refine fn_pureC (sv := b_Host_area_list) (N := ["self", "area", "node"]) (ps := ["self", "area"]) Fn S (fun A outer s H E hr => ?_)
  have hx : Passes (L2.CX P w) (cxOf (L2.CX P w) P w C.K mg base ["self", "area", "node"] "Host.area_list" (defScope s_Host_area_list) f (.ref C.cA) A outer s H E).nox E0 := passL
  have hu : Deep (cxOf (L2.CX P w) P w C.K mg base ["self", "area", "node"] "Host.area_list" (defScope s_Host_area_list) f (.ref C.cA) A outer s H E).nox := deep_of hr
  exact (sd_one (sd_ret (ed_sortedKey X.T X.tb (ed_lc S.nd (id_N X.T (ed_var 0)) (blkOk_by (own := [("node", 2)]) (N := ["self", "area", "node"]) (sc := defScope s_Host_area_list) (by decide +kernel)) (fun _ _ _ _ _ => pg_name (i := 2) S.nd rfl (by first | exact Or.inl rfl | exact Or.inr rfl)) (fun _ _ _ _ _ => tsd_one (td_eq hu (ed_fld (fld_area X.T) (ed_var 2)) (ed_var 1))) (fun _ _ _ _ _ => (ed_methNC X.T passL (ok_Node_stands X) (hr.mono (by decide)) (ed_var 2)))) (hr.mono (by decide)) rfl X.tqE rfl rfl rfl rfl (fun _ _ _ _ => rfl) rfl)))
theorem sc_Host_tree : FnScope ["self"] ["self"] (defScope s_Host_tree) := ⟨rfl, rfl, rfl, by decide +kernel, rfl, by decide +kernel, by decide +kernel⟩
theorem ok_Host_tree (X : Facts C mg base) : MetP P w C mg base C.CH "tree" 3 1 (spP C 1 D_Host_tree) := by
  obtain ⟨f, fd, Fn, hm⟩ := X.d_Host_tree
  refine ⟨f, fd, ["self"], ?_, hm, Fn.binds fun _ _ _ _ _ _ us hl => match us, hl with | [_], _ => rfl, rfl⟩
  have S := sc_Host_tree
  refine fn_pure (sv := b_Host_tree) (N := ["self"]) (ps := ["self"]) Fn S (fun cdv A outer s H E hr => ?_)
  have hx : Passes (L2.CX P w) (cxOf (L2.CX P w) P w C.K mg base ["self"] "Host.tree" (defScope s_Host_tree) f cdv A outer s H E).nox E0 := passL
  have hu : Deep (cxOf (L2.CX P w) P w C.K mg base ["self"] "Host.tree" (defScope s_Host_tree) f cdv A outer s H E).nox := deep_of hr
  exact (sd_one (sd_ret (ed_methC X.T hx (ok_Host_area_list X) (hr.mono (by decide)) (ed_var 0) (ad_cons ed_str ad_nil))))
theorem sc_Host_outside : FnScope ["self"] ["self"] (defScope s_Host_outside) := ⟨rfl, rfl, rfl, by decide +kernel, rfl, by decide +kernel, by decide +kernel⟩
theorem ok_Host_outside (X : Facts C mg base) : MetP P w C mg base C.CH "outside" 3 1 (spP C 1 D_Host_outside) := by
  obtain ⟨f, fd, Fn, hm⟩ := X.d_Host_outside
  refine ⟨f, fd, ["self"], ?_, hm, Fn.binds fun _ _ _ _ _ _ us hl => match us, hl with | [_], _ => rfl, rfl⟩
  have S := sc_Host_outside
  refine fn_pure (sv := b_Host_outside) (N := ["self"]) (ps := ["self"]) Fn S (fun cdv A outer s H E hr => ?_)
  have hx : Passes (L2.CX P w) (cxOf (L2.CX P w) P w C.K mg base ["self"] "Host.outside" (defScope s_Host_outside) f cdv A outer s H E).nox E0 := passL
  have hu : Deep (cxOf (L2.CX P w) P w C.K mg base ["self"] "Host.outside" (defScope s_Host_outside) f cdv A outer s H E).nox := deep_of hr
  exact (sd_one (sd_ret (ed_methC X.T hx (ok_Host_area_list X) (hr.mono (by decide)) (ed_var 0) (ad_cons ed_str ad_nil))))
theorem sc_Host_shelf : FnScope ["self", "places", "place", "node"] ["self"] (defScope s_Host_shelf) := ⟨rfl, rfl, rfl, by decide +kernel, rfl, by decide +kernel, by decide +kernel⟩
theorem ok_Host_shelf (X : Facts C mg base) : MetP P w C mg base C.CH "shelf" 3 1 (spP C 1 D_Host_shelf) := by
  obtain ⟨f, fd, Fn, hm⟩ := X.d_Host_shelf
  refine ⟨f, fd, ["self"], ?_, hm, Fn.binds fun _ _ _ _ _ _ us hl => match us, hl with | [_], _ => rfl, rfl⟩
  have S := sc_Host_shelf
  refine fn_pure (sv := b_Host_shelf) (N := ["self", "places", "place", "node"]) (ps := ["self"]) Fn S (fun cdv A outer s H E hr => ?_)
  have hx : Passes (L2.CX P w) (cxOf (L2.CX P w) P w C.K mg base ["self", "places", "place", "node"] "Host.shelf" (defScope s_Host_shelf) f cdv A outer s H E).nox E0 := passL
  have hu : Deep (cxOf (L2.CX P w) P w C.K mg base ["self", "places", "place", "node"] "Host.shelf" (defScope s_Host_shelf) f cdv A outer s H E).nox := deep_of hr
  exact (sd_cons (sd_set (i := 1) S.nd (ed_sorted X.T hu (ed_lc S.nd (id_N X.T (ed_var 0)) (blkOk_by (own := [("node", 3)]) (N := ["self", "places", "place", "node"]) (sc := defScope s_Host_shelf) (by decide +kernel)) (fun _ _ _ _ _ => pg_name (i := 3) S.nd rfl (by first | exact Or.inl rfl | exact Or.inr rfl)) (fun _ _ _ _ _ => tsd_one (PWd.t (wd_and (td_val (ed_isInt X.T (ed_fld (fld_area X.T) (ed_var 3)))) (wd_and1 (td_eq hu (ed_fld (fld_path X.T) (ed_var 3)) (ed_tup ad_nil)))))) (fun _ _ _ _ _ => (ed_fld (fld_area X.T) (ed_var 3))))))
      (sd_one (sd_ret (ed_lc S.nd (id_L (ed_var 1)) (blkOk_by (own := [("place", 2)]) (N := ["self", "places", "place", "node"]) (sc := defScope s_Host_shelf) (by decide +kernel)) (fun _ _ _ _ _ => pg_name (i := 2) S.nd rfl (by first | exact Or.inl rfl | exact Or.inr rfl)) (fun _ _ _ _ _ => tsd_nil) (fun _ _ _ _ _ => (ed_tup (ad_cons (ed_var 2) (ad_cons (ed_methC X.T passL (ok_Host_area_list X) (hr.mono (by decide)) (ed_var 0) (ad_cons (ed_var 2) ad_nil)) ad_nil))))))))
theorem sc__law_pick : FnScope ["_law_cell", "_law_items"] ["_law_cell", "_law_items"] (defScope s__law_pick) := ⟨rfl, rfl, rfl, by decide +kernel, rfl, by decide +kernel, by decide +kernel⟩
theorem ok__law_pick (X : Facts C mg base) : CalP P w C mg base "_law_pick" 1 2 (spP C 2 D__law_pick) := by
  obtain ⟨f, fd, Fn, hm⟩ := X.d__law_pick
  refine ⟨f, fd, ["_law_cell", "_law_items"], ?_, hm, Fn.kp, Fn.binds fun _ _ _ _ _ _ us hl => match us, hl with | [_, _], _ => rfl, rfl⟩
  have S := sc__law_pick
  refine fn_pure (sv := b__law_pick) (N := ["_law_cell", "_law_items"]) (ps := ["_law_cell", "_law_items"]) Fn S (fun cdv A outer s H E hr => ?_)
  have hx : Passes (L2.CX P w) (cxOf (L2.CX P w) P w C.K mg base ["_law_cell", "_law_items"] "_law_pick" (defScope s__law_pick) f cdv A outer s H E).nox E0 := passL
  have hu : Deep (cxOf (L2.CX P w) P w C.K mg base ["_law_cell", "_law_items"] "_law_pick" (defScope s__law_pick) f cdv A outer s H E).nox := deep_of hr
  exact (sd_one (sd_ret (ed_ix (ed_var 1) (ed_mod (ed_intC X.T (ad_cons (ed_var 0) ad_nil)) (ed_len X.T (ad_cons (ed_var 1) ad_nil))))))
end
end FK
set_option Elab.async false
set_option linter.all false
set_option maxRecDepth 100000
set_option maxHeartbeats 4000000
/-! The walks of the defs, printed by gen.py. -/
namespace FK
open PySem PySem.Spec PyProof.Rows L2
section
variable {C : Cs} {P : Program} {w : World} {mg : Str → Option Value} {base : Heap}
theorem sc__law_text : FnScope ["_law_cell"] ["_law_cell"] (defScope s__law_text) := ⟨rfl, rfl, rfl, by decide +kernel, rfl, by decide +kernel, by decide +kernel⟩
theorem ok__law_text (X : Facts C mg base) : CalP P w C mg base "_law_text" 1 1 (spP C 1 D__law_text) := by
  obtain ⟨f, fd, Fn, hm⟩ := X.d__law_text
  refine ⟨f, fd, ["_law_cell"], ?_, hm, Fn.kp, Fn.binds fun _ _ _ _ _ _ us hl => match us, hl with | [_], _ => rfl, rfl⟩
  have S := sc__law_text
  refine fn_pure (sv := b__law_text) (N := ["_law_cell"]) (ps := ["_law_cell"]) Fn S (fun cdv A outer s H E hr => ?_)
  have hx : Passes (L2.CX P w) (cxOf (L2.CX P w) P w C.K mg base ["_law_cell"] "_law_text" (defScope s__law_text) f cdv A outer s H E).nox E0 := passL
  have hu : Deep (cxOf (L2.CX P w) P w C.K mg base ["_law_cell"] "_law_text" (defScope s__law_text) f cdv A outer s H E).nox := deep_of hr
  exact (sd_one (sd_ret (ed_ix (ed_lst (ad_cons ed_str (ad_cons ed_str (ad_cons ed_str (ad_cons ed_str (ad_cons ed_str (ad_cons ed_str (ad_cons ed_str (ad_cons ed_str ad_nil))))))))) (ed_mod (ed_intC X.T (ad_cons (ed_var 0) ad_nil)) ed_int))))
theorem sc__law_name : FnScope ["_law_cell"] ["_law_cell"] (defScope s__law_name) := ⟨rfl, rfl, rfl, by decide +kernel, rfl, by decide +kernel, by decide +kernel⟩
theorem ok__law_name (X : Facts C mg base) : CalP P w C mg base "_law_name" 1 1 (spP C 1 D__law_name) := by
  obtain ⟨f, fd, Fn, hm⟩ := X.d__law_name
  refine ⟨f, fd, ["_law_cell"], ?_, hm, Fn.kp, Fn.binds fun _ _ _ _ _ _ us hl => match us, hl with | [_], _ => rfl, rfl⟩
  have S := sc__law_name
  refine fn_pure (sv := b__law_name) (N := ["_law_cell"]) (ps := ["_law_cell"]) Fn S (fun cdv A outer s H E hr => ?_)
  have hx : Passes (L2.CX P w) (cxOf (L2.CX P w) P w C.K mg base ["_law_cell"] "_law_name" (defScope s__law_name) f cdv A outer s H E).nox E0 := passL
  have hu : Deep (cxOf (L2.CX P w) P w C.K mg base ["_law_cell"] "_law_name" (defScope s__law_name) f cdv A outer s H E).nox := deep_of hr
  exact (sd_one (sd_ret (ed_ix (ed_lst (ad_cons ed_str (ad_cons ed_str (ad_cons ed_str (ad_cons ed_str (ad_cons ed_str (ad_cons ed_str (ad_cons ed_str (ad_cons ed_str (ad_cons ed_str ad_nil)))))))))) (ed_mod (ed_intC X.T (ad_cons (ed_var 0) ad_nil)) ed_int))))
theorem sc__law_path : FnScope ["_law_cell", "_law_first", "_law_second"] ["_law_cell"] (defScope s__law_path) := ⟨rfl, rfl, rfl, by decide +kernel, rfl, by decide +kernel, by decide +kernel⟩
theorem ok__law_path (X : Facts C mg base) : CalP P w C mg base "_law_path" 2 1 (spP C 1 D__law_path) := by
  obtain ⟨f, fd, Fn, hm⟩ := X.d__law_path
  refine ⟨f, fd, ["_law_cell"], ?_, hm, Fn.kp, Fn.binds fun _ _ _ _ _ _ us hl => match us, hl with | [_], _ => rfl, rfl⟩
  have S := sc__law_path
  refine fn_pure (sv := b__law_path) (N := ["_law_cell", "_law_first", "_law_second"]) (ps := ["_law_cell"]) Fn S (fun cdv A outer s H E hr => ?_)
  have hx : Passes (L2.CX P w) (cxOf (L2.CX P w) P w C.K mg base ["_law_cell", "_law_first", "_law_second"] "_law_path" (defScope s__law_path) f cdv A outer s H E).nox E0 := passL
  have hu : Deep (cxOf (L2.CX P w) P w C.K mg base ["_law_cell", "_law_first", "_law_second"] "_law_path" (defScope s__law_path) f cdv A outer s H E).nox := deep_of hr
  exact (sd_cons (sd_set (i := 1) S.nd (ed_callC hx (ok__law_name X) (hr.mono (by decide)) (ad_cons (ed_var 0) ad_nil)))
      (sd_cons (sd_if (td_eq hu (ed_mod (ed_fdiv (ed_intC X.T (ad_cons (ed_var 0) ad_nil)) ed_int) ed_int) ed_int)
        (sd_one (sd_ret (ed_tup (ad_cons (ed_var 1) ad_nil))))
        sd_nil)
      (sd_cons (sd_set (i := 2) S.nd (ed_callC hx (ok__law_name X) (hr.mono (by decide)) (ad_cons (ed_fdiv (ed_var 0) ed_int) ad_nil)))
      (sd_cons (sd_if (td_lt (ed_mod (ed_fdiv (ed_intC X.T (ad_cons (ed_var 0) ad_nil)) ed_int) ed_int) ed_int)
        (sd_one (sd_ret (ed_tup (ad_cons (ed_var 1) (ad_cons (ed_var 2) ad_nil)))))
        sd_nil)
      (sd_one (sd_ret (ed_tup (ad_cons (ed_var 1) (ad_cons (ed_var 2) (ad_cons (ed_callC hx (ok__law_name X) (hr.mono (by decide)) (ad_cons (ed_fdiv (ed_var 0) ed_int) ad_nil)) ad_nil))))))))))
theorem sc__law_spot : FnScope ["_law_cell", "_law_host", "_law_kind", "_law_path_here"] ["_law_cell", "_law_host"] (defScope s__law_spot) := ⟨rfl, rfl, rfl, by decide +kernel, rfl, by decide +kernel, by decide +kernel⟩
theorem ok__law_spot (X : Facts C mg base) : CalP P w C mg base "_law_spot" 3 2 (spP C 2 D__law_spot) := by
  obtain ⟨f, fd, Fn, hm⟩ := X.d__law_spot
  refine ⟨f, fd, ["_law_cell", "_law_host"], ?_, hm, Fn.kp, Fn.binds fun _ _ _ _ _ _ us hl => match us, hl with | [_, _], _ => rfl, rfl⟩
  have S := sc__law_spot
  refine fn_pure (sv := b__law_spot) (N := ["_law_cell", "_law_host", "_law_kind", "_law_path_here"]) (ps := ["_law_cell", "_law_host"]) Fn S (fun cdv A outer s H E hr => ?_)
  have hx : Passes (L2.CX P w) (cxOf (L2.CX P w) P w C.K mg base ["_law_cell", "_law_host", "_law_kind", "_law_path_here"] "_law_spot" (defScope s__law_spot) f cdv A outer s H E).nox E0 := passL
  have hu : Deep (cxOf (L2.CX P w) P w C.K mg base ["_law_cell", "_law_host", "_law_kind", "_law_path_here"] "_law_spot" (defScope s__law_spot) f cdv A outer s H E).nox := deep_of hr
  exact (sd_cons (sd_set (i := 2) S.nd (ed_mod (ed_intC X.T (ad_cons (ed_var 0) ad_nil)) ed_int))
      (sd_cons (sd_set (i := 3) S.nd (ed_callC hx (ok__law_path X) (hr.mono (by decide)) (ad_cons (ed_fdiv (ed_var 0) ed_int) ad_nil)))
      (sd_cons (sd_if (td_eq hu (ed_var 2) ed_int)
        (sd_one (sd_ret (ed_tup (ad_cons ed_str (ad_cons (ed_var 3) ad_nil)))))
        sd_nil)
      (sd_cons (sd_if (PWd.t (wd_and (td_eq hu (ed_var 2) ed_int) (wd_and1 (td_gt (ed_len X.T (ad_cons (ed_fld (fld_opened X.T) (ed_var 1)) ad_nil)) ed_int))))
        (sd_one (sd_ret (ed_tup (ad_cons (ed_callC hx (ok__law_pick X) (hr.mono (by decide)) (ad_cons (ed_fdiv (ed_var 0) ed_int) (ad_cons (ed_fld (fld_opened X.T) (ed_var 1)) ad_nil))) (ad_cons (ed_var 3) ad_nil)))))
        sd_nil)
      (sd_one (sd_ret (ed_tup (ad_cons ed_str (ad_cons (ed_var 3) ad_nil)))))))))
theorem sc__law_target : FnScope ["_law_cell", "_law_host"] ["_law_cell", "_law_host"] (defScope s__law_target) := ⟨rfl, rfl, rfl, by decide +kernel, rfl, by decide +kernel, by decide +kernel⟩
theorem ok__law_target (X : Facts C mg base) : CalP P w C mg base "_law_target" 4 2 (spP C 2 D__law_target) := by
  obtain ⟨f, fd, Fn, hm⟩ := X.d__law_target
  refine ⟨f, fd, ["_law_cell", "_law_host"], ?_, hm, Fn.kp, Fn.binds fun _ _ _ _ _ _ us hl => match us, hl with | [_, _], _ => rfl, rfl⟩
  have S := sc__law_target
  refine fn_pure (sv := b__law_target) (N := ["_law_cell", "_law_host"]) (ps := ["_law_cell", "_law_host"]) Fn S (fun cdv A outer s H E hr => ?_)
  have hx : Passes (L2.CX P w) (cxOf (L2.CX P w) P w C.K mg base ["_law_cell", "_law_host"] "_law_target" (defScope s__law_target) f cdv A outer s H E).nox E0 := passL
  have hu : Deep (cxOf (L2.CX P w) P w C.K mg base ["_law_cell", "_law_host"] "_law_target" (defScope s__law_target) f cdv A outer s H E).nox := deep_of hr
  exact (sd_cons (sd_if (PWd.t (wd_and (td_eq hu (ed_mod (ed_intC X.T (ad_cons (ed_var 0) ad_nil)) ed_int) ed_int) (wd_and1 (td_gt (ed_len X.T (ad_cons (ed_fld (fld_opened X.T) (ed_var 1)) ad_nil)) ed_int))))
        (sd_one (sd_ret (ed_callC hx (ok__law_pick X) (hr.mono (by decide)) (ad_cons (ed_fdiv (ed_var 0) ed_int) (ad_cons (ed_fld (fld_opened X.T) (ed_var 1)) ad_nil)))))
        sd_nil)
      (sd_one (sd_ret (ed_callC hx (ok__law_spot X) (hr.mono (by decide)) (ad_cons (ed_fdiv (ed_var 0) ed_int) (ad_cons (ed_var 1) ad_nil))))))
theorem sc__law_deed : FnScope ["_law_cell", "_law_host", "_law_kind", "_law_rest", "_law_spot_here"] ["_law_cell", "_law_host"] (defScope s__law_deed) := ⟨rfl, rfl, rfl, by decide +kernel, rfl, by decide +kernel, by decide +kernel⟩
theorem ok__law_deed (X : Facts C mg base) : CalP P w C mg base "_law_deed" 5 2 (spP C 2 D__law_deed) := by
  obtain ⟨f, fd, Fn, hm⟩ := X.d__law_deed
  refine ⟨f, fd, ["_law_cell", "_law_host"], ?_, hm, Fn.kp, Fn.binds fun _ _ _ _ _ _ us hl => match us, hl with | [_, _], _ => rfl, rfl⟩
  have S := sc__law_deed
  refine fn_pure (sv := b__law_deed) (N := ["_law_cell", "_law_host", "_law_kind", "_law_rest", "_law_spot_here"]) (ps := ["_law_cell", "_law_host"]) Fn S (fun cdv A outer s H E hr => ?_)
  have hx : Passes (L2.CX P w) (cxOf (L2.CX P w) P w C.K mg base ["_law_cell", "_law_host", "_law_kind", "_law_rest", "_law_spot_here"] "_law_deed" (defScope s__law_deed) f cdv A outer s H E).nox E0 := passL
  have hu : Deep (cxOf (L2.CX P w) P w C.K mg base ["_law_cell", "_law_host", "_law_kind", "_law_rest", "_law_spot_here"] "_law_deed" (defScope s__law_deed) f cdv A outer s H E).nox := deep_of hr
  exact (sd_cons (sd_set (i := 2) S.nd (ed_mod (ed_intC X.T (ad_cons (ed_var 0) ad_nil)) ed_int))
      (sd_cons (sd_set (i := 3) S.nd (ed_fdiv (ed_var 0) ed_int))
      (sd_cons (sd_set (i := 4) S.nd (ed_callC hx (ok__law_spot X) (hr.mono (by decide)) (ad_cons (ed_var 3) (ad_cons (ed_var 1) ad_nil))))
      (sd_cons (sd_if (td_lt (ed_var 2) ed_int)
        (sd_one (sd_ret (ed_tup (ad_cons ed_str (ad_cons (ed_var 4) (ad_cons (ed_callC hx (ok__law_text X) (hr.mono (by decide)) (ad_cons (ed_fdiv (ed_var 3) ed_int) ad_nil)) (ad_cons (ed_eq hu (ed_mod (ed_fdiv (ed_intC X.T (ad_cons (ed_var 3) ad_nil)) ed_int) ed_int) ed_int) ad_nil)))))))
        sd_nil)
      (sd_cons (sd_if (td_eq hu (ed_var 2) ed_int)
        (sd_one (sd_ret (ed_tup (ad_cons ed_str (ad_cons (ed_var 4) ad_nil)))))
        sd_nil)
      (sd_cons (sd_if (td_eq hu (ed_var 2) ed_int)
        (sd_one (sd_ret (ed_tup (ad_cons ed_str (ad_cons (ed_var 4) ad_nil)))))
        sd_nil)
      (sd_cons (sd_if (td_eq hu (ed_var 2) ed_int)
        (sd_one (sd_ret (ed_tup (ad_cons ed_str (ad_cons (ed_var 4) ad_nil)))))
        sd_nil)
      (sd_cons (sd_if (td_eq hu (ed_var 2) ed_int)
        (sd_one (sd_ret (ed_tup (ad_cons ed_str (ad_cons (ed_var 4) ad_nil)))))
        sd_nil)
      (sd_cons (sd_if (td_lt (ed_var 2) ed_int)
        (sd_one (sd_ret (ed_tup (ad_cons ed_str (ad_cons (ed_var 4) (ad_cons (ed_callC hx (ok__law_spot X) (hr.mono (by decide)) (ad_cons (ed_fdiv (ed_var 3) ed_int) (ad_cons (ed_var 1) ad_nil))) ad_nil))))))
        sd_nil)
      (sd_cons (sd_if (td_eq hu (ed_var 2) ed_int)
        (sd_one (sd_ret (ed_tup (ad_cons ed_str (ad_cons (ed_callC hx (ok__law_target X) (hr.mono (by decide)) (ad_cons (ed_var 3) (ad_cons (ed_var 1) ad_nil))) ad_nil)))))
        sd_nil)
      (sd_cons (sd_if (td_eq hu (ed_var 2) ed_int)
        (sd_one (sd_ret (ed_tup (ad_cons ed_str (ad_cons (ed_callC hx (ok__law_target X) (hr.mono (by decide)) (ad_cons (ed_var 3) (ad_cons (ed_var 1) ad_nil))) (ad_cons (ed_mod (ed_fdiv (ed_intC X.T (ad_cons (ed_var 3) ad_nil)) ed_int) ed_int) (ad_cons (ed_callC hx (ok__law_text X) (hr.mono (by decide)) (ad_cons (ed_fdiv (ed_var 3) ed_int) ad_nil)) ad_nil)))))))
        sd_nil)
      (sd_cons (sd_if (td_eq hu (ed_var 2) ed_int)
        (sd_one (sd_ret (ed_callC hx (ok__law_pick X) (hr.mono (by decide)) (ad_cons (ed_var 3) (ad_cons (ed_lst (ad_cons (ed_tup (ad_cons ed_str (ad_cons (ed_callC hx (ok__law_target X) (hr.mono (by decide)) (ad_cons (ed_fdiv (ed_var 3) ed_int) (ad_cons (ed_var 1) ad_nil))) ad_nil))) (ad_cons (ed_tup (ad_cons ed_str (ad_cons (ed_callC hx (ok__law_target X) (hr.mono (by decide)) (ad_cons (ed_var 3) (ad_cons (ed_var 1) ad_nil))) (ad_cons ed_bl ad_nil)))) ad_nil))) ad_nil)))))
        sd_nil)
      (sd_cons (sd_if (PWd.t (wd_or (td_eq hu (ed_mod (ed_intC X.T (ad_cons (ed_var 3) ad_nil)) ed_int) ed_int) (wd_or1 (td_eq hu (ed_len X.T (ad_cons (ed_fld (fld_opened X.T) (ed_var 1)) ad_nil)) ed_int))))
        (sd_one (sd_ret (ed_tup (ad_cons ed_str (ad_cons (ed_var 4) ad_nil)))))
        sd_nil)
      (sd_one (sd_ret (ed_tup (ad_cons ed_str (ad_cons (ed_callC hx (ok__law_pick X) (hr.mono (by decide)) (ad_cons (ed_fdiv (ed_var 3) ed_int) (ad_cons (ed_fld (fld_opened X.T) (ed_var 1)) ad_nil))) ad_nil))))))))))))))))))
theorem sc__law_as : FnScope ["_law_pairs", "_law_sign", "_law_pair"] ["_law_pairs", "_law_sign"] (defScope s__law_as) := ⟨rfl, rfl, rfl, by decide +kernel, rfl, by decide +kernel, by decide +kernel⟩
theorem ok__law_as (X : Facts C mg base) : CalP P w C mg base "_law_as" 1 2 (spP C 2 D__law_as) := by
  obtain ⟨f, fd, Fn, hm⟩ := X.d__law_as
  refine ⟨f, fd, ["_law_pairs", "_law_sign"], ?_, hm, Fn.kp, Fn.binds fun _ _ _ _ _ _ us hl => match us, hl with | [_, _], _ => rfl, rfl⟩
  have S := sc__law_as
  refine fn_pure (sv := b__law_as) (N := ["_law_pairs", "_law_sign", "_law_pair"]) (ps := ["_law_pairs", "_law_sign"]) Fn S (fun cdv A outer s H E hr => ?_)
  have hx : Passes (L2.CX P w) (cxOf (L2.CX P w) P w C.K mg base ["_law_pairs", "_law_sign", "_law_pair"] "_law_as" (defScope s__law_as) f cdv A outer s H E).nox E0 := passL
  have hu : Deep (cxOf (L2.CX P w) P w C.K mg base ["_law_pairs", "_law_sign", "_law_pair"] "_law_as" (defScope s__law_as) f cdv A outer s H E).nox := deep_of hr
  exact (sd_cons (sd_for (i := 2) PassesOwn.never S.nd (id_T (ed_var 0))
        (sd_one (sd_if (td_eq hu (ed_ix (ed_var 2) ed_int) (ed_var 1))
        (sd_one (sd_ret (ed_ix (ed_var 2) ed_int)))
        sd_nil)))
      (sd_one (sd_ret (ed_var 1))))
theorem sc__law_same : FnScope ["_law_pairs", "_law_first", "_law_second", "_law_k", "_law_one", "_law_two", "_law_at_here"] ["_law_pairs", "_law_first", "_law_second"] (defScope s__law_same) := ⟨rfl, rfl, rfl, by decide +kernel, rfl, by decide +kernel, by decide +kernel⟩
theorem ok__law_same (X : Facts C mg base) : CalP P w C mg base "_law_same" 2 3 (spP C 3 D__law_same) := by
  obtain ⟨f, fd, Fn, hm⟩ := X.d__law_same
  refine ⟨f, fd, ["_law_pairs", "_law_first", "_law_second"], ?_, hm, Fn.kp, Fn.binds fun _ _ _ _ _ _ us hl => match us, hl with | [_, _, _], _ => rfl, rfl⟩
  have S := sc__law_same
  refine fn_pure (sv := b__law_same) (N := ["_law_pairs", "_law_first", "_law_second", "_law_k", "_law_one", "_law_two", "_law_at_here"]) (ps := ["_law_pairs", "_law_first", "_law_second"]) Fn S (fun cdv A outer s H E hr => ?_)
  have hx : Passes (L2.CX P w) (cxOf (L2.CX P w) P w C.K mg base ["_law_pairs", "_law_first", "_law_second", "_law_k", "_law_one", "_law_two", "_law_at_here"] "_law_same" (defScope s__law_same) f cdv A outer s H E).nox E0 := passL
  have hu : Deep (cxOf (L2.CX P w) P w C.K mg base ["_law_pairs", "_law_first", "_law_second", "_law_k", "_law_one", "_law_two", "_law_at_here"] "_law_same" (defScope s__law_same) f cdv A outer s H E).nox := deep_of hr
  exact (sd_cons (sd_if (td_ne hu (ed_len X.T (ad_cons (ed_var 1) ad_nil)) (ed_len X.T (ad_cons (ed_var 2) ad_nil)))
        (sd_one (sd_ret ed_bl))
        sd_nil)
      (sd_cons (sd_for (i := 3) PassesOwn.never S.nd (id_R X.T (ed_len X.T (ad_cons (ed_var 1) ad_nil)) (fun h => pi_range1 rfl X.T.range h))
        (sd_cons (sd_set (i := 4) S.nd (ed_ix (ed_var 1) (ed_var 3)))
      (sd_cons (sd_set (i := 5) S.nd (ed_ix (ed_var 2) (ed_var 3)))
      (sd_cons (sd_if (td_ne hu (ed_len X.T (ad_cons (ed_var 4) ad_nil)) (ed_len X.T (ad_cons (ed_var 5) ad_nil)))
        (sd_one (sd_ret ed_bl))
        sd_nil)
      (sd_one (sd_for (i := 6) PassesOwn.never S.nd (id_R X.T (ed_len X.T (ad_cons (ed_var 4) ad_nil)) (fun h => pi_range1 rfl X.T.range h))
        (sd_one (sd_if (td_ne hu (ed_callC hx (ok__law_as X) (hr.mono (by decide)) (ad_cons (ed_var 0) (ad_cons (ed_ix (ed_var 4) (ed_var 6)) ad_nil))) (ed_callC hx (ok__law_as X) (hr.mono (by decide)) (ad_cons (ed_var 0) (ad_cons (ed_ix (ed_var 5) (ed_var 6)) ad_nil))))
        (sd_one (sd_ret ed_bl))
        sd_nil))))))))
      (sd_one (sd_ret ed_bl))))
theorem sc__law_at : FnScope ["_law_model", "_law_rule_here", "_law_area", "_law_path_here", "_law_row"] ["_law_model", "_law_rule_here", "_law_area", "_law_path_here"] (defScope s__law_at) := ⟨rfl, rfl, rfl, by decide +kernel, rfl, by decide +kernel, by decide +kernel⟩
theorem ok__law_at (X : Facts C mg base) : CalP P w C mg base "_law_at" 3 4 (spP C 4 D__law_at) := by
  obtain ⟨f, fd, Fn, hm⟩ := X.d__law_at
  refine ⟨f, fd, ["_law_model", "_law_rule_here", "_law_area", "_law_path_here"], ?_, hm, Fn.kp, Fn.binds fun _ _ _ _ _ _ us hl => match us, hl with | [_, _, _, _], _ => rfl, rfl⟩
  have S := sc__law_at
  refine fn_pure (sv := b__law_at) (N := ["_law_model", "_law_rule_here", "_law_area", "_law_path_here", "_law_row"]) (ps := ["_law_model", "_law_rule_here", "_law_area", "_law_path_here"]) Fn S (fun cdv A outer s H E hr => ?_)
  have hx : Passes (L2.CX P w) (cxOf (L2.CX P w) P w C.K mg base ["_law_model", "_law_rule_here", "_law_area", "_law_path_here", "_law_row"] "_law_at" (defScope s__law_at) f cdv A outer s H E).nox E0 := passL
  have hu : Deep (cxOf (L2.CX P w) P w C.K mg base ["_law_model", "_law_rule_here", "_law_area", "_law_path_here", "_law_row"] "_law_at" (defScope s__law_at) f cdv A outer s H E).nox := deep_of hr
  exact (sd_cons (sd_for (i := 4) PassesOwn.never S.nd (id_L (ed_var 0))
        (sd_one (sd_if (PWd.t (wd_and (td_eq hu (ed_ix (ed_var 4) ed_int) (ed_var 2)) (wd_and1 (td_val (ed_callC hx (ok__law_same X) (hr.mono (by decide)) (ad_cons (ed_fld (fld_alike X.T) (ed_var 1)) (ad_cons (ed_ix (ed_var 4) ed_int) (ad_cons (ed_var 3) ad_nil))))))))
        (sd_one (sd_ret (ed_var 4)))
        sd_nil)))
      (sd_one (sd_ret ed_non)))
theorem sc__law_above : FnScope ["_law_model", "_law_rule_here", "_law_area", "_law_path_here", "_law_row"] ["_law_model", "_law_rule_here", "_law_area", "_law_path_here"] (defScope s__law_above) := ⟨rfl, rfl, rfl, by decide +kernel, rfl, by decide +kernel, by decide +kernel⟩
theorem ok__law_above (X : Facts C mg base) : CalP P w C mg base "_law_above" 4 4 (spP C 4 D__law_above) := by
  obtain ⟨f, fd, Fn, hm⟩ := X.d__law_above
  refine ⟨f, fd, ["_law_model", "_law_rule_here", "_law_area", "_law_path_here"], ?_, hm, Fn.kp, Fn.binds fun _ _ _ _ _ _ us hl => match us, hl with | [_, _, _, _], _ => rfl, rfl⟩
  have S := sc__law_above
  refine fn_pure (sv := b__law_above) (N := ["_law_model", "_law_rule_here", "_law_area", "_law_path_here", "_law_row"]) (ps := ["_law_model", "_law_rule_here", "_law_area", "_law_path_here"]) Fn S (fun cdv A outer s H E hr => ?_)
  have hx : Passes (L2.CX P w) (cxOf (L2.CX P w) P w C.K mg base ["_law_model", "_law_rule_here", "_law_area", "_law_path_here", "_law_row"] "_law_above" (defScope s__law_above) f cdv A outer s H E).nox E0 := passL
  have hu : Deep (cxOf (L2.CX P w) P w C.K mg base ["_law_model", "_law_rule_here", "_law_area", "_law_path_here", "_law_row"] "_law_above" (defScope s__law_above) f cdv A outer s H E).nox := deep_of hr
  exact (sd_cons (sd_if (PWd.t (wd_and (td_eq hu (ed_var 3) (ed_tup ad_nil)) (wd_and1 (PWd.t (wd_or (td_eq hu (ed_var 2) ed_str) (wd_or1 (td_eq hu (ed_var 2) ed_str)))))))
        (sd_one (sd_ret (ed_tup ad_nil)))
        sd_nil)
      (sd_cons (sd_set (i := 4) S.nd (ed_callC hx (ok__law_at X) (hr.mono (by decide)) (ad_cons (ed_var 0) (ad_cons (ed_var 1) (ad_cons (ed_var 2) (ad_cons (ed_var 3) ad_nil))))))
      (sd_cons (sd_if (PWd.t (wd_or (td_isN (ed_var 4) ed_non) (wd_or1 (td_ne hu (ed_ix (ed_var 4) ed_int) ed_str))))
        (sd_one (sd_ret ed_non))
        sd_nil)
      (sd_one (sd_ret (ed_ix (ed_var 4) ed_int))))))
theorem sc__law_free : FnScope ["_law_model", "_law_rule_here", "_law_area", "_law_path_here", "_law_other", "_law_above_here"] ["_law_model", "_law_rule_here", "_law_area", "_law_path_here"] (defScope s__law_free) := ⟨rfl, rfl, rfl, by decide +kernel, rfl, by decide +kernel, by decide +kernel⟩
theorem ok__law_free (X : Facts C mg base) : CalP P w C mg base "_law_free" 5 4 (spP C 4 D__law_free) := by
  obtain ⟨f, fd, Fn, hm⟩ := X.d__law_free
  refine ⟨f, fd, ["_law_model", "_law_rule_here", "_law_area", "_law_path_here"], ?_, hm, Fn.kp, Fn.binds fun _ _ _ _ _ _ us hl => match us, hl with | [_, _, _, _], _ => rfl, rfl⟩
  have S := sc__law_free
  refine fn_pure (sv := b__law_free) (N := ["_law_model", "_law_rule_here", "_law_area", "_law_path_here", "_law_other", "_law_above_here"]) (ps := ["_law_model", "_law_rule_here", "_law_area", "_law_path_here"]) Fn S (fun cdv A outer s H E hr => ?_)
  have hx : Passes (L2.CX P w) (cxOf (L2.CX P w) P w C.K mg base ["_law_model", "_law_rule_here", "_law_area", "_law_path_here", "_law_other", "_law_above_here"] "_law_free" (defScope s__law_free) f cdv A outer s H E).nox E0 := passL
  have hu : Deep (cxOf (L2.CX P w) P w C.K mg base ["_law_model", "_law_rule_here", "_law_area", "_law_path_here", "_law_other", "_law_above_here"] "_law_free" (defScope s__law_free) f cdv A outer s H E).nox := deep_of hr
  exact (sd_cons (sd_if (PWd.t (wd_or (td_eq hu (ed_var 3) (ed_tup ad_nil)) (wd_or1 (td_notN (ed_callC hx (ok__law_at X) (hr.mono (by decide)) (ad_cons (ed_var 0) (ad_cons (ed_var 1) (ad_cons (ed_var 2) (ad_cons (ed_var 3) ad_nil))))) ed_non))))
        (sd_one (sd_ret ed_non))
        sd_nil)
      (sd_cons (sd_if (td_gt (ed_len X.T (ad_cons (ed_ix (ed_var 3) (ed_neg ed_int)) ad_nil)) (ed_fld (fld_longest X.T) (ed_var 1)))
        (sd_one (sd_ret ed_non))
        sd_nil)
      (sd_cons (sd_for (i := 4) PassesOwn.never S.nd (id_T (ed_fld (fld_unfit X.T) (ed_var 1)))
        (sd_one (sd_if (td_val (ed_callC hx (ok__law_same X) (hr.mono (by decide)) (ad_cons (ed_fld (fld_alike X.T) (ed_var 1)) (ad_cons (ed_tup (ad_cons (ed_var 4) ad_nil)) (ad_cons (ed_tup (ad_cons (ed_ix (ed_var 3) (ed_neg ed_int)) ad_nil)) ad_nil)))))
        (sd_one (sd_ret ed_non))
        sd_nil)))
      (sd_cons (sd_set (i := 5) S.nd (ed_callC hx (ok__law_above X) (hr.mono (by decide)) (ad_cons (ed_var 0) (ad_cons (ed_var 1) (ad_cons (ed_var 2) (ad_cons (ed_sl (ed_var 3) od_none (od_some (ed_neg ed_int))) ad_nil))))))
      (sd_cons (sd_if (td_isN (ed_var 5) ed_non)
        (sd_one (sd_ret ed_non))
        sd_nil)
      (sd_one (sd_ret (ed_add (ed_var 5) (ed_tup (ad_cons (ed_ix (ed_var 3) (ed_neg ed_int)) ad_nil))))))))))
end
end FK
set_option Elab.async false
set_option linter.all false
set_option maxRecDepth 100000
set_option maxHeartbeats 4000000
/-! The walks of the defs, printed by gen.py. -/
namespace FK
open PySem PySem.Spec PyProof.Rows L2
section
variable {C : Cs} {P : Program} {w : World} {mg : Str → Option Value} {base : Heap}
theorem sc__law_moved : FnScope ["_law_model", "_law_row", "_law_area", "_law_path_here", "_law_old", "_law_result", "_law_other"] ["_law_model", "_law_row", "_law_area", "_law_path_here"] (defScope s__law_moved) := ⟨rfl, rfl, rfl, by decide +kernel, rfl, by decide +kernel, by decide +kernel⟩
theorem ok__law_moved (X : Facts C mg base) : CalP P w C mg base "_law_moved" 1 4 (spP C 4 D__law_moved) := by
  obtain ⟨f, fd, Fn, hm⟩ := X.d__law_moved
  refine ⟨f, fd, ["_law_model", "_law_row", "_law_area", "_law_path_here"], ?_, hm, Fn.kp, Fn.binds fun _ _ _ _ _ _ us hl => match us, hl with | [_, _, _, _], _ => rfl, rfl⟩
  have S := sc__law_moved
  refine fn_pure (sv := b__law_moved) (N := ["_law_model", "_law_row", "_law_area", "_law_path_here", "_law_old", "_law_result", "_law_other"]) (ps := ["_law_model", "_law_row", "_law_area", "_law_path_here"]) Fn S (fun cdv A outer s H E hr => ?_)
  have hx : Passes (L2.CX P w) (cxOf (L2.CX P w) P w C.K mg base ["_law_model", "_law_row", "_law_area", "_law_path_here", "_law_old", "_law_result", "_law_other"] "_law_moved" (defScope s__law_moved) f cdv A outer s H E).nox E0 := passL
  have hu : Deep (cxOf (L2.CX P w) P w C.K mg base ["_law_model", "_law_row", "_law_area", "_law_path_here", "_law_old", "_law_result", "_law_other"] "_law_moved" (defScope s__law_moved) f cdv A outer s H E).nox := deep_of hr
  exact (sd_cons (sd_set (i := 4) S.nd (ed_tup (ad_cons (ed_ix (ed_var 1) ed_int) (ad_cons (ed_ix (ed_var 1) ed_int) ad_nil))))
      (sd_acc (i := 6) (j := 5) PassesOwn.never S.nd (id_L (ed_var 0)) (pss_cons (ps_if (PTd.can (PWd.t (wd_and (td_eq hu (ed_ix (ed_var 6) ed_int) (ed_ix (ed_var 4) ed_int)) (wd_and1 (td_eq hu (ed_sl (ed_ix (ed_var 6) ed_int) od_none (od_some (ed_len X.T (ad_cons (ed_ix (ed_var 4) ed_int) ad_nil)))) (ed_ix (ed_var 4) ed_int)))))) (pss_one (ps_set (i := 6) S.nd rfl (by first | exact Or.inl rfl | exact Or.inr rfl) (PEd.can (ed_lst (ad_cons (ed_var 2) (ad_cons (ed_add (ed_var 3) (ed_sl (ed_ix (ed_var 6) ed_int) (od_some (ed_len X.T (ad_cons (ed_ix (ed_var 4) ed_int) ad_nil))) od_none)) (ad_cons (ed_ix (ed_var 6) ed_int) (ad_cons (ed_ix (ed_var 6) ed_int) (ad_cons (ed_ix (ed_var 6) ed_int) (ad_cons (ed_ix (ed_var 6) ed_int) (ad_cons (ed_ix (ed_var 6) ed_int) (ad_cons (ed_ix (ed_var 6) ed_int) (ad_cons ed_bl ad_nil))))))))))))) pss_nil) (pss_one (ps_expr (pe_bm PySem.F.plainAttrs_list PySem.F.slot_list_append PySem.F.type_list_append mt_append (pv 5) (pa_cons (pv 6) pa_nil))))) (accB_map (i := 6) (j := 5) (tv := (tvAnd (tOfV (vBin eqD (vBin ixD (vVar 6) (vC (.int 0))) (vBin ixD (vVar 4) (vC (.int 0))))) (tOfV (vBin eqD (vSl (vBin ixD (vVar 6) (vC (.int 1))) oNone (oSome (vApp lenD (vCons (vBin ixD (vVar 4) (vC (.int 1))) vNil)))) (vBin ixD (vVar 4) (vC (.int 1))))))) (ev := (vLst (vCons (vVar 2) (vCons (vBin addD (vVar 3) (vSl (vBin ixD (vVar 6) (vC (.int 1))) (oSome (vApp lenD (vCons (vBin ixD (vVar 4) (vC (.int 1))) vNil))) oNone)) (vCons (vBin ixD (vVar 6) (vC (.int 2))) (vCons (vBin ixD (vVar 6) (vC (.int 3))) (vCons (vBin ixD (vVar 6) (vC (.int 4))) (vCons (vBin ixD (vVar 6) (vC (.int 5))) (vCons (vBin ixD (vVar 6) (vC (.int 6))) (vCons (vBin ixD (vVar 6) (vC (.int 7))) (vCons (vC (.bl false)) vNil))))))))))) rfl (by decide))
      (sd_one (sd_ret (ed_var 5)))))
theorem sc__law_filled : FnScope ["_law_model", "_law_row", "_law_other"] ["_law_model", "_law_row"] (defScope s__law_filled) := ⟨rfl, rfl, rfl, by decide +kernel, rfl, by decide +kernel, by decide +kernel⟩
theorem ok__law_filled (X : Facts C mg base) : CalP P w C mg base "_law_filled" 1 2 (spP C 2 D__law_filled) := by
  obtain ⟨f, fd, Fn, hm⟩ := X.d__law_filled
  refine ⟨f, fd, ["_law_model", "_law_row"], ?_, hm, Fn.kp, Fn.binds fun _ _ _ _ _ _ us hl => match us, hl with | [_, _], _ => rfl, rfl⟩
  have S := sc__law_filled
  refine fn_pure (sv := b__law_filled) (N := ["_law_model", "_law_row", "_law_other"]) (ps := ["_law_model", "_law_row"]) Fn S (fun cdv A outer s H E hr => ?_)
  have hx : Passes (L2.CX P w) (cxOf (L2.CX P w) P w C.K mg base ["_law_model", "_law_row", "_law_other"] "_law_filled" (defScope s__law_filled) f cdv A outer s H E).nox E0 := passL
  have hu : Deep (cxOf (L2.CX P w) P w C.K mg base ["_law_model", "_law_row", "_law_other"] "_law_filled" (defScope s__law_filled) f cdv A outer s H E).nox := deep_of hr
  exact (sd_cons (sd_for (i := 2) PassesOwn.never S.nd (id_L (ed_var 0))
        (sd_one (sd_if (PWd.t (wd_and (td_eq hu (ed_ix (ed_var 2) ed_int) (ed_ix (ed_var 1) ed_int)) (wd_and (td_eq hu (ed_sl (ed_ix (ed_var 2) ed_int) od_none (od_some (ed_len X.T (ad_cons (ed_ix (ed_var 1) ed_int) ad_nil)))) (ed_ix (ed_var 1) ed_int)) (wd_and1 (td_gt (ed_len X.T (ad_cons (ed_ix (ed_var 2) ed_int) ad_nil)) (ed_len X.T (ad_cons (ed_ix (ed_var 1) ed_int) ad_nil)))))))
        (sd_one (sd_ret ed_bl))
        sd_nil)))
      (sd_one (sd_ret ed_bl)))
theorem sc__law_spot_of : FnScope ["_law_state", "_law_rule_here", "_law_spot_here", "_law_row"] ["_law_state", "_law_rule_here", "_law_spot_here"] (defScope s__law_spot_of) := ⟨rfl, rfl, rfl, by decide +kernel, rfl, by decide +kernel, by decide +kernel⟩
theorem ok__law_spot_of (X : Facts C mg base) : CalP P w C mg base "_law_spot_of" 1 3 (spP C 3 D__law_spot_of) := by
  obtain ⟨f, fd, Fn, hm⟩ := X.d__law_spot_of
  refine ⟨f, fd, ["_law_state", "_law_rule_here", "_law_spot_here"], ?_, hm, Fn.kp, Fn.binds fun _ _ _ _ _ _ us hl => match us, hl with | [_, _, _], _ => rfl, rfl⟩
  have S := sc__law_spot_of
  refine fn_pure (sv := b__law_spot_of) (N := ["_law_state", "_law_rule_here", "_law_spot_here", "_law_row"]) (ps := ["_law_state", "_law_rule_here", "_law_spot_here"]) Fn S (fun cdv A outer s H E hr => ?_)
  have hx : Passes (L2.CX P w) (cxOf (L2.CX P w) P w C.K mg base ["_law_state", "_law_rule_here", "_law_spot_here", "_law_row"] "_law_spot_of" (defScope s__law_spot_of) f cdv A outer s H E).nox E0 := passL
  have hu : Deep (cxOf (L2.CX P w) P w C.K mg base ["_law_state", "_law_rule_here", "_law_spot_here", "_law_row"] "_law_spot_of" (defScope s__law_spot_of) f cdv A outer s H E).nox := deep_of hr
  exact (sd_cons (sd_if (td_eq hu (ed_ix (ed_var 2) ed_int) (ed_tup ad_nil))
        (sd_one (sd_ret ed_non))
        sd_nil)
      (sd_cons (sd_if (td_val (ed_isStr X.T (ed_ix (ed_var 2) ed_int)))
        (sd_one (sd_ret (ed_tup (ad_cons (ed_ix (ed_var 2) ed_int) (ad_cons (ed_ix (ed_var 2) ed_int) ad_nil)))))
        sd_nil)
      (sd_cons (sd_for (i := 3) PassesOwn.never S.nd (id_L (ed_ix (ed_var 0) ed_int))
        (sd_one (sd_if (PWd.t (wd_and (td_eq hu (ed_ix (ed_var 3) ed_int) (ed_ix (ed_var 2) ed_int)) (wd_and (td_eq hu (ed_ix (ed_var 3) ed_int) ed_str) (wd_and1 (td_inL hu (ed_ix (ed_var 2) ed_int) (ed_ix (ed_var 0) ed_int))))))
        (sd_one (sd_ret (ed_tup (ad_cons (ed_ix (ed_var 3) ed_int) (ad_cons (ed_add (ed_ix (ed_var 3) ed_int) (ed_ix (ed_var 2) ed_int)) ad_nil)))))
        sd_nil)))
      (sd_one (sd_ret ed_non)))))
theorem sc__law_row_at : FnScope ["_law_state", "_law_rule_here", "_law_spot_here", "_law_place"] ["_law_state", "_law_rule_here", "_law_spot_here"] (defScope s__law_row_at) := ⟨rfl, rfl, rfl, by decide +kernel, rfl, by decide +kernel, by decide +kernel⟩
theorem ok__law_row_at (X : Facts C mg base) : CalP P w C mg base "_law_row_at" 4 3 (spP C 3 D__law_row_at) := by
  obtain ⟨f, fd, Fn, hm⟩ := X.d__law_row_at
  refine ⟨f, fd, ["_law_state", "_law_rule_here", "_law_spot_here"], ?_, hm, Fn.kp, Fn.binds fun _ _ _ _ _ _ us hl => match us, hl with | [_, _, _], _ => rfl, rfl⟩
  have S := sc__law_row_at
  refine fn_pure (sv := b__law_row_at) (N := ["_law_state", "_law_rule_here", "_law_spot_here", "_law_place"]) (ps := ["_law_state", "_law_rule_here", "_law_spot_here"]) Fn S (fun cdv A outer s H E hr => ?_)
  have hx : Passes (L2.CX P w) (cxOf (L2.CX P w) P w C.K mg base ["_law_state", "_law_rule_here", "_law_spot_here", "_law_place"] "_law_row_at" (defScope s__law_row_at) f cdv A outer s H E).nox E0 := passL
  have hu : Deep (cxOf (L2.CX P w) P w C.K mg base ["_law_state", "_law_rule_here", "_law_spot_here", "_law_place"] "_law_row_at" (defScope s__law_row_at) f cdv A outer s H E).nox := deep_of hr
  exact (sd_cons (sd_set (i := 3) S.nd (ed_callC hx (ok__law_spot_of X) (hr.mono (by decide)) (ad_cons (ed_var 0) (ad_cons (ed_var 1) (ad_cons (ed_var 2) ad_nil)))))
      (sd_cons (sd_if (td_isN (ed_var 3) ed_non)
        (sd_one (sd_ret ed_non))
        sd_nil)
      (sd_one (sd_ret (ed_callC hx (ok__law_at X) (hr.mono (by decide)) (ad_cons (ed_ix (ed_var 0) ed_int) (ad_cons (ed_var 1) (ad_cons (ed_ix (ed_var 3) ed_int) (ad_cons (ed_ix (ed_var 3) ed_int) ad_nil)))))))))
theorem sc__law_file_at : FnScope ["_law_state", "_law_rule_here", "_law_target_here", "_law_row"] ["_law_state", "_law_rule_here", "_law_target_here"] (defScope s__law_file_at) := ⟨rfl, rfl, rfl, by decide +kernel, rfl, by decide +kernel, by decide +kernel⟩
theorem ok__law_file_at (X : Facts C mg base) : CalP P w C mg base "_law_file_at" 5 3 (spP C 3 D__law_file_at) := by
  obtain ⟨f, fd, Fn, hm⟩ := X.d__law_file_at
  refine ⟨f, fd, ["_law_state", "_law_rule_here", "_law_target_here"], ?_, hm, Fn.kp, Fn.binds fun _ _ _ _ _ _ us hl => match us, hl with | [_, _, _], _ => rfl, rfl⟩
  have S := sc__law_file_at
  refine fn_pure (sv := b__law_file_at) (N := ["_law_state", "_law_rule_here", "_law_target_here", "_law_row"]) (ps := ["_law_state", "_law_rule_here", "_law_target_here"]) Fn S (fun cdv A outer s H E hr => ?_)
  have hx : Passes (L2.CX P w) (cxOf (L2.CX P w) P w C.K mg base ["_law_state", "_law_rule_here", "_law_target_here", "_law_row"] "_law_file_at" (defScope s__law_file_at) f cdv A outer s H E).nox E0 := passL
  have hu : Deep (cxOf (L2.CX P w) P w C.K mg base ["_law_state", "_law_rule_here", "_law_target_here", "_law_row"] "_law_file_at" (defScope s__law_file_at) f cdv A outer s H E).nox := deep_of hr
  exact (sd_cons (sd_if (td_val (ed_isInt X.T (ed_var 2)))
        (sd_cons (sd_for (i := 3) PassesOwn.never S.nd (id_L (ed_ix (ed_var 0) ed_int))
        (sd_one (sd_if (PWd.t (wd_and (td_eq hu (ed_ix (ed_var 3) ed_int) (ed_var 2)) (wd_and (td_eq hu (ed_ix (ed_var 3) ed_int) ed_str) (wd_and1 (td_inL hu (ed_var 2) (ed_ix (ed_var 0) ed_int))))))
        (sd_one (sd_ret (ed_var 3)))
        sd_nil)))
      (sd_one (sd_ret ed_non)))
        sd_nil)
      (sd_cons (sd_set (i := 3) S.nd (ed_callC hx (ok__law_row_at X) (hr.mono (by decide)) (ad_cons (ed_var 0) (ad_cons (ed_var 1) (ad_cons (ed_var 2) ad_nil)))))
      (sd_cons (sd_if (PWd.t (wd_or (td_isN (ed_var 3) ed_non) (wd_or1 (td_ne hu (ed_ix (ed_var 3) ed_int) ed_str))))
        (sd_one (sd_ret ed_non))
        sd_nil)
      (sd_one (sd_ret (ed_var 3))))))
theorem sc__law_put : FnScope ["_law_state", "_law_area", "_law_path_here", "_law_kind", "_law_text_here", "_law_runs", "_law_staged", "_law_fresh"] ["_law_state", "_law_area", "_law_path_here", "_law_kind", "_law_text_here", "_law_runs", "_law_staged"] (defScope s__law_put) := ⟨rfl, rfl, rfl, by decide +kernel, rfl, by decide +kernel, by decide +kernel⟩
theorem ok__law_put (X : Facts C mg base) : CalP P w C mg base "_law_put" 1 7 (spP C 7 D__law_put) := by
  obtain ⟨f, fd, Fn, hm⟩ := X.d__law_put
  refine ⟨f, fd, ["_law_state", "_law_area", "_law_path_here", "_law_kind", "_law_text_here", "_law_runs", "_law_staged"], ?_, hm, Fn.kp, Fn.binds fun _ _ _ _ _ _ us hl => match us, hl with | [_, _, _, _, _, _, _], _ => rfl, rfl⟩
  have S := sc__law_put
  refine fn_pure (sv := b__law_put) (N := ["_law_state", "_law_area", "_law_path_here", "_law_kind", "_law_text_here", "_law_runs", "_law_staged", "_law_fresh"]) (ps := ["_law_state", "_law_area", "_law_path_here", "_law_kind", "_law_text_here", "_law_runs", "_law_staged"]) Fn S (fun cdv A outer s H E hr => ?_)
  have hx : Passes (L2.CX P w) (cxOf (L2.CX P w) P w C.K mg base ["_law_state", "_law_area", "_law_path_here", "_law_kind", "_law_text_here", "_law_runs", "_law_staged", "_law_fresh"] "_law_put" (defScope s__law_put) f cdv A outer s H E).nox E0 := passL
  have hu : Deep (cxOf (L2.CX P w) P w C.K mg base ["_law_state", "_law_area", "_law_path_here", "_law_kind", "_law_text_here", "_law_runs", "_law_staged", "_law_fresh"] "_law_put" (defScope s__law_put) f cdv A outer s H E).nox := deep_of hr
  exact (sd_cons (sd_set (i := 7) S.nd (ed_lst (ad_cons (ed_var 1) (ad_cons (ed_var 2) (ad_cons (ed_ix (ed_var 0) ed_int) (ad_cons (ed_var 3) (ad_cons (ed_var 4) (ad_cons (ed_var 5) (ad_cons ed_int (ad_cons ed_int (ad_cons (ed_var 6) ad_nil)))))))))))
      (sd_one (sd_ret (ed_lst (ad_cons (ed_add (ed_ix (ed_var 0) ed_int) (ed_lst (ad_cons (ed_var 7) ad_nil))) (ad_cons (ed_ix (ed_var 0) ed_int) (ad_cons (ed_add (ed_ix (ed_var 0) ed_int) ed_int) (ad_cons (ed_add (ed_ix (ed_var 0) ed_int) ed_int) (ad_cons (ed_ix (ed_var 0) ed_int) ad_nil)))))))))
theorem sc__law_gone : FnScope ["_law_state", "_law_thing", "_law_row"] ["_law_state", "_law_thing"] (defScope s__law_gone) := ⟨rfl, rfl, rfl, by decide +kernel, rfl, by decide +kernel, by decide +kernel⟩
theorem ok__law_gone (X : Facts C mg base) : CalP P w C mg base "_law_gone" 1 2 (spP C 2 D__law_gone) := by
  obtain ⟨f, fd, Fn, hm⟩ := X.d__law_gone
  refine ⟨f, fd, ["_law_state", "_law_thing"], ?_, hm, Fn.kp, Fn.binds fun _ _ _ _ _ _ us hl => match us, hl with | [_, _], _ => rfl, rfl⟩
  have S := sc__law_gone
  refine fn_pure (sv := b__law_gone) (N := ["_law_state", "_law_thing", "_law_row"]) (ps := ["_law_state", "_law_thing"]) Fn S (fun cdv A outer s H E hr => ?_)
  have hx : Passes (L2.CX P w) (cxOf (L2.CX P w) P w C.K mg base ["_law_state", "_law_thing", "_law_row"] "_law_gone" (defScope s__law_gone) f cdv A outer s H E).nox E0 := passL
  have hu : Deep (cxOf (L2.CX P w) P w C.K mg base ["_law_state", "_law_thing", "_law_row"] "_law_gone" (defScope s__law_gone) f cdv A outer s H E).nox := deep_of hr
  exact (sd_one (sd_ret (ed_lst (ad_cons (ed_lc S.nd (id_L (ed_ix (ed_var 0) ed_int)) (blkOk_by (own := [("_law_row", 2)]) (N := ["_law_state", "_law_thing", "_law_row"]) (sc := defScope s__law_gone) (by decide +kernel)) (fun _ _ _ _ _ => pg_name (i := 2) S.nd rfl (by first | exact Or.inl rfl | exact Or.inr rfl)) (fun _ _ _ _ _ => tsd_one (td_ne hu (ed_ix (ed_var 2) ed_int) (ed_var 1))) (fun _ _ _ _ _ => (ed_var 2))) (ad_cons (ed_ix (ed_var 0) ed_int) (ad_cons (ed_ix (ed_var 0) ed_int) (ad_cons (ed_add (ed_ix (ed_var 0) ed_int) ed_int) (ad_cons (ed_ix (ed_var 0) ed_int) ad_nil))))))))
theorem sc__law_carried : FnScope ["_law_state", "_law_row", "_law_area", "_law_path_here"] ["_law_state", "_law_row", "_law_area", "_law_path_here"] (defScope s__law_carried) := ⟨rfl, rfl, rfl, by decide +kernel, rfl, by decide +kernel, by decide +kernel⟩
theorem ok__law_carried (X : Facts C mg base) : CalP P w C mg base "_law_carried" 2 4 (spP C 4 D__law_carried) := by
  obtain ⟨f, fd, Fn, hm⟩ := X.d__law_carried
  refine ⟨f, fd, ["_law_state", "_law_row", "_law_area", "_law_path_here"], ?_, hm, Fn.kp, Fn.binds fun _ _ _ _ _ _ us hl => match us, hl with | [_, _, _, _], _ => rfl, rfl⟩
  have S := sc__law_carried
  refine fn_pure (sv := b__law_carried) (N := ["_law_state", "_law_row", "_law_area", "_law_path_here"]) (ps := ["_law_state", "_law_row", "_law_area", "_law_path_here"]) Fn S (fun cdv A outer s H E hr => ?_)
  have hx : Passes (L2.CX P w) (cxOf (L2.CX P w) P w C.K mg base ["_law_state", "_law_row", "_law_area", "_law_path_here"] "_law_carried" (defScope s__law_carried) f cdv A outer s H E).nox E0 := passL
  have hu : Deep (cxOf (L2.CX P w) P w C.K mg base ["_law_state", "_law_row", "_law_area", "_law_path_here"] "_law_carried" (defScope s__law_carried) f cdv A outer s H E).nox := deep_of hr
  exact (sd_one (sd_ret (ed_lst (ad_cons (ed_callC hx (ok__law_moved X) (hr.mono (by decide)) (ad_cons (ed_ix (ed_var 0) ed_int) (ad_cons (ed_var 1) (ad_cons (ed_var 2) (ad_cons (ed_var 3) ad_nil))))) (ad_cons (ed_ix (ed_var 0) ed_int) (ad_cons (ed_ix (ed_var 0) ed_int) (ad_cons (ed_add (ed_ix (ed_var 0) ed_int) ed_int) (ad_cons (ed_ix (ed_var 0) ed_int) ad_nil))))))))
theorem sc__law_with_text : FnScope ["_law_state", "_law_row", "_law_text_here", "_law_runs", "_law_cuts_here", "_law_model", "_law_other"] ["_law_state", "_law_row", "_law_text_here", "_law_runs", "_law_cuts_here"] (defScope s__law_with_text) := ⟨rfl, rfl, rfl, by decide +kernel, rfl, by decide +kernel, by decide +kernel⟩
theorem ok__law_with_text (X : Facts C mg base) : CalP P w C mg base "_law_with_text" 1 5 (spP C 5 D__law_with_text) := by
  obtain ⟨f, fd, Fn, hm⟩ := X.d__law_with_text
  refine ⟨f, fd, ["_law_state", "_law_row", "_law_text_here", "_law_runs", "_law_cuts_here"], ?_, hm, Fn.kp, Fn.binds fun _ _ _ _ _ _ us hl => match us, hl with | [_, _, _, _, _], _ => rfl, rfl⟩
  have S := sc__law_with_text
  refine fn_pure (sv := b__law_with_text) (N := ["_law_state", "_law_row", "_law_text_here", "_law_runs", "_law_cuts_here", "_law_model", "_law_other"]) (ps := ["_law_state", "_law_row", "_law_text_here", "_law_runs", "_law_cuts_here"]) Fn S (fun cdv A outer s H E hr => ?_)
  have hx : Passes (L2.CX P w) (cxOf (L2.CX P w) P w C.K mg base ["_law_state", "_law_row", "_law_text_here", "_law_runs", "_law_cuts_here", "_law_model", "_law_other"] "_law_with_text" (defScope s__law_with_text) f cdv A outer s H E).nox E0 := passL
  have hu : Deep (cxOf (L2.CX P w) P w C.K mg base ["_law_state", "_law_row", "_law_text_here", "_law_runs", "_law_cuts_here", "_law_model", "_law_other"] "_law_with_text" (defScope s__law_with_text) f cdv A outer s H E).nox := deep_of hr
  exact (sd_acc (i := 6) (j := 5) PassesOwn.never S.nd (id_L (ed_ix (ed_var 0) ed_int)) (pss_cons (ps_if (PTd.can (td_eq hu (ed_ix (ed_var 6) ed_int) (ed_ix (ed_var 1) ed_int))) (pss_one (ps_set (i := 6) S.nd rfl (by first | exact Or.inl rfl | exact Or.inr rfl) (PEd.can (ed_lst (ad_cons (ed_ix (ed_var 1) ed_int) (ad_cons (ed_ix (ed_var 1) ed_int) (ad_cons (ed_ix (ed_var 1) ed_int) (ad_cons (ed_ix (ed_var 1) ed_int) (ad_cons (ed_var 2) (ad_cons (ed_var 3) (ad_cons (ed_add (ed_ix (ed_var 1) ed_int) ed_int) (ad_cons (ed_add (ed_ix (ed_var 1) ed_int) (ed_var 4)) (ad_cons (ed_ix (ed_var 1) ed_int) ad_nil))))))))))))) pss_nil) (pss_one (ps_expr (pe_bm PySem.F.plainAttrs_list PySem.F.slot_list_append PySem.F.type_list_append mt_append (pv 5) (pa_cons (pv 6) pa_nil))))) (accB_map (i := 6) (j := 5) (tv := (tOfV (vBin eqD (vBin ixD (vVar 6) (vC (.int 2))) (vBin ixD (vVar 1) (vC (.int 2)))))) (ev := (vLst (vCons (vBin ixD (vVar 1) (vC (.int 0))) (vCons (vBin ixD (vVar 1) (vC (.int 1))) (vCons (vBin ixD (vVar 1) (vC (.int 2))) (vCons (vBin ixD (vVar 1) (vC (.int 3))) (vCons (vVar 2) (vCons (vVar 3) (vCons (vBin addD (vBin ixD (vVar 1) (vC (.int 6))) (vC (.int 1))) (vCons (vBin addD (vBin ixD (vVar 1) (vC (.int 7))) (vVar 4)) (vCons (vBin ixD (vVar 1) (vC (.int 8))) vNil))))))))))) rfl (by decide))
      (sd_one (sd_ret (ed_lst (ad_cons (ed_var 5) (ad_cons (ed_ix (ed_var 0) ed_int) (ad_cons (ed_ix (ed_var 0) ed_int) (ad_cons (ed_ix (ed_var 0) ed_int) (ad_cons (ed_ix (ed_var 0) ed_int) ad_nil)))))))))
theorem sc__law_renamed : FnScope ["_law_state", "_law_rule_here", "_law_spot_here", "_law_goal", "_law_row", "_law_place", "_law_other", "_law_free_here", "_law_name_here", "_law_unfit", "_law_word"] ["_law_state", "_law_rule_here", "_law_spot_here", "_law_goal"] (defScope s__law_renamed) := ⟨rfl, rfl, rfl, by decide +kernel, rfl, by decide +kernel, by decide +kernel⟩
theorem ok__law_renamed (X : Facts C mg base) : CalP P w C mg base "_law_renamed" 6 4 (spP C 4 D__law_renamed) := by
  obtain ⟨f, fd, Fn, hm⟩ := X.d__law_renamed
  refine ⟨f, fd, ["_law_state", "_law_rule_here", "_law_spot_here", "_law_goal"], ?_, hm, Fn.kp, Fn.binds fun _ _ _ _ _ _ us hl => match us, hl with | [_, _, _, _], _ => rfl, rfl⟩
  have S := sc__law_renamed
  refine fn_pure (sv := b__law_renamed) (N := ["_law_state", "_law_rule_here", "_law_spot_here", "_law_goal", "_law_row", "_law_place", "_law_other", "_law_free_here", "_law_name_here", "_law_unfit", "_law_word"]) (ps := ["_law_state", "_law_rule_here", "_law_spot_here", "_law_goal"]) Fn S (fun cdv A outer s H E hr => ?_)
  have hx : Passes (L2.CX P w) (cxOf (L2.CX P w) P w C.K mg base ["_law_state", "_law_rule_here", "_law_spot_here", "_law_goal", "_law_row", "_law_place", "_law_other", "_law_free_here", "_law_name_here", "_law_unfit", "_law_word"] "_law_renamed" (defScope s__law_renamed) f cdv A outer s H E).nox E0 := passL
  have hu : Deep (cxOf (L2.CX P w) P w C.K mg base ["_law_state", "_law_rule_here", "_law_spot_here", "_law_goal", "_law_row", "_law_place", "_law_other", "_law_free_here", "_law_name_here", "_law_unfit", "_law_word"] "_law_renamed" (defScope s__law_renamed) f cdv A outer s H E).nox := deep_of hr
  exact (sd_cons (sd_set (i := 4) S.nd (ed_callC hx (ok__law_row_at X) (hr.mono (by decide)) (ad_cons (ed_var 0) (ad_cons (ed_var 1) (ad_cons (ed_var 2) ad_nil)))))
      (sd_cons (sd_set (i := 5) S.nd (ed_callC hx (ok__law_spot_of X) (hr.mono (by decide)) (ad_cons (ed_var 0) (ad_cons (ed_var 1) (ad_cons (ed_var 3) ad_nil)))))
      (sd_cons (sd_if (PWd.t (wd_or (td_isN (ed_var 4) ed_non) (wd_or1 (td_isN (ed_var 5) ed_non))))
        (sd_one (sd_ret ed_non))
        sd_nil)
      (sd_cons (sd_set (i := 6) S.nd (ed_callC hx (ok__law_at X) (hr.mono (by decide)) (ad_cons (ed_ix (ed_var 0) ed_int) (ad_cons (ed_var 1) (ad_cons (ed_ix (ed_var 5) ed_int) (ad_cons (ed_ix (ed_var 5) ed_int) ad_nil))))))
      (sd_cons (sd_if (td_isN (ed_var 6) ed_non)
        (sd_cons (sd_set (i := 7) S.nd (ed_callC hx (ok__law_free X) (hr.mono (by decide)) (ad_cons (ed_ix (ed_var 0) ed_int) (ad_cons (ed_var 1) (ad_cons (ed_ix (ed_var 5) ed_int) (ad_cons (ed_ix (ed_var 5) ed_int) ad_nil))))))
      (sd_cons (sd_if (PWd.t (wd_or (td_isN (ed_var 7) ed_non) (wd_or1 (PWd.t (wd_and (td_eq hu (ed_ix (ed_var 5) ed_int) (ed_ix (ed_var 4) ed_int)) (wd_and1 (td_eq hu (ed_sl (ed_var 7) od_none (od_some (ed_len X.T (ad_cons (ed_ix (ed_var 4) ed_int) ad_nil)))) (ed_ix (ed_var 4) ed_int))))))))
        (sd_one (sd_ret ed_non))
        sd_nil)
      (sd_one (sd_ret (ed_callC hx (ok__law_carried X) (hr.mono (by decide)) (ad_cons (ed_var 0) (ad_cons (ed_var 4) (ad_cons (ed_ix (ed_var 5) ed_int) (ad_cons (ed_var 7) ad_nil)))))))))
        sd_nil)
      (sd_cons (sd_if (td_eq hu (ed_ix (ed_var 6) ed_int) (ed_ix (ed_var 4) ed_int))
        (sd_cons (sd_set (i := 8) S.nd (ed_ix (ed_ix (ed_var 5) ed_int) (ed_neg ed_int)))
      (sd_cons (sd_setLc (j := 9) S.nd (id_T (ed_fld (fld_unfit X.T) (ed_var 1))) (blkOk_by (own := [("_law_word", 10)]) (N := ["_law_state", "_law_rule_here", "_law_spot_here", "_law_goal", "_law_row", "_law_place", "_law_other", "_law_free_here", "_law_name_here", "_law_unfit", "_law_word"]) (sc := defScope s__law_renamed) (by decide +kernel)) (fun _ _ _ _ _ => pg_name (i := 10) S.nd rfl (by first | exact Or.inl rfl | exact Or.inr rfl)) (fun _ _ _ _ _ => tsd_one (td_val (ed_callC passL (ok__law_same X) (hr.mono (by decide)) (ad_cons (ed_fld (fld_alike X.T) (ed_var 1)) (ad_cons (ed_tup (ad_cons (ed_var 10) ad_nil)) (ad_cons (ed_tup (ad_cons (ed_var 8) ad_nil)) ad_nil)))))) (fun _ _ _ _ _ => (ed_var 10)) (sw_true rfl rfl rfl (by decide +kernel)))
      (sd_cons (sd_if (PWd.t (wd_or (td_gt (ed_len X.T (ad_cons (ed_var 8) ad_nil)) (ed_fld (fld_longest X.T) (ed_var 1))) (wd_or1 (td_gt (ed_len X.T (ad_cons (ed_var 9) ad_nil)) ed_int))))
        (sd_one (sd_ret ed_non))
        sd_nil)
      (sd_one (sd_ret (ed_callC hx (ok__law_carried X) (hr.mono (by decide)) (ad_cons (ed_var 0) (ad_cons (ed_var 4) (ad_cons (ed_ix (ed_var 4) ed_int) (ad_cons (ed_add (ed_sl (ed_ix (ed_var 4) ed_int) od_none (od_some (ed_neg ed_int))) (ed_tup (ad_cons (ed_var 8) ad_nil))) ad_nil))))))))))
        sd_nil)
      (sd_cons (sd_if (PWd.t (wd_or (td_eq hu (ed_ix (ed_var 4) ed_int) ed_str) (wd_or1 (td_eq hu (ed_ix (ed_var 6) ed_int) ed_str))))
        (sd_one (sd_ret ed_non))
        sd_nil)
      (sd_one (sd_ret (ed_callC hx (ok__law_carried X) (hr.mono (by decide)) (ad_cons (ed_callC hx (ok__law_gone X) (hr.mono (by decide)) (ad_cons (ed_var 0) (ad_cons (ed_ix (ed_var 6) ed_int) ad_nil))) (ad_cons (ed_var 4) (ad_cons (ed_ix (ed_var 6) ed_int) (ad_cons (ed_ix (ed_var 6) ed_int) ad_nil))))))))))))))
theorem sc__law_done_in : FnScope ["_law_state", "_law_rule_here", "_law_deed_here", "_law_row", "_law_text_here"] ["_law_state", "_law_rule_here", "_law_deed_here"] (defScope s__law_done_in) := ⟨rfl, rfl, rfl, by decide +kernel, rfl, by decide +kernel, by decide +kernel⟩
theorem ok__law_done_in (X : Facts C mg base) : CalP P w C mg base "_law_done_in" 6 3 (spP C 3 D__law_done_in) := by
  obtain ⟨f, fd, Fn, hm⟩ := X.d__law_done_in
  refine ⟨f, fd, ["_law_state", "_law_rule_here", "_law_deed_here"], ?_, hm, Fn.kp, Fn.binds fun _ _ _ _ _ _ us hl => match us, hl with | [_, _, _], _ => rfl, rfl⟩
  have S := sc__law_done_in
  refine fn_pure (sv := b__law_done_in) (N := ["_law_state", "_law_rule_here", "_law_deed_here", "_law_row", "_law_text_here"]) (ps := ["_law_state", "_law_rule_here", "_law_deed_here"]) Fn S (fun cdv A outer s H E hr => ?_)
  have hx : Passes (L2.CX P w) (cxOf (L2.CX P w) P w C.K mg base ["_law_state", "_law_rule_here", "_law_deed_here", "_law_row", "_law_text_here"] "_law_done_in" (defScope s__law_done_in) f cdv A outer s H E).nox E0 := passL
  have hu : Deep (cxOf (L2.CX P w) P w C.K mg base ["_law_state", "_law_rule_here", "_law_deed_here", "_law_row", "_law_text_here"] "_law_done_in" (defScope s__law_done_in) f cdv A outer s H E).nox := deep_of hr
  exact (sd_cons (sd_set (i := 3) S.nd (ed_callC hx (ok__law_file_at X) (hr.mono (by decide)) (ad_cons (ed_var 0) (ad_cons (ed_var 1) (ad_cons (ed_ix (ed_var 2) ed_int) ad_nil)))))
      (sd_cons (sd_if (td_isN (ed_var 3) ed_non)
        (sd_one (sd_ret ed_non))
        sd_nil)
      (sd_cons (sd_if (td_eq hu (ed_ix (ed_var 2) ed_int) ed_str)
        (sd_one (sd_ret (ed_callC hx (ok__law_with_text X) (hr.mono (by decide)) (ad_cons (ed_var 0) (ad_cons (ed_var 3) (ad_cons ed_str (ad_cons (ed_ix (ed_var 3) ed_int) (ad_cons ed_int ad_nil))))))))
        sd_nil)
      (sd_cons (sd_if (td_eq hu (ed_ix (ed_var 2) ed_int) ed_str)
        (sd_one (sd_ret (ed_callC hx (ok__law_with_text X) (hr.mono (by decide)) (ad_cons (ed_var 0) (ad_cons (ed_var 3) (ad_cons (ed_ix (ed_var 3) ed_int) (ad_cons (ed_ix (ed_var 2) ed_int) (ad_cons ed_int ad_nil))))))))
        sd_nil)
      (sd_cons (sd_if (td_eq hu (ed_ix (ed_var 2) ed_int) ed_str)
        (sd_one (sd_ret (ed_lst (ad_cons (ed_ix (ed_var 0) ed_int) (ad_cons (ed_ix (ed_var 0) ed_int) (ad_cons (ed_ix (ed_var 0) ed_int) (ad_cons (ed_ix (ed_var 0) ed_int) (ad_cons (ed_add (ed_ix (ed_var 0) ed_int) (ed_lst (ad_cons (ed_tup (ad_cons (ed_ix (ed_var 3) ed_int) (ad_cons (ed_ix (ed_var 3) ed_int) ad_nil))) ad_nil))) ad_nil))))))))
        sd_nil)
      (sd_cons (sd_if (td_gt (ed_ix (ed_var 2) ed_int) (ed_len X.T (ad_cons (ed_ix (ed_var 3) ed_int) ad_nil)))
        (sd_one (sd_ret ed_non))
        sd_nil)
      (sd_cons (sd_set (i := 4) S.nd (ed_add (ed_add (ed_sl (ed_ix (ed_var 3) ed_int) od_none (od_some (ed_ix (ed_var 2) ed_int))) (ed_ix (ed_var 2) ed_int)) (ed_sl (ed_ix (ed_var 3) ed_int) (od_some (ed_add (ed_ix (ed_var 2) ed_int) (ed_len X.T (ad_cons (ed_ix (ed_var 2) ed_int) ad_nil)))) od_none)))
      (sd_one (sd_ret (ed_callC hx (ok__law_with_text X) (hr.mono (by decide)) (ad_cons (ed_var 0) (ad_cons (ed_var 3) (ad_cons (ed_var 4) (ad_cons (ed_ix (ed_var 3) ed_int) (ad_cons ed_int ad_nil)))))))))))))))
end
end FK
set_option Elab.async false
set_option linter.all false
set_option maxRecDepth 100000
set_option maxHeartbeats 4000000
/-! The walks of the defs, printed by gen.py. -/
namespace FK
open PySem PySem.Spec PyProof.Rows L2
section
variable {C : Cs} {P : Program} {w : World} {mg : Str → Option Value} {base : Heap}
theorem sc__law_done : FnScope ["_law_state", "_law_rule_here", "_law_deed_here", "_law_word", "_law_place", "_law_free_here", "_law_row", "_law_at_here"] ["_law_state", "_law_rule_here", "_law_deed_here"] (defScope s__law_done) := ⟨rfl, rfl, rfl, by decide +kernel, rfl, by decide +kernel, by decide +kernel⟩
theorem ok__law_done (X : Facts C mg base) : CalP P w C mg base "_law_done" 7 3 (spP C 3 D__law_done) := by
  obtain ⟨f, fd, Fn, hm⟩ := X.d__law_done
  refine ⟨f, fd, ["_law_state", "_law_rule_here", "_law_deed_here"], ?_, hm, Fn.kp, Fn.binds fun _ _ _ _ _ _ us hl => match us, hl with | [_, _, _], _ => rfl, rfl⟩
  have S := sc__law_done
  refine fn_pure (sv := b__law_done) (N := ["_law_state", "_law_rule_here", "_law_deed_here", "_law_word", "_law_place", "_law_free_here", "_law_row", "_law_at_here"]) (ps := ["_law_state", "_law_rule_here", "_law_deed_here"]) Fn S (fun cdv A outer s H E hr => ?_)
  have hx : Passes (L2.CX P w) (cxOf (L2.CX P w) P w C.K mg base ["_law_state", "_law_rule_here", "_law_deed_here", "_law_word", "_law_place", "_law_free_here", "_law_row", "_law_at_here"] "_law_done" (defScope s__law_done) f cdv A outer s H E).nox E0 := passL
  have hu : Deep (cxOf (L2.CX P w) P w C.K mg base ["_law_state", "_law_rule_here", "_law_deed_here", "_law_word", "_law_place", "_law_free_here", "_law_row", "_law_at_here"] "_law_done" (defScope s__law_done) f cdv A outer s H E).nox := deep_of hr
  exact (sd_cons (sd_set (i := 3) S.nd (ed_ix (ed_var 2) ed_int))
      (sd_cons (sd_if (td_inT (ed_var 3) (ed_tup (ad_cons ed_str (ad_cons ed_str (ad_cons ed_str ad_nil)))))
        (sd_cons (sd_set (i := 4) S.nd (ed_callC hx (ok__law_spot_of X) (hr.mono (by decide)) (ad_cons (ed_var 0) (ad_cons (ed_var 1) (ad_cons (ed_ix (ed_var 2) ed_int) ad_nil)))))
      (sd_cons (sd_set (i := 5) S.nd ed_non)
      (sd_cons (sd_if (td_notN (ed_var 4) ed_non)
        (sd_one (sd_set (i := 5) S.nd (ed_callC hx (ok__law_free X) (hr.mono (by decide)) (ad_cons (ed_ix (ed_var 0) ed_int) (ad_cons (ed_var 1) (ad_cons (ed_ix (ed_var 4) ed_int) (ad_cons (ed_ix (ed_var 4) ed_int) ad_nil)))))))
        sd_nil)
      (sd_cons (sd_if (td_isN (ed_var 5) ed_non)
        (sd_one (sd_ret ed_non))
        sd_nil)
      (sd_cons (sd_if (td_eq hu (ed_var 3) ed_str)
        (sd_one (sd_ret (ed_callC hx (ok__law_put X) (hr.mono (by decide)) (ad_cons (ed_var 0) (ad_cons (ed_ix (ed_var 4) ed_int) (ad_cons (ed_var 5) (ad_cons ed_str (ad_cons (ed_ix (ed_var 2) ed_int) (ad_cons (ed_ix (ed_var 2) ed_int) (ad_cons ed_bl ad_nil))))))))))
        sd_nil)
      (sd_one (sd_ret (ed_callC hx (ok__law_put X) (hr.mono (by decide)) (ad_cons (ed_var 0) (ad_cons (ed_ix (ed_var 4) ed_int) (ad_cons (ed_var 5) (ad_cons (ed_sl (ed_var 3) (od_some ed_int) od_none) (ad_cons ed_str (ad_cons ed_bl (ad_cons ed_bl ad_nil)))))))))))))))
        sd_nil)
      (sd_cons (sd_if (td_eq hu (ed_var 3) ed_str)
        (sd_one (sd_ret (ed_callC hx (ok__law_renamed X) (hr.mono (by decide)) (ad_cons (ed_var 0) (ad_cons (ed_var 1) (ad_cons (ed_ix (ed_var 2) ed_int) (ad_cons (ed_ix (ed_var 2) ed_int) ad_nil)))))))
        sd_nil)
      (sd_cons (sd_if (td_inT (ed_var 3) (ed_tup (ad_cons ed_str (ad_cons ed_str (ad_cons ed_str ad_nil)))))
        (sd_cons (sd_set (i := 6) S.nd (ed_callC hx (ok__law_row_at X) (hr.mono (by decide)) (ad_cons (ed_var 0) (ad_cons (ed_var 1) (ad_cons (ed_ix (ed_var 2) ed_int) ad_nil)))))
      (sd_cons (sd_if (td_isN (ed_var 6) ed_non)
        (sd_one (sd_ret ed_non))
        sd_nil)
      (sd_cons (sd_if (td_eq hu (ed_var 3) ed_str)
        (sd_one (sd_ret (ed_lst (ad_cons (ed_ix (ed_var 0) ed_int) (ad_cons (ed_add (ed_lst (ad_cons (ed_ix (ed_var 6) ed_int) ad_nil)) (ed_ix (ed_var 0) ed_int)) (ad_cons (ed_ix (ed_var 0) ed_int) (ad_cons (ed_ix (ed_var 0) ed_int) (ad_cons (ed_ix (ed_var 0) ed_int) ad_nil))))))))
        sd_nil)
      (sd_cons (sd_if (PWd.t (wd_or (td_ne hu (ed_eq hu (ed_ix (ed_var 6) ed_int) ed_str) (ed_eq hu (ed_var 3) ed_str)) (wd_or1 (td_val (ed_callC hx (ok__law_filled X) (hr.mono (by decide)) (ad_cons (ed_ix (ed_var 0) ed_int) (ad_cons (ed_var 6) ad_nil)))))))
        (sd_one (sd_ret ed_non))
        sd_nil)
      (sd_one (sd_ret (ed_callC hx (ok__law_gone X) (hr.mono (by decide)) (ad_cons (ed_var 0) (ad_cons (ed_ix (ed_var 6) ed_int) ad_nil)))))))))
        sd_nil)
      (sd_cons (sd_if (td_eq hu (ed_var 3) ed_str)
        (sd_cons (sd_if (td_ninL hu (ed_ix (ed_var 2) ed_int) (ed_ix (ed_var 0) ed_int))
        (sd_one (sd_ret ed_non))
        sd_nil)
      (sd_cons (sd_set (i := 7) S.nd (ed_index (ed_ix (ed_var 0) ed_int) (ed_ix (ed_var 2) ed_int)))
      (sd_one (sd_ret (ed_lst (ad_cons (ed_ix (ed_var 0) ed_int) (ad_cons (ed_add (ed_sl (ed_ix (ed_var 0) ed_int) od_none (od_some (ed_var 7))) (ed_sl (ed_ix (ed_var 0) ed_int) (od_some (ed_add (ed_var 7) ed_int)) od_none)) (ad_cons (ed_ix (ed_var 0) ed_int) (ad_cons (ed_ix (ed_var 0) ed_int) (ad_cons (ed_ix (ed_var 0) ed_int) ad_nil))))))))))
        sd_nil)
      (sd_one (sd_ret (ed_callC hx (ok__law_done_in X) (hr.mono (by decide)) (ad_cons (ed_var 0) (ad_cons (ed_var 1) (ad_cons (ed_var 2) ad_nil)))))))))))
theorem sc__law_tree : FnScope ["_law_state", "_law_area", "_law_row"] ["_law_state", "_law_area"] (defScope s__law_tree) := ⟨rfl, rfl, rfl, by decide +kernel, rfl, by decide +kernel, by decide +kernel⟩
theorem ok__law_tree (X : Facts C mg base) : CalP P w C mg base "_law_tree" 1 2 (spP C 2 D__law_tree) := by
  obtain ⟨f, fd, Fn, hm⟩ := X.d__law_tree
  refine ⟨f, fd, ["_law_state", "_law_area"], ?_, hm, Fn.kp, Fn.binds fun _ _ _ _ _ _ us hl => match us, hl with | [_, _], _ => rfl, rfl⟩
  have S := sc__law_tree
  refine fn_pure (sv := b__law_tree) (N := ["_law_state", "_law_area", "_law_row"]) (ps := ["_law_state", "_law_area"]) Fn S (fun cdv A outer s H E hr => ?_)
  have hx : Passes (L2.CX P w) (cxOf (L2.CX P w) P w C.K mg base ["_law_state", "_law_area", "_law_row"] "_law_tree" (defScope s__law_tree) f cdv A outer s H E).nox E0 := passL
  have hu : Deep (cxOf (L2.CX P w) P w C.K mg base ["_law_state", "_law_area", "_law_row"] "_law_tree" (defScope s__law_tree) f cdv A outer s H E).nox := deep_of hr
  exact (sd_one (sd_ret (ed_sorted X.T hu (ed_lc S.nd (id_L (ed_ix (ed_var 0) ed_int)) (blkOk_by (own := [("_law_row", 2)]) (N := ["_law_state", "_law_area", "_law_row"]) (sc := defScope s__law_tree) (by decide +kernel)) (fun _ _ _ _ _ => pg_name (i := 2) S.nd rfl (by first | exact Or.inl rfl | exact Or.inr rfl)) (fun _ _ _ _ _ => tsd_one (td_eq hu (ed_ix (ed_var 2) ed_int) (ed_var 1))) (fun _ _ _ _ _ => (ed_tup (ad_cons (ed_ix (ed_var 2) ed_int) (ad_cons (ed_ix (ed_var 2) ed_int) (ad_cons (ed_ix (ed_var 2) ed_int) (ad_cons (ed_ix (ed_var 2) ed_int) (ad_cons (ed_ix (ed_var 2) ed_int) (ad_cons (ed_ix (ed_var 2) ed_int) (ad_cons (ed_ix (ed_var 2) ed_int) ad_nil)))))))))))))
theorem sc__law_shelf : FnScope ["_law_state", "_law_places", "_law_place", "_law_row"] ["_law_state"] (defScope s__law_shelf) := ⟨rfl, rfl, rfl, by decide +kernel, rfl, by decide +kernel, by decide +kernel⟩
theorem ok__law_shelf (X : Facts C mg base) : CalP P w C mg base "_law_shelf" 2 1 (spP C 1 D__law_shelf) := by
  obtain ⟨f, fd, Fn, hm⟩ := X.d__law_shelf
  refine ⟨f, fd, ["_law_state"], ?_, hm, Fn.kp, Fn.binds fun _ _ _ _ _ _ us hl => match us, hl with | [_], _ => rfl, rfl⟩
  have S := sc__law_shelf
  refine fn_pure (sv := b__law_shelf) (N := ["_law_state", "_law_places", "_law_place", "_law_row"]) (ps := ["_law_state"]) Fn S (fun cdv A outer s H E hr => ?_)
  have hx : Passes (L2.CX P w) (cxOf (L2.CX P w) P w C.K mg base ["_law_state", "_law_places", "_law_place", "_law_row"] "_law_shelf" (defScope s__law_shelf) f cdv A outer s H E).nox E0 := passL
  have hu : Deep (cxOf (L2.CX P w) P w C.K mg base ["_law_state", "_law_places", "_law_place", "_law_row"] "_law_shelf" (defScope s__law_shelf) f cdv A outer s H E).nox := deep_of hr
  exact (sd_cons (sd_set (i := 1) S.nd (ed_sorted X.T hu (ed_lc S.nd (id_L (ed_ix (ed_var 0) ed_int)) (blkOk_by (own := [("_law_row", 3)]) (N := ["_law_state", "_law_places", "_law_place", "_law_row"]) (sc := defScope s__law_shelf) (by decide +kernel)) (fun _ _ _ _ _ => pg_name (i := 3) S.nd rfl (by first | exact Or.inl rfl | exact Or.inr rfl)) (fun _ _ _ _ _ => tsd_one (PWd.t (wd_and (td_val (ed_isInt X.T (ed_ix (ed_var 3) ed_int))) (wd_and1 (td_eq hu (ed_ix (ed_var 3) ed_int) (ed_tup ad_nil)))))) (fun _ _ _ _ _ => (ed_ix (ed_var 3) ed_int)))))
      (sd_one (sd_ret (ed_lc S.nd (id_L (ed_var 1)) (blkOk_by (own := [("_law_place", 2)]) (N := ["_law_state", "_law_places", "_law_place", "_law_row"]) (sc := defScope s__law_shelf) (by decide +kernel)) (fun _ _ _ _ _ => pg_name (i := 2) S.nd rfl (by first | exact Or.inl rfl | exact Or.inr rfl)) (fun _ _ _ _ _ => tsd_nil) (fun _ _ _ _ _ => (ed_tup (ad_cons (ed_var 2) (ad_cons (ed_callC passL (ok__law_tree X) (hr.mono (by decide)) (ad_cons (ed_var 0) (ad_cons (ed_var 2) ad_nil))) ad_nil))))))))
theorem sc__law_is : FnScope ["_law_host", "_law_state"] ["_law_host", "_law_state"] (defScope s__law_is) := ⟨rfl, rfl, rfl, by decide +kernel, rfl, by decide +kernel, by decide +kernel⟩
theorem ok__law_is (X : Facts C mg base) : CalP P w C mg base "_law_is" 4 2 (spP C 2 D__law_is) := by
  obtain ⟨f, fd, Fn, hm⟩ := X.d__law_is
  refine ⟨f, fd, ["_law_host", "_law_state"], ?_, hm, Fn.kp, Fn.binds fun _ _ _ _ _ _ us hl => match us, hl with | [_, _], _ => rfl, rfl⟩
  have S := sc__law_is
  refine fn_pure (sv := b__law_is) (N := ["_law_host", "_law_state"]) (ps := ["_law_host", "_law_state"]) Fn S (fun cdv A outer s H E hr => ?_)
  have hx : Passes (L2.CX P w) (cxOf (L2.CX P w) P w C.K mg base ["_law_host", "_law_state"] "_law_is" (defScope s__law_is) f cdv A outer s H E).nox E0 := passL
  have hu : Deep (cxOf (L2.CX P w) P w C.K mg base ["_law_host", "_law_state"] "_law_is" (defScope s__law_is) f cdv A outer s H E).nox := deep_of hr
  exact (sd_cons (sd_if (PWd.t (wd_or (td_ne hu (ed_meth0C X.T hx (ok_Host_tree X) (hr.mono (by decide)) (ed_var 0)) (ed_callC hx (ok__law_tree X) (hr.mono (by decide)) (ad_cons (ed_var 1) (ad_cons ed_str ad_nil)))) (wd_or1 (td_ne hu (ed_meth0C X.T hx (ok_Host_outside X) (hr.mono (by decide)) (ed_var 0)) (ed_callC hx (ok__law_tree X) (hr.mono (by decide)) (ad_cons (ed_var 1) (ad_cons ed_str ad_nil)))))))
        (sd_one (sd_ret ed_bl))
        sd_nil)
      (sd_one (sd_ret (ed_and (ed_eq hu (ed_meth0C X.T hx (ok_Host_shelf X) (hr.mono (by decide)) (ed_var 0)) (ed_callC hx (ok__law_shelf X) (hr.mono (by decide)) (ad_cons (ed_var 1) ad_nil))) (ed_and (ed_eq hu (ed_fld (fld_opened X.T) (ed_var 0)) (ed_ix (ed_var 1) ed_int)) (ed_one (ed_eq hu (ed_fld (fld_turned X.T) (ed_var 0)) (ed_ix (ed_var 1) ed_int))))))))
theorem sc__law_operation : FnScope ["_law_cell", "_law_host", "_law_kind", "_law_rest", "_law_path_here", "_law_tree_here", "_law_place", "_law_rows"] ["_law_cell", "_law_host"] (defScope s__law_operation) := ⟨rfl, rfl, rfl, by decide +kernel, rfl, by decide +kernel, by decide +kernel⟩
theorem ok__law_operation (X : Facts C mg base) : CalP P w C mg base "_law_operation" 4 2 (spP C 2 D__law_operation) := by
  obtain ⟨f, fd, Fn, hm⟩ := X.d__law_operation
  refine ⟨f, fd, ["_law_cell", "_law_host"], ?_, hm, Fn.kp, Fn.binds fun _ _ _ _ _ _ us hl => match us, hl with | [_, _], _ => rfl, rfl⟩
  have S := sc__law_operation
  refine fn_pure (sv := b__law_operation) (N := ["_law_cell", "_law_host", "_law_kind", "_law_rest", "_law_path_here", "_law_tree_here", "_law_place", "_law_rows"]) (ps := ["_law_cell", "_law_host"]) Fn S (fun cdv A outer s H E hr => ?_)
  have hx : Passes (L2.CX P w) (cxOf (L2.CX P w) P w C.K mg base ["_law_cell", "_law_host", "_law_kind", "_law_rest", "_law_path_here", "_law_tree_here", "_law_place", "_law_rows"] "_law_operation" (defScope s__law_operation) f cdv A outer s H E).nox E0 := passL
  have hu : Deep (cxOf (L2.CX P w) P w C.K mg base ["_law_cell", "_law_host", "_law_kind", "_law_rest", "_law_path_here", "_law_tree_here", "_law_place", "_law_rows"] "_law_operation" (defScope s__law_operation) f cdv A outer s H E).nox := deep_of hr
  exact (sd_cons (sd_set (i := 2) S.nd (ed_mod (ed_intC X.T (ad_cons (ed_var 0) ad_nil)) ed_int))
      (sd_cons (sd_set (i := 3) S.nd (ed_fdiv (ed_var 0) ed_int))
      (sd_cons (sd_set (i := 4) S.nd (ed_callC hx (ok__law_path X) (hr.mono (by decide)) (ad_cons (ed_var 3) ad_nil)))
      (sd_cons (sd_set (i := 5) S.nd (ed_meth0C X.T hx (ok_Host_tree X) (hr.mono (by decide)) (ed_var 1)))
      (sd_cons (sd_if (PWd.t (wd_and (td_gt (ed_len X.T (ad_cons (ed_var 5) ad_nil)) ed_int) (wd_and1 (td_gt (ed_mod (ed_intC X.T (ad_cons (ed_var 3) ad_nil)) ed_int) ed_int))))
        (sd_one (sd_set (i := 4) S.nd (ed_ix (ed_callC hx (ok__law_pick X) (hr.mono (by decide)) (ad_cons (ed_fdiv (ed_var 3) ed_int) (ad_cons (ed_var 5) ad_nil))) ed_int)))
        sd_nil)
      (sd_cons (sd_set (i := 6) S.nd (ed_mod (ed_fdiv (ed_intC X.T (ad_cons (ed_var 3) ad_nil)) ed_int) ed_int))
      (sd_cons (sd_set (i := 7) S.nd (ed_meth0C X.T hx (ok_Host_shelf X) (hr.mono (by decide)) (ed_var 1)))
      (sd_cons (sd_if (PWd.t (wd_and (td_gt (ed_len X.T (ad_cons (ed_var 7) ad_nil)) ed_int) (wd_and1 (td_gt (ed_mod (ed_fdiv (ed_intC X.T (ad_cons (ed_var 3) ad_nil)) ed_int) ed_int) ed_int))))
        (sd_one (sd_set (i := 6) S.nd (ed_ix (ed_callC hx (ok__law_pick X) (hr.mono (by decide)) (ad_cons (ed_fdiv (ed_var 3) ed_int) (ad_cons (ed_var 7) ad_nil))) ed_int)))
        sd_nil)
      (sd_cons (sd_if (td_eq hu (ed_var 2) ed_int)
        (sd_one (sd_ret (ed_tup (ad_cons ed_str (ad_cons (ed_ix (ed_lst (ad_cons (ed_tup ad_nil) (ad_cons (ed_var 4) (ad_cons (ed_sl (ed_var 4) od_none (od_some (ed_neg ed_int))) ad_nil)))) (ed_mod (ed_intC X.T (ad_cons (ed_var 3) ad_nil)) ed_int)) ad_nil)))))
        sd_nil)
      (sd_cons (sd_if (td_lt (ed_var 2) ed_int)
        (sd_one (sd_ret (ed_ix (ed_lst (ad_cons (ed_tup (ad_cons ed_str ad_nil)) (ad_cons (ed_tup (ad_cons ed_str ad_nil)) ad_nil))) (ed_sub (ed_var 2) ed_int))))
        sd_nil)
      (sd_cons (sd_if (td_eq hu (ed_var 2) ed_int)
        (sd_one (sd_ret (ed_tup (ad_cons ed_str (ad_cons (ed_var 4) ad_nil)))))
        sd_nil)
      (sd_cons (sd_if (td_eq hu (ed_var 2) ed_int)
        (sd_one (sd_ret (ed_tup (ad_cons ed_str (ad_cons (ed_var 6) ad_nil)))))
        sd_nil)
      (sd_cons (sd_if (td_eq hu (ed_var 2) ed_int)
        (sd_one (sd_ret (ed_tup (ad_cons ed_str (ad_cons (ed_add ed_int (ed_mod (ed_intC X.T (ad_cons (ed_var 3) ad_nil)) ed_int)) (ad_cons (ed_mod (ed_fdiv (ed_intC X.T (ad_cons (ed_var 3) ad_nil)) ed_int) ed_int) ad_nil))))))
        sd_nil)
      (sd_cons (sd_if (td_lt (ed_var 2) ed_int)
        (sd_one (sd_ret (ed_tup (ad_cons ed_str (ad_cons (ed_var 6) (ad_cons (ed_callC hx (ok__law_text X) (hr.mono (by decide)) (ad_cons (ed_fdiv (ed_var 3) ed_int) ad_nil)) (ad_cons (ed_eq hu (ed_mod (ed_intC X.T (ad_cons (ed_var 3) ad_nil)) ed_int) ed_int) ad_nil)))))))
        sd_nil)
      (sd_cons (sd_if (td_lt (ed_var 2) ed_int)
        (sd_one (sd_ret (ed_tup (ad_cons ed_str (ad_cons (ed_var 4) (ad_cons (ed_var 6) ad_nil))))))
        sd_nil)
      (sd_cons (sd_if (td_eq hu (ed_var 2) ed_int)
        (sd_one (sd_ret (ed_tup (ad_cons ed_str (ad_cons (ed_var 6) (ad_cons (ed_callC hx (ok__law_path X) (hr.mono (by decide)) (ad_cons (ed_fdiv (ed_var 3) ed_int) ad_nil)) ad_nil))))))
        sd_nil)
      (sd_cons (sd_if (td_eq hu (ed_var 2) ed_int)
        (sd_one (sd_ret (ed_tup (ad_cons ed_str (ad_cons (ed_var 6) (ad_cons (ed_var 4) ad_nil))))))
        sd_nil)
      (sd_cons (sd_if (td_eq hu (ed_var 2) ed_int)
        (sd_one (sd_ret (ed_tup (ad_cons ed_str (ad_cons (ed_var 4) ad_nil)))))
        sd_nil)
      (sd_cons (sd_if (td_eq hu (ed_var 2) ed_int)
        (sd_one (sd_ret (ed_tup (ad_cons ed_str (ad_cons (ed_var 4) ad_nil)))))
        sd_nil)
      (sd_one (sd_ret (ed_tup (ad_cons ed_str (ad_cons (ed_var 6) (ad_cons (ed_mod (ed_fdiv (ed_intC X.T (ad_cons (ed_var 3) ad_nil)) ed_int) ed_int) ad_nil)))))))))))))))))))))))))
theorem sc__law_cuts : FnScope ["_law_rule_here", "_law_row"] ["_law_rule_here", "_law_row"] (defScope s__law_cuts) := ⟨rfl, rfl, rfl, by decide +kernel, rfl, by decide +kernel, by decide +kernel⟩
theorem ok__law_cuts (X : Facts C mg base) : CalP P w C mg base "_law_cuts" 1 2 (spP C 2 D__law_cuts) := by
  obtain ⟨f, fd, Fn, hm⟩ := X.d__law_cuts
  refine ⟨f, fd, ["_law_rule_here", "_law_row"], ?_, hm, Fn.kp, Fn.binds fun _ _ _ _ _ _ us hl => match us, hl with | [_, _], _ => rfl, rfl⟩
  have S := sc__law_cuts
  refine fn_pure (sv := b__law_cuts) (N := ["_law_rule_here", "_law_row"]) (ps := ["_law_rule_here", "_law_row"]) Fn S (fun cdv A outer s H E hr => ?_)
  have hx : Passes (L2.CX P w) (cxOf (L2.CX P w) P w C.K mg base ["_law_rule_here", "_law_row"] "_law_cuts" (defScope s__law_cuts) f cdv A outer s H E).nox E0 := passL
  have hu : Deep (cxOf (L2.CX P w) P w C.K mg base ["_law_rule_here", "_law_row"] "_law_cuts" (defScope s__law_cuts) f cdv A outer s H E).nox := deep_of hr
  exact (sd_cons (sd_if (td_val (ed_fld (fld_cuts X.T) (ed_var 0)))
        (sd_one (sd_ret (ed_ix (ed_var 1) ed_int)))
        sd_nil)
      (sd_one (sd_ret ed_int)))
theorem sc__law_read : FnScope ["_law_rule_here", "_law_row"] ["_law_rule_here", "_law_row"] (defScope s__law_read) := ⟨rfl, rfl, rfl, by decide +kernel, rfl, by decide +kernel, by decide +kernel⟩
theorem ok__law_read (X : Facts C mg base) : CalP P w C mg base "_law_read" 2 2 (spP C 2 D__law_read) := by
  obtain ⟨f, fd, Fn, hm⟩ := X.d__law_read
  refine ⟨f, fd, ["_law_rule_here", "_law_row"], ?_, hm, Fn.kp, Fn.binds fun _ _ _ _ _ _ us hl => match us, hl with | [_, _], _ => rfl, rfl⟩
  have S := sc__law_read
  refine fn_pure (sv := b__law_read) (N := ["_law_rule_here", "_law_row"]) (ps := ["_law_rule_here", "_law_row"]) Fn S (fun cdv A outer s H E hr => ?_)
  have hx : Passes (L2.CX P w) (cxOf (L2.CX P w) P w C.K mg base ["_law_rule_here", "_law_row"] "_law_read" (defScope s__law_read) f cdv A outer s H E).nox E0 := passL
  have hu : Deep (cxOf (L2.CX P w) P w C.K mg base ["_law_rule_here", "_law_row"] "_law_read" (defScope s__law_read) f cdv A outer s H E).nox := deep_of hr
  exact (sd_cons (sd_if (PWd.t (wd_or (td_isN (ed_var 1) ed_non) (wd_or1 (td_ne hu (ed_ix (ed_var 1) ed_int) ed_str))))
        (sd_one (sd_ret (ed_tup (ad_cons ed_str ad_nil))))
        sd_nil)
      (sd_one (sd_ret (ed_tup (ad_cons ed_str (ad_cons (ed_ix (ed_var 1) ed_int) (ad_cons (ed_ix (ed_var 1) ed_int) (ad_cons (ed_callC hx (ok__law_cuts X) (hr.mono (by decide)) (ad_cons (ed_var 0) (ad_cons (ed_var 1) ad_nil))) (ad_cons (ed_ix (ed_var 1) ed_int) (ad_cons (ed_ix (ed_var 1) ed_int) ad_nil))))))))))
theorem sc__law_told : FnScope ["_law_state", "_law_rule_here", "_law_operation_here", "_law_word", "_law_rows", "_law_above_here", "_law_row"] ["_law_state", "_law_rule_here", "_law_operation_here"] (defScope s__law_told) := ⟨rfl, rfl, rfl, by decide +kernel, rfl, by decide +kernel, by decide +kernel⟩
theorem ok__law_told (X : Facts C mg base) : CalP P w C mg base "_law_told" 5 3 (spP C 3 D__law_told) := by
  obtain ⟨f, fd, Fn, hm⟩ := X.d__law_told
  refine ⟨f, fd, ["_law_state", "_law_rule_here", "_law_operation_here"], ?_, hm, Fn.kp, Fn.binds fun _ _ _ _ _ _ us hl => match us, hl with | [_, _, _], _ => rfl, rfl⟩
  have S := sc__law_told
  refine fn_pure (sv := b__law_told) (N := ["_law_state", "_law_rule_here", "_law_operation_here", "_law_word", "_law_rows", "_law_above_here", "_law_row"]) (ps := ["_law_state", "_law_rule_here", "_law_operation_here"]) Fn S (fun cdv A outer s H E hr => ?_)
  have hx : Passes (L2.CX P w) (cxOf (L2.CX P w) P w C.K mg base ["_law_state", "_law_rule_here", "_law_operation_here", "_law_word", "_law_rows", "_law_above_here", "_law_row"] "_law_told" (defScope s__law_told) f cdv A outer s H E).nox E0 := passL
  have hu : Deep (cxOf (L2.CX P w) P w C.K mg base ["_law_state", "_law_rule_here", "_law_operation_here", "_law_word", "_law_rows", "_law_above_here", "_law_row"] "_law_told" (defScope s__law_told) f cdv A outer s H E).nox := deep_of hr
  exact (sd_cons (sd_set (i := 3) S.nd (ed_ix (ed_var 2) ed_int))
      (sd_cons (sd_if (td_eq hu (ed_var 3) ed_str)
        (sd_cons (sd_set (i := 5) S.nd (ed_callC hx (ok__law_above X) (hr.mono (by decide)) (ad_cons (ed_ix (ed_var 0) ed_int) (ad_cons (ed_var 1) (ad_cons ed_str (ad_cons (ed_ix (ed_var 2) ed_int) ad_nil))))))
      (sd_cons (sd_if (td_isN (ed_var 5) ed_non)
        (sd_one (sd_ret (ed_tup (ad_cons ed_str ad_nil))))
        sd_nil)
      (sd_cons (sd_setLc (j := 4) S.nd (id_L (ed_ix (ed_var 0) ed_int)) (blkOk_by (own := [("_law_row", 6)]) (N := ["_law_state", "_law_rule_here", "_law_operation_here", "_law_word", "_law_rows", "_law_above_here", "_law_row"]) (sc := defScope s__law_told) (by decide +kernel)) (fun _ _ _ _ _ => pg_name (i := 6) S.nd rfl (by first | exact Or.inl rfl | exact Or.inr rfl)) (fun _ _ _ _ _ => tsd_one (PWd.t (wd_and (td_eq hu (ed_ix (ed_var 6) ed_int) ed_str) (wd_and (td_eq hu (ed_sl (ed_ix (ed_var 6) ed_int) od_none (od_some (ed_neg ed_int))) (ed_var 5)) (wd_and1 (td_ne hu (ed_ix (ed_var 6) ed_int) (ed_tup ad_nil))))))) (fun _ _ _ _ _ => (ed_var 6)) (sw_true rfl rfl rfl (by decide +kernel)))
      (sd_one (sd_ret (ed_tup (ad_cons ed_str (ad_cons (ed_sorted X.T hu (ed_lc S.nd (id_L (ed_var 4)) (blkOk_by (own := [("_law_row", 6)]) (N := ["_law_state", "_law_rule_here", "_law_operation_here", "_law_word", "_law_rows", "_law_above_here", "_law_row"]) (sc := defScope s__law_told) (by decide +kernel)) (fun _ _ _ _ _ => pg_name (i := 6) S.nd rfl (by first | exact Or.inl rfl | exact Or.inr rfl)) (fun _ _ _ _ _ => tsd_nil) (fun _ _ _ _ _ => (ed_tup (ad_cons (ed_ix (ed_ix (ed_var 6) ed_int) (ed_neg ed_int)) (ad_cons (ed_ix (ed_var 6) ed_int) (ad_cons (ed_ix (ed_var 6) ed_int) (ad_cons (ed_ix (ed_var 6) ed_int) (ad_cons (ed_callC passL (ok__law_cuts X) (hr.mono (by decide)) (ad_cons (ed_var 1) (ad_cons (ed_var 6) ad_nil))) ad_nil))))))))) ad_nil))))))))
        sd_nil)
      (sd_cons (sd_if (td_eq hu (ed_var 3) ed_str)
        (sd_cons (sd_if (td_val (ed_fld (fld_turns X.T) (ed_var 1)))
        (sd_one (sd_ret (ed_tup (ad_cons ed_str (ad_cons (ed_ix (ed_var 0) ed_int) ad_nil)))))
        sd_nil)
      (sd_one (sd_ret (ed_tup (ad_cons ed_str (ad_cons ed_non ad_nil))))))
        sd_nil)
      (sd_cons (sd_if (td_eq hu (ed_var 3) ed_str)
        (sd_cons (sd_if (td_eq hu (ed_ix (ed_var 2) ed_int) (ed_tup ad_nil))
        (sd_one (sd_ret (ed_tup (ad_cons ed_str ad_nil))))
        sd_nil)
      (sd_one (sd_ret (ed_callC hx (ok__law_read X) (hr.mono (by decide)) (ad_cons (ed_var 1) (ad_cons (ed_callC hx (ok__law_at X) (hr.mono (by decide)) (ad_cons (ed_ix (ed_var 0) ed_int) (ad_cons (ed_var 1) (ad_cons ed_str (ad_cons (ed_ix (ed_var 2) ed_int) ad_nil))))) ad_nil))))))
        sd_nil)
      (sd_cons (sd_if (td_eq hu (ed_var 3) ed_str)
        (sd_one (sd_ret (ed_callC hx (ok__law_read X) (hr.mono (by decide)) (ad_cons (ed_var 1) (ad_cons (ed_callC hx (ok__law_at X) (hr.mono (by decide)) (ad_cons (ed_ix (ed_var 0) ed_int) (ad_cons (ed_var 1) (ad_cons (ed_ix (ed_var 2) ed_int) (ad_cons (ed_tup ad_nil) ad_nil))))) ad_nil)))))
        sd_nil)
      (sd_cons (sd_if (td_eq hu (ed_var 3) ed_str)
        (sd_cons (sd_if (td_val (ed_fld (fld_reads X.T) (ed_var 1)))
        (sd_one (sd_ret (ed_tup (ad_cons ed_str (ad_cons (ed_inL hu (ed_tup (ad_cons (ed_ix (ed_var 2) ed_int) (ad_cons (ed_ix (ed_var 2) ed_int) ad_nil))) (ed_ix (ed_var 0) ed_int)) ad_nil)))))
        sd_nil)
      (sd_one (sd_ret (ed_tup (ad_cons ed_str (ad_cons ed_non ad_nil))))))
        sd_nil)
      (sd_cons (sd_setLc (j := 4) S.nd (id_L (ed_ix (ed_var 0) ed_int)) (blkOk_by (own := [("_law_row", 6)]) (N := ["_law_state", "_law_rule_here", "_law_operation_here", "_law_word", "_law_rows", "_law_above_here", "_law_row"]) (sc := defScope s__law_told) (by decide +kernel)) (fun _ _ _ _ _ => pg_name (i := 6) S.nd rfl (by first | exact Or.inl rfl | exact Or.inr rfl)) (fun _ _ _ _ _ => tsd_one (PWd.t (wd_and (td_val (ed_isInt X.T (ed_ix (ed_var 6) ed_int))) (wd_and1 (td_eq hu (ed_ix (ed_var 6) ed_int) (ed_tup ad_nil)))))) (fun _ _ _ _ _ => (ed_var 6)) (sw_true rfl rfl rfl (by decide +kernel)))
      (sd_one (sd_ret (ed_tup (ad_cons ed_str (ad_cons (ed_sorted X.T hu (ed_lc S.nd (id_L (ed_var 4)) (blkOk_by (own := [("_law_row", 6)]) (N := ["_law_state", "_law_rule_here", "_law_operation_here", "_law_word", "_law_rows", "_law_above_here", "_law_row"]) (sc := defScope s__law_told) (by decide +kernel)) (fun _ _ _ _ _ => pg_name (i := 6) S.nd rfl (by first | exact Or.inl rfl | exact Or.inr rfl)) (fun _ _ _ _ _ => tsd_nil) (fun _ _ _ _ _ => (ed_tup (ad_cons (ed_ix (ed_var 6) ed_int) (ad_cons (ed_ix (ed_var 6) ed_int) (ad_cons (ed_ix (ed_var 6) ed_int) (ad_cons (ed_ix (ed_var 6) ed_int) (ad_cons (ed_callC passL (ok__law_cuts X) (hr.mono (by decide)) (ad_cons (ed_var 1) (ad_cons (ed_var 6) ad_nil))) (ad_cons (ed_len X.T (ad_cons (ed_ix (ed_var 6) ed_int) ad_nil)) ad_nil)))))))))) ad_nil))))))))))))
theorem sc__law_carry : FnScope ["_law_state", "_law_rule_here", "_law_operation_here", "_law_word", "_law_place", "_law_path_here", "_law_row", "_law_lying", "_law_away", "_law_given", "_law_there", "_law_after", "_law_free_here", "_law_other"] ["_law_state", "_law_rule_here", "_law_operation_here"] (defScope s__law_carry) := ⟨rfl, rfl, rfl, by decide +kernel, rfl, by decide +kernel, by decide +kernel⟩
theorem ok__law_carry (X : Facts C mg base) : CalP P w C mg base "_law_carry" 6 3 (spP C 3 D__law_carry) := by
  obtain ⟨f, fd, Fn, hm⟩ := X.d__law_carry
  refine ⟨f, fd, ["_law_state", "_law_rule_here", "_law_operation_here"], ?_, hm, Fn.kp, Fn.binds fun _ _ _ _ _ _ us hl => match us, hl with | [_, _, _], _ => rfl, rfl⟩
  have S := sc__law_carry
  refine fn_pure (sv := b__law_carry) (N := ["_law_state", "_law_rule_here", "_law_operation_here", "_law_word", "_law_place", "_law_path_here", "_law_row", "_law_lying", "_law_away", "_law_given", "_law_there", "_law_after", "_law_free_here", "_law_other"]) (ps := ["_law_state", "_law_rule_here", "_law_operation_here"]) Fn S (fun cdv A outer s H E hr => ?_)
  have hx : Passes (L2.CX P w) (cxOf (L2.CX P w) P w C.K mg base ["_law_state", "_law_rule_here", "_law_operation_here", "_law_word", "_law_place", "_law_path_here", "_law_row", "_law_lying", "_law_away", "_law_given", "_law_there", "_law_after", "_law_free_here", "_law_other"] "_law_carry" (defScope s__law_carry) f cdv A outer s H E).nox E0 := passL
  have hu : Deep (cxOf (L2.CX P w) P w C.K mg base ["_law_state", "_law_rule_here", "_law_operation_here", "_law_word", "_law_place", "_law_path_here", "_law_row", "_law_lying", "_law_away", "_law_given", "_law_there", "_law_after", "_law_free_here", "_law_other"] "_law_carry" (defScope s__law_carry) f cdv A outer s H E).nox := deep_of hr
  exact (sd_cons (sd_set (i := 3) S.nd (ed_ix (ed_var 2) ed_int))
      (sd_cons (sd_set (i := 4) S.nd (ed_ix (ed_var 2) ed_int))
      (sd_cons (sd_set (i := 5) S.nd (ed_ix (ed_var 2) ed_int))
      (sd_cons (sd_if (td_eq hu (ed_var 3) ed_str)
        (sd_one (sd_set (i := 4) S.nd (ed_ix (ed_var 2) ed_int)))
        (sd_one (sd_if (td_ne hu (ed_var 3) ed_str)
        (sd_one (sd_set (i := 5) S.nd (ed_ix (ed_var 2) ed_int)))
        sd_nil)))
      (sd_cons (sd_set (i := 6) S.nd ed_non)
      (sd_cons (sd_if (td_ne hu (ed_var 5) (ed_tup ad_nil))
        (sd_one (sd_set (i := 6) S.nd (ed_callC hx (ok__law_at X) (hr.mono (by decide)) (ad_cons (ed_ix (ed_var 0) ed_int) (ad_cons (ed_var 1) (ad_cons ed_str (ad_cons (ed_var 5) ad_nil)))))))
        sd_nil)
      (sd_cons (sd_if (td_eq hu (ed_var 3) ed_str)
        (sd_cons (sd_if (PWd.t (wd_or (td_isN (ed_var 6) ed_non) (wd_or (td_ne hu (ed_ix (ed_var 6) ed_int) ed_str) (wd_or1 (td_val (ed_callC hx (ok__law_filled X) (hr.mono (by decide)) (ad_cons (ed_ix (ed_var 0) ed_int) (ad_cons (ed_var 6) ad_nil))))))))
        (sd_one (sd_ret ed_non))
        sd_nil)
      (sd_one (sd_ret (ed_callC hx (ok__law_gone X) (hr.mono (by decide)) (ad_cons (ed_var 0) (ad_cons (ed_ix (ed_var 6) ed_int) ad_nil))))))
        sd_nil)
      (sd_cons (sd_set (i := 7) S.nd (ed_callC hx (ok__law_at X) (hr.mono (by decide)) (ad_cons (ed_ix (ed_var 0) ed_int) (ad_cons (ed_var 1) (ad_cons (ed_var 4) (ad_cons (ed_tup ad_nil) ad_nil))))))
      (sd_cons (sd_if (td_eq hu (ed_var 3) ed_str)
        (sd_cons (sd_if (PWd.t (wd_or (td_isN (ed_var 6) ed_non) (wd_or1 (td_notN (ed_var 7) ed_non))))
        (sd_one (sd_ret ed_non))
        sd_nil)
      (sd_one (sd_ret (ed_callC hx (ok__law_carried X) (hr.mono (by decide)) (ad_cons (ed_var 0) (ad_cons (ed_var 6) (ad_cons (ed_var 4) (ad_cons (ed_tup ad_nil) ad_nil))))))))
        sd_nil)
      (sd_cons (sd_if (td_eq hu (ed_var 3) ed_str)
        (sd_cons (sd_set (i := 12) S.nd (ed_callC hx (ok__law_free X) (hr.mono (by decide)) (ad_cons (ed_ix (ed_var 0) ed_int) (ad_cons (ed_var 1) (ad_cons ed_str (ad_cons (ed_var 5) ad_nil))))))
      (sd_cons (sd_if (PWd.t (wd_or (td_isN (ed_var 7) ed_non) (wd_or1 (td_isN (ed_var 12) ed_non))))
        (sd_one (sd_ret ed_non))
        sd_nil)
      (sd_one (sd_ret (ed_callC hx (ok__law_carried X) (hr.mono (by decide)) (ad_cons (ed_var 0) (ad_cons (ed_var 7) (ad_cons ed_str (ad_cons (ed_var 12) ad_nil)))))))))
        sd_nil)
      (sd_cons (sd_if (PWd.t (wd_or (td_not (td_val (ed_fld (fld_swaps X.T) (ed_var 1)))) (wd_or (td_isN (ed_var 7) ed_non) (wd_or1 (td_isN (ed_var 6) ed_non)))))
        (sd_one (sd_ret ed_non))
        sd_nil)
      (sd_cons (sd_set (i := 8) S.nd (ed_callC hx (ok__law_carried X) (hr.mono (by decide)) (ad_cons (ed_var 0) (ad_cons (ed_var 6) (ad_cons ed_str (ad_cons (ed_tup ad_nil) ad_nil))))))
      (sd_cons (sd_set (i := 9) S.nd (ed_callC hx (ok__law_carried X) (hr.mono (by decide)) (ad_cons (ed_var 8) (ad_cons (ed_var 7) (ad_cons ed_str (ad_cons (ed_ix (ed_var 6) ed_int) ad_nil))))))
      (sd_cons (sd_set (i := 10) S.nd (ed_ix (ed_lc S.nd (id_L (ed_ix (ed_var 9) ed_int)) (blkOk_by (own := [("_law_other", 13)]) (N := ["_law_state", "_law_rule_here", "_law_operation_here", "_law_word", "_law_place", "_law_path_here", "_law_row", "_law_lying", "_law_away", "_law_given", "_law_there", "_law_after", "_law_free_here", "_law_other"]) (sc := defScope s__law_carry) (by decide +kernel)) (fun _ _ _ _ _ => pg_name (i := 13) S.nd rfl (by first | exact Or.inl rfl | exact Or.inr rfl)) (fun _ _ _ _ _ => tsd_one (td_eq hu (ed_ix (ed_var 13) ed_int) (ed_ix (ed_var 6) ed_int))) (fun _ _ _ _ _ => (ed_var 13))) ed_int))
      (sd_cons (sd_set (i := 11) S.nd (ed_callC hx (ok__law_carried X) (hr.mono (by decide)) (ad_cons (ed_var 9) (ad_cons (ed_var 10) (ad_cons (ed_var 4) (ad_cons (ed_tup ad_nil) ad_nil))))))
      (sd_one (sd_ret (ed_lst (ad_cons (ed_ix (ed_var 11) ed_int) (ad_cons (ed_ix (ed_var 11) ed_int) (ad_cons (ed_ix (ed_var 11) ed_int) (ad_cons (ed_add (ed_ix (ed_var 0) ed_int) ed_int) (ad_cons (ed_ix (ed_var 11) ed_int) ad_nil)))))))))))))))))))))))
theorem sc__law_change : FnScope ["_law_state", "_law_rule_here", "_law_operation_here", "_law_word", "_law_row", "_law_free_here"] ["_law_state", "_law_rule_here", "_law_operation_here"] (defScope s__law_change) := ⟨rfl, rfl, rfl, by decide +kernel, rfl, by decide +kernel, by decide +kernel⟩
theorem ok__law_change (X : Facts C mg base) : CalP P w C mg base "_law_change" 7 3 (spP C 3 D__law_change) := by
  obtain ⟨f, fd, Fn, hm⟩ := X.d__law_change
  refine ⟨f, fd, ["_law_state", "_law_rule_here", "_law_operation_here"], ?_, hm, Fn.kp, Fn.binds fun _ _ _ _ _ _ us hl => match us, hl with | [_, _, _], _ => rfl, rfl⟩
  have S := sc__law_change
  refine fn_pure (sv := b__law_change) (N := ["_law_state", "_law_rule_here", "_law_operation_here", "_law_word", "_law_row", "_law_free_here"]) (ps := ["_law_state", "_law_rule_here", "_law_operation_here"]) Fn S (fun cdv A outer s H E hr => ?_)
  have hx : Passes (L2.CX P w) (cxOf (L2.CX P w) P w C.K mg base ["_law_state", "_law_rule_here", "_law_operation_here", "_law_word", "_law_row", "_law_free_here"] "_law_change" (defScope s__law_change) f cdv A outer s H E).nox E0 := passL
  have hu : Deep (cxOf (L2.CX P w) P w C.K mg base ["_law_state", "_law_rule_here", "_law_operation_here", "_law_word", "_law_row", "_law_free_here"] "_law_change" (defScope s__law_change) f cdv A outer s H E).nox := deep_of hr
  exact (sd_cons (sd_set (i := 3) S.nd (ed_ix (ed_var 2) ed_int))
      (sd_cons (sd_if (td_eq hu (ed_var 3) ed_str)
        (sd_cons (sd_set (i := 4) S.nd (ed_callC hx (ok__law_at X) (hr.mono (by decide)) (ad_cons (ed_ix (ed_var 0) ed_int) (ad_cons (ed_var 1) (ad_cons (ed_ix (ed_var 2) ed_int) (ad_cons (ed_tup ad_nil) ad_nil))))))
      (sd_cons (sd_if (td_isN (ed_var 4) ed_non)
        (sd_one (sd_ret (ed_callC hx (ok__law_put X) (hr.mono (by decide)) (ad_cons (ed_var 0) (ad_cons (ed_ix (ed_var 2) ed_int) (ad_cons (ed_tup ad_nil) (ad_cons ed_str (ad_cons (ed_ix (ed_var 2) ed_int) (ad_cons (ed_ix (ed_var 2) ed_int) (ad_cons ed_bl ad_nil))))))))))
        sd_nil)
      (sd_cons (sd_if (td_not (td_val (ed_ix (ed_var 4) ed_int)))
        (sd_one (sd_ret ed_non))
        sd_nil)
      (sd_one (sd_ret (ed_callC hx (ok__law_with_text X) (hr.mono (by decide)) (ad_cons (ed_var 0) (ad_cons (ed_var 4) (ad_cons (ed_add (ed_ix (ed_var 4) ed_int) (ed_ix (ed_var 2) ed_int)) (ad_cons (ed_ix (ed_var 2) ed_int) (ad_cons ed_int ad_nil)))))))))))
        sd_nil)
      (sd_cons (sd_if (td_eq hu (ed_var 3) ed_str)
        (sd_cons (sd_set (i := 5) S.nd (ed_callC hx (ok__law_free X) (hr.mono (by decide)) (ad_cons (ed_ix (ed_var 0) ed_int) (ad_cons (ed_var 1) (ad_cons ed_str (ad_cons (ed_ix (ed_var 2) ed_int) ad_nil))))))
      (sd_cons (sd_if (td_isN (ed_var 5) ed_non)
        (sd_one (sd_ret ed_non))
        sd_nil)
      (sd_one (sd_ret (ed_callC hx (ok__law_put X) (hr.mono (by decide)) (ad_cons (ed_var 0) (ad_cons ed_str (ad_cons (ed_var 5) (ad_cons ed_str (ad_cons ed_str (ad_cons ed_bl (ad_cons ed_bl ad_nil))))))))))))
        sd_nil)
      (sd_cons (sd_if (td_eq hu (ed_var 3) ed_str)
        (sd_cons (sd_set (i := 4) S.nd (ed_callC hx (ok__law_at X) (hr.mono (by decide)) (ad_cons (ed_ix (ed_var 0) ed_int) (ad_cons (ed_var 1) (ad_cons (ed_ix (ed_var 2) ed_int) (ad_cons (ed_tup ad_nil) ad_nil))))))
      (sd_cons (sd_if (PWd.t (wd_or (td_isN (ed_var 4) ed_non) (wd_or (td_ne hu (ed_ix (ed_var 4) ed_int) ed_str) (wd_or (td_ne hu (ed_ix (ed_var 4) ed_int) (ed_ix (ed_var 2) ed_int)) (wd_or1 (td_inL hu (ed_ix (ed_var 4) ed_int) (ed_ix (ed_var 0) ed_int)))))))
        (sd_one (sd_ret ed_non))
        sd_nil)
      (sd_one (sd_ret (ed_callC hx (ok__law_gone X) (hr.mono (by decide)) (ad_cons (ed_var 0) (ad_cons (ed_ix (ed_var 4) ed_int) ad_nil)))))))
        sd_nil)
      (sd_one (sd_ret (ed_callC hx (ok__law_carry X) (hr.mono (by decide)) (ad_cons (ed_var 0) (ad_cons (ed_var 1) (ad_cons (ed_var 2) ad_nil))))))))))
end
end FK
set_option Elab.async false
set_option linter.all false
set_option maxRecDepth 100000
set_option maxHeartbeats 1000000
/-! The law's cells. -/
namespace FK
open PySem PySem.Spec PyProof.Rows L2
section
variable {C : Cs} {P : Program} {w : World} {mg : Str → Option Value} {base : Heap}
theorem sc__law_cells : FnScope ["_law_script", "_law_count", "_law_cells_here", "_law_k", "_law_cell"] ["_law_script", "_law_count"] (defScope s__law_cells) := ⟨rfl, rfl, rfl, by decide +kernel, rfl, by decide +kernel, by decide +kernel⟩
/-- n ints, whatever they are -/
def spCells (C : Cs) : Sp := fun vs H Q _ => ∃ (a : Addr) (ns : List Int) (n : Nat), vs = [.ref a, .int (n : Int)] ∧ SqL C.K H a (ns.map V.int) ∧ ns.length ≤ 63 ∧ n ≤ 900 ∧
  ∀ (cells : List Int) (p : Addr), cells.length = n → H p = none → Q (.ref p) (upd H p (.lst (cells.map V.int)))
theorem ok__law_cells (X : Facts C mg base) : CalP P w C mg base "_law_cells" 1 2 (spCells C) := by
  obtain ⟨f, fd, Fn, hm⟩ := X.d__law_cells
  refine ⟨f, fd, ["_law_script", "_law_count"], ?_, hm, Fn.kp, Fn.binds fun _ _ _ _ _ _ us hl => match us, hl with | [_, _], _ => rfl, rfl⟩
  have S := sc__law_cells
  refine Fn.okX S (fun vs H Q E h => ?_) (fun cdv A outer s H vs Q E hr h => ?_)
  · obtain ⟨a, ns, n, rfl, _⟩ := h
    rfl
  · obtain ⟨a, ns, n, rfl, hS, h63, hn, q⟩ := h
    refine ⟨_, PSs.nox (pss_cons (ps_set (i := 2) S.nd rfl (Or.inl rfl) (pe_lst pa_nil))
      (pss_cons (ps_for PassesOwn.never rfl (pi_range1 rfl X.T.range (pa_cons (pv 1) pa_nil)) (pg_name (i := 3) S.nd rfl (Or.inl rfl))
        (pss_cons (ps_set (i := 4) S.nd rfl (Or.inl rfl) pe_int)
        (C8.pss_cut (ps_if (pt_cmpR op_lt (pv 3) (pe_callB call_len_seq rfl X.T.len PySem.boot_len (pa_cons (pv 0) pa_nil)) (nomark _))
            (pss_one (ps_set (i := 4) S.nd rfl (Or.inl rfl) (pe_callTy call_int1 rfl X.T.int PyProof.Rows.boot_int (pa_cons (pe_ix ix_list (pv 0) (pv 3) (fun _ _ => rfl)) pa_nil)))) pss_nil)
        (C8.pss_cut (ps_if (pt_cmpR op_lt (pv 4) pe_int (nomark _)) (pss_one (ps_set (i := 4) S.nd rfl (Or.inl rfl) (pe_op op_sub pe_int (pe_op op_mul pe_int (pv 4))))) pss_nil)
        (C8.pss_cut (ps_if (PW.pt (pw_or (pt_cmpR op_ge (pv 3) (pe_callB call_len_seq rfl X.T.len PySem.boot_len (pa_cons (pv 0) pa_nil)) (nomark _)) (pw_or1 (pt_cmpR op_lt (pv 4) pe_int (nomark _)))))
            (C8.pss_cut (ps_if (pt_cmpR op_gt (pe_callB call_len_seq rfl X.T.len PySem.boot_len (pa_cons (pv 0) pa_nil)) pe_int (nomark _))
                (pss_one (ps_set (i := 4) S.nd rfl (Or.inl rfl) (pe_callTy call_int1 rfl X.T.int PyProof.Rows.boot_int (pa_cons (pe_ix ix_list (pv 0) (pe_op op_modN (pe_callTy call_int1 rfl X.T.int PyProof.Rows.boot_int (pa_cons (pv 3) pa_nil)) (pe_callB call_len_seq rfl X.T.len PySem.boot_len (pa_cons (pv 0) pa_nil))) (fun _ _ => rfl)) pa_nil)))) pss_nil)
            (C8.pss_cut (ps_if (pt_cmpR op_lt (pv 4) pe_int (nomark _)) (pss_one (ps_set (i := 4) S.nd rfl (Or.inl rfl) (pe_op op_sub pe_int (pe_op op_mul pe_int (pv 4))))) pss_nil)
            (pss_cons (ps_set (i := 4) S.nd rfl (Or.inl rfl) (pe_op op_modN (pe_callTy call_int1 rfl X.T.int PyProof.Rows.boot_int (pa_cons (pe_op op_add (pe_op op_mul (pe_op op_add (pe_op op_add (pv 4) (pe_op op_mul pe_int (pv 3))) pe_int) pe_int) (pe_op op_mul (pe_op op_mul (pv 3) (pv 3)) pe_int)) pa_nil)) pe_int))
            (pss_one (ps_set (i := 4) S.nd rfl (Or.inl rfl) (pe_op op_modN (pe_callTy call_int1 rfl X.T.int PyProof.Rows.boot_int (pa_cons (pe_op op_mul (pe_op op_add (pe_op op_add (pv 4) (pe_op op_mul pe_int (pv 3))) pe_int) pe_int) pa_nil)) pe_int)))))) pss_nil)
        (pss_one (ps_expr (pe_bm PySem.F.plainAttrs_list PySem.F.slot_list_append PySem.F.type_list_append mt_append (pv 2) (pa_cons (pv 4) pa_nil)))))))))
      (pss_one (ps_ret (pv 2))))), ?_⟩
    refine ⟨Nat.zero_le _, fun p hp => ?_⟩
    have sm : ∀ l : List V, Same H (upd H p (.lst l)) := fun l b o e => by
      rw [upd_ne (ne_of_none e hp)]
      exact e
    refine ⟨_, rfl, (n : Int), rfl, by omega, by omega, ?_⟩
    rw [Int.toNat_natCast]
    refine for_range (lo := 0) (n := n) (fun i σ H' => ∃ (cells : List Int) (k c : Option V), cells.length = i ∧ σ = [some (.ref a), some (.int n), some (.ref p), k, c] ∧ H' = upd H p (.lst (cells.map V.int))) ⟨[], none, none, rfl, rfl, rfl⟩ ?_ ?_
    · rintro i σ H' hi ⟨cells, k0, c0, hlen, rfl, rfl⟩
      have hS' : SqL C.K (upd H p (.lst (cells.map V.int))) a (ns.map V.int) := (sm _).seq hS
      -- the state with the cell c
      let Mid : L2.St → Hp → Prop := fun σ' H' => H' = upd H p (.lst (cells.map V.int)) ∧ ∃ c : Int, σ' = [some (.ref a), some (.int n), some (.ref p), some (.int (0 + (i : Nat))), some (.int c)]
      have at_ : ∀ z : Int, 0 ≤ z → z < (ns.length : Int) → ∃ y : Int, atI (ns.map V.int) z = some (.int y) := fun z h0 h1 => by
        obtain ⟨j, rfl⟩ : ∃ j : Nat, z = (j : Int) := ⟨z.toNat, by omega⟩
        have hj : j < ns.length := by omega
        refine ⟨ns[j], ?_⟩
        unfold atI ixN
        rw [List.length_map, if_pos h0, if_pos h1]
        simp [hj]
      refine ⟨Mid, ⟨_, rfl, _, rfl, a, _, rfl, .inl hS', _, _, rfl, rfl, _, rfl, ?_⟩, ?_⟩
      · refine ite2 (fun hc => ?_) (fun _ => ⟨rfl, 0, rfl⟩)
        have hc' := of_decide_eq_true hc
        rw [List.length_map] at hc'
        obtain ⟨y, hy⟩ := at_ (0 + (i : Nat)) (by omega) hc'
        exact ⟨_, rfl, _, rfl, a, _, _, _, rfl, rfl, hS', hy, .inl ⟨y, rfl, rfl, y, rfl⟩⟩
      rintro σ1 H1 ⟨rfl, c1, rfl⟩
      refine ⟨Mid, ⟨_, rfl, _, _, rfl, rfl, _, rfl, ?_⟩, ?_⟩
      · refine ite2 (fun _ => ?_) (fun _ => ⟨rfl, c1, rfl⟩)
        exact ⟨_, rfl, _, _, rfl, rfl, .inl ⟨by decide, by decide⟩, _, _, rfl, rfl, rfl, _, rfl⟩
      rintro σ2 H2 ⟨rfl, c2, rfl⟩
      refine ⟨Mid, ?_, ?_⟩
      · refine ⟨_, rfl, _, rfl, a, _, rfl, .inl hS', _, _, rfl, rfl, _, rfl, ?_⟩
        refine ite2 (fun _ => iteT ?_) (fun _ => ⟨_, rfl, _, _, rfl, rfl, _, rfl, ite2 (fun _ => ?_) (fun _ => ⟨rfl, c2, rfl⟩)⟩)
        all_goals
          refine ⟨Mid, ⟨_, rfl, a, _, rfl, .inl hS', _, _, rfl, rfl, _, rfl, ?_⟩, ?_⟩
          · refine ite2 (fun hc => ?_) (fun _ => ⟨rfl, c2, rfl⟩)
            have hc' := of_decide_eq_true hc
            rw [List.length_map] at hc'
            have hm1 : 0 ≤ (0 + (i : Int)).fmod (ns.length : Int) := Int.fmod_nonneg_of_pos _ hc'
            have hm2 : (0 + (i : Int)).fmod (ns.length : Int) < (ns.length : Int) := Int.fmod_lt_of_pos _ hc'
            obtain ⟨y, hy⟩ := at_ _ hm1 hm2
            refine ⟨_, rfl, _, rfl, .inl ⟨_, rfl, _, rfl, a, _, rfl, .inl hS', _, _, rfl, rfl, ?_, a, _, _, _, rfl, rfl, hS', ?_, .inl ⟨y, rfl, rfl, y, rfl⟩⟩⟩
            · rw [List.length_map]
              omega
            · rw [List.length_map]
              exact hy
          rintro σ4 H4 ⟨rfl, c4, rfl⟩
          refine ⟨Mid, ⟨_, rfl, _, _, rfl, rfl, _, rfl, ?_⟩, ?_⟩
          · refine ite2 (fun _ => ?_) (fun _ => ⟨rfl, c4, rfl⟩)
            exact ⟨_, rfl, _, _, rfl, rfl, .inl ⟨by decide, by decide⟩, _, _, rfl, rfl, rfl, _, rfl⟩
          rintro σ5 H5 ⟨rfl, c5, rfl⟩
          refine ⟨_, rfl, _, rfl, _, _, rfl, rfl, .inl ⟨by decide, by decide⟩, _, _, rfl, rfl, _, _, rfl, rfl, _, _, rfl, rfl, .inr ⟨by decide, by decide⟩, _, rfl, _, rfl, _, _, rfl, rfl, .inl ⟨by omega, by omega⟩, _, _, rfl, rfl, .inr ⟨by decide, by decide⟩, _, _, rfl, rfl, .inl ⟨_, rfl, _, _, rfl, rfl, (by show (1000000007 : Int) ≠ 0; decide), ?_⟩⟩
          refine ⟨_, rfl, _, rfl, _, _, rfl, rfl, .inl ⟨by decide, by decide⟩, _, _, rfl, rfl, _, _, rfl, rfl, _, _, rfl, rfl, .inr ⟨by decide, by decide⟩, .inl ⟨_, rfl, _, _, rfl, rfl, (by show (18446744073709551557 : Int) ≠ 0; decide), ?_⟩⟩
          exact ⟨rfl, _, rfl⟩
      rintro σ3 H3 ⟨rfl, c3, rfl⟩
      refine ⟨_, rfl, .inl ⟨rfl, _, SqL.of upd_same⟩, _, rfl, p, _, _, rfl, rfl, upd_same, by rw [List.length_map, hlen]; exact small1000 (by omega), ?_⟩
      rw [upd_upd]
      exact ⟨cells ++ [c3], _, _, by simp [hlen], rfl, by rw [List.map_append]; rfl⟩
    · rintro σ H' ⟨cells, k0, c0, hlen, rfl, rfl⟩
      exact ⟨_, rfl, q cells p hlen hp⟩
end
end FK
set_option Elab.async false
set_option linter.all false
set_option maxRecDepth 100000
set_option maxHeartbeats 1000000
/-! Rule and the law's rule. -/
namespace FK
open PySem PySem.Spec PyProof.Rows L2
section
variable {C : Cs} {P : Program} {w : World} {mg : Str → Option Value} {base : Heap}
abbrev psRule : List Str := ["self", "alike", "unfit", "longest", "swaps", "reads", "cuts", "turns"]
abbrev ksRule : List Str := ["alike", "unfit", "longest", "swaps", "reads", "cuts", "turns"]
def ruleV (a u l s r c t : V) : List (Str × V) := [("alike", a), ("unfit", u), ("longest", l), ("swaps", s), ("reads", r), ("cuts", c), ("turns", t)]
def spRuleInit (C : Cs) : Sp := fun vs H Q _ => ∃ (p dx : Addr) (a u l s r c t : V), vs = [.ref p, a, u, l, s, r, c, t] ∧ H p = some (.ins C.CR dx []) ∧ Q .non (upd H p (.ins C.CR dx (ruleV a u l s r c t)))
theorem sc_Rule_init : FnScope psRule psRule (defScope s_Rule_init) := ⟨rfl, rfl, rfl, by decide +kernel, rfl, by decide +kernel, by decide +kernel⟩
theorem ok_Rule_init (X : Facts C mg base) {f : Addr} {fd : FuncData} (Fn : Fun C.K "__init__" "Rule.__init__" s_Rule_init f fd) : FnOk P w C.K mg base (L2.CX P w) 1 f fd psRule (spRuleInit C) := by
  have S := sc_Rule_init
  refine Fn.okX S (fun vs H Q E h => ?_) (fun cdv A outer s H vs Q E hr h => ?_)
  · obtain ⟨p, dx, a, u, l, s, r, c, t, rfl, _⟩ := h
    rfl
  · obtain ⟨p, dx, a, u, l, s, r, c, t, rfl, hp, q⟩ := h
    refine ⟨_, PSs.nox (pss_cons (ps_fld (pv 0) (pv 1) rfl) (pss_cons (ps_fld (pv 0) (pv 2) rfl) (pss_cons (ps_fld (pv 0) (pv 3) rfl) (pss_cons (ps_fld (pv 0) (pv 4) rfl) (pss_cons (ps_fld (pv 0) (pv 5) rfl)
      (pss_cons (ps_fld (pv 0) (pv 6) rfl) (pss_one (ps_fld (pv 0) (pv 7) rfl)))))))), ?_⟩
    have n : ∀ f ∈ ruleNames, NoAttr C.K C.CR f := X.T.nR
    refine ⟨_, rfl, _, rfl, p, C.CR, dx, _, rfl, hp, X.T.clR, n _ (by decide +kernel), (by show 0 < 1000; decide), ?_⟩
    refine ⟨_, rfl, _, rfl, p, C.CR, dx, _, rfl, upd_same, X.T.clR, n _ (by decide +kernel), (by show 1 < 1000; decide), ?_⟩
    rw [upd_upd]
    refine ⟨_, rfl, _, rfl, p, C.CR, dx, _, rfl, upd_same, X.T.clR, n _ (by decide +kernel), (by show 2 < 1000; decide), ?_⟩
    rw [upd_upd]
    refine ⟨_, rfl, _, rfl, p, C.CR, dx, _, rfl, upd_same, X.T.clR, n _ (by decide +kernel), (by show 3 < 1000; decide), ?_⟩
    rw [upd_upd]
    refine ⟨_, rfl, _, rfl, p, C.CR, dx, _, rfl, upd_same, X.T.clR, n _ (by decide +kernel), (by show 4 < 1000; decide), ?_⟩
    rw [upd_upd]
    refine ⟨_, rfl, _, rfl, p, C.CR, dx, _, rfl, upd_same, X.T.clR, n _ (by decide +kernel), (by show 5 < 1000; decide), ?_⟩
    rw [upd_upd]
    refine ⟨_, rfl, _, rfl, p, C.CR, dx, _, rfl, upd_same, X.T.clR, n _ (by decide +kernel), (by show 6 < 1000; decide), ?_⟩
    rw [upd_upd]
    exact q
theorem kb_Rule {f : Addr} {fd : FuncData} (Fn : Fun C.K "__init__" "Rule.__init__" s_Rule_init f fd) : KBn C.K fd psRule 1 ksRule (fun us ws => us ++ ws) (fun vs zs => vs ++ zs) := by
  obtain ⟨oc, od, kV, doc, pm, an, cdv, ct, osl, rfl, lk, hcd⟩ := Fn.ex
  refine ⟨fun s us ws X l1 l2 => BindsTo.of_looks fun M => PySem.W.Looks.of_pure ?_, fun r1 r2 => r1.append r2⟩
  match us, l1, ws, l2 with
  | [_], _, [_, _, _, _, _, _, _], _ => rfl
/-- the menu of the law's rules -/
def alikes : List (List Str) := [[], [("Aa" : Str), ("Bb" : Str)], [("Aa" : Str), ("Bb" : Str), ("Tt" : Str), ("Xx" : Str)]]
def unfits : List (List Str) := [[], [("d" : Str)], [("d" : Str), ("b" : Str)]]
def MenuR (r : RuleD) : Prop := r.alike ∈ alikes ∧ r.unfit ∈ unfits ∧ r.longest = 48
/-- a rule in full sight -/
def RuleIn (C : Cs) (H : Hp) (a : Addr) (r : RuleD) : Prop := ∃ dx p1 p2, H a = some (.ins C.CR dx (ruleF p1 p2 r)) ∧ H p1 = some (.tup (r.alike.map .str)) ∧ H p2 = some (.tup (r.unfit.map .str))
def Ups (H H' : Hp) : Prop := ∀ p o, H p = some o → H' p = some o
def spRule (C : Cs) : Sp := fun vs H Q _ => ∃ c : Int, vs = [.int c] ∧ ∀ (a : Addr) (r : RuleD) (H' : Hp), Ups H H' → RuleIn C H' a r → MenuR r → Q (.ref a) H'
theorem sc__law_rule : FnScope ["_law_cell", "_law_alike", "_law_unfit", "_law_swaps", "_law_reads", "_law_cuts_here", "_law_turns"] ["_law_cell"] (defScope s__law_rule) := ⟨rfl, rfl, rfl, by decide +kernel, rfl, by decide +kernel, by decide +kernel⟩
theorem Ups.refl (H : Hp) : Ups H H := fun _ _ h => h
theorem Ups.trans {H H' H2 : Hp} (a : Ups H H') (b : Ups H' H2) : Ups H H2 := fun p o h => b p o (a p o h)
theorem Ups.upd {H : Hp} {p : Addr} {o : HO} (h : H p = none) : Ups H (upd H p o) := fun b u e => by
  rw [upd_ne (ne_of_none e h)]
  exact e
theorem atI3 {x y z : V} {i : Int} (h0 : 0 ≤ i) (h1 : i < 3) : atI [x, y, z] i = some x ∨ atI [x, y, z] i = some y ∨ atI [x, y, z] i = some z := by
  have : i = 0 ∨ i = 1 ∨ i = 2 := by omega
  rcases this with rfl | rfl | rfl
  · exact .inl rfl
  · exact .inr (.inl rfl)
  · exact .inr (.inr rfl)
theorem ok__law_rule (X : Facts C mg base) : CalP P w C mg base "_law_rule" 3 1 (spRule C) := by
  obtain ⟨f, fd, Fn, hm⟩ := X.d__law_rule
  obtain ⟨fR, fdR, FnR, MR⟩ := X.d_Rule_init
  have GR : FnOk P w C.K mg base (L2.CX P w) 1 fR fdR psRule (spRuleInit C) := ok_Rule_init X FnR
  have bR := kb_Rule (C := C) FnR
  refine ⟨f, fd, ["_law_cell"], ?_, hm, Fn.kp, Fn.binds fun _ _ _ _ _ _ us hl => match us, hl with | [_], _ => rfl, rfl⟩
  have S := sc__law_rule
  refine Fn.okX S (fun vs H Q E h => ?_) (fun cdv A outer s H vs Q E hr h => ?_)
  · obtain ⟨c, rfl, _⟩ := h
    rfl
  · obtain ⟨c, rfl, q⟩ := h
    refine ⟨_, PSs.nox (C8.pss_cut (ps_set (i := 1) S.nd rfl (Or.inl rfl) (pe_ix ix_list (pe_lst (pa_cons (pe_tup pa_nil) (pa_cons (pe_tup (pa_cons pe_str (pa_cons pe_str pa_nil))) (pa_cons (pe_tup (pa_cons pe_str (pa_cons pe_str (pa_cons pe_str (pa_cons pe_str pa_nil))))) pa_nil))))
          (pe_op op_modN (pe_callTy call_int1 rfl X.T.int PyProof.Rows.boot_int (pa_cons (pv 0) pa_nil)) pe_int) (fun _ _ => rfl)))
      (C8.pss_cut (ps_set (i := 2) S.nd rfl (Or.inl rfl) (pe_ix ix_list (pe_lst (pa_cons (pe_tup pa_nil) (pa_cons (pe_tup (pa_cons pe_str pa_nil)) (pa_cons (pe_tup (pa_cons pe_str (pa_cons pe_str pa_nil))) pa_nil))))
          (pe_op op_modN (pe_op op_fdivN (pe_callTy call_int1 rfl X.T.int PyProof.Rows.boot_int (pa_cons (pv 0) pa_nil)) pe_int) pe_int) (fun _ _ => rfl)))
      (pss_cons (ps_set (i := 3) S.nd rfl (Or.inl rfl) (pe_cmpR op_eq (pe_op op_modN (pe_op op_fdivN (pe_callTy call_int1 rfl X.T.int PyProof.Rows.boot_int (pa_cons (pv 0) pa_nil)) pe_int) pe_int) pe_int (nomark _)))
      (pss_cons (ps_set (i := 4) S.nd rfl (Or.inl rfl) (pe_cmpR op_gt (pe_op op_modN (pe_op op_fdivN (pe_callTy call_int1 rfl X.T.int PyProof.Rows.boot_int (pa_cons (pv 0) pa_nil)) pe_int) pe_int) pe_int (nomark _)))
      (pss_cons (ps_set (i := 5) S.nd rfl (Or.inl rfl) (pe_cmpR op_gt (pe_op op_modN (pe_op op_fdivN (pe_callTy call_int1 rfl X.T.int PyProof.Rows.boot_int (pa_cons (pv 0) pa_nil)) pe_int) pe_int) pe_int (nomark _)))
      (pss_cons (ps_set (i := 6) S.nd rfl (Or.inl rfl) (pe_cmpR op_gt (pe_op op_modN (pe_op op_fdivN (pe_callTy call_int1 rfl X.T.int PyProof.Rows.boot_int (pa_cons (pv 0) pa_nil)) pe_int) pe_int) pe_int (nomark _)))
      (pss_one (ps_ret (pe_makeK0 MR GR (hr.mono (by decide)) rfl X.gR bR passL (pk_cons (pv 1) (pk_cons (pv 2) (pk_cons pe_int (pk_cons (pv 3) (pk_cons (pv 4) (pk_cons (pv 5) (pk_cons (pv 6) pk_nil)))))))))))))))), ?_⟩
    let M1 : L2.St → Hp → Prop := fun σ' H' => Ups H H' ∧ ∃ (p1 : Addr) (al : List Str), al ∈ alikes ∧ H' p1 = some (.tup (al.map V.str)) ∧ σ' = [some (.int c), some (.ref p1), none, none, none, none, none]
    let M2 : L2.St → Hp → Prop := fun σ' H' => Ups H H' ∧ ∃ (p1 p2 : Addr) (al un : List Str), al ∈ alikes ∧ un ∈ unfits ∧ H' p1 = some (.tup (al.map V.str)) ∧ H' p2 = some (.tup (un.map V.str)) ∧ σ' = [some (.int c), some (.ref p1), some (.ref p2), none, none, none, none]
    refine ⟨M1, ?_, ?_⟩
    · refine ⟨by decide, fun q1 n1 => ⟨(by show 2 ≤ sizeLine; decide), fun q2 n2 => ⟨(by show 4 ≤ sizeLine; decide), fun q3 n3 => ⟨(by show 3 ≤ sizeLine; decide), fun ql nl => ?_⟩⟩⟩⟩
      refine ⟨_, rfl, .inl ⟨_, rfl, _, _, rfl, rfl, (by show (3 : Int) ≠ 0; decide), ql, [.ref q1, .ref q2, .ref q3], ?_⟩⟩
      have U1 : Ups H (upd H q1 (.tup [])) := .upd n1
      have U2 := Ups.upd (o := .tup [.str "Aa", .str "Bb"]) n2
      have U3 := Ups.upd (o := .tup [.str "Aa", .str "Bb", .str "Tt", .str "Xx"]) n3
      have U4 := Ups.upd (o := .lst [.ref q1, .ref q2, .ref q3]) nl
      have U := ((U1.trans U2).trans U3).trans U4
      have h1 := (U2.trans (U3.trans U4)) q1 _ upd_same
      have h2 := (U3.trans U4) q2 _ upd_same
      have h3 := U4 q3 _ upd_same
      rcases atI3 (x := .ref q1) (y := .ref q2) (z := .ref q3) (Int.fmod_nonneg_of_pos c (by decide : (0 : Int) < 3)) (Int.fmod_lt_of_pos c (by decide)) with e | e | e
      · exact ⟨_, _, rfl, rfl, SqL.of upd_same, e, U, q1, [], by simp [alikes], h1, rfl⟩
      · exact ⟨_, _, rfl, rfl, SqL.of upd_same, e, U, q2, [("Aa" : Str), ("Bb" : Str)], by simp [alikes], h2, rfl⟩
      · exact ⟨_, _, rfl, rfl, SqL.of upd_same, e, U, q3, [("Aa" : Str), ("Bb" : Str), ("Tt" : Str), ("Xx" : Str)], by simp [alikes], h3, rfl⟩
    rintro σ1 H1 ⟨u1, p1, al, hal, hp1, rfl⟩
    refine ⟨M2, ?_, ?_⟩
    · refine ⟨by decide, fun q1 n1 => ⟨(by show 1 ≤ sizeLine; decide), fun q2 n2 => ⟨(by show 2 ≤ sizeLine; decide), fun q3 n3 => ⟨(by show 3 ≤ sizeLine; decide), fun ql nl => ?_⟩⟩⟩⟩
      refine ⟨_, rfl, .inl ⟨_, rfl, _, _, rfl, rfl, ⟨(by show (3 : Int) ≠ 0; decide), (by show (3 : Int).natAbs < 1073741824; decide)⟩, _, _, rfl, rfl, (by show (3 : Int) ≠ 0; decide), ql, [.ref q1, .ref q2, .ref q3], ?_⟩⟩
      have U1 : Ups H1 (upd H1 q1 (.tup [])) := .upd n1
      have U2 := Ups.upd (o := .tup [.str "d"]) n2
      have U3 := Ups.upd (o := .tup [.str "d", .str "b"]) n3
      have U4 := Ups.upd (o := .lst [.ref q1, .ref q2, .ref q3]) nl
      have U := ((U1.trans U2).trans U3).trans U4
      have h1 := (U2.trans (U3.trans U4)) q1 _ upd_same
      have h2 := (U3.trans U4) q2 _ upd_same
      have h3 := U4 q3 _ upd_same
      rcases atI3 (x := .ref q1) (y := .ref q2) (z := .ref q3) (Int.fmod_nonneg_of_pos (c.fdiv 3) (by decide : (0 : Int) < 3)) (Int.fmod_lt_of_pos (c.fdiv 3) (by decide)) with e | e | e
      · exact ⟨_, _, rfl, rfl, SqL.of upd_same, e, u1.trans U, p1, q1, al, [], hal, by simp [unfits], U _ _ hp1, h1, rfl⟩
      · exact ⟨_, _, rfl, rfl, SqL.of upd_same, e, u1.trans U, p1, q2, al, [("d" : Str)], hal, by simp [unfits], U _ _ hp1, h2, rfl⟩
      · exact ⟨_, _, rfl, rfl, SqL.of upd_same, e, u1.trans U, p1, q3, al, [("d" : Str), ("b" : Str)], hal, by simp [unfits], U _ _ hp1, h3, rfl⟩
    rintro σ2 H2 ⟨u2, p1, p2, al, un, hal, hun, hp1, hp2, rfl⟩
    refine ⟨_, rfl, .inl ⟨_, rfl, _, _, rfl, rfl, ⟨(by show (9 : Int) ≠ 0; decide), (by show (9 : Int).natAbs < 1073741824; decide)⟩, _, _, rfl, rfl, (by show (2 : Int) ≠ 0; decide), rfl, ?_⟩⟩
    refine ⟨_, rfl, .inl ⟨_, rfl, _, _, rfl, rfl, ⟨(by show (18 : Int) ≠ 0; decide), (by show (18 : Int).natAbs < 1073741824; decide)⟩, _, _, rfl, rfl, (by show (3 : Int) ≠ 0; decide), _, _, rfl, rfl, ?_⟩⟩
    refine ⟨_, rfl, .inl ⟨_, rfl, _, _, rfl, rfl, ⟨(by show (54 : Int) ≠ 0; decide), (by show (54 : Int).natAbs < 1073741824; decide)⟩, _, _, rfl, rfl, (by show (3 : Int) ≠ 0; decide), _, _, rfl, rfl, ?_⟩⟩
    refine ⟨_, rfl, .inl ⟨_, rfl, _, _, rfl, rfl, ⟨(by show (162 : Int) ≠ 0; decide), (by show (162 : Int).natAbs < 1073741824; decide)⟩, _, _, rfl, rfl, (by show (5 : Int) ≠ 0; decide), _, _, rfl, rfl, ?_⟩⟩
    refine ⟨_, rfl, _, rfl, _, rfl, _, rfl, _, rfl, _, rfl, rfl, rfl, fun x dx nx ndx ne => ?_⟩
    refine ⟨x, dx, .ref p1, .ref p2, .int 48, _, _, _, _, rfl, upd_same, rfl, ?_⟩
    rw [upd_upd]
    have hdx : upd H2 dx (.own x) x = none := by rw [upd_ne ne.symm]; exact nx
    have V1 := Ups.upd (o := .own x) ndx
    have V2 := V1.trans (Ups.upd (o := .ins C.CR dx (ruleV (.ref p1) (.ref p2) (.int 48) (.bl (decide (V.int (((c.fdiv 9)).fmod 2) = V.int 0))) (.bl (decide (0 < (c.fdiv 18).fmod 3))) (.bl (decide (0 < (c.fdiv 54).fmod 3))) (.bl (decide (0 < (c.fdiv 162).fmod 5))))) hdx)
    exact q x ⟨al, un, 48, decide (V.int (((c.fdiv 9)).fmod 2) = V.int 0), decide (0 < (c.fdiv 18).fmod 3), decide (0 < (c.fdiv 54).fmod 3), decide (0 < (c.fdiv 162).fmod 5)⟩ _ (u2.trans V2) ⟨dx, p1, p2, upd_same, V2 _ _ hp1, V2 _ _ hp2⟩ ⟨hal, hun, rfl⟩
end
end FK
set_option Elab.async false
set_option linter.all false
set_option maxRecDepth 100000
set_option maxHeartbeats 1000000
/-! Host(rule), the law's try, loops of the law. -/
namespace FK
open PySem PySem.Spec PyProof.Rows L2
section
variable {C : Cs} {P : Program} {w : World} {mg : Str → Option Value} {base : Heap}
def hostV (vr : V) (ln lo lh : Addr) : List (Str × V) := [("rule", vr), ("nodes", .ref ln), ("opened", .ref lo), ("had_read", .ref lh), ("next_thing", .int 1), ("turned", .int 0)]
def spHostInit (C : Cs) : Sp := fun vs H Q _ => ∃ (p dx : Addr) (vr : V), vs = [.ref p, vr] ∧ H p = some (.ins C.CH dx []) ∧ ∀ (ln lo lh : Addr) (H' : Hp), H ln = none → H lo = none → H lh = none → ln ≠ lo → ln ≠ lh → lo ≠ lh → (∀ q o, q ≠ p → H q = some o → H' q = some o) →
  H' p = some (.ins C.CH dx (hostV vr ln lo lh)) → H' ln = some (.lst []) → H' lo = some (.lst []) → H' lh = some (.lst []) → Q .non H'
theorem sc_Host_init : FnScope ["self", "rule"] ["self", "rule"] (defScope s_Host_init) := ⟨rfl, rfl, rfl, by decide +kernel, rfl, by decide +kernel, by decide +kernel⟩
theorem ok_Host_init (X : Facts C mg base) {f : Addr} {fd : FuncData} (Fn : Fun C.K "__init__" "Host.__init__" s_Host_init f fd) : FnOk P w C.K mg base (L2.CX P w) 1 f fd ["self", "rule"] (spHostInit C) := by
  have S := sc_Host_init
  refine Fn.okX S (fun vs H Q E h => ?_) (fun cdv A outer s H vs Q E hr h => ?_)
  · obtain ⟨p, dx, vr, rfl, _⟩ := h
    rfl
  · obtain ⟨p, dx, vr, rfl, hp, q⟩ := h
    refine ⟨_, PSs.nox (pss_cons (ps_fld (pv 0) (pv 1) rfl) (pss_cons (ps_fld (pv 0) (pe_lst pa_nil) rfl) (pss_cons (ps_fld (pv 0) (pe_lst pa_nil) rfl) (pss_cons (ps_fld (pv 0) (pe_lst pa_nil) rfl) (pss_cons (ps_fld (pv 0) pe_int rfl)
      (pss_one (ps_fld (pv 0) pe_int rfl))))))), ?_⟩
    have n : ∀ f ∈ hostNames, NoAttr C.K C.CH f := X.T.nH
    refine ⟨_, rfl, _, rfl, p, C.CH, dx, _, rfl, hp, X.T.clH, n _ (by decide +kernel), (by show 0 < 1000; decide), ?_⟩
    refine ⟨by decide, fun ln n1 => ?_⟩
    have p1 : p ≠ ln := fun z => by rw [← z, upd_same] at n1; cases n1
    refine ⟨_, rfl, p, C.CH, dx, _, rfl, (by rw [upd_ne p1]; exact upd_same), X.T.clH, n _ (by decide +kernel), (by show 1 < 1000; decide), ?_⟩
    refine ⟨by decide, fun lo n2 => ?_⟩
    have p2 : p ≠ lo := fun z => by rw [← z, upd_same] at n2; cases n2
    have l1 : ln ≠ lo := fun z => by rw [← z, upd_ne p1.symm, upd_same] at n2; cases n2
    refine ⟨_, rfl, p, C.CH, dx, _, rfl, (by rw [upd_ne p2]; exact upd_same), X.T.clH, n _ (by decide +kernel), (by show 2 < 1000; decide), ?_⟩
    refine ⟨by decide, fun lh n3 => ?_⟩
    have p3 : p ≠ lh := fun z => by rw [← z, upd_same] at n3; cases n3
    have l2 : lo ≠ lh := fun z => by rw [← z, upd_ne p2.symm, upd_same] at n3; cases n3
    have l3 : ln ≠ lh := fun z => by rw [← z, upd_ne p1.symm, upd_ne l1, upd_ne p1.symm, upd_same] at n3; cases n3
    refine ⟨_, rfl, p, C.CH, dx, _, rfl, (by rw [upd_ne p3]; exact upd_same), X.T.clH, n _ (by decide +kernel), (by show 3 < 1000; decide), ?_⟩
    refine ⟨_, rfl, p, C.CH, dx, _, rfl, upd_same, X.T.clH, n _ (by decide +kernel), (by show 4 < 1000; decide), ?_⟩
    refine ⟨_, rfl, p, C.CH, dx, _, rfl, upd_same, X.T.clH, n _ (by decide +kernel), (by show 5 < 1000; decide), ?_⟩
    have N1 : H ln = none := by rw [upd_ne p1.symm] at n1; exact n1
    have N2 : H lo = none := by rw [upd_ne p2.symm, upd_ne l1.symm, upd_ne p2.symm] at n2; exact n2
    have N3 : H lh = none := by rw [upd_ne p3.symm, upd_ne l2.symm, upd_ne p3.symm, upd_ne l3.symm, upd_ne p3.symm] at n3; exact n3
    refine q ln lo lh _ N1 N2 N3 l1 l3 l2 ?_ upd_same ?_ ?_ ?_
    · intro b o nb e
      rw [upd_ne nb, upd_ne nb, upd_ne nb, upd_ne (ne_of_none e N3), upd_ne nb, upd_ne (ne_of_none e N2), upd_ne nb, upd_ne (ne_of_none e N1), upd_ne nb]
      exact e
    · rw [upd_ne p1.symm, upd_ne p1.symm, upd_ne p1.symm, upd_ne l3, upd_ne p1.symm, upd_ne l1, upd_ne p1.symm]
      exact upd_same
    · rw [upd_ne p2.symm, upd_ne p2.symm, upd_ne p2.symm, upd_ne l2, upd_ne p2.symm]
      exact upd_same
    · rw [upd_ne p3.symm, upd_ne p3.symm, upd_ne p3.symm]
      exact upd_same

/-! ### the law's try -/
noncomputable def D__law_does : List D → HostSt → ResE
  | [.host, d], A => (match D_Host_program [.host, d] A with
    | .ok _ A' => .ok (.bl true) A'
    | .exc A' => .ok (.bl false) A'
    | .bad => .bad)
  | _, _ => .bad
theorem sc__law_does : FnScope ["_law_host", "_law_deed_here"] ["_law_host", "_law_deed_here"] (defScope s__law_does) := ⟨rfl, rfl, rfl, by decide +kernel, rfl, by decide +kernel, by decide +kernel⟩
theorem ok__law_does (X : Facts C mg base) (eP : PySem.W.exmOne C.K (.ref C.CX) (.ref C.CX) = some true) : CalP P w C mg base "_law_does" 11 2 (spE C 2 D__law_does) := by
  obtain ⟨f, fd, Fn, hm⟩ := X.d__law_does
  obtain ⟨fp, fdp, pp, Gp, hmp, bp, _⟩ := (ok_Host_program X : MetP P w C mg base C.CH "program" 10 2 (spE C 2 D_Host_program))
  refine ⟨f, fd, ["_law_host", "_law_deed_here"], ?_, hm, Fn.kp, Fn.binds fun _ _ _ _ _ _ us hl => match us, hl with | [_, _], _ => rfl, rfl⟩
  have S := sc__law_does
  refine Fn.okX S (fun vs H Q E h => ?_) (fun cdv Ar outer s H vs Q E hr h => ?_)
  · obtain ⟨g, A, F, ds, _, r, hn, _⟩ := h
    rw [r.length, hn]
    rfl
  · obtain ⟨g, A, F, ds, wd, r, hn, h⟩ := h
    unfold D__law_does at h
    split at h
    · rename_i dd
      simp only [Reps] at r
      obtain ⟨v0, _, rfl, r0, v1, _, rfl, r1, rfl⟩ := r
      simp only [Rep] at r0
      subst r0
      refine ⟨_, PSs.nox (pss_cons (ps_try_only rfl rfl ⟨rfl, by decide, .inl X.gP⟩ takes0 (fun W pn xe tk _ => pss_one (ps_expr (pe_meth (dvs := []) (E := fun cls d H => ∀ σ, W cls d σ H) (pv 0) X.T.clH hmp Gp (hr.mono (by decide)) bp .nil (passes_call tk fun _ _ _ _ h => h _) (pa_cons (pv 1) pa_nil)))) (fun a oe cls d pn _ _ => pss_one (ps_ret pe_bl))) (pss_one (ps_ret pe_bl))), ?_⟩
      obtain ⟨ra, q1, q2⟩ := wd.host
      refine ⟨_, rfl, g.host, g.hdx, _, rfl, q1, host_no (by decide +kernel), _, rfl, g, A, F, [.host, dd], wd, .cons (by simp [Rep]) (.cons r1 .nil), rfl, ?_⟩
      cases qq : D_Host_program [.host, dd] A with
      | ok d A' =>
        rw [qq] at h
        exact fun g' v F' H' x rv => h g' (.bl true) F' H' x (by simp [Rep])
      | exc A' =>
        rw [qq] at h
        exact fun g' F' H' x σ => ⟨true, eP, fun _ a ha => h g' (.bl false) F' H' x (by simp [Rep]), fun z => nomatch z⟩
      | bad => rw [qq] at h; exact h.elim
    · exact h.elim
end

/-! ### a loop over numbers, a test of what a method answers -/
def forR (i : Nat) (body : Se) : List D → Env → HostSt → OutE
  | [], ρ, A => .next ρ A
  | d :: ds, ρ, A => match body (ρ.set i (some d)) A with
    | .next ρ' A' => forR i body ds ρ' A'
    | o => o
def eForR (i : Nat) (lo : Int) (n : Nat) (body : Se) : Se := fun ρ A => forR i body ((List.range n).map fun (j : Nat) => D.int (lo + j)) ρ A
/-- if (an answer) != e -/
def eIfNe (a : Ee) (b : Ev) (x y : Se) : Se := fun ρ A => match a ρ A with
  | .ok d A' => (match b ρ A' with
    | .ok e => (match neD d e A' with
      | .ok (.bl c) => if c = true then x ρ A' else y ρ A'
      | _ => .bad)
    | .exc => .exc A'
    | .bad => .bad)
  | .exc A' => .exc A'
  | .bad => .bad
section
variable {C : Cs} {X : Cx} {E : XK} {e : Expr} {ev : Ev} {sv : Se} {pos pos' apos : Pos} {i : Nat}
theorem se_forR {body : List Stmt} {x : Str} {lo hi : Int} {k1 k2 : Nat} {p p1 p2 : Pos} (T : Txt C X.mg) (hlo : 0 ≤ lo) (hh : lo ≤ hi) (hh2 : hi ≤ 1000) (hp : PassesOwn (model X.prog X.w) X.A X.env X.xe) (hN : X.N.Nodup) (hb : PSse C X E body sv) (hg : Gl X "range" := by rfl) (hix : X.N[i]? = some x := by rfl) (hx : Loc X.env.scope x := by first | exact Or.inl rfl | exact Or.inr rfl)
    (hf : X.fn x = true ∨ X.env.scope.names.lookup x = some .local := by first | exact .inl rfl | exact .inr rfl) (hc : X.calm = true := by rfl) :
    PSe C X E (.For (.Name x pos') (.Call (.Name "range" p) [.Constant (.int lo) k1 p1, .Constant (.int hi) k2 p2] [] apos) body [] pos) (eForR i lo (hi - lo).toNat sv) := by
  obtain ⟨u, h3, h4⟩ := hb
  refine ⟨_, ps_for hp hc (pi_range2 hg T.range (pa_cons pe_int (pa_cons pe_int pa_nil))) (pg_name hN hix hx hf) h3 (by intro _; rfl), fun g A F H σ ρ D w er h => ?_⟩
  refine ⟨lo, hi, rfl, ⟨by omega, by omega, by omega, by omega⟩, ?_⟩
  unfold eForR at h
  generalize hn : (hi - lo).toNat = n at h ⊢
  generalize hds : ((List.range n).map fun (j : Nat) => FK.D.int (lo + j)) = ds at h
  have ln : ds.length = n := by rw [← hds, List.length_map, List.length_range]
  refine for_range (lo := lo) (n := n) (fun k σ' H1 => ∃ g1 A1 F1 ρ', Stp C g A F H g1 A1 F1 H1 ∧ EnvRep C g1 F1 ρ' σ' ∧ PostSE C g1 A1 F1 H1 (forR i sv (ds.drop k) ρ' A1) D E)
    ⟨g, A, F, ρ, Stp.refl w, er, h⟩ ?_ ?_
  · rintro k σ' H1 hk ⟨g1, A1, F1, ρ', x1, er1, hq⟩
    have hk' : k < ds.length := by omega
    have eth : ds[k] = .int (lo + (k : Nat)) := by subst hds; simp
    rw [List.drop_eq_getElem_cons hk'] at hq
    unfold forR at hq
    rw [eth] at hq
    refine h4 g1 A1 F1 _ _ (ρ'.set i (some (.int (lo + (k : Nat))))) _ x1.w (er1.set (by simp [Rep])) ?_
    cases q7 : sv (ρ'.set i (some (.int (lo + (k : Nat))))) A1 with
    | next ρ2 A2 =>
      rw [q7] at hq
      exact fun g3 σ3 F3 H3 x3 er3 => ⟨g3, A2, F3, ρ2, x1.trans x3, er3, PostSE.trans x3 hq⟩
    | ret d A2 => rw [q7] at hq; exact hq
    | exc A2 => rw [q7] at hq; exact hq
    | bad => rw [q7] at hq; exact hq
  · rintro σ' H1 ⟨g1, A1, F1, ρ', x1, er1, hq⟩
    rw [← ln, List.drop_length] at hq
    exact hq g1 σ' F1 H1 (Stp.refl x1.w) er1
theorem se_ifNe {a b : Expr} {ea : Ee} {eb : Ev} {s1 s2 : List Stmt} {v1 v2 : Se} (hu : Deep X) (ha : PEe C X E a ea) (hb : PEd C X E b eb) (h1 : PSse C X E s1 v1) (h2 : PSse C X E s2 v2) (hK : X.K = C.K := by rfl) :
    PSe C X E (.If (.Compare a [.NotEq] [b] pos) s1 s2 pos') (eIfNe ea eb v1 v2) := by
  obtain ⟨t, h3, h4⟩ := ha
  obtain ⟨u, h5, h6⟩ := hb
  obtain ⟨t1, h7, h8⟩ := h1
  obtain ⟨t2, h9, h10⟩ := h2
  refine ⟨_, ps_if (pt_cmpR (op_neD hu.lt) h3 h5 (nomark _)) h7 h9, fun g A F H σ ρ D w er h => ?_⟩
  refine h4 g A F H σ ρ _ w er ?_
  unfold eIfNe at h
  cases q : ea ρ A with
  | ok d A' =>
    rw [q] at h
    dsimp only at h
    intro g' v F' H' x r
    refine h6 g' A' F' H' σ ρ _ x.w (x.env er) ?_
    cases q2 : eb ρ A' with
    | ok e =>
      rw [q2] at h
      dsimp only at h
      intro v2 F2 H2 x2 r2
      have sn : Snd2 C (rNeD X.K) neD := by rw [hK]; exact snd_ne
      refine sn g' A' F2 H2 v v2 d e _ E x2.w (r.up x2.fup) r2 ?_
      cases q3 : neD d e A' with
      | ok z =>
        rw [q3] at h
        cases z with
        | bl c =>
          dsimp only at h
          intro v3 F3 H3 x3 r3
          simp only [Rep] at r3
          subst r3
          refine ⟨c, rfl, ?_⟩
          have X3 := (x.trans x2.stp).trans x3.stp
          show if c = true then t1 D σ H3 else t2 D σ H3
          by_cases hk : c = true
          · rw [if_pos hk] at h ⊢
            exact h8 g' A' F3 H3 σ ρ D x3.w (X3.env er) (PostSE.trans X3 h)
          · rw [if_neg hk] at h ⊢
            exact h10 g' A' F3 H3 σ ρ D x3.w (X3.env er) (PostSE.trans X3 h)
        | _ => exact h.elim
      | exc => rw [q3] at h; exact h.elim
      | bad => rw [q3] at h; exact h.elim
    | exc => rw [q2] at h; exact fun F2 H2 x2 => h g' F2 H2 (x.trans x2.stp)
    | bad => rw [q2] at h; exact h.elim
  | exc A' => rw [q] at h; exact h
  | bad => rw [q] at h; exact h.elim
end
end FK
set_option Elab.async false
set_option linter.all false
set_option maxRecDepth 100000
set_option maxHeartbeats 4000000
/-! The law itself. -/
namespace FK
open PySem PySem.Spec PyProof.Rows L2
noncomputable def b_law : Se :=
  (eSeq (lift (sSet 4 (vLst (vCons (vLst vNil) (vCons (vLst vNil) (vCons (vC (.int 1)) (vCons (vC (.int 0)) (vCons (vLst vNil) vNil))))))))
    (eSeq (eForR 5 1 40
      (eSeq (eIf (tvOr (tOfV (vBin ltD (vVar 5) (vC (.int 15)))) (tOfV (vBin eqD (vBin modD (vBin ixD (vVar 1) (vVar 5)) (vC (.int 3))) (vC (.int 0)))))
      (eSeq (lift (sSet 6 (vCall 2 D__law_deed (vCons (vBin fdivD (vBin ixD (vVar 1) (vVar 5)) (vC (.int 3))) (vCons (vVar 3) vNil)))))
    (eSeq (lift (sSet 7 (vCall 3 D__law_done (vCons (vVar 4) (vCons (vVar 2) (vCons (vVar 6) vNil))))))
    (eSeq (lift (sIf (tOfV (vBin notND (vVar 7) (vC .non)))
      (sSet 4 (vVar 7))
      sNil))
    (eDrop (eCall 2 D__law_does (vCons (vVar 3) (vCons (vVar 6) vNil)))))))
      (eSeq (lift (sSet 8 (vCall 2 D__law_operation (vCons (vBin fdivD (vBin ixD (vVar 1) (vVar 5)) (vC (.int 3))) (vCons (vVar 3) vNil)))))
    (eSeq (lift (sIf (tOfV (vBin inTD (vBin ixD (vVar 8) (vC (.int 0))) (vTup (vCons (vC (.str "names")) (vCons (vC (.str "total")) (vCons (vC (.str "read")) (vCons (vC (.str "read_shelf")) (vCons (vC (.str "was_read")) (vCons (vC (.str "shelf")) vNil)))))))))
      (sSet 9 (vCall 3 D__law_told (vCons (vVar 4) (vCons (vVar 2) (vCons (vVar 8) vNil)))))
      (seqS (sSet 7 (vCall 3 D__law_change (vCons (vVar 4) (vCons (vVar 2) (vCons (vVar 8) vNil)))))
    (seqS (sSet 9 (vTup (vCons (vC (.str "refused")) vNil)))
    (sIf (tOfV (vBin notND (vVar 7) (vC .non)))
      (seqS (sSet 9 (vTup (vCons (vC (.str "done")) vNil)))
    (sSet 4 (vVar 7)))
      sNil)))))
    (eIfNe (eMeth 2 D_Host_ask (vVar 3) (vCons (vVar 8) vNil)) (vVar 9)
      (lift (sRet (vC (.bl false))))
      eNil))))
    (lift (sIf (tvNot (tOfV (vCall 2 D__law_is (vCons (vVar 3) (vCons (vVar 4) vNil)))))
      (sRet (vC (.bl false)))
      sNil))))
    (lift (sRet (vC (.bl true))))))

def A0 (r : RuleD) : HostSt := { rule := r, rows := [], opened := [], had := [], next := 1, turned := 0 }
def rho0 (cells : List Int) (r : RuleD) : Env := [none, some (.lst (cells.map .int)), some (.rule r), some .host, none, none, none, none, none, none]
/-- the plain law: to be shown with no program in sight -/
def LawTrue : Prop := ∀ (cells : List Int) (r : RuleD), cells.length = 41 → MenuR r → ∃ A', b_law (rho0 cells r) (A0 r) = .ret (.bl true) A'
def spLaw (C : Cs) : Sp := fun vs H Q _ => ∃ (a : Addr) (ns : List Int), vs = [.ref a] ∧ SqL C.K H a (ns.map V.int) ∧ ns.length ≤ 63 ∧ LamX.TabS H C.PT C.tq ∧ ∀ H', Q (.bl true) H'
section
variable {C : Cs} {P : Program} {w : World} {mg : Str → Option Value} {base : Heap}
theorem sc_law : FnScope ["_law_script", "_law_cells_here", "_law_rule_here", "_law_host", "_law_state", "_law_k", "_law_deed_here", "_law_after", "_law_operation_here", "_law_expected"] ["_law_script"] (defScope s_law) := ⟨rfl, rfl, rfl, by decide +kernel, rfl, by decide +kernel, by decide +kernel⟩
def tailOf : List Stmt → List Stmt
  | _ :: _ :: _ :: r => r
  | _ => []
theorem reps_ints {g : Gh} {F : Hp} : ∀ l : List Int, Reps C g F (l.map FK.D.int) (l.map V.int)
  | [] => .nil
  | x :: r => .cons (by simp [Rep]) (reps_ints r)
theorem law_tail (X : Facts C mg base) (eP : PySem.W.exmOne C.K (.ref C.CX) (.ref C.CX) = some true) {f : Addr} {cdv : Value} {A : Around} {outer : List PySem.Env} {s : Shared} {H : Hp} {E : XK} (hr : Room 12 (A.deeper (envOfC "law" (defScope s_law) s.heap.objs.size f cdv))) :
    PSse C (cxOf (L2.CX P w) P w C.K mg base ["_law_script", "_law_cells_here", "_law_rule_here", "_law_host", "_law_state", "_law_k", "_law_deed_here", "_law_after", "_law_operation_here", "_law_expected"] "law" (defScope s_law) f cdv A outer s H E).nox E0 (tailOf (defBody s_law)) b_law := by
  have S := sc_law
  have hx : Passes (L2.CX P w) (cxOf (L2.CX P w) P w C.K mg base ["_law_script", "_law_cells_here", "_law_rule_here", "_law_host", "_law_state", "_law_k", "_law_deed_here", "_law_after", "_law_operation_here", "_law_expected"] "law" (defScope s_law) f cdv A outer s H E).nox E0 := passL
  have hu : Deep (cxOf (L2.CX P w) P w C.K mg base ["_law_script", "_law_cells_here", "_law_rule_here", "_law_host", "_law_state", "_law_k", "_law_deed_here", "_law_after", "_law_operation_here", "_law_expected"] "law" (defScope s_law) f cdv A outer s H E).nox := deep_of hr
  exact (se_cons (se_lift (sd_set (i := 4) S.nd (ed_lst (ad_cons (ed_lst ad_nil) (ad_cons (ed_lst ad_nil) (ad_cons ed_int (ad_cons ed_int (ad_cons (ed_lst ad_nil) ad_nil))))))))
      (se_cons (se_forR (i := 5) (lo := 1) (hi := 41) X.T (by decide) (by decide) (by decide) PassesOwn.never S.nd
        (se_cons (se_if (PWd.t (wd_or (td_lt (ed_var 5) ed_int) (wd_or1 (td_eq hu (ed_mod (ed_ix (ed_var 1) (ed_var 5)) ed_int) ed_int))))
        (se_cons (se_lift (sd_set (i := 6) S.nd (ed_callC hx (ok__law_deed X) (hr.mono (by decide)) (ad_cons (ed_fdiv (ed_ix (ed_var 1) (ed_var 5)) ed_int) (ad_cons (ed_var 3) ad_nil)))))
      (se_cons (se_lift (sd_set (i := 7) S.nd (ed_callC hx (ok__law_done X) (hr.mono (by decide)) (ad_cons (ed_var 4) (ad_cons (ed_var 2) (ad_cons (ed_var 6) ad_nil))))))
      (se_cons (se_lift (sd_if (td_notN (ed_var 7) ed_non)
        (sd_one (sd_set (i := 4) S.nd (ed_var 7)))
        sd_nil))
      (se_one (se_drop (ee_callC hx (ok__law_does X eP) (hr.mono (by decide)) (ad_cons (ed_var 3) (ad_cons (ed_var 6) ad_nil))))))))
        (se_cons (se_lift (sd_set (i := 8) S.nd (ed_callC hx (ok__law_operation X) (hr.mono (by decide)) (ad_cons (ed_fdiv (ed_ix (ed_var 1) (ed_var 5)) ed_int) (ad_cons (ed_var 3) ad_nil)))))
      (se_cons (se_lift (sd_if (td_inT (ed_ix (ed_var 8) ed_int) (ed_tup (ad_cons ed_str (ad_cons ed_str (ad_cons ed_str (ad_cons ed_str (ad_cons ed_str (ad_cons ed_str ad_nil))))))))
        (sd_one (sd_set (i := 9) S.nd (ed_callC hx (ok__law_told X) (hr.mono (by decide)) (ad_cons (ed_var 4) (ad_cons (ed_var 2) (ad_cons (ed_var 8) ad_nil))))))
        (sd_cons (sd_set (i := 7) S.nd (ed_callC hx (ok__law_change X) (hr.mono (by decide)) (ad_cons (ed_var 4) (ad_cons (ed_var 2) (ad_cons (ed_var 8) ad_nil)))))
      (sd_cons (sd_set (i := 9) S.nd (ed_tup (ad_cons ed_str ad_nil)))
      (sd_one (sd_if (td_notN (ed_var 7) ed_non)
        (sd_cons (sd_set (i := 9) S.nd (ed_tup (ad_cons ed_str ad_nil)))
      (sd_one (sd_set (i := 4) S.nd (ed_var 7))))
        sd_nil))))))
      (se_one (se_ifNe hu (ee_methC X.T hx (ok_Host_ask X) (hr.mono (by decide)) (ed_var 3) (ad_cons (ed_var 8) ad_nil)) (ed_var 9)
        (se_one (se_lift (sd_ret ed_bl)))
        se_nil)))))
      (se_one (se_lift (sd_if (td_not (td_val (ed_callC hx (ok__law_is X) (hr.mono (by decide)) (ad_cons (ed_var 3) (ad_cons (ed_var 4) ad_nil)))))
        (sd_one (sd_ret ed_bl))
        sd_nil)))))
      (se_one (se_lift (sd_ret ed_bl)))))
theorem ok_law (X : Facts C mg base) (eP : PySem.W.exmOne C.K (.ref C.CX) (.ref C.CX) = some true) (LT : LawTrue) {f : Addr} {fd : FuncData} (Fn : Fun C.K "law" "law" s_law f fd) : FnOk P w C.K mg base (L2.CX P w) 13 f fd ["_law_script"] (spLaw C) := by
  have S := sc_law
  obtain ⟨fc, fdc, pc, Gc, hmc, hkc, hbc, _⟩ := (ok__law_cells X : CalP P w C mg base "_law_cells" 1 2 (spCells C))
  obtain ⟨fr, fdr, pr, Gr, hmr, hkr, hbr, _⟩ := (ok__law_rule X : CalP P w C mg base "_law_rule" 3 1 (spRule C))
  obtain ⟨fH, fdH, FnH, MH⟩ := X.d_Host_init
  have GH : FnOk P w C.K mg base (L2.CX P w) 1 fH fdH ["self", "rule"] (spHostInit C) := ok_Host_init X FnH
  have bH : Binds C.K fdH ["self", "rule"] [] := FnH.binds fun _ _ _ _ _ _ us hl => match us, hl with | [_, _], _ => rfl
  refine Fn.okX S (fun vs H Q E h => ?_) (fun cdv A outer s H vs Q E hr h => ?_)
  · obtain ⟨a, ns, rfl, _⟩ := h
    rfl
  · obtain ⟨a, ns, rfl, hS, h63, hT, q⟩ := h
    obtain ⟨tt, ht1, ht2⟩ := law_tail (E := E) (H := H) (w := w) (P := P) X eP hr
    refine ⟨_, PSs.nox (pss_cons (ps_set (i := 1) S.nd rfl (Or.inl rfl) (pe_call (dvs := []) Gc (hr.mono (by decide)) rfl hmc hkc hbc .nil passL (pa_cons (pv 0) (pa_cons pe_int pa_nil))))
      (pss_cons (ps_set (i := 2) S.nd rfl (Or.inl rfl) (pe_call (dvs := []) Gr (hr.mono (by decide)) rfl hmr hkr hbr .nil passL (pa_cons (pe_ix ix_list (pv 1) pe_int (fun _ _ => rfl)) pa_nil)))
      (pss_cons (ps_set (i := 3) S.nd rfl (Or.inl rfl) (pe_make (dvs := []) MH GH (hr.mono (by decide)) rfl X.gH bH .nil passL (pa_cons (pv 2) pa_nil))) ht1))), ?_⟩
    refine ⟨_, rfl, a, ns, 41, rfl, hS, h63, by decide, fun cells p hlen np => ?_⟩
    have U1 : Ups H (upd H p (.lst (cells.map V.int))) := .upd np
    obtain ⟨c0, hc0⟩ : ∃ c0 : Int, atI (cells.map V.int) 0 = some (.int c0) := by
      cases cells with
      | nil => simp at hlen
      | cons c r => exact ⟨c, by simp [atI, ixN]⟩
    refine ⟨_, rfl, p, cells.map V.int, 0, _, rfl, rfl, SqL.of upd_same, hc0, c0, rfl, fun ra r Hr up ri menu => ?_⟩
    have eL : Hr p = some (.lst (cells.map V.int)) := up _ _ upd_same
    refine ⟨_, rfl, fun x dx nx ndx ne => ?_⟩
    refine ⟨x, dx, .ref ra, rfl, upd_same, fun ln lo lh H' n1 n2 n3 d1 d2 d3 keep hx hl1 hl2 hl3 => ⟨rfl, ?_⟩⟩
    have keep2 : ∀ b o, Hr b = some o → H' b = some o := fun b o e => by
      have bx : b ≠ x := ne_of_none e nx
      refine keep b o bx ?_
      rw [upd_ne bx, upd_ne (ne_of_none e ndx)]
      exact e
    have back : ∀ b, upd (upd Hr dx (.own x)) x (.ins C.CH dx []) b = none → Hr b = none := fun b e => upd_dom b (upd_dom b e)
    obtain ⟨LA, hLA⟩ := LT cells r hlen menu
    let F : Hp := fun b => match Hr b with
      | some (.tbl _) => none
      | o => o
    have F1 : ∀ b o, Hr b = some o → (∀ ps, o ≠ .tbl ps) → F b = some o := fun b o e n => by
      show (match Hr b with
        | some (.tbl _) => none
        | o => o) = some o
      rw [e]
      cases o with
      | tbl ps => exact absurd rfl (n ps)
      | _ => rfl
    have F2 : ∀ b o, F b = some o → Hr b = some o ∧ ∀ ps, o ≠ .tbl ps := fun b o e => by
      have e : (match Hr b with
        | some (.tbl _) => none
        | o => o) = some o := e
      cases z : Hr b with
      | none => rw [z] at e; cases e
      | some u =>
        rw [z] at e
        cases u <;> first | (cases e; done) | (cases e; exact ⟨rfl, by intro ps q; cases q⟩)
    have F3 : ∀ b, Hr b = none → F b = none := fun b e => by
      show (match Hr b with
        | some (.tbl _) => none
        | o => o) = none
      rw [e]
    let g : Gh := { host := x, hdx := dx, ln := ln, lo := lo, lh := lh, ad := fun _ => none }
    obtain ⟨rdx, p1, p2, r1, r2, r3⟩ := ri
    have wd : Wd C g (A0 r) F H' := by
      refine ⟨fun b o e => keep2 b o (F2 b o e).1, fun b ps e => (F2 b _ e).2 ps rfl, ?_, ⟨ra, hx, rdx, p1, p2, F1 _ _ r1 (by intro ps q; cases q), .inl (.inl (F1 _ _ r2 (by intro ps q; cases q))), .inl (.inl (F1 _ _ r3 (by intro ps q; cases q)))⟩, ⟨[], hl1, rfl⟩, hl2, ⟨[], hl3, .nil⟩, F3 _ nx, F3 _ (back _ n1), F3 _ (back _ n2), F3 _ (back _ n3), fun _ _ e => (by cases e), d1, d2, d3⟩
      exact ((hT.ext fun b u e => U1 b u e).ext fun b u e => up b u e).ext fun b u e => keep2 b u e
    refine ht2 g (A0 r) F H' _ (rho0 cells r) _ wd ⟨rfl, fun i d e => ?_⟩ ?_
    · match i, e with
      | 1, e =>
        cases e
        exact ⟨_, rfl, by simp only [Rep]; exact ⟨p, _, rfl, F1 _ _ eL (by intro ps q; cases q), reps_ints cells⟩⟩
      | 2, e =>
        cases e
        exact ⟨_, rfl, by simp only [Rep]; exact ⟨ra, rfl, rdx, p1, p2, F1 _ _ r1 (by intro ps q; cases q), .inl (.inl (F1 _ _ r2 (by intro ps q; cases q))), .inl (.inl (F1 _ _ r3 (by intro ps q; cases q)))⟩⟩
      | 3, e =>
        cases e
        exact ⟨_, rfl, by simp only [Rep]; rfl⟩
      | 0, e => cases e
      | 4, e => cases e
      | 5, e => cases e
      | 6, e => cases e
      | 7, e => cases e
      | 8, e => cases e
      | 9, e => cases e
      | (j + 10), e => simp [rho0] at e
    · rw [hLA]
      intro g' v F' H2 x' rv
      simp only [Rep] at rv
      subst rv
      exact q H2
end
end FK
set_option Elab.async false
set_option linter.all false
set_option maxRecDepth 100000
set_option maxHeartbeats 4000000
/-! The end: the facts of the head, the law. -/
namespace FK
open PySem PySem.Spec PyProof.Rows L2
def csOf (K : PySem.W.Frag) : Cs := { K := K, CR := He.ga K "Rule", CN := He.ga K "Node", CH := He.ga K "Host", CX := He.ga K "NotPossible", PT := (He.cT K ("Host", some "area_list")).2, tq := "Host.area_list" ++ ".<locals>." ++ "<lambda>", cA := (He.cT K ("Host", some "area_list")).1 }
section
variable {K : PySem.W.Frag} {h base : Heap} {mg : Str → Option Value}
theorem areaC {K : PySem.W.Frag} {fd : FuncData} {kws : List (Str × V)} (F : FunD K "area_list" "Host.area_list" (defArgs s_Host_area_list) (defBody s_Host_area_list) (defScope s_Host_area_list) [] kws (He.fAd K ("Host", some "area_list")) fd) :
    FunC K "area_list" "Host.area_list" s_Host_area_list (He.fAd K ("Host", some "area_list")) fd (He.cT K ("Host", some "area_list")).1 := by
  obtain ⟨oc, od, dV, kV, doc, pm, an, cdv, ct, osl, e, l, k1, hd, _⟩ := F.ex
  rcases hd with ⟨_, e2⟩ | ⟨e2, _⟩
  · subst e2
    obtain ⟨a, ea⟩ := He.codeIn_ref k1
    have e3 := He.codeOf_eq (p := ("Host", some "area_list")) (c := a) l (by rw [e, ea])
    subst ea
    refine ⟨⟨oc, od, kV, doc, pm, an, ct, osl, ?_, l, ?_⟩, F.kp⟩
    · show fd = _
      rw [e]
      show _ = PySem.W.fnOf _ _ _ _ _ _ _ _ _ _ (.ref (He.codeOf K ("Host", some "area_list"))) _
      rw [e3]
    · show PySem.W.codeIn K (.ref (He.codeOf K ("Host", some "area_list"))) _ = true
      rw [e3]
      exact k1
  · exact absurd rfl e2
theorem facts_of (X : K.In h) (G : h.Ns mainGlobals mg) (c : SaysY h K) (tb : LamX.TabB base mg (csOf K).cA (csOf K).PT) : Facts (csOf K) mg base := by
  have T : Txt (csOf K) mg := by
    refine ⟨He.cls_ok (c.d.fact 89 (f := .cls "Rule") rfl), He.cls_ok (c.d.fact 90 (f := .cls "Node") rfl), He.cls_ok (c.d.fact 91 (f := .cls "Host") rfl), ?_, ?_, ?_, He.free_ok X G (c.d.fact 82 (f := .free "len") rfl), He.free_ok X G (c.d.fact 83 (f := .free "isinstance") rfl), He.free_ok X G (c.d.fact 84 (f := .free "int") rfl), He.free_ok X G (c.d.fact 85 (f := .free "str") rfl), He.free_ok X G (c.d.fact 86 (f := .free "ord") rfl), He.free_ok X G (c.d.fact 87 (f := .free "range") rfl), He.free_ok X G (c.d.fact 88 (f := .free "sorted") rfl)⟩
    · intro f hf
      simp only [ruleNames, List.mem_cons, List.not_mem_nil, or_false] at hf
      rcases hf with rfl | rfl | rfl | rfl | rfl | rfl | rfl
      · exact He.noat_ok (c.d.fact 92 (f := .noat "Rule" "alike") rfl)
      · exact He.noat_ok (c.d.fact 93 (f := .noat "Rule" "unfit") rfl)
      · exact He.noat_ok (c.d.fact 94 (f := .noat "Rule" "longest") rfl)
      · exact He.noat_ok (c.d.fact 95 (f := .noat "Rule" "swaps") rfl)
      · exact He.noat_ok (c.d.fact 96 (f := .noat "Rule" "reads") rfl)
      · exact He.noat_ok (c.d.fact 97 (f := .noat "Rule" "cuts") rfl)
      · exact He.noat_ok (c.d.fact 98 (f := .noat "Rule" "turns") rfl)
    · intro f hf
      simp only [nodeNames, List.mem_cons, List.not_mem_nil, or_false] at hf
      rcases hf with rfl | rfl | rfl | rfl | rfl | rfl | rfl | rfl | rfl
      · exact He.noat_ok (c.d.fact 99 (f := .noat "Node" "area") rfl)
      · exact He.noat_ok (c.d.fact 100 (f := .noat "Node" "path") rfl)
      · exact He.noat_ok (c.d.fact 101 (f := .noat "Node" "thing") rfl)
      · exact He.noat_ok (c.d.fact 102 (f := .noat "Node" "kind") rfl)
      · exact He.noat_ok (c.d.fact 103 (f := .noat "Node" "text") rfl)
      · exact He.noat_ok (c.d.fact 104 (f := .noat "Node" "runs") rfl)
      · exact He.noat_ok (c.d.fact 105 (f := .noat "Node" "count") rfl)
      · exact He.noat_ok (c.d.fact 106 (f := .noat "Node" "cuts") rfl)
      · exact He.noat_ok (c.d.fact 107 (f := .noat "Node" "staged") rfl)
    · intro f hf
      simp only [hostNames, List.mem_cons, List.not_mem_nil, or_false] at hf
      rcases hf with rfl | rfl | rfl | rfl | rfl | rfl
      · exact He.noat_ok (c.d.fact 108 (f := .noat "Host" "rule") rfl)
      · exact He.noat_ok (c.d.fact 109 (f := .noat "Host" "nodes") rfl)
      · exact He.noat_ok (c.d.fact 110 (f := .noat "Host" "opened") rfl)
      · exact He.noat_ok (c.d.fact 111 (f := .noat "Host" "had_read") rfl)
      · exact He.noat_ok (c.d.fact 112 (f := .noat "Host" "next_thing") rfl)
      · exact He.noat_ok (c.d.fact 113 (f := .noat "Host" "turned") rfl)
  obtain ⟨x1, x2, x3, x4⟩ := He.exc_ok (c.d.fact 133 (f := .exc "NotPossible") rfl)
  have q0 := (c.d.def_ 0 (d := df_Rule_init) rfl)
  have q1 := (c.d.def_ 1 (d := df_is_name) rfl)
  have q2 := (c.d.def_ 2 (d := df_counterpart) rfl)
  have q3 := (c.d.def_ 3 (d := df_same_name) rfl)
  have q4 := (c.d.def_ 4 (d := df_in_use) rfl)
  have q5 := (c.d.def_ 5 (d := df_fits) rfl)
  have q6 := (c.d.def_ 6 (d := df_same_path) rfl)
  have q7 := (c.d.def_ 7 (d := df_Node_init) rfl)
  have q8 := (c.d.def_ 8 (d := df_Node_stands) rfl)
  have q9 := (c.d.def_ 9 (d := df_written) rfl)
  have q10 := (c.d.def_ 10 (d := df_within) rfl)
  have q11 := (c.d.def_ 11 (d := df_moved) rfl)
  have q12 := (c.d.def_ 12 (d := df_spot_place) rfl)
  have q13 := (c.d.def_ 13 (d := df_thing_at) rfl)
  have q14 := (c.d.def_ 14 (d := df_room_at) rfl)
  have q15 := (c.d.def_ 15 (d := df_file_named) rfl)
  have q16 := (c.d.def_ 16 (d := df_make) rfl)
  have q17 := (c.d.def_ 17 (d := df_make_kind) rfl)
  have q18 := (c.d.def_ 18 (d := df_remove) rfl)
  have q19 := (c.d.def_ 19 (d := df_remove_folder_programs) rfl)
  have q20 := (c.d.def_ 20 (d := df_rename) rfl)
  have q21 := (c.d.def_ 21 (d := df_spelled) rfl)
  have q22 := (c.d.def_ 22 (d := df_write) rfl)
  have q23 := (c.d.def_ 23 (d := df_cut) rfl)
  have q24 := (c.d.def_ 24 (d := df_close) rfl)
  have q25 := (c.d.def_ 25 (d := df_doing) rfl)
  have q26 := (c.d.def_ 26 (d := df_doing_in_files) rfl)
  have q27 := (c.d.def_ 27 (d := df_told_cuts) rfl)
  have q28 := (c.d.def_ 28 (d := df_names_answer) rfl)
  have q29 := (c.d.def_ 29 (d := df_text_answer) rfl)
  have q30 := (c.d.def_ 30 (d := df_file_in_folder) rfl)
  have q31 := (c.d.def_ 31 (d := df_shelf_answer) rfl)
  have q32 := (c.d.def_ 32 (d := df_read_answer) rfl)
  have q33 := (c.d.def_ 33 (d := df_stage) rfl)
  have q34 := (c.d.def_ 34 (d := df_take) rfl)
  have q35 := (c.d.def_ 35 (d := df_give) rfl)
  have q36 := (c.d.def_ 36 (d := df_swap) rfl)
  have q37 := (c.d.def_ 37 (d := df_make_folder) rfl)
  have q38 := (c.d.def_ 38 (d := df_remove_folder_asking) rfl)
  have q39 := (c.d.def_ 39 (d := df_drop) rfl)
  have q40 := (c.d.def_ 40 (d := df_answer) rfl)
  have q41 := (c.d.def_ 41 (d := df_change_answer) rfl)
  have q42 := (c.d.def_ 42 (d := df_Host_init) rfl)
  have q43 := (c.d.def_ 43 (d := df_Host_program) rfl)
  have q44 := (c.d.def_ 44 (d := df_Host_ask) rfl)
  have q45 := (c.d.def_ 45 (d := df_Host_tree) rfl)
  have q46 := (c.d.def_ 46 (d := df_Host_outside) rfl)
  have q47 := (c.d.def_ 47 (d := df_Host_shelf) rfl)
  have q48 := (c.d.def_ 48 (d := df_Host_area_list) rfl)
  have q49 := (c.d.def_ 49 (d := df_Host_can_have) rfl)
  have q50 := (c.d.def_ 50 (d := df_Host_node_at) rfl)
  have q51 := (c.d.def_ 51 (d := df_Host_node_of) rfl)
  have q52 := (c.d.def_ 52 (d := df_Host_folder_path) rfl)
  have q53 := (c.d.def_ 53 (d := df_Host_free_path) rfl)
  have q54 := (c.d.def_ 54 (d := df_Host_holds_something) rfl)
  have q55 := (c.d.def_ 55 (d := df_Host_put_new) rfl)
  have q56 := (c.d.def_ 56 (d := df_Host_take_away) rfl)
  have q57 := (c.d.def_ 57 (d := df_Host_carry) rfl)
  have q58 := (c.d.def_ 58 (d := df__law_cells) rfl)
  have q59 := (c.d.def_ 59 (d := df__law_pick) rfl)
  have q60 := (c.d.def_ 60 (d := df__law_text) rfl)
  have q61 := (c.d.def_ 61 (d := df__law_name) rfl)
  have q62 := (c.d.def_ 62 (d := df__law_path) rfl)
  have q63 := (c.d.def_ 63 (d := df__law_rule) rfl)
  have q64 := (c.d.def_ 64 (d := df__law_spot) rfl)
  have q65 := (c.d.def_ 65 (d := df__law_target) rfl)
  have q66 := (c.d.def_ 66 (d := df__law_deed) rfl)
  have q67 := (c.d.def_ 67 (d := df__law_does) rfl)
  have q68 := (c.d.def_ 68 (d := df__law_same) rfl)
  have q69 := (c.d.def_ 69 (d := df__law_as) rfl)
  have q70 := (c.d.def_ 70 (d := df__law_at) rfl)
  have q71 := (c.d.def_ 71 (d := df__law_above) rfl)
  have q72 := (c.d.def_ 72 (d := df__law_free) rfl)
  have q73 := (c.d.def_ 73 (d := df__law_moved) rfl)
  have q74 := (c.d.def_ 74 (d := df__law_filled) rfl)
  have q75 := (c.d.def_ 75 (d := df__law_spot_of) rfl)
  have q76 := (c.d.def_ 76 (d := df__law_row_at) rfl)
  have q77 := (c.d.def_ 77 (d := df__law_file_at) rfl)
  have q78 := (c.d.def_ 78 (d := df__law_put) rfl)
  have q79 := (c.d.def_ 79 (d := df__law_gone) rfl)
  have q80 := (c.d.def_ 80 (d := df__law_carried) rfl)
  have q81 := (c.d.def_ 81 (d := df__law_with_text) rfl)
  have q82 := (c.d.def_ 82 (d := df__law_renamed) rfl)
  have q83 := (c.d.def_ 83 (d := df__law_done) rfl)
  have q84 := (c.d.def_ 84 (d := df__law_done_in) rfl)
  have q85 := (c.d.def_ 85 (d := df__law_tree) rfl)
  have q86 := (c.d.def_ 86 (d := df__law_shelf) rfl)
  have q87 := (c.d.def_ 87 (d := df__law_is) rfl)
  have q88 := (c.d.def_ 88 (d := df__law_operation) rfl)
  have q89 := (c.d.def_ 89 (d := df__law_cuts) rfl)
  have q90 := (c.d.def_ 90 (d := df__law_read) rfl)
  have q91 := (c.d.def_ 91 (d := df__law_told) rfl)
  have q92 := (c.d.def_ 92 (d := df__law_change) rfl)
  have q93 := (c.d.def_ 93 (d := df__law_carry) rfl)
  have q94 := (c.d.def_ 94 (d := df_law) rfl)
  have ex := c.ex
  unfold exB at ex
  rw [Bool.and_eq_true] at ex
  exact {
    T := T,
    d_Rule_init := (by obtain ⟨fd, F⟩ := q0; exact ⟨_, fd, He5.fun_of F, He.mkr_ok (c.d.fact 130 (f := .mkr "Rule") rfl)⟩),
    d_is_name := (by obtain ⟨fd, F⟩ := q1; exact ⟨_, fd, He5.fun_of F, He.glo_ok X G (c.d.fact 0 (f := .glo "is_name") rfl)⟩),
    d_counterpart := (by obtain ⟨fd, F⟩ := q2; exact ⟨_, fd, He5.fun_of F, He.glo_ok X G (c.d.fact 1 (f := .glo "counterpart") rfl)⟩),
    d_same_name := (by obtain ⟨fd, F⟩ := q3; exact ⟨_, fd, He5.fun_of F, He.glo_ok X G (c.d.fact 2 (f := .glo "same_name") rfl)⟩),
    d_in_use := (by obtain ⟨fd, F⟩ := q4; exact ⟨_, fd, He5.fun_of F, He.glo_ok X G (c.d.fact 3 (f := .glo "in_use") rfl)⟩),
    d_fits := (by obtain ⟨fd, F⟩ := q5; exact ⟨_, fd, He5.fun_of F, He.glo_ok X G (c.d.fact 4 (f := .glo "fits") rfl)⟩),
    d_same_path := (by obtain ⟨fd, F⟩ := q6; exact ⟨_, fd, He5.fun_of F, He.glo_ok X G (c.d.fact 5 (f := .glo "same_path") rfl)⟩),
    d_Node_init := (by obtain ⟨fd, F⟩ := q7; exact ⟨_, fd, He5.fun_of F, He.mkr_ok (c.d.fact 131 (f := .mkr "Node") rfl)⟩),
    d_Node_stands := (by obtain ⟨fd, F⟩ := q8; exact ⟨_, fd, He5.fun_of F, He.meth_ok (c.d.fact 114 (f := .meth "Node" "stands") rfl)⟩),
    d_written := (by obtain ⟨fd, F⟩ := q9; exact ⟨_, fd, He5.fun_of F, He.glo_ok X G (c.d.fact 6 (f := .glo "written") rfl)⟩),
    d_within := (by obtain ⟨fd, F⟩ := q10; exact ⟨_, fd, He5.fun_of F, He.glo_ok X G (c.d.fact 7 (f := .glo "within") rfl)⟩),
    d_moved := (by obtain ⟨fd, F⟩ := q11; exact ⟨_, fd, He5.fun_of F, He.glo_ok X G (c.d.fact 8 (f := .glo "moved") rfl)⟩),
    d_spot_place := (by obtain ⟨fd, F⟩ := q12; exact ⟨_, fd, He5.fun_of F, He.glo_ok X G (c.d.fact 9 (f := .glo "spot_place") rfl)⟩),
    d_thing_at := (by obtain ⟨fd, F⟩ := q13; exact ⟨_, fd, He5.fun_of F, He.glo_ok X G (c.d.fact 10 (f := .glo "thing_at") rfl)⟩),
    d_room_at := (by obtain ⟨fd, F⟩ := q14; exact ⟨_, fd, He5.fun_of F, He.glo_ok X G (c.d.fact 11 (f := .glo "room_at") rfl)⟩),
    d_file_named := (by obtain ⟨fd, F⟩ := q15; exact ⟨_, fd, He5.fun_of F, He.glo_ok X G (c.d.fact 12 (f := .glo "file_named") rfl)⟩),
    d_make := (by obtain ⟨fd, F⟩ := q16; exact ⟨_, fd, He5.fun_of F, He.glo_ok X G (c.d.fact 13 (f := .glo "make") rfl)⟩),
    d_make_kind := (by obtain ⟨fd, F⟩ := q17; exact ⟨_, fd, He5.fun_of F, He.glo_ok X G (c.d.fact 14 (f := .glo "make_kind") rfl)⟩),
    d_remove := (by obtain ⟨fd, F⟩ := q18; exact ⟨_, fd, He5.fun_of F, He.glo_ok X G (c.d.fact 15 (f := .glo "remove") rfl)⟩),
    d_remove_folder_programs := (by obtain ⟨fd, F⟩ := q19; exact ⟨_, fd, He5.fun_of F, He.glo_ok X G (c.d.fact 16 (f := .glo "remove_folder_programs") rfl)⟩),
    d_rename := (by obtain ⟨fd, F⟩ := q20; exact ⟨_, fd, He5.fun_of F, He.glo_ok X G (c.d.fact 17 (f := .glo "rename") rfl)⟩),
    d_spelled := (by obtain ⟨fd, F⟩ := q21; exact ⟨_, fd, He5.fun_of F, He.glo_ok X G (c.d.fact 18 (f := .glo "spelled") rfl)⟩),
    d_write := (by obtain ⟨fd, F⟩ := q22; exact ⟨_, fd, He5.fun_of F, He.glo_ok X G (c.d.fact 19 (f := .glo "write") rfl)⟩),
    d_cut := (by obtain ⟨fd, F⟩ := q23; exact ⟨_, fd, He5.fun_of F, He.glo_ok X G (c.d.fact 20 (f := .glo "cut") rfl)⟩),
    d_close := (by obtain ⟨fd, F⟩ := q24; exact ⟨_, fd, He5.fun_of F, He.glo_ok X G (c.d.fact 21 (f := .glo "close") rfl)⟩),
    d_doing := (by obtain ⟨fd, F⟩ := q25; exact ⟨_, fd, He5.fun_of F, He.glo_ok X G (c.d.fact 22 (f := .glo "doing") rfl)⟩),
    d_doing_in_files := (by obtain ⟨fd, F⟩ := q26; exact ⟨_, fd, He5.fun_of F, He.glo_ok X G (c.d.fact 23 (f := .glo "doing_in_files") rfl)⟩),
    d_told_cuts := (by obtain ⟨fd, F⟩ := q27; exact ⟨_, fd, He5.fun_of F, He.glo_ok X G (c.d.fact 24 (f := .glo "told_cuts") rfl)⟩),
    d_names_answer := (by obtain ⟨fd, F⟩ := q28; exact ⟨_, fd, He5.fun_of F, He.glo_ok X G (c.d.fact 25 (f := .glo "names_answer") rfl)⟩),
    d_text_answer := (by obtain ⟨fd, F⟩ := q29; exact ⟨_, fd, He5.fun_of F, He.glo_ok X G (c.d.fact 26 (f := .glo "text_answer") rfl)⟩),
    d_file_in_folder := (by obtain ⟨fd, F⟩ := q30; exact ⟨_, fd, He5.fun_of F, He.glo_ok X G (c.d.fact 27 (f := .glo "file_in_folder") rfl)⟩),
    d_shelf_answer := (by obtain ⟨fd, F⟩ := q31; exact ⟨_, fd, He5.fun_of F, He.glo_ok X G (c.d.fact 28 (f := .glo "shelf_answer") rfl)⟩),
    d_read_answer := (by obtain ⟨fd, F⟩ := q32; exact ⟨_, fd, He5.fun_of F, He.glo_ok X G (c.d.fact 29 (f := .glo "read_answer") rfl)⟩),
    d_stage := (by obtain ⟨fd, F⟩ := q33; exact ⟨_, fd, He5.fun_of F, He.glo_ok X G (c.d.fact 30 (f := .glo "stage") rfl)⟩),
    d_take := (by obtain ⟨fd, F⟩ := q34; exact ⟨_, fd, He5.fun_of F, He.glo_ok X G (c.d.fact 31 (f := .glo "take") rfl)⟩),
    d_give := (by obtain ⟨fd, F⟩ := q35; exact ⟨_, fd, He5.fun_of F, He.glo_ok X G (c.d.fact 32 (f := .glo "give") rfl)⟩),
    d_swap := (by obtain ⟨fd, F⟩ := q36; exact ⟨_, fd, He5.fun_of F, He.glo_ok X G (c.d.fact 33 (f := .glo "swap") rfl)⟩),
    d_make_folder := (by obtain ⟨fd, F⟩ := q37; exact ⟨_, fd, He5.fun_of F, He.glo_ok X G (c.d.fact 34 (f := .glo "make_folder") rfl)⟩),
    d_remove_folder_asking := (by obtain ⟨fd, F⟩ := q38; exact ⟨_, fd, He5.fun_of F, He.glo_ok X G (c.d.fact 35 (f := .glo "remove_folder_asking") rfl)⟩),
    d_drop := (by obtain ⟨fd, F⟩ := q39; exact ⟨_, fd, He5.fun_of F, He.glo_ok X G (c.d.fact 36 (f := .glo "drop") rfl)⟩),
    d_answer := (by obtain ⟨fd, F⟩ := q40; exact ⟨_, fd, He5.fun_of F, He.glo_ok X G (c.d.fact 37 (f := .glo "answer") rfl)⟩),
    d_change_answer := (by obtain ⟨fd, F⟩ := q41; exact ⟨_, fd, He5.fun_of F, He.glo_ok X G (c.d.fact 38 (f := .glo "change_answer") rfl)⟩),
    d_Host_init := (by obtain ⟨fd, F⟩ := q42; exact ⟨_, fd, He5.fun_of F, He.mkr_ok (c.d.fact 132 (f := .mkr "Host") rfl)⟩),
    d_Host_program := (by obtain ⟨fd, F⟩ := q43; exact ⟨_, fd, He5.fun_of F, He.meth_ok (c.d.fact 115 (f := .meth "Host" "program") rfl)⟩),
    d_Host_ask := (by obtain ⟨fd, F⟩ := q44; exact ⟨_, fd, He5.fun_of F, He.meth_ok (c.d.fact 116 (f := .meth "Host" "ask") rfl)⟩),
    d_Host_tree := (by obtain ⟨fd, F⟩ := q45; exact ⟨_, fd, He5.fun_of F, He.meth_ok (c.d.fact 117 (f := .meth "Host" "tree") rfl)⟩),
    d_Host_outside := (by obtain ⟨fd, F⟩ := q46; exact ⟨_, fd, He5.fun_of F, He.meth_ok (c.d.fact 118 (f := .meth "Host" "outside") rfl)⟩),
    d_Host_shelf := (by obtain ⟨fd, F⟩ := q47; exact ⟨_, fd, He5.fun_of F, He.meth_ok (c.d.fact 119 (f := .meth "Host" "shelf") rfl)⟩),
    d_Host_area_list := (by obtain ⟨fd, F⟩ := q48; exact ⟨_, fd, areaC F, He.meth_ok (c.d.fact 120 (f := .meth "Host" "area_list") rfl)⟩),
    d_Host_can_have := (by obtain ⟨fd, F⟩ := q49; exact ⟨_, fd, He5.fun_of F, He.meth_ok (c.d.fact 121 (f := .meth "Host" "can_have") rfl)⟩),
    d_Host_node_at := (by obtain ⟨fd, F⟩ := q50; exact ⟨_, fd, He5.fun_of F, He.meth_ok (c.d.fact 122 (f := .meth "Host" "node_at") rfl)⟩),
    d_Host_node_of := (by obtain ⟨fd, F⟩ := q51; exact ⟨_, fd, He5.fun_of F, He.meth_ok (c.d.fact 123 (f := .meth "Host" "node_of") rfl)⟩),
    d_Host_folder_path := (by obtain ⟨fd, F⟩ := q52; exact ⟨_, fd, He5.fun_of F, He.meth_ok (c.d.fact 124 (f := .meth "Host" "folder_path") rfl)⟩),
    d_Host_free_path := (by obtain ⟨fd, F⟩ := q53; exact ⟨_, fd, He5.fun_of F, He.meth_ok (c.d.fact 125 (f := .meth "Host" "free_path") rfl)⟩),
    d_Host_holds_something := (by obtain ⟨fd, F⟩ := q54; exact ⟨_, fd, He5.fun_of F, He.meth_ok (c.d.fact 126 (f := .meth "Host" "holds_something") rfl)⟩),
    d_Host_put_new := (by obtain ⟨fd, F⟩ := q55; exact ⟨_, fd, He5.fun_of F, He.meth_ok (c.d.fact 127 (f := .meth "Host" "put_new") rfl)⟩),
    d_Host_take_away := (by obtain ⟨fd, F⟩ := q56; exact ⟨_, fd, He5.fun_of F, He.meth_ok (c.d.fact 128 (f := .meth "Host" "take_away") rfl)⟩),
    d_Host_carry := (by obtain ⟨fd, F⟩ := q57; exact ⟨_, fd, He5.fun_of F, He.meth_ok (c.d.fact 129 (f := .meth "Host" "carry") rfl)⟩),
    d__law_cells := (by obtain ⟨fd, F⟩ := q58; exact ⟨_, fd, He5.fun_of F, He.glo_ok X G (c.d.fact 39 (f := .glo "_law_cells") rfl)⟩),
    d__law_pick := (by obtain ⟨fd, F⟩ := q59; exact ⟨_, fd, He5.fun_of F, He.glo_ok X G (c.d.fact 40 (f := .glo "_law_pick") rfl)⟩),
    d__law_text := (by obtain ⟨fd, F⟩ := q60; exact ⟨_, fd, He5.fun_of F, He.glo_ok X G (c.d.fact 41 (f := .glo "_law_text") rfl)⟩),
    d__law_name := (by obtain ⟨fd, F⟩ := q61; exact ⟨_, fd, He5.fun_of F, He.glo_ok X G (c.d.fact 42 (f := .glo "_law_name") rfl)⟩),
    d__law_path := (by obtain ⟨fd, F⟩ := q62; exact ⟨_, fd, He5.fun_of F, He.glo_ok X G (c.d.fact 43 (f := .glo "_law_path") rfl)⟩),
    d__law_rule := (by obtain ⟨fd, F⟩ := q63; exact ⟨_, fd, He5.fun_of F, He.glo_ok X G (c.d.fact 44 (f := .glo "_law_rule") rfl)⟩),
    d__law_spot := (by obtain ⟨fd, F⟩ := q64; exact ⟨_, fd, He5.fun_of F, He.glo_ok X G (c.d.fact 45 (f := .glo "_law_spot") rfl)⟩),
    d__law_target := (by obtain ⟨fd, F⟩ := q65; exact ⟨_, fd, He5.fun_of F, He.glo_ok X G (c.d.fact 46 (f := .glo "_law_target") rfl)⟩),
    d__law_deed := (by obtain ⟨fd, F⟩ := q66; exact ⟨_, fd, He5.fun_of F, He.glo_ok X G (c.d.fact 47 (f := .glo "_law_deed") rfl)⟩),
    d__law_does := (by obtain ⟨fd, F⟩ := q67; exact ⟨_, fd, He5.fun_of F, He.glo_ok X G (c.d.fact 48 (f := .glo "_law_does") rfl)⟩),
    d__law_same := (by obtain ⟨fd, F⟩ := q68; exact ⟨_, fd, He5.fun_of F, He.glo_ok X G (c.d.fact 49 (f := .glo "_law_same") rfl)⟩),
    d__law_as := (by obtain ⟨fd, F⟩ := q69; exact ⟨_, fd, He5.fun_of F, He.glo_ok X G (c.d.fact 50 (f := .glo "_law_as") rfl)⟩),
    d__law_at := (by obtain ⟨fd, F⟩ := q70; exact ⟨_, fd, He5.fun_of F, He.glo_ok X G (c.d.fact 51 (f := .glo "_law_at") rfl)⟩),
    d__law_above := (by obtain ⟨fd, F⟩ := q71; exact ⟨_, fd, He5.fun_of F, He.glo_ok X G (c.d.fact 52 (f := .glo "_law_above") rfl)⟩),
    d__law_free := (by obtain ⟨fd, F⟩ := q72; exact ⟨_, fd, He5.fun_of F, He.glo_ok X G (c.d.fact 53 (f := .glo "_law_free") rfl)⟩),
    d__law_moved := (by obtain ⟨fd, F⟩ := q73; exact ⟨_, fd, He5.fun_of F, He.glo_ok X G (c.d.fact 54 (f := .glo "_law_moved") rfl)⟩),
    d__law_filled := (by obtain ⟨fd, F⟩ := q74; exact ⟨_, fd, He5.fun_of F, He.glo_ok X G (c.d.fact 55 (f := .glo "_law_filled") rfl)⟩),
    d__law_spot_of := (by obtain ⟨fd, F⟩ := q75; exact ⟨_, fd, He5.fun_of F, He.glo_ok X G (c.d.fact 56 (f := .glo "_law_spot_of") rfl)⟩),
    d__law_row_at := (by obtain ⟨fd, F⟩ := q76; exact ⟨_, fd, He5.fun_of F, He.glo_ok X G (c.d.fact 57 (f := .glo "_law_row_at") rfl)⟩),
    d__law_file_at := (by obtain ⟨fd, F⟩ := q77; exact ⟨_, fd, He5.fun_of F, He.glo_ok X G (c.d.fact 58 (f := .glo "_law_file_at") rfl)⟩),
    d__law_put := (by obtain ⟨fd, F⟩ := q78; exact ⟨_, fd, He5.fun_of F, He.glo_ok X G (c.d.fact 59 (f := .glo "_law_put") rfl)⟩),
    d__law_gone := (by obtain ⟨fd, F⟩ := q79; exact ⟨_, fd, He5.fun_of F, He.glo_ok X G (c.d.fact 60 (f := .glo "_law_gone") rfl)⟩),
    d__law_carried := (by obtain ⟨fd, F⟩ := q80; exact ⟨_, fd, He5.fun_of F, He.glo_ok X G (c.d.fact 61 (f := .glo "_law_carried") rfl)⟩),
    d__law_with_text := (by obtain ⟨fd, F⟩ := q81; exact ⟨_, fd, He5.fun_of F, He.glo_ok X G (c.d.fact 62 (f := .glo "_law_with_text") rfl)⟩),
    d__law_renamed := (by obtain ⟨fd, F⟩ := q82; exact ⟨_, fd, He5.fun_of F, He.glo_ok X G (c.d.fact 63 (f := .glo "_law_renamed") rfl)⟩),
    d__law_done := (by obtain ⟨fd, F⟩ := q83; exact ⟨_, fd, He5.fun_of F, He.glo_ok X G (c.d.fact 64 (f := .glo "_law_done") rfl)⟩),
    d__law_done_in := (by obtain ⟨fd, F⟩ := q84; exact ⟨_, fd, He5.fun_of F, He.glo_ok X G (c.d.fact 65 (f := .glo "_law_done_in") rfl)⟩),
    d__law_tree := (by obtain ⟨fd, F⟩ := q85; exact ⟨_, fd, He5.fun_of F, He.glo_ok X G (c.d.fact 66 (f := .glo "_law_tree") rfl)⟩),
    d__law_shelf := (by obtain ⟨fd, F⟩ := q86; exact ⟨_, fd, He5.fun_of F, He.glo_ok X G (c.d.fact 67 (f := .glo "_law_shelf") rfl)⟩),
    d__law_is := (by obtain ⟨fd, F⟩ := q87; exact ⟨_, fd, He5.fun_of F, He.glo_ok X G (c.d.fact 68 (f := .glo "_law_is") rfl)⟩),
    d__law_operation := (by obtain ⟨fd, F⟩ := q88; exact ⟨_, fd, He5.fun_of F, He.glo_ok X G (c.d.fact 69 (f := .glo "_law_operation") rfl)⟩),
    d__law_cuts := (by obtain ⟨fd, F⟩ := q89; exact ⟨_, fd, He5.fun_of F, He.glo_ok X G (c.d.fact 70 (f := .glo "_law_cuts") rfl)⟩),
    d__law_read := (by obtain ⟨fd, F⟩ := q90; exact ⟨_, fd, He5.fun_of F, He.glo_ok X G (c.d.fact 71 (f := .glo "_law_read") rfl)⟩),
    d__law_told := (by obtain ⟨fd, F⟩ := q91; exact ⟨_, fd, He5.fun_of F, He.glo_ok X G (c.d.fact 72 (f := .glo "_law_told") rfl)⟩),
    d__law_change := (by obtain ⟨fd, F⟩ := q92; exact ⟨_, fd, He5.fun_of F, He.glo_ok X G (c.d.fact 73 (f := .glo "_law_change") rfl)⟩),
    d__law_carry := (by obtain ⟨fd, F⟩ := q93; exact ⟨_, fd, He5.fun_of F, He.glo_ok X G (c.d.fact 74 (f := .glo "_law_carry") rfl)⟩),
    d_law := (by obtain ⟨fd, F⟩ := q94; exact ⟨_, fd, He5.fun_of F, He.glo_ok X G (c.d.fact 75 (f := .glo "law") rfl)⟩),
    tb := tb,
    tqE := rfl,
    gN := He.glo_ok X G (c.d.fact 77 (f := .glo "Node") rfl),
    gH := He.glo_ok X G (c.d.fact 78 (f := .glo "Host") rfl),
    gR := He.glo_ok X G (c.d.fact 76 (f := .glo "Rule") rfl),
    xP := x1,
    gP := He.glo_ok X G (c.d.fact 79 (f := .glo "NotPossible") rfl),
    kP := x2,
    bP := x3,
    tP := x4,
    gREFUSED := ⟨_, He.glo_ok X G (c.d.fact 80 (f := .glo "REFUSED") rfl), fun F => He.tupB_ok ex.1 F⟩,
    gDONE := ⟨_, He.glo_ok X G (c.d.fact 81 (f := .glo "DONE") rfl), fun F => He.tupB_ok ex.2 F⟩ }
end
/-- a law over a head by facts, with tables -/
theorem walk_ofET {l : PySem.W.OpenLaw} {n k : Nat} {q : Program} {lo : List Str} {XP : (Str → Option Value) → Heap → Prop} {YP : World → Heap → Prop} {d : DefRec} {CX : World → CXT} {x : Str}
    (hn : l.most = some n) (hn2 : n ≤ sizeLine) (hdf : d.params.defaults = []) (hr : Room k callerA)
    (F : ∀ (w : World) (mg : Str → Option Value) (fa : Addr) (h : Heap), YP w h → h.Ns mainGlobals mg → mg d.name = some (.ref fa) → ∃ K : PySem.W.Frag, K.In h ∧ LamX.LawAtS l w K (CX w) k n x mg fa h)
    (hCX : ∀ (w : World) (H : Hp) (s : Shared) (e : Value) (s' : Shared), CX w [] H s (fun _ _ _ => False) e s' → False) :
    PySem.W.WalkO q lo XP YP l.row.toRowW d [] (fun f vs => PySem.call f vs) := by
  refine Att.attach_callB hn hdf fun w s0 s1 mg mb fa o pm cd doc a vs ns G Y ho hd hcd hmg hobj hints hlen hbits hg => ?_
  obtain ⟨K, KX, fd, cs, sp, hT, nT, hC, hb, hsp, hF⟩ := F w mg fa _ Y G.T.g hmg
  have e1 := Nat.le_trans hlen hn2
  exact LamX.law_callTs KX G.T.g G.T.b G.T.builtins G.T.nolimit hg hT nT hC G.T.bmain hobj hints e1 hr hF hb (fun H hH hS => hsp H a ns hlen hbits hH hS) (fun H e s' => hCX w H s1 e s')
theorem law_at (LT : LawTrue) {w : World} {K : PySem.W.Frag} {h : Heap} {mg : Str → Option Value} {f : Addr} (X : K.In h) (G : h.Ns mainGlobals mg) (hfa : mg ("law" : Str) = some (.ref f)) (c : SaysY h K) :
    LamX.LawAtS PySem.Challenge.rw_foldkeep_k07_operations_on_a_host w K (L2.CX (PySem.Challenge.rw_foldkeep_k07_operations_on_a_host).prog w) 13 63 "_law_script" mg f h := by
  obtain ⟨fd, F0⟩ := c.d.def_ 94 (d := df_law) rfl
  have F : Fun (csOf K).K "law" "law" s_law (He.fAd K ("law", none)) fd := He5.fun_of F0
  have e := hfa.symm.trans (He.glo_ok X G (c.d.fact 75 (f := .glo "law") rfl))
  cases e
  have eP : PySem.W.exmOne (csOf K).K (.ref (csOf K).CX) (.ref (csOf K).CX) = some true := He.exm_ok (c.d.fact 134 (f := .exm "NotPossible" "NotPossible" true) rfl)
  refine ⟨fd, [He.cT K ("Host", some "area_list")], spLaw (csOf K), fun p hp => ?_, fun p hp => ?_, fun p hp => ?_, fun s v => ?_, fun H a ns hl _ hT hS => ?_, fun base KB GB tb => ?_⟩
  · rw [List.mem_singleton.mp hp]; exact c.empty
  · rw [List.mem_singleton.mp hp]; exact c.out
  · rw [List.mem_singleton.mp hp]; exact PySem.W.codeHd_of_K X c.hd
  · obtain ⟨oc, od, kV, doc, pm, an, cdv, ct, osl, rfl, _, _⟩ := F.ex
    exact BindsTo.of_looks fun M => PySem.W.Looks.of_pure rfl
  · exact ⟨a, ns, rfl, hS, hl, ⟨#[], hT _ (List.mem_singleton.mpr rfl), trivial, fun pos cv hc => by cases hc⟩, fun _ => rfl⟩
  · have TB : LamX.TabB base mg (csOf K).cA (csOf K).PT := tb _ (List.mem_singleton.mpr rfl)
    exact ok_law (facts_of X G c TB) eP LT F
end FK
open PySem PySem.W PySem.Calls PyProof.Rows
theorem FK.holds_of (LT : FK.LawTrue) : PySem.Challenge.rw_foldkeep_k07_operations_on_a_host.Holds := by
  w_on; o_law
  refine HandSHeadRun.head_any (r := OpenLaw.row PySem.Challenge.rw_foldkeep_k07_operations_on_a_host) (q := view (OpenLaw.row PySem.Challenge.rw_foldkeep_k07_operations_on_a_host).prog [91]) (H := FK.hk) (ob := FK.ob) (M := 8000) (loose := FK.loose) (d := HandSHeadRun.topDef (OpenLaw.row PySem.Challenge.rw_foldkeep_k07_operations_on_a_host).prog 91) (kwd := []) FK.ob_eq
    (by kernel_rfl) (fun s => by kernel_rfl) FK.head_run (by kernel_rfl) (by kernel_rfl) (by kernel_rfl) (by rfl) (by first | assumption | decide +kernel) (by decide +kernel) ⟨rfl, rfl, rfl, rfl, rfl, by decide +kernel⟩ ?hw ?hc
  case hw => w_witness2
  case hc =>
    refine FK.walk_ofET (l := PySem.Challenge.rw_foldkeep_k07_operations_on_a_host) (n := 63) (k := 13) (x := "_law_script") (CX := fun w => L2.CX (PySem.Challenge.rw_foldkeep_k07_operations_on_a_host).prog w) rfl (by decide) (by kernel_rfl) ⟨rfl, by decide, by decide⟩ ?F ?G
    case F =>
      intro w mg fa h Y G hmg0
      obtain ⟨K, KX, c⟩ := Y
      have hmg : mg ("law" : PySem.Str) = some (.ref fa) := by
        have e : (HandSHeadRun.topDef (OpenLaw.row PySem.Challenge.rw_foldkeep_k07_operations_on_a_host).prog 91).name = ("law" : PySem.Str) := by kernel_rfl
        rw [← e]
        exact hmg0
      exact ⟨K, KX, FK.law_at LT KX G hmg c⟩
    case G =>
      intro w H s e s' z
      obtain ⟨_, _, _, _, _, _, _, _, _, _, _, _, z⟩ := z
      exact z
set_option Elab.async false
set_option linter.all false
set_option maxRecDepth 100000
set_option maxHeartbeats 1000000
/-! The plain law: evaluators. -/
namespace FK
open PySem L2

/-! ### Python data of data -/
theorem toPys_map {α : Type} {A : HostSt} {f : α → D} {g : α → PyData} : ∀ {l : List α}, (∀ x ∈ l, toPy A (f x) = some (g x)) → toPys A (l.map f) = some (l.map g)
  | [], _ => by simp [toPys]
  | x :: r, h => by
    simp only [List.map_cons, toPys]
    rw [h x (by simp), toPys_map (l := r) fun y hy => h y (List.mem_cons_of_mem _ hy)]
    rfl
theorem toPys_strs {A : HostSt} (p : List Str) : toPys A (p.map D.str) = some (p.map PyData.str) := toPys_map fun _ _ => by simp [toPy]
theorem canAll_map {α : Type} {g : α → PyData} : ∀ {l : List α}, (∀ x ∈ l, (g x).canLay0 = true) → PyData.canLayAll0 (l.map g) = true
  | [], _ => by simp [PyData.canLayAll0]
  | x :: r, h => by
    simp only [List.map_cons, PyData.canLayAll0]
    rw [h x (by simp), canAll_map (l := r) fun y hy => h y (List.mem_cons_of_mem _ hy)]
    rfl
theorem depthAll_map {α : Type} {g : α → PyData} {n : Nat} : ∀ {l : List α}, (∀ x ∈ l, (g x).depth ≤ n) → PyData.depthAll (l.map g) ≤ n
  | [], _ => by simp [PyData.depthAll]
  | x :: r, h => by
    simp only [List.map_cons, PyData.depthAll]
    exact Nat.max_le.mpr ⟨h x (by simp), depthAll_map (l := r) fun y hy => h y (List.mem_cons_of_mem _ hy)⟩
theorem eqvAll_strs : ∀ p q : List Str, PyData.eqvAll (p.map PyData.str) (q.map PyData.str) = decide (p = q)
  | [], [] => by simp [PyData.eqvAll]
  | [], _ :: _ => by simp [PyData.eqvAll]
  | _ :: _, [] => by simp [PyData.eqvAll]
  | x :: p, y :: q => by
    simp only [List.map_cons, PyData.eqvAll, PyData.eqv, eqvAll_strs p q, List.cons.injEq]
    by_cases h1 : x = y <;> by_cases h2 : p = q <;> simp [h1, h2]
/-- the datum reads as Python data that may be compared -/
structure Sh (A : HostSt) (n : Nat) (d : D) (e : PyData) : Prop where
  py : toPy A d = some e
  can : e.canLay0 = true
  dp : e.depth ≤ n
theorem Sh.shaped {A : HostSt} {n : Nat} {d : D} {e : PyData} (h : Sh A n d e) (hn : n ≤ 64 := by decide) : SeqAt.shaped e = true := by
  unfold SeqAt.shaped
  rw [h.can, decide_eq_true (Nat.le_trans h.dp hn)]
  rfl
theorem Sh.mono {A : HostSt} {n m : Nat} {d : D} {e : PyData} (h : Sh A n d e) (hn : n ≤ m) : Sh A m d e := ⟨h.py, h.can, Nat.le_trans h.dp hn⟩
theorem sh_int {A : HostSt} {i : Int} : Sh A 0 (.int i) (.int i) := ⟨by simp [toPy], by simp [PyData.canLay0], by simp [PyData.depth]⟩
theorem sh_bl {A : HostSt} {i : Bool} : Sh A 0 (.bl i) (.bool i) := ⟨by simp [toPy], by simp [PyData.canLay0], by simp [PyData.depth]⟩
theorem sh_non {A : HostSt} : Sh A 0 .non .none := ⟨by simp [toPy], by simp [PyData.canLay0], by simp [PyData.depth]⟩
theorem sh_str {A : HostSt} {x : Str} (h : PyData.strOk x = true) : Sh A 0 (.str x) (.str x) := ⟨by simp [toPy], by simp [PyData.canLay0, h], by simp [PyData.depth]⟩
theorem sh_tup {α : Type} {A : HostSt} {n : Nat} {f : α → D} {g : α → PyData} {l : List α} (h : ∀ x ∈ l, Sh A n (f x) (g x)) : Sh A (n + 1) (.tup (l.map f)) (.tuple (l.map g)) := by
  refine ⟨?_, ?_, ?_⟩
  · simp only [toPy, toPys_map fun x hx => (h x hx).py, Option.map_some]
  · simp only [PyData.canLay0]
    exact canAll_map fun x hx => (h x hx).can
  · simp only [PyData.depth]
    exact Nat.succ_le_succ (depthAll_map fun x hx => (h x hx).dp)
theorem sh_lst {α : Type} {A : HostSt} {n : Nat} {f : α → D} {g : α → PyData} {l : List α} (h : ∀ x ∈ l, Sh A n (f x) (g x)) : Sh A (n + 1) (.lst (l.map f)) (.list (l.map g)) := by
  refine ⟨?_, ?_, ?_⟩
  · simp only [toPy, toPys_map fun x hx => (h x hx).py, Option.map_some]
  · simp only [PyData.canLay0]
    exact canAll_map fun x hx => (h x hx).can
  · simp only [PyData.depth]
    exact Nat.succ_le_succ (depthAll_map fun x hx => (h x hx).dp)
/-- a datum without a second thought -/
def ShD (A : HostSt) (n : Nat) (d : D) : Prop := ∃ e, Sh A n d e
theorem toPys_all {A : HostSt} {n : Nat} : ∀ {l : List D}, (∀ x ∈ l, ShD A n x) → ∃ es, toPys A l = some es ∧ PyData.canLayAll0 es = true ∧ PyData.depthAll es ≤ n
  | [], _ => ⟨[], by simp [toPys], by simp [PyData.canLayAll0], by simp [PyData.depthAll]⟩
  | x :: r, h => by
    obtain ⟨e, he⟩ := h x (by simp)
    obtain ⟨es, h1, h2, h3⟩ := toPys_all (l := r) fun y hy => h y (List.mem_cons_of_mem _ hy)
    refine ⟨e :: es, ?_, ?_, ?_⟩
    · simp only [toPys, he.py, h1, Option.bind_some, Option.map_some]
    · simp only [PyData.canLayAll0, he.can, h2, Bool.and_self]
    · simp only [PyData.depthAll]
      exact Nat.max_le.mpr ⟨he.dp, h3⟩
theorem shD_tup {A : HostSt} {n : Nat} {l : List D} (h : ∀ x ∈ l, ShD A n x) : ShD A (n + 1) (.tup l) := by
  obtain ⟨es, h1, h2, h3⟩ := toPys_all h
  exact ⟨.tuple es, by simp only [toPy, h1, Option.map_some], by simp only [PyData.canLay0, h2], by simp only [PyData.depth]; omega⟩
theorem shD_lst {A : HostSt} {n : Nat} {l : List D} (h : ∀ x ∈ l, ShD A n x) : ShD A (n + 1) (.lst l) := by
  obtain ⟨es, h1, h2, h3⟩ := toPys_all h
  exact ⟨.list es, by simp only [toPy, h1, Option.map_some], by simp only [PyData.canLay0, h2], by simp only [PyData.depth]; omega⟩
theorem ShD.mono {A : HostSt} {n m : Nat} {d : D} (h : ShD A n d) (hn : n ≤ m) : ShD A m d := let ⟨e, he⟩ := h; ⟨e, he.mono hn⟩
theorem eqD_of {A : HostSt} {n m : Nat} {x y : D} {d e : PyData} (h : Sh A n x d) (h' : Sh A m y e) (hn : n ≤ 64 := by decide) (hm : m ≤ 64 := by decide) : eqD x y A = .ok (.bl (PyData.eqv d e)) := by
  unfold eqD
  rw [h.py, h'.py]
  simp only [h.shaped hn, h'.shaped hm, and_self, if_true]
theorem neD_of {A : HostSt} {n m : Nat} {x y : D} {d e : PyData} (h : Sh A n x d) (h' : Sh A m y e) (hn : n ≤ 64 := by decide) (hm : m ≤ 64 := by decide) : neD x y A = .ok (.bl (!PyData.eqv d e)) := by
  unfold neD
  rw [h.py, h'.py]
  simp only [h.shaped hn, h'.shaped hm, and_self, if_true]
theorem neD_self {A : HostSt} {n : Nat} {x : D} (h : ShD A n x) (hn : n ≤ 64 := by decide) : neD x x A = .ok (.bl false) := by
  obtain ⟨e, he⟩ := h
  rw [neD_of he he hn hn, SeqAt.eqv_refl e he.can]
  rfl
theorem eqD_self {A : HostSt} {n : Nat} {x : D} (h : ShD A n x) (hn : n ≤ 64 := by decide) : eqD x x A = .ok (.bl true) := by
  obtain ⟨e, he⟩ := h
  rw [eqD_of he he hn hn, SeqAt.eqv_refl e he.can]
@[simp] theorem eqD_int {A : HostSt} (i j : Int) : eqD (.int i) (.int j) A = .ok (.bl (decide (i = j))) := by
  rw [eqD_of sh_int sh_int]
  rfl
@[simp] theorem neD_int {A : HostSt} (i j : Int) : neD (.int i) (.int j) A = .ok (.bl (!decide (i = j))) := by
  rw [neD_of sh_int sh_int]
  rfl
theorem eqD_str {A : HostSt} {x y : Str} (hx : PyData.strOk x = true) (hy : PyData.strOk y = true) : eqD (.str x) (.str y) A = .ok (.bl (x == y)) := by
  rw [eqD_of (sh_str hx) (sh_str hy)]
  simp [PyData.eqv]
theorem neD_str {A : HostSt} {x y : Str} (hx : PyData.strOk x = true) (hy : PyData.strOk y = true) : neD (.str x) (.str y) A = .ok (.bl (!(x == y))) := by
  rw [neD_of (sh_str hx) (sh_str hy)]
  simp [PyData.eqv]
/-! ### names, paths, areas -/
def menu : List Str := ["a", "b", "A", "c.txt", "d", "B", "c.TXT", "e.e.e", "f"]
def PathOk (p : List Str) : Prop := ∀ x ∈ p, x ∈ menu
theorem menu_ok : ∀ x ∈ menu, PyData.strOk x = true := by decide +kernel
theorem menu_len : ∀ x ∈ menu, x.length ≤ 5 := by decide +kernel
theorem sh_path {A : HostSt} {p : List Str} (h : PathOk p) : Sh A 1 (pathD p) (.tuple (p.map .str)) := sh_tup fun x hx => sh_str (menu_ok x (h x hx))
theorem eqD_path {A : HostSt} {p q : List Str} (hp : PathOk p) (hq : PathOk q) : eqD (pathD p) (pathD q) A = .ok (.bl (decide (p = q))) := by
  rw [eqD_of (sh_path hp) (sh_path hq)]
  simp only [PyData.eqv, eqvAll_strs]
theorem neD_path {A : HostSt} {p q : List Str} (hp : PathOk p) (hq : PathOk q) : neD (pathD p) (pathD q) A = .ok (.bl (!decide (p = q))) := by
  rw [neD_of (sh_path hp) (sh_path hq)]
  simp only [PyData.eqv, eqvAll_strs]
@[simp] theorem pathOk_nil : PathOk [] := fun _ h => by cases h
theorem PathOk.append {p q : List Str} (h : PathOk p) (h' : PathOk q) : PathOk (p ++ q) := fun x hx => by
  rcases List.mem_append.mp hx with z | z
  · exact h x z
  · exact h' x z
theorem PathOk.take {p : List Str} (n : Nat) (h : PathOk p) : PathOk (p.take n) := fun x hx => h x (List.mem_of_mem_take hx)
theorem PathOk.drop {p : List Str} (n : Nat) (h : PathOk p) : PathOk (p.drop n) := fun x hx => h x (List.mem_of_mem_drop hx)
def AreaOk : Area → Prop
  | .s x => PyData.strOk x = true
  | .i _ => True
theorem sh_area {A : HostSt} {a : Area} (h : AreaOk a) : ∃ e, Sh A 0 (areaD a) e := by
  cases a with
  | s x => exact ⟨_, sh_str h⟩
  | i n => exact ⟨_, sh_int⟩
theorem eqD_area {A : HostSt} {a b : Area} (ha : AreaOk a) (hb : AreaOk b) : eqD (areaD a) (areaD b) A = .ok (.bl (decide (a = b))) := by
  cases a <;> cases b <;> simp only [areaD]
  · rw [eqD_str ha hb]
    simp only [Area.s.injEq]
    rfl
  · rw [eqD_of (sh_str ha) sh_int]
    simp [PyData.eqv]
  · rw [eqD_of sh_int (sh_str hb)]
    simp [PyData.eqv]
  · rw [eqD_int]
    simp only [Area.i.injEq]
end FK
set_option Elab.async false
set_option linter.all false
set_option maxRecDepth 100000
set_option maxHeartbeats 1000000
/-! The plain law: loops, names. -/
namespace FK
open PySem L2
/-! ### loops -/
def lastSet (i : Nat) : List D → Env → Env
  | [], ρ => ρ
  | d :: ds, ρ => lastSet i ds (ρ.set i (some d))
theorem lastSet_get {i j : Nat} (h : i ≠ j) : ∀ (ds : List D) (ρ : Env), (lastSet i ds ρ)[j]? = ρ[j]?
  | [], _ => rfl
  | d :: ds, ρ => by rw [lastSet, lastSet_get h ds, List.getElem?_set_ne h]
/-- a loop that ends at the first hit -/
theorem forS_find {i : Nat} {body : Sv} {A : HostSt} (g : D → Option D) : ∀ {ds : List D} {ρ : Env}, (∀ d ∈ ds, body (List.set ρ i (some d)) A = match g d with | some e => .ret e | none => .next (List.set ρ i (some d))) →
    forS i body ds ρ A = match ds.findSome? g with
      | some e => .ret e
      | none => .next (lastSet i ds ρ)
  | [], ρ, _ => rfl
  | d :: ds, ρ, h => by
    unfold forS
    rw [h d (by simp), List.findSome?_cons]
    cases q : g d with
    | some e => rfl
    | none =>
      dsimp only
      exact forS_find g (ds := ds) (ρ := List.set ρ i (some d)) fun d' hd' => by
        rw [List.set_set]
        exact h d' (List.mem_cons_of_mem _ hd')
theorem lcGo_ok {i : Nat} {t : Tv} {e : Ev} {ρ : Env} {A : HostSt} (f : D → Bool) (k : D → D) : ∀ {ds acc : List D}, (∀ d ∈ ds, t (ρ.set i (some d)) A = .ok (f d)) → (∀ d ∈ ds, f d = true → e (ρ.set i (some d)) A = .ok (k d)) → acc.length + ds.length ≤ 1000 →
    lcGo i t e ρ A ds acc = .ok (acc ++ (ds.filter f).map k)
  | [], acc, _, _, _ => by simp [lcGo]
  | d :: ds, acc, h1, h2, hl => by
    unfold lcGo
    rw [h1 d (by simp)]
    simp only [List.length_cons] at hl
    cases q : f d with
    | true =>
      dsimp only
      rw [h2 d (by simp) q]
      dsimp only
      rw [if_pos (by omega), lcGo_ok f k (fun d' hd' => h1 d' (List.mem_cons_of_mem _ hd')) (fun d' hd' => h2 d' (List.mem_cons_of_mem _ hd')) (by simp; omega)]
      rw [List.filter_cons_of_pos q]
      simp
    | false =>
      dsimp only
      rw [lcGo_ok f k (fun d' hd' => h1 d' (List.mem_cons_of_mem _ hd')) (fun d' hd' => h2 d' (List.mem_cons_of_mem _ hd')) (by omega)]
      rw [List.filter_cons_of_neg (by simp [q])]
/-! ### names: finite tables -/
def cpc (al : List Str) (c : Nat) : Nat := match al with
  | [] => c
  | p :: r => if p.cps.getD 0 0 = c then p.cps.getD 1 0 else cpc r c
def normN (al : List Str) (x : Str) : List Nat := x.cps.toList.map (cpc al)
def sameN (al : List Str) (x y : Str) : Bool := decide (normN al x = normN al y)
theorem tab_same (l : Int) (u : List Str) (s rd c t : Bool) (A : HostSt) : (alikes.map fun al => menu.map fun x => menu.map fun y => D_same_name [.rule ⟨al, u, l, s, rd, c, t⟩, .str x, .str y] A) = alikes.map fun al => menu.map fun x => menu.map fun y => Res.ok (.bl (sameN al x y)) := by
  kernel_rfl
end FK
set_option Elab.async false
set_option linter.all false
set_option maxRecDepth 100000
set_option maxHeartbeats 1000000
/-! The plain law: evaluation from the outside, the branches asleep. -/
namespace FK
open PySem L2
section lazy
/-- a mark that keeps what follows asleep: its type bears it, so that it stays as it is -/
structure Wit {α : Type} (k : α) : Type where
/-- a value, then a value -/
def bR {α β : Type} (o : Res α) (k : α → Res β) : Res β := o.bind k
def bZ {α β : Type} (o : Res α) (k : α → Res β) (w : Wit k := {}) : Res β := o.bind k
@[simp] theorem bd_ok {α β : Type} {a : α} {f : α → Res β} : bR (Res.ok a) f = f a := (rfl)
@[simp] theorem bd_exc {α β : Type} {f : α → Res β} : bR (Res.exc : Res α) f = .exc := (rfl)
@[simp] theorem bd_bad {α β : Type} {f : α → Res β} : bR (Res.bad : Res α) f = .bad := (rfl)
@[simp] theorem bZ_ok {α β : Type} {a : α} {f : α → Res β} : bZ (Res.ok a) f = f a := (rfl)
@[simp] theorem bZ_exc {α β : Type} {f : α → Res β} : bZ (Res.exc : Res α) f = .exc := (rfl)
@[simp] theorem bZ_bad {α β : Type} {f : α → Res β} : bZ (Res.bad : Res α) f = .bad := (rfl)
@[simp low] theorem bZ_wake {α β : Type} {o : Res α} {f : α → Res β} : bZ o f = bR o f := (rfl)
/-- what follows a statement -/
def bO (o : Out) (k : Env → Out) : Out := match o with
  | .next ρ => k ρ
  | o => o
@[simp] theorem bO_next {ρ : Env} {k : Env → Out} : bO (.next ρ) k = k ρ := (rfl)
@[simp] theorem bO_ret {d : D} {k : Env → Out} : bO (.ret d) k = .ret d := (rfl)
@[simp] theorem bO_exc {k : Env → Out} : bO .exc k = .exc := (rfl)
@[simp] theorem bO_bad {k : Env → Out} : bO .bad k = .bad := (rfl)
/-- a value, then an end -/
def cR {α : Type} (r : Res α) (k : α → Out) : Out := match r with
  | .ok d => k d
  | .exc => .exc
  | .bad => .bad
@[simp] theorem cR_ok {α : Type} {d : α} {k : α → Out} : cR (.ok d) k = k d := (rfl)
@[simp] theorem cR_exc {α : Type} {k : α → Out} : cR .exc k = .exc := (rfl)
@[simp] theorem cR_bad {α : Type} {k : α → Out} : cR .bad k = .bad := (rfl)
/-- a choice, both ways asleep -/
def iteL {α : Type} (c : Bool) (x y : Unit → α) : α := if c = true then x () else y ()
@[simp] theorem iteL_true {α : Type} {x y : Unit → α} : iteL true x y = x () := (rfl)
@[simp] theorem iteL_false {α : Type} {x y : Unit → α} : iteL false x y = y () := (rfl)
def bOz (o : Out) (k : Env → Out) (w : Wit k := {}) : Out := bO o k
@[simp] theorem bOz_next {ρ : Env} {k : Env → Out} : bOz (.next ρ) k = k ρ := (rfl)
@[simp] theorem bOz_ret {d : D} {k : Env → Out} : bOz (.ret d) k = .ret d := (rfl)
@[simp] theorem bOz_exc {k : Env → Out} : bOz .exc k = .exc := (rfl)
@[simp] theorem bOz_bad {k : Env → Out} : bOz .bad k = .bad := (rfl)
@[simp low] theorem bOz_wake {o : Out} {k : Env → Out} : bOz o k = bO o k := (rfl)
def cRz {α : Type} (r : Res α) (k : α → Out) (w : Wit k := {}) : Out := cR r k
@[simp] theorem cRz_ok {α : Type} {d : α} {k : α → Out} : cRz (.ok d) k = k d := (rfl)
@[simp] theorem cRz_exc {α : Type} {k : α → Out} : cRz .exc k = .exc := (rfl)
@[simp] theorem cRz_bad {α : Type} {k : α → Out} : cRz .bad k = .bad := (rfl)
@[simp low] theorem cRz_wake {α : Type} {r : Res α} {k : α → Out} : cRz r k = cR r k := (rfl)
def iteZ {α : Type} (c : Bool) (x y : Unit → α) (w : Wit (x, y) := {}) : α := iteL c x y
@[simp] theorem iteZ_true {α : Type} {x y : Unit → α} : iteZ true x y = x () := (rfl)
@[simp] theorem iteZ_false {α : Type} {x y : Unit → α} : iteZ false x y = y () := (rfl)
@[simp low] theorem iteZ_wake {α : Type} {c : Bool} {x y : Unit → α} : iteZ c x y = iteL c x y := (rfl)
@[simp] theorem seqS_eq {a b : Sv} {ρ : Env} {A : HostSt} : seqS a b ρ A = bOz (a ρ A) fun ρ' => b ρ' A := by
  unfold seqS bOz bO
  cases a ρ A <;> rfl
@[simp] theorem sNil_eq {ρ : Env} {A : HostSt} : sNil ρ A = .next ρ := (rfl)
@[simp] theorem sRet_eq {e : Ev} {ρ : Env} {A : HostSt} : sRet e ρ A = cRz (e ρ A) .ret := by
  unfold sRet cRz cR
  cases e ρ A <;> rfl
@[simp] theorem sSet_eq {i : Nat} {e : Ev} {ρ : Env} {A : HostSt} : sSet i e ρ A = cRz (e ρ A) fun d => .next (List.set ρ i (some d)) := by
  unfold sSet cRz cR
  cases e ρ A <;> rfl
def two (d : D) (k : D → D → Out) : Out := match d with
  | .tup [x, y] => k x y
  | _ => .bad
@[simp] theorem two_eq {x y : D} {k : D → D → Out} : two (.tup [x, y]) k = k x y := (rfl)
@[simp] theorem sSet2_eq {i j : Nat} {e : Ev} {ρ : Env} {A : HostSt} : sSet2 i j e ρ A = cRz (e ρ A) fun d => two d fun x y => .next (List.set (List.set ρ i (some x)) j (some y)) := by
  unfold sSet2 cRz cR two
  cases q : e ρ A with
  | ok d =>
    dsimp only
    cases d with
    | tup l =>
      match l with
      | [] => rfl
      | [_] => rfl
      | [_, _] => rfl
      | _ :: _ :: _ :: _ => rfl
    | _ => rfl
  | exc => rfl
  | bad => rfl
@[simp] theorem sIf_eq {t : Tv} {a b : Sv} {ρ : Env} {A : HostSt} : sIf t a b ρ A = cRz (t ρ A) fun c => iteZ c (fun _ => a ρ A) fun _ => b ρ A := by
  unfold sIf cRz cR iteZ iteL
  cases t ρ A <;> rfl
@[simp] theorem sRaise_eq {ρ : Env} {A : HostSt} : sRaise ρ A = .exc := (rfl)
@[simp] theorem sFor_eq {i : Nat} {it : Iv} {b : Sv} {ρ : Env} {A : HostSt} : sFor i it b ρ A = cRz (it ρ A) fun ds => forS i b ds ρ A := by
  unfold sFor cRz cR
  cases it ρ A <;> rfl
def slot (o : Option (Option D)) : Res D := match o with
  | some (some d) => .ok d
  | _ => .bad
@[simp] theorem slot_some {d : D} : slot (some (some d)) = .ok d := (rfl)
@[simp] theorem vVar_eq {i : Nat} {ρ : Env} {A : HostSt} : vVar i ρ A = slot ρ[i]? := (rfl)
@[simp] theorem vC_eq {d : D} {ρ : Env} {A : HostSt} : vC d ρ A = .ok d := (rfl)
@[simp] theorem vNil_eq {ρ : Env} {A : HostSt} : vNil ρ A = .ok [] := (rfl)
@[simp] theorem vCons_eq {e : Ev} {es : Evs} {ρ : Env} {A : HostSt} : vCons e es ρ A = bZ (e ρ A) fun d => bZ (es ρ A) fun ds => .ok (d :: ds) := (rfl)
@[simp] theorem vTup_eq {es : Evs} {ρ : Env} {A : HostSt} : vTup es ρ A = bZ (es ρ A) fun ds => if ds.length ≤ 1000 then .ok (.tup ds) else .bad := (rfl)
@[simp] theorem vLst_eq {es : Evs} {ρ : Env} {A : HostSt} : vLst es ρ A = bZ (es ρ A) fun ds => if ds.length ≤ 1000 then .ok (.lst ds) else .bad := (rfl)
@[simp] theorem vBin_eq {f : D → D → HostSt → Res D} {a b : Ev} {ρ : Env} {A : HostSt} : vBin f a b ρ A = bZ (a ρ A) fun x => bZ (b ρ A) fun y => f x y A := (rfl)
@[simp] theorem vUn_eq {f : D → HostSt → Res D} {a : Ev} {ρ : Env} {A : HostSt} : vUn f a ρ A = bZ (a ρ A) fun x => f x A := (rfl)
@[simp] theorem vApp_eq {f : List D → HostSt → Res D} {a : Evs} {ρ : Env} {A : HostSt} : vApp f a ρ A = bZ (a ρ A) fun x => f x A := (rfl)
def aBl (d : D) : Res Bool := match d with
  | .bl b => .ok b
  | _ => .bad
@[simp] theorem aBl_bl {b : Bool} : aBl (.bl b) = .ok b := (rfl)
@[simp] theorem tOfV_eq {a : Ev} {ρ : Env} {A : HostSt} : tOfV a ρ A = bZ (a ρ A) aBl := (rfl)
@[simp] theorem tvAnd_eq {a b : Tv} {ρ : Env} {A : HostSt} : tvAnd a b ρ A = bZ (a ρ A) fun c => iteZ c (fun _ => b ρ A) fun _ => .ok false := (rfl)
@[simp] theorem tvOr_eq {a b : Tv} {ρ : Env} {A : HostSt} : tvOr a b ρ A = bZ (a ρ A) fun c => iteZ c (fun _ => .ok true) fun _ => b ρ A := (rfl)
@[simp] theorem tvNot_eq {a : Tv} {ρ : Env} {A : HostSt} : tvNot a ρ A = bZ (a ρ A) fun c => .ok (!c) := (rfl)
@[simp] theorem vIf_eq {t : Tv} {a b : Ev} {ρ : Env} {A : HostSt} : vIf t a b ρ A = bZ (t ρ A) fun c => iteZ c (fun _ => a ρ A) fun _ => b ρ A := (rfl)
@[simp] theorem vAnd_eq {a b : Ev} {ρ : Env} {A : HostSt} : vAnd a b ρ A = bZ (a ρ A) fun x => bZ (aBl x) fun c => iteZ c (fun _ => b ρ A) fun _ => .ok (.bl false) := by
  unfold vAnd
  congr 1 <;> (funext x; cases x <;> rfl)
@[simp] theorem vOr_eq {a b : Ev} {ρ : Env} {A : HostSt} : vOr a b ρ A = bZ (a ρ A) fun x => bZ (aBl x) fun c => iteZ c (fun _ => .ok (.bl true)) fun _ => b ρ A := by
  unfold vOr
  congr 1 <;> (funext x; cases x <;> rfl)
@[simp] theorem vNot_eq {a : Ev} {ρ : Env} {A : HostSt} : vNot a ρ A = bZ (a ρ A) fun x => bZ (aBl x) fun c => .ok (.bl (!c)) := by
  unfold vNot
  congr 1 <;> (funext x; cases x <;> rfl)
@[simp] theorem vCall_eq {n : Nat} {f : List D → HostSt → Res D} {es : Evs} {ρ : Env} {A : HostSt} : vCall n f es ρ A = bZ (es ρ A) fun ds => if ds.length = n then f ds A else .bad := (rfl)
def aHost {α : Type} (d : D) (r : Unit → Res α) : Res α := match d with
  | .host => r ()
  | _ => .bad
@[simp] theorem aHost_eq {α : Type} {r : Unit → Res α} : aHost .host r = r () := (rfl)
def aHostZ {α : Type} (d : D) (r : Unit → Res α) (w : Wit r := {}) : Res α := aHost d r
@[simp] theorem aHostZ_eq {α : Type} {r : Unit → Res α} : aHostZ .host r = r () := (rfl)
@[simp low] theorem aHostZ_wake {α : Type} {d : D} {r : Unit → Res α} : aHostZ d r = aHost d r := (rfl)
@[simp] theorem vMeth_eq {n : Nat} {f : List D → HostSt → Res D} {o : Ev} {es : Evs} {ρ : Env} {A : HostSt} : vMeth n f o es ρ A = bZ (o ρ A) fun x => aHostZ x fun _ => bZ (es ρ A) fun ds => if ds.length + 1 = n then f (.host :: ds) A else .bad := by
  show (o ρ A).bind _ = (o ρ A).bind _
  congr 1 <;> (funext x; cases x <;> rfl)
@[simp] theorem vLc_eq {i : Nat} {it : Iv} {t : Tv} {e : Ev} {ρ : Env} {A : HostSt} : vLc i it t e ρ A = bZ (it ρ A) fun ds => bZ (lcGo i t e (List.set ρ i none) A ds []) fun l => .ok (.lst l) := (rfl)
@[simp] theorem tvYes_eq {ρ : Env} {A : HostSt} : tvYes ρ A = .ok true := (rfl)
def aLst (d : D) : Res (List D) := match d with
  | .lst ds => .ok ds
  | _ => .bad
@[simp] theorem aLst_eq {ds : List D} : aLst (.lst ds) = .ok ds := (rfl)
def aTup (d : D) : Res (List D) := match d with
  | .tup ds => .ok ds
  | _ => .bad
@[simp] theorem aTup_eq {ds : List D} : aTup (.tup ds) = .ok ds := (rfl)
@[simp] theorem itL_eq {e : Ev} {ρ : Env} {A : HostSt} : itL e ρ A = bZ (e ρ A) aLst := (rfl)
@[simp] theorem itT_eq {e : Ev} {ρ : Env} {A : HostSt} : itT e ρ A = bZ (e ρ A) aTup := (rfl)
@[simp] theorem itN_eq {e : Ev} {ρ : Env} {A : HostSt} : itN e ρ A = bZ (e ρ A) fun x => aHostZ x fun _ => .ok (A.rows.map fun r => .node r.thing) := by
  show (e ρ A).bind _ = (e ρ A).bind _
  congr 1 <;> (funext x; cases x <;> rfl)
def aRng (d : D) : Res (List D) := match d with
  | .int j => if -(2 ^ 62) ≤ j ∧ j < 2 ^ 62 then .ok ((List.range j.toNat).map fun (k : Nat) => .int (k : Int)) else .bad
  | _ => .bad
@[simp] theorem itR_eq {e : Ev} {ρ : Env} {A : HostSt} : itR e ρ A = bZ (e ρ A) aRng := (rfl)
theorem aRng_nat {n : Nat} (h : n ≤ 100000) : aRng (.int (n : Int)) = .ok ((List.range n).map fun (k : Nat) => .int (k : Int)) := by
  unfold aRng
  dsimp only
  rw [if_pos (by omega), Int.toNat_natCast]
def aInt (d : D) : Res (Option Int) := match d with
  | .int i => .ok (some i)
  | _ => .bad
@[simp] theorem aInt_eq {i : Int} : aInt (.int i) = .ok (some i) := (rfl)
@[simp] theorem oSome_eq {e : Ev} {ρ : Env} {A : HostSt} : oSome e ρ A = bZ (e ρ A) aInt := (rfl)
@[simp] theorem oNone_eq {ρ : Env} {A : HostSt} : oNone ρ A = .ok none := (rfl)
@[simp] theorem vSl_eq {e : Ev} {lo hi : Env → HostSt → Res (Option Int)} {ρ : Env} {A : HostSt} : vSl e lo hi ρ A = bZ (e ρ A) fun x => bZ (lo ρ A) fun l => bZ (hi ρ A) fun h => slD l h x := (rfl)
def endF (o : Out) : Res D := match o with
  | .next _ => .ok .non
  | .ret d => .ok d
  | .exc => .exc
  | .bad => .bad
@[simp] theorem endF_next {ρ : Env} : endF (.next ρ) = .ok .non := (rfl)
@[simp] theorem endF_ret {d : D} : endF (.ret d) = .ok d := (rfl)
@[simp] theorem endF_exc : endF .exc = .exc := (rfl)
@[simp] theorem runF_eq {sv : Sv} {N n : Nat} {ds : List D} {A : HostSt} : runF sv N n ds A = endF (sv (ds.map some ++ List.replicate (N - n) none) A) := by
  unfold runF endF
  rfl
@[simp] theorem noexc_ok {α : Type} {a : α} : noexc (Res.ok a) = .ok a := (rfl)
@[simp] theorem lenD_tup {ds : List D} {A : HostSt} : lenD [.tup ds] A = .ok (.int ds.length) := (rfl)
@[simp] theorem lenD_lst {ds : List D} {A : HostSt} : lenD [.lst ds] A = .ok (.int ds.length) := (rfl)
@[simp] theorem lenD_path {p : List Str} {A : HostSt} : lenD [pathD p] A = .ok (.int p.length) := by simp [pathD]
@[simp] theorem lenD_op {A : HostSt} : lenD [.opened] A = .ok (.int A.opened.length) := (rfl)
@[simp] theorem intD_eq {i : Int} {A : HostSt} : intD [.int i] A = .ok (.int i) := (rfl)
@[simp] theorem addD_int {i j : Int} {A : HostSt} : addD (.int i) (.int j) A = .ok (.int (i + j)) := (rfl)
@[simp] theorem subD_int {i j : Int} {A : HostSt} : subD (.int i) (.int j) A = .ok (.int (i - j)) := (rfl)
@[simp] theorem ltD_int {i j : Int} {A : HostSt} : ltD (.int i) (.int j) A = .ok (.bl (decide (i < j))) := (rfl)
@[simp] theorem leD_int {i j : Int} {A : HostSt} : leD (.int i) (.int j) A = .ok (.bl (decide (i ≤ j))) := (rfl)
@[simp] theorem gtD_int {i j : Int} {A : HostSt} : gtD (.int i) (.int j) A = .ok (.bl (decide (j < i))) := (rfl)
@[simp] theorem geD_int {i j : Int} {A : HostSt} : geD (.int i) (.int j) A = .ok (.bl (decide (j ≤ i))) := (rfl)
@[simp] theorem negD_int {i : Int} {A : HostSt} : negD (.int i) A = .ok (.int (-i)) := (rfl)
@[simp] theorem isND_eq {x : D} {A : HostSt} : isND x .non A = .ok (.bl x.isNon) := by cases x <;> rfl
@[simp] theorem notND_eq {x : D} {A : HostSt} : notND x .non A = .ok (.bl (!x.isNon)) := by cases x <;> rfl
@[simp] theorem isNon_non : D.isNon .non = true := (rfl)
@[simp] theorem isNon_node {t : Int} : D.isNon (.node t) = false := (rfl)
@[simp] theorem isNon_path {p : List Str} : D.isNon (pathD p) = false := (rfl)
@[simp] theorem isNon_lst {p : List D} : D.isNon (.lst p) = false := (rfl)
@[simp] theorem isNon_tup {p : List D} : D.isNon (.tup p) = false := (rfl)
@[simp] theorem fdH_eq {sel : HostSt → D} {A : HostSt} : fdH sel .host A = .ok (sel A) := (rfl)
@[simp] theorem fdR_eq {sel : RuleD → D} {r : RuleD} {A : HostSt} : fdR sel (.rule r) A = .ok (sel r) := (rfl)
@[simp] theorem isStrD_area {a : Area} {A : HostSt} : isStrD (areaD a) A = .ok (.bl (match a with | .s _ => true | .i _ => false)) := by cases a <;> rfl
@[simp] theorem isIntD_area {a : Area} {A : HostSt} : isIntD (areaD a) A = .ok (.bl (match a with | .s _ => false | .i _ => true)) := by cases a <;> rfl
@[simp] theorem iteL_and {c x : Bool} : iteL c (fun _ => Res.ok x) (fun _ => Res.ok false) = Res.ok (c && x) := by cases c <;> rfl
@[simp] theorem iteL_or {c x : Bool} : iteL c (fun _ => Res.ok true) (fun _ => Res.ok x) = Res.ok (c || x) := by cases c <;> rfl
@[simp] theorem iteL_andD {c x : Bool} : iteL c (fun _ => Res.ok (D.bl x)) (fun _ => Res.ok (D.bl false)) = Res.ok (.bl (c && x)) := by cases c <;> rfl
@[simp] theorem iteL_orD {c x : Bool} : iteL c (fun _ => Res.ok (D.bl true)) (fun _ => Res.ok (D.bl x)) = Res.ok (.bl (c || x)) := by cases c <;> rfl
end lazy
/-! ### names and paths -/
theorem mem_map2 {α β γ : Type} {f g : α → β → γ} {as : List α} {bs : List β} (h : (as.map fun a => bs.map fun b => f a b) = as.map fun a => bs.map fun b => g a b) {a : α} {b : β} (ha : a ∈ as) (hb : b ∈ bs) : f a b = g a b :=
  List.map_inj_left.mp (List.map_inj_left.mp h a ha) b hb
theorem mem_map3 {α β γ δ : Type} {f g : α → β → γ → δ} {as : List α} {bs : List β} {cs : List γ} (h : (as.map fun a => bs.map fun b => cs.map fun c => f a b c) = as.map fun a => bs.map fun b => cs.map fun c => g a b c) {a : α} {b : β} {c : γ} (ha : a ∈ as) (hb : b ∈ bs) (hc : c ∈ cs) : f a b c = g a b c :=
  List.map_inj_left.mp (List.map_inj_left.mp (List.map_inj_left.mp h a ha) b hb) c hc
theorem D_same_name_eq {r : RuleD} {A : HostSt} (hr : MenuR r) {x y : Str} (hx : x ∈ menu) (hy : y ∈ menu) : D_same_name [.rule r, .str x, .str y] A = .ok (.bl (sameN r.alike x y)) := by
  obtain ⟨al, un, lo, s, rd, c, t⟩ := r
  exact mem_map3 (tab_same lo un s rd c t A) hr.1 hx hy
def fitsN (r : RuleD) (x : Str) : Bool := !(r.unfit.any fun u => sameN r.alike u x)
theorem tab_fits (s rd c t : Bool) (A : HostSt) : (alikes.map fun al => unfits.map fun un => menu.map fun x => D_fits [.rule ⟨al, un, 48, s, rd, c, t⟩, .str x] A) = alikes.map fun al => unfits.map fun un => menu.map fun x => Res.ok (.bl (fitsN ⟨al, un, 48, s, rd, c, t⟩ x)) := by
  kernel_rfl
theorem D_fits_eq {r : RuleD} {A : HostSt} (hr : MenuR r) {x : Str} (hx : x ∈ menu) : D_fits [.rule r, .str x] A = .ok (.bl (fitsN r x)) := by
  obtain ⟨al, un, lo, s, rd, c, t⟩ := r
  have e : lo = 48 := hr.2.2
  subst e
  exact mem_map3 (tab_fits s rd c t A) hr.1 hr.2.1 hx
def sameP (al : List Str) (p q : List Str) : Bool := decide (p.map (normN al) = q.map (normN al))
theorem atI_in {α : Type} {l : List α} {k : Nat} (h : k < l.length) : atI l (k : Int) = some l[k] := atI_nat (List.getElem?_eq_getElem h)
theorem path_ix {p : List Str} {k : Nat} (h : k < p.length) (A : HostSt) : ixD (pathD p) (.int (k : Int)) A = .ok (.str p[k]) := by
  unfold ixD pathD
  dsimp only
  rw [atI_in (by simpa using h)]
  simp
theorem map_eq_at {α β : Type} {f : α → β} {p q : List α} (hl : p.length = q.length) : (∀ k, (h : k < p.length) → f p[k] = f (q[k]'(hl ▸ h))) ↔ p.map f = q.map f := by
  constructor
  · intro h
    refine List.ext_getElem (by simpa using hl) fun k h1 h2 => ?_
    simpa using h k (by simpa using h1)
  · intro h k h1
    have : (p.map f)[k]? = (q.map f)[k]? := by rw [h]
    simpa [h1, hl ▸ h1] using this
/-- a loop over range(n) that ends at the first k that fails -/
theorem forS_range {i n : Nat} {body : Sv} {A : HostSt} {ρ : Env} (f : Nat → Bool) (e : D) (h : ∀ k, k < n → body (List.set ρ i (some (.int (k : Int)))) A = if f k = true then .next (List.set ρ i (some (.int (k : Int)))) else .ret e) :
    (∃ ρ', forS i body ((List.range n).map fun (k : Nat) => D.int (k : Int)) ρ A = .next ρ' ∧ (∀ j, j ≠ i → ρ'[j]? = ρ[j]?) ∧ ∀ k, k < n → f k = true) ∨ (forS i body ((List.range n).map fun (k : Nat) => D.int (k : Int)) ρ A = .ret e ∧ ∃ k, k < n ∧ f k = false) := by
  have h1 := forS_find (i := i) (body := body) (A := A) (ρ := ρ) (ds := (List.range n).map fun (k : Nat) => D.int (k : Int)) (fun d => match d with
    | .int z => if f z.toNat = true then none else some e
    | _ => none) (fun d hd => by
      obtain ⟨k, hk, rfl⟩ := List.mem_map.mp hd
      rw [h k (List.mem_range.mp hk)]
      dsimp only
      rw [Int.toNat_natCast]
      by_cases q : f k = true
      · rw [if_pos q, if_pos q]
      · rw [if_neg q, if_neg q])
  rw [h1]
  by_cases hf : ∀ k, k < n → f k = true
  · refine .inl ⟨lastSet i ((List.range n).map fun (k : Nat) => D.int (k : Int)) ρ, ?_, fun j hj => lastSet_get hj.symm _ _, hf⟩
    have : List.findSome? (fun d => match d with
        | .int z => if f z.toNat = true then none else some e
        | _ => none) ((List.range n).map fun (k : Nat) => D.int (k : Int)) = none := by
      rw [List.findSome?_eq_none_iff]
      intro d hd
      obtain ⟨k, hk, rfl⟩ := List.mem_map.mp hd
      dsimp only
      rw [Int.toNat_natCast, if_pos (hf k (List.mem_range.mp hk))]
    rw [this]
  · have hf' : ∃ k, k < n ∧ f k = false := by
      apply Classical.byContradiction
      intro hn
      exact hf fun k hk => by
        cases q : f k with
        | true => rfl
        | false => exact absurd ⟨k, hk, q⟩ hn
    refine .inr ⟨?_, hf'⟩
    cases q : List.findSome? (fun d => match d with
        | .int z => if f z.toNat = true then none else some e
        | _ => none) ((List.range n).map fun (k : Nat) => D.int (k : Int)) with
    | none =>
      rw [List.findSome?_eq_none_iff] at q
      obtain ⟨k, hk, hk2⟩ := hf'
      have := q (.int k) (List.mem_map.mpr ⟨k, List.mem_range.mpr hk, rfl⟩)
      dsimp only at this
      rw [Int.toNat_natCast, if_neg (by simp [hk2])] at this
      cases this
    | some y =>
      obtain ⟨d, hd, hy⟩ := List.exists_of_findSome?_eq_some q
      obtain ⟨k, hk, rfl⟩ := List.mem_map.mp hd
      dsimp only at hy
      split at hy
      · cases hy
      · cases hy
        rfl
theorem D_same_path_eq {r : RuleD} {A : HostSt} (hr : MenuR r) {p q : List Str} (hp : PathOk p) (hq : PathOk q) (lp : p.length ≤ 1000) : D_same_path [.rule r, pathD p, pathD q] A = .ok (.bl (sameP r.alike p q)) := by
  unfold D_same_path b_same_path
  by_cases hl : p.length = q.length
  · have e1 := aRng_nat (n := q.length) (by omega)
    simp [hl, e1]
    have key : ∀ k, k < q.length → (sIf (tvNot (tOfV (vCall 3 D_same_name (vCons (vVar 0) (vCons (vBin ixD (vVar 1) (vVar 3)) (vCons (vBin ixD (vVar 2) (vVar 3)) vNil))))))
        (sRet (vC (D.bl false))) sNil) (List.set [some (D.rule r), some (pathD p), some (pathD q), none] 3 (some (.int (k : Int)))) A =
        if sameN r.alike (p.getD k "") (q.getD k "") = true then .next (List.set [some (D.rule r), some (pathD p), some (pathD q), none] 3 (some (.int (k : Int)))) else .ret (.bl false) := by
      intro k hk
      have hk' : k < p.length := by omega
      simp [path_ix hk, path_ix hk', D_same_name_eq hr (hp _ (List.getElem_mem hk')) (hq _ (List.getElem_mem hk)), hk, hk']
      cases sameN r.alike p[k] q[k] <;> simp
    rcases forS_range _ _ key with ⟨ρ', e, _, hf⟩ | ⟨e, k, hk, hf⟩
    · rw [e]
      have : sameP r.alike p q = true := by
        unfold sameP
        refine decide_eq_true ((map_eq_at hl).mp fun k h => ?_)
        have := hf k (by omega)
        have h2 : k < q.length := by omega
        simp [h, h2] at this
        exact of_decide_eq_true this
      simp [this]
    · rw [e]
      have : sameP r.alike p q = false := by
        cases z : sameP r.alike p q with
        | false => rfl
        | true =>
          have h3 := (map_eq_at hl).mpr (of_decide_eq_true z) k (by omega)
          have h2 : k < q.length := by omega
          have h1 : k < p.length := by omega
          simp [h1, h2] at hf
          unfold sameN at hf
          rw [h3] at hf
          simp at hf
      simp [this]
  · have : ((p.length : Int) == (q.length : Int)) = false := by simp; omega
    have h2 : sameP r.alike p q = false := by
      cases z : sameP r.alike p q with
      | false => rfl
      | true =>
        have := congrArg List.length (of_decide_eq_true z)
        simp at this
        exact absurd this hl
    have t3 : ¬ ((p.length : Int) = (q.length : Int)) := by omega
    simp [t3, h2]
end FK
set_option Elab.async false
set_option linter.all false
set_option maxRecDepth 100000
set_option maxHeartbeats 1000000
/-! The plain law: the host's reads. -/
namespace FK
open PySem L2
/-- a loop with early return, over data made from a list -/
theorem for_map {α : Type} {i : Nat} {body : Sv} {A : HostSt} (enc : α → D) (f : α → Bool) (k : α → D) : ∀ {l : List α} {ρ : Env}, (∀ x ∈ l, body (List.set ρ i (some (enc x))) A = if f x = true then .ret (k x) else .next (List.set ρ i (some (enc x)))) →
    forS i body (l.map enc) ρ A = match l.find? f with
      | some x => .ret (k x)
      | none => .next (lastSet i (l.map enc) ρ)
  | [], ρ, _ => rfl
  | x :: l, ρ, h => by
    rw [List.map_cons]
    unfold forS
    rw [h x (by simp), List.find?_cons]
    cases q : f x with
    | true => rfl
    | false =>
      simp only [Bool.false_eq_true, if_false]
      exact for_map enc f k (l := l) (ρ := List.set ρ i (some (enc x))) fun y hy => by
        rw [List.set_set]
        exact h y (List.mem_cons_of_mem _ hy)
theorem lc_map {α : Type} {i : Nat} {t : Tv} {e : Ev} {ρ : Env} {A : HostSt} (enc : α → D) (f : α → Bool) (k : α → D) : ∀ {l : List α} {acc : List D}, (∀ x ∈ l, t (List.set ρ i (some (enc x))) A = .ok (f x)) → (∀ x ∈ l, f x = true → e (List.set ρ i (some (enc x))) A = .ok (k x)) → acc.length + l.length ≤ 1000 →
    lcGo i t e ρ A (l.map enc) acc = .ok (acc ++ (l.filter f).map k)
  | [], acc, _, _, _ => by simp [lcGo]
  | x :: l, acc, h1, h2, hl => by
    rw [List.map_cons]
    unfold lcGo
    rw [h1 x (by simp)]
    simp only [List.length_cons] at hl
    cases q : f x with
    | true =>
      dsimp only
      rw [h2 x (by simp) q]
      dsimp only
      rw [if_pos (by omega), lc_map enc f k (fun y hy => h1 y (List.mem_cons_of_mem _ hy)) (fun y hy => h2 y (List.mem_cons_of_mem _ hy)) (by simp; omega)]
      rw [List.filter_cons_of_pos q]
      simp
    | false =>
      dsimp only
      rw [lc_map enc f k (fun y hy => h1 y (List.mem_cons_of_mem _ hy)) (fun y hy => h2 y (List.mem_cons_of_mem _ hy)) (by omega)]
      rw [List.filter_cons_of_neg (by simp [q])]
/-! ### states in order -/
structure RowOk (L : Nat) (r : Row) : Prop where
  area : AreaOk r.area
  path : PathOk r.path
  plen : r.path.length ≤ L
  kind : PyData.strOk r.kind = true
  text : PyData.strOk r.text = true
  tlen : r.text.length ≤ 40000
structure StOk (L : Nat) (A : HostSt) : Prop where
  lim : L ≤ 900
  rule : MenuR A.rule
  rows : ∀ r ∈ A.rows, RowOk L r
  nd : (A.rows.map (·.thing)).Nodup
  lt : ∀ r ∈ A.rows, r.thing < A.next
  nr : A.rows.length ≤ 900
  no : A.opened.length ≤ 900
  nh : A.had.length ≤ 900
theorem find_thing : ∀ {rs : List Row} {r : Row}, (rs.map (·.thing)).Nodup → r ∈ rs → (rs.find? fun z => decide (z.thing = r.thing)) = some r
  | z :: rs, r, h, hr => by
    rw [List.map_cons, List.nodup_cons] at h
    rw [List.find?_cons]
    rcases List.mem_cons.mp hr with e | e
    · subst e
      simp
    · have : z.thing ≠ r.thing := fun q => h.1 (by rw [q]; exact List.mem_map_of_mem e)
      simp only [this, decide_false]
      exact find_thing h.2 e
theorem StOk.row {L : Nat} {A : HostSt} (h : StOk L A) {r : Row} (hr : r ∈ A.rows) : A.row r.thing = some r := find_thing h.nd hr
theorem row_mem {A : HostSt} {t : Int} {r : Row} (h : A.row t = some r) : r ∈ A.rows ∧ r.thing = t := ⟨List.mem_of_find?_eq_some h, by simpa using List.find?_some h⟩
@[simp] theorem fdN_eq {sel : Row → D} {A : HostSt} {t : Int} {r : Row} (h : A.row t = some r) : fdN sel (.node t) A = .ok (sel r) := by
  unfold fdN
  simp only [h]
@[simp] theorem fdCuts_node {A : HostSt} {t : Int} {r : Row} (h : A.row t = some r) : fdCuts (.node t) A = .ok (.int r.cuts) := by
  unfold fdCuts
  simp only [h]
@[simp] theorem fdCuts_rule {A : HostSt} {r : RuleD} : fdCuts (.rule r) A = .ok (.bl r.cuts) := (rfl)
theorem tup_nil : D.tup [] = pathD [] := rfl
@[simp] theorem eqD_nil {p : List Str} {A : HostSt} (hp : PathOk p) : eqD (pathD p) (.tup []) A = .ok (.bl (decide (p = []))) := eqD_path (q := []) hp pathOk_nil
@[simp] theorem neD_nil {p : List Str} {A : HostSt} (hp : PathOk p) : neD (pathD p) (.tup []) A = .ok (.bl (!decide (p = []))) := neD_path (q := []) hp pathOk_nil
theorem addD_path {p q : List Str} {A : HostSt} (h : p.length + q.length ≤ 1000) : addD (pathD p) (pathD q) A = .ok (pathD (p ++ q)) := by
  unfold addD pathD
  simp only [List.length_map]
  rw [if_pos h, List.map_append]
theorem ok_folder : PyData.strOk "folder" = true := by decide +kernel
theorem ok_file : PyData.strOk "file" = true := by decide +kernel
/-! ### typed reads -/
def nodeAt (al : List Str) (rows : List Row) (a : Area) (p : List Str) : Option Row := rows.find? fun r => decide (r.area = a) && sameP al r.path p
def nodeD : Option Row → D
  | some r => .node r.thing
  | none => .non
@[simp] theorem nodeD_some {r : Row} : nodeD (some r) = .node r.thing := rfl
@[simp] theorem nodeD_none : nodeD none = .non := rfl
theorem D_node_at {L : Nat} {A : HostSt} (h : StOk L A) {a : Area} (ha : AreaOk a) {p : List Str} (hp : PathOk p) : D_Host_node_at [.host, areaD a, pathD p] A = .ok (nodeD (nodeAt A.rule.alike A.rows a p)) := by
  unfold D_Host_node_at b_Host_node_at
  simp
  rw [for_map (fun r : Row => D.node r.thing) (fun r => decide (r.area = a) && sameP A.rule.alike r.path p) (fun r => D.node r.thing) (fun r hr => ?_)]
  · unfold nodeAt
    cases A.rows.find? (fun r => decide (r.area = a) && sameP A.rule.alike r.path p) <;> simp
  · have o := h.rows r hr
    simp [h.row hr, eqD_area o.area ha, D_same_path_eq h.rule o.path hp (by have := o.plen; have := h.lim; omega)]
    by_cases q : r.area = a <;> simp [q]
    cases sameP A.rule.alike r.path p <;> simp
theorem D_node_of {L : Nat} {A : HostSt} (h : StOk L A) (t : Int) : D_Host_node_of [.host, .int t] A = .ok (nodeD (A.row t)) := by
  unfold D_Host_node_of b_Host_node_of
  simp
  rw [for_map (fun r : Row => D.node r.thing) (fun r => decide (r.thing = t)) (fun r => D.node r.thing) (fun r hr => ?_)]
  · unfold HostSt.row
    cases A.rows.find? (fun r => decide (r.thing = t)) <;> simp
  · simp [h.row hr]
    by_cases q : r.thing = t <;> simp [q]
structure Spot where
  base : Area
  path : List Str
def encSpot (s : Spot) : D := .tup [areaD s.base, pathD s.path]
/-- the law's areas -/
def KA (a : Area) : Prop := a = .s "folder" ∨ a = .s "outside" ∨ ∃ i, a = .i i
structure SpotOk (s : Spot) : Prop where
  ka : KA s.base
  base : AreaOk s.base
  path : PathOk s.path
  len : s.path.length ≤ 90
def spotPlace (A : HostSt) (s : Spot) : Option (Area × List Str) :=
  if s.path = [] then none else match s.base with
  | .s x => some (.s x, s.path)
  | .i t => match A.row t with
    | some r => if t ∈ A.opened ∧ r.kind = "folder" then some (r.area, r.path ++ s.path) else none
    | none => none
def placeD : Option (Area × List Str) → Res D
  | some (a, p) => .ok (.tup [areaD a, pathD p])
  | none => .exc
theorem any_ints (t : Int) : ∀ l : List Int, ((l.map PyData.int).any fun z => PyData.eqv z (.int t)) = decide (t ∈ l)
  | [] => by simp
  | x :: l => by
    rw [List.map_cons, List.any_cons, any_ints t l]
    simp only [PyData.eqv, List.mem_cons]
    by_cases h1 : t = x
    · subst h1; simp
    · have : (x == t) = false := by simpa using fun e => h1 e.symm
      simp [this, h1]
theorem sh_opened {A : HostSt} : SeqAt.shaped (.list (A.opened.map PyData.int)) = true := by
  unfold SeqAt.shaped
  simp only [PyData.canLay0, PyData.depth]
  rw [canAll_map fun _ _ => by simp [PyData.canLay0]]
  have := depthAll_map (g := PyData.int) (n := 0) (l := A.opened) fun _ _ => by simp [PyData.depth]
  simp; omega
theorem inLD_op {A : HostSt} (t : Int) : inLD (.int t) .opened A = .ok (.bl (decide (t ∈ A.opened))) := by
  unfold inLD
  simp only [toPy]
  rw [if_pos ⟨(sh_int (A := A)).shaped, sh_opened⟩, any_ints]
theorem ninLD_op {A : HostSt} (t : Int) : ninLD (.int t) .opened A = .ok (.bl (!decide (t ∈ A.opened))) := by
  unfold ninLD
  simp only [toPy]
  rw [if_pos ⟨(sh_int (A := A)).shaped, sh_opened⟩, any_ints]
theorem neD_kind {L : Nat} {A : HostSt} {r : Row} (h : RowOk L r) {k : Str} (hk : PyData.strOk k = true) : neD (.str r.kind) (.str k) A = .ok (.bl (!decide (r.kind = k))) := by
  rw [neD_str h.kind hk]
  rfl
theorem eqD_kind {L : Nat} {A : HostSt} {r : Row} (h : RowOk L r) {k : Str} (hk : PyData.strOk k = true) : eqD (.str r.kind) (.str k) A = .ok (.bl (decide (r.kind = k))) := by
  rw [eqD_str h.kind hk]
  rfl
theorem D_spot_place_eq {L : Nat} {A : HostSt} (h : StOk L A) {s : Spot} (hs : SpotOk s) : D_spot_place [.host, encSpot s] A = placeD (spotPlace A s) := by
  unfold D_spot_place b_spot_place spotPlace encSpot
  by_cases h0 : s.path = []
  · simp [eqD_nil hs.path, h0, placeD]
  · cases hb : s.base with
    | s x => simp [eqD_nil hs.path, h0, placeD, areaD, isStrD]
    | i t =>
      simp [eqD_nil hs.path, h0, placeD, areaD, isStrD, D_node_of h, ninLD_op]
      by_cases ho : t ∈ A.opened
      · simp [ho]
        cases hr : A.row t with
        | none => simp
        | some r =>
          obtain ⟨hm, et⟩ := row_mem hr
          have o := h.rows r hm
          have er : A.row r.thing = some r := h.row hm
          simp [er, neD_kind o ok_folder]
          by_cases hk : r.kind = "folder"
          · have l1 := o.plen
            have l0 := h.lim
            have l2 := hs.len
            simp [hk, er, addD_path (p := r.path) (q := s.path) (by omega)]
          · simp [hk]
      · simp [ho]
        cases hr : A.row t <;> simp
end FK
set_option Elab.async false
set_option linter.all false
set_option maxRecDepth 100000
set_option maxHeartbeats 1000000
/-! The plain law: the host's reads, on. -/
namespace FK
open PySem L2
theorem path_last {q : List Str} {x : Str} {A : HostSt} : ixD (pathD (q ++ [x])) (.int (-1)) A = .ok (.str x) := by
  unfold ixD pathD
  dsimp only
  rw [List.map_append, List.map_singleton, atI_last]
theorem cut_to {α : Type} {xs : List α} {j : Nat} : cutL xs none (some (j : Int)) = xs.take j := by
  unfold cutL
  rw [HT.sIx_none, HT.sIx_nat, List.drop_zero, Nat.sub_zero]
  rcases Nat.le_total j xs.length with h | h
  · rw [Nat.min_eq_left h]
  · rw [Nat.min_eq_right h, List.take_of_length_le (Nat.le_refl _), List.take_of_length_le h]
theorem cut_from {α : Type} {xs : List α} {j : Nat} : cutL xs (some (j : Int)) none = xs.drop j := by
  unfold cutL
  rw [HT.sIx_none, HT.sIx_nat]
  rcases Nat.le_total j xs.length with h | h
  · rw [Nat.min_eq_left h, List.take_of_length_le (by simp)]
  · rw [Nat.min_eq_right h, List.drop_of_length_le (Nat.le_refl _), List.drop_of_length_le h]
    simp
theorem cut_init {α : Type} {xs : List α} : cutL xs none (some (-1)) = xs.dropLast := by
  unfold cutL
  rw [HT.sIx_none, List.drop_zero, Nat.sub_zero, List.dropLast_eq_take]
  congr 1
  unfold HT.sIx
  simp
  omega
theorem slD_init {p : List Str} : slD none (some (-1)) (pathD p) = .ok (pathD p.dropLast) := by
  unfold slD pathD
  dsimp only
  rw [cut_init, List.map_dropLast]
theorem slD_to {p : List Str} {j : Nat} : slD none (some (j : Int)) (pathD p) = .ok (pathD (p.take j)) := by
  unfold slD pathD
  dsimp only
  rw [cut_to, List.map_take]
theorem slD_from {p : List Str} {j : Nat} : slD (some (j : Int)) none (pathD p) = .ok (pathD (p.drop j)) := by
  unfold slD pathD
  dsimp only
  rw [cut_from, List.map_drop]
theorem PathOk.init {p : List Str} (h : PathOk p) : PathOk p.dropLast := fun x hx => h x (List.dropLast_subset p hx)
/-! ### typed reads -/
def thingAt (A : HostSt) (s : Spot) : Option Row := (spotPlace A s).bind fun (a, p) => nodeAt A.rule.alike A.rows a p
structure PlaceOk (q : Area × List Str) : Prop where
  area : AreaOk q.1
  path : PathOk q.2
  len : q.2.length ≤ 990
theorem spotPlace_ok {L : Nat} {A : HostSt} (h : StOk L A) {s : Spot} (hs : SpotOk s) {q : Area × List Str} (e : spotPlace A s = some q) : PlaceOk q ∧ q.2 ≠ [] := by
  unfold spotPlace at e
  split at e
  · cases e
  · rename_i h0
    split at e
    · rename_i x hb
      cases e
      have := hs.base
      rw [hb] at this
      exact ⟨⟨this, hs.path, by have := hs.len; show s.path.length ≤ 990; omega⟩, h0⟩
    · rename_i t hb
      split at e
      · rename_i r hr
        split at e
        · cases e
          have o := h.rows r (row_mem hr).1
          exact ⟨⟨o.area, o.path.append hs.path, by have := hs.len; have := o.plen; have := h.lim; show (r.path ++ s.path).length ≤ 990; rw [List.length_append]; omega⟩, by
            show r.path ++ s.path ≠ []
            intro z
            exact h0 (List.append_eq_nil_iff.mp z).2⟩
        · cases e
      · cases e
theorem nodeAt_mem {al : List Str} {rows : List Row} {a : Area} {p : List Str} {r : Row} (h : nodeAt al rows a p = some r) : r ∈ rows ∧ r.area = a ∧ sameP al r.path p = true := by
  refine ⟨List.mem_of_find?_eq_some h, ?_⟩
  have := List.find?_some h
  simpa using this
def excN (o : Option Row) : Res D := match o with
  | some r => .ok (.node r.thing)
  | none => .exc
theorem D_thing_at_eq {L : Nat} {A : HostSt} (h : StOk L A) {s : Spot} (hs : SpotOk s) : D_thing_at [.host, encSpot s] A = excN (thingAt A s) := by
  unfold D_thing_at b_thing_at thingAt
  simp [D_spot_place_eq h hs]
  cases q : spotPlace A s with
  | none => simp [placeD, excN]
  | some z =>
    obtain ⟨a, p⟩ := z
    obtain ⟨o, _⟩ := spotPlace_ok h hs q
    simp [placeD, D_node_at h o.area o.path]
    cases nodeAt A.rule.alike A.rows a p <;> simp [excN]
def isI : Area → Bool
  | .s _ => false
  | .i _ => true
def folderPath (A : HostSt) (a : Area) (p : List Str) : Option (List Str) :=
  if p = [] ∧ isI a = false then some [] else match nodeAt A.rule.alike A.rows a p with
    | some r => if r.kind = "folder" then some r.path else none
    | none => none
def optP : Option (List Str) → D
  | some p => pathD p
  | none => .non
@[simp] theorem isIntD_isI {a : Area} {A : HostSt} : isIntD (areaD a) A = .ok (.bl (isI a)) := by cases a <;> rfl
theorem D_folder_path {L : Nat} {A : HostSt} (h : StOk L A) {a : Area} (ha : AreaOk a) {p : List Str} (hp : PathOk p) : D_Host_folder_path [.host, areaD a, pathD p] A = .ok (optP (folderPath A a p)) := by
  unfold D_Host_folder_path b_Host_folder_path folderPath
  simp [eqD_nil hp, D_node_at h ha hp, -isIntD_area]
  by_cases h0 : p = [] ∧ isI a = false
  · simp [h0.1, h0.2, optP, tup_nil]
  · rw [if_neg h0]
    have e : (decide (p = []) && !isI a) = false := by
      by_cases h1 : p = [] <;> cases h2 : isI a <;> simp [h1]
      exact h0 ⟨h1, h2⟩
    simp [e, D_node_at h ha hp]
    cases q : nodeAt A.rule.alike A.rows a p with
    | none => simp [optP]
    | some r =>
      have hm := (nodeAt_mem q).1
      simp [h.row hm, neD_kind (h.rows r hm) ok_folder]
      by_cases hk : r.kind = "folder" <;> simp [hk, optP, h.row hm]
def freePath (A : HostSt) (a : Area) (p : List Str) : Option (List Str) := match p.getLast? with
  | none => none
  | some x => if (nodeAt A.rule.alike A.rows a p).isSome = true ∨ fitsN A.rule x = false then none else (folderPath A a p.dropLast).map fun q => q ++ [x]
theorem folderPath_ok {L : Nat} {A : HostSt} (h : StOk L A) {a : Area} {p q : List Str} (e : folderPath A a p = some q) : PathOk q ∧ q.length ≤ L := by
  unfold folderPath at e
  split at e
  · cases e
    exact ⟨pathOk_nil, by simp⟩
  · split at e
    · rename_i r hr
      split at e
      · cases e
        have o := h.rows r (nodeAt_mem hr).1
        exact ⟨o.path, o.plen⟩
      · cases e
    · cases e
theorem D_free_path {L : Nat} {A : HostSt} (h : StOk L A) {a : Area} (ha : AreaOk a) {p : List Str} (hp : PathOk p) : D_Host_free_path [.host, areaD a, pathD p] A = .ok (optP (freePath A a p)) := by
  unfold D_Host_free_path b_Host_free_path freePath
  rcases List.eq_nil_or_concat p with e | ⟨q, x, e⟩
  · subst e
    simp [optP]
  · rw [List.concat_eq_append] at e
    subst e
    have hq : PathOk q := fun y hy => hp y (by simp [hy])
    have hx : x ∈ menu := hp x (by simp)
    simp [eqD_nil hp, D_node_at h ha hp, path_last, D_fits_eq h.rule hx, slD_init, D_folder_path h ha hq]
    cases h1 : nodeAt A.rule.alike A.rows a (q ++ [x]) with
    | some r => simp [optP]
    | none =>
      cases h2 : fitsN A.rule x with
      | false => simp [optP]
      | true =>
        have e5 : D_Host_folder_path [.host, areaD a, pathD q] A = .ok (optP (folderPath A a q)) := D_folder_path h ha hq
        simp [slD_init, path_last, e5]
        cases h3 : folderPath A a q with
        | none => simp [optP]
        | some z =>
          have o := folderPath_ok h h3
          have l0 := h.lim
          have e4 : D.tup [.str x] = pathD [x] := rfl
          simp [optP, path_last, e4, addD_path (p := z) (q := [x]) (by simp; omega)]
def roomAt (A : HostSt) (s : Spot) : Option (Area × List Str) := (spotPlace A s).bind fun (a, p) => (freePath A a p).map fun q => (a, q)
theorem D_room_at_eq {L : Nat} {A : HostSt} (h : StOk L A) {s : Spot} (hs : SpotOk s) : D_room_at [.host, encSpot s] A = placeD (roomAt A s) := by
  unfold D_room_at b_room_at roomAt
  simp [D_spot_place_eq h hs]
  cases q : spotPlace A s with
  | none => simp [placeD]
  | some z =>
    obtain ⟨a, p⟩ := z
    obtain ⟨o, _⟩ := spotPlace_ok h hs q
    simp [placeD, D_free_path h o.area o.path]
    cases freePath A a p <;> simp [placeD, optP]
inductive Tgt where
  | thing (t : Int) | spot (s : Spot)
def encTgt : Tgt → D
  | .thing t => .int t
  | .spot s => encSpot s
def TgtOk : Tgt → Prop
  | .thing _ => True
  | .spot s => SpotOk s
def fileNamed (A : HostSt) (t : Tgt) : Option Row := (match t with
  | .thing t => if t ∈ A.opened then A.row t else none
  | .spot s => thingAt A s).filter fun r => decide (r.kind = "file")
theorem thingAt_mem {A : HostSt} {s : Spot} {r : Row} (e : thingAt A s = some r) : r ∈ A.rows := by
  unfold thingAt at e
  rw [Option.bind_eq_some_iff] at e
  obtain ⟨⟨a, p⟩, _, e⟩ := e
  exact (nodeAt_mem e).1
theorem D_file_named_eq {L : Nat} {A : HostSt} (h : StOk L A) {t : Tgt} (ht : TgtOk t) : D_file_named [.host, encTgt t] A = excN (fileNamed A t) := by
  unfold D_file_named b_file_named fileNamed
  cases t with
  | thing t =>
    simp [encTgt, isIntD, D_node_of h, ninLD_op]
    by_cases ho : t ∈ A.opened
    · simp [ho]
      cases hr : A.row t with
      | none => simp [excN]
      | some r =>
        have hm := (row_mem hr).1
        simp [h.row hm, neD_kind (h.rows r hm) ok_file]
        by_cases hk : r.kind = "file" <;> simp [hk, excN, Option.filter]
    · simp [ho, excN]
  | spot s =>
    have e0 : isIntD (encSpot s) A = .ok (.bl false) := rfl
    simp [encTgt, e0, D_thing_at_eq h ht]
    cases hr : thingAt A s with
    | none => simp [excN]
    | some r =>
      have hm := thingAt_mem hr
      simp [excN, h.row hm, neD_kind (h.rows r hm) ok_file]
      by_cases hk : r.kind = "file" <;> simp [hk, excN, Option.filter]
end FK
set_option Elab.async false
set_option linter.all false
set_option maxRecDepth 100000
set_option maxHeartbeats 1000000
/-! The plain law: what changes the host, from the outside. -/
namespace FK
open PySem L2
section lazyE
def bE (o : OutE) (k : Env → HostSt → OutE) : OutE := match o with
  | .next ρ A => k ρ A
  | o => o
@[simp] theorem bE_next {ρ : Env} {A : HostSt} {k : Env → HostSt → OutE} : bE (.next ρ A) k = k ρ A := (rfl)
@[simp] theorem bE_ret {d : D} {A : HostSt} {k : Env → HostSt → OutE} : bE (.ret d A) k = .ret d A := (rfl)
@[simp] theorem bE_exc {A : HostSt} {k : Env → HostSt → OutE} : bE (.exc A) k = .exc A := (rfl)
def bEz (o : OutE) (k : Env → HostSt → OutE) (w : Wit k := {}) : OutE := bE o k
@[simp] theorem bEz_next {ρ : Env} {A : HostSt} {k : Env → HostSt → OutE} : bEz (.next ρ A) k = k ρ A := (rfl)
@[simp] theorem bEz_ret {d : D} {A : HostSt} {k : Env → HostSt → OutE} : bEz (.ret d A) k = .ret d A := (rfl)
@[simp] theorem bEz_exc {A : HostSt} {k : Env → HostSt → OutE} : bEz (.exc A) k = .exc A := (rfl)
@[simp low] theorem bEz_wake {o : OutE} {k : Env → HostSt → OutE} : bEz o k = bE o k := (rfl)
@[simp] theorem eSeq_eq {a b : Se} {ρ : Env} {A : HostSt} : eSeq a b ρ A = bEz (a ρ A) fun ρ' A' => b ρ' A' := by
  unfold eSeq bEz bE
  cases a ρ A <;> rfl
@[simp] theorem eNil_eq {ρ : Env} {A : HostSt} : eNil ρ A = .next ρ A := (rfl)
def liftO (o : Out) (A : HostSt) : OutE := match o with
  | .next ρ => .next ρ A
  | .ret d => .ret d A
  | .exc => .exc A
  | .bad => .bad
@[simp] theorem liftO_next {ρ : Env} {A : HostSt} : liftO (.next ρ) A = .next ρ A := (rfl)
@[simp] theorem liftO_ret {d : D} {A : HostSt} : liftO (.ret d) A = .ret d A := (rfl)
@[simp] theorem liftO_exc {A : HostSt} : liftO .exc A = .exc A := (rfl)
@[simp] theorem lift_eq {s : Sv} {ρ : Env} {A : HostSt} : lift s ρ A = liftO (s ρ A) A := by
  unfold lift liftO
  cases s ρ A <;> rfl
def cE {α : Type} (A : HostSt) (r : Res α) (k : α → OutE) : OutE := match r with
  | .ok d => k d
  | .exc => .exc A
  | .bad => .bad
@[simp] theorem cE_ok {α : Type} {A : HostSt} {d : α} {k : α → OutE} : cE A (.ok d) k = k d := (rfl)
@[simp] theorem cE_exc {α : Type} {A : HostSt} {k : α → OutE} : cE A .exc k = .exc A := (rfl)
def cEz {α : Type} (A : HostSt) (r : Res α) (k : α → OutE) (w : Wit k := {}) : OutE := cE A r k
@[simp] theorem cEz_ok {α : Type} {A : HostSt} {d : α} {k : α → OutE} : cEz A (.ok d) k = k d := (rfl)
@[simp] theorem cEz_exc {α : Type} {A : HostSt} {k : α → OutE} : cEz A .exc k = .exc A := (rfl)
@[simp low] theorem cEz_wake {α : Type} {A : HostSt} {r : Res α} {k : α → OutE} : cEz A r k = cE A r k := (rfl)
@[simp] theorem eIf_eq {t : Tv} {a b : Se} {ρ : Env} {A : HostSt} : eIf t a b ρ A = cEz A (t ρ A) fun c => iteZ c (fun _ => a ρ A) fun _ => b ρ A := by
  unfold eIf cEz cE iteZ iteL
  cases t ρ A <;> rfl
def dE (r : ResE) (k : D → HostSt → OutE) : OutE := match r with
  | .ok d A => k d A
  | .exc A => .exc A
  | .bad => .bad
@[simp] theorem dE_ok {d : D} {A : HostSt} {k : D → HostSt → OutE} : dE (.ok d A) k = k d A := (rfl)
@[simp] theorem dE_exc {A : HostSt} {k : D → HostSt → OutE} : dE (.exc A) k = .exc A := (rfl)
def dEz (r : ResE) (k : D → HostSt → OutE) (w : Wit k := {}) : OutE := dE r k
@[simp] theorem dEz_ok {d : D} {A : HostSt} {k : D → HostSt → OutE} : dEz (.ok d A) k = k d A := (rfl)
@[simp] theorem dEz_exc {A : HostSt} {k : D → HostSt → OutE} : dEz (.exc A) k = .exc A := (rfl)
@[simp low] theorem dEz_wake {r : ResE} {k : D → HostSt → OutE} : dEz r k = dE r k := (rfl)
@[simp] theorem eDrop_eq {e : Ee} {ρ : Env} {A : HostSt} : eDrop e ρ A = dEz (e ρ A) fun _ A' => .next ρ A' := by
  unfold eDrop dEz dE
  cases e ρ A <;> rfl
@[simp] theorem eRet_eq {e : Ee} {ρ : Env} {A : HostSt} : eRet e ρ A = dEz (e ρ A) fun d A' => .ret d A' := by
  unfold eRet dEz dE
  cases e ρ A <;> rfl
@[simp] theorem eSet_eq {i : Nat} {e : Ee} {ρ : Env} {A : HostSt} : eSet i e ρ A = dEz (e ρ A) fun d A' => .next (List.set ρ i (some d)) A' := by
  unfold eSet dEz dE
  cases e ρ A <;> rfl
def rE {α : Type} (A : HostSt) (r : Res α) (k : α → ResE) : ResE := match r with
  | .ok d => k d
  | .exc => .exc A
  | .bad => .bad
@[simp] theorem rE_ok {α : Type} {A : HostSt} {d : α} {k : α → ResE} : rE A (.ok d) k = k d := (rfl)
@[simp] theorem rE_exc {α : Type} {A : HostSt} {k : α → ResE} : rE A .exc k = .exc A := (rfl)
def rEz {α : Type} (A : HostSt) (r : Res α) (k : α → ResE) (w : Wit k := {}) : ResE := rE A r k
@[simp] theorem rEz_ok {α : Type} {A : HostSt} {d : α} {k : α → ResE} : rEz A (.ok d) k = k d := (rfl)
@[simp] theorem rEz_exc {α : Type} {A : HostSt} {k : α → ResE} : rEz A .exc k = .exc A := (rfl)
@[simp low] theorem rEz_wake {α : Type} {A : HostSt} {r : Res α} {k : α → ResE} : rEz A r k = rE A r k := (rfl)
@[simp] theorem eCall_eq {n : Nat} {f : List D → HostSt → ResE} {es : Evs} {ρ : Env} {A : HostSt} : eCall n f es ρ A = rEz A (es ρ A) fun ds => if ds.length = n then f ds A else .bad := by
  unfold eCall rEz rE
  cases es ρ A <;> rfl
def hE (d : D) (r : Unit → ResE) : ResE := match d with
  | .host => r ()
  | _ => .bad
@[simp] theorem hE_host {r : Unit → ResE} : hE .host r = r () := (rfl)
@[simp] theorem eMeth_eq {n : Nat} {f : List D → HostSt → ResE} {o : Ev} {es : Evs} {ρ : Env} {A : HostSt} : eMeth n f o es ρ A = rEz A (o ρ A) fun x => hE x fun _ => rEz A (es ρ A) fun ds => if ds.length + 1 = n then f (.host :: ds) A else .bad := by
  unfold eMeth rEz rE hE
  cases o ρ A with
  | ok d => cases d <;> (try rfl) <;> (dsimp only; cases es ρ A <;> rfl)
  | exc => rfl
  | bad => rfl
def stN (put : D → Option (Row → Row)) (d y : D) (ρ : Env) (A : HostSt) : OutE := match y with
  | .node t => (match put d with
    | some f => (match A.row t with
      | some _ => .next ρ (A.upd t f)
      | none => .bad)
    | none => .bad)
  | _ => .bad
@[simp] theorem eStN_eq {put : D → Option (Row → Row)} {e o : Ev} {ρ : Env} {A : HostSt} : eStN put e o ρ A = cEz A (e ρ A) fun d => cEz A (o ρ A) fun y => stN put d y ρ A := by
  unfold eStN cEz cE stN
  cases e ρ A with
  | ok d =>
    dsimp only
    cases o ρ A with
    | ok y => cases y <;> rfl
    | exc => rfl
    | bad => rfl
  | exc => rfl
  | bad => rfl
@[simp] theorem eTurned_eq {e o : Ev} {ρ : Env} {A : HostSt} {z : Int} (h1 : e ρ A = .ok (.int z)) (h2 : o ρ A = .ok .host) : eStH putTurned e o ρ A = .next ρ { A with turned := z } := by
  unfold eStH
  rw [h1, h2]
  rfl
@[simp] theorem eFor_eq {i : Nat} {it : Iv} {b : Se} {ρ : Env} {A : HostSt} : eFor i it b ρ A = cEz A (it ρ A) fun ds => forE i b ds ρ A := by
  unfold eFor cEz cE
  cases it ρ A <;> rfl
def endE (o : OutE) : ResE := match o with
  | .next _ A => .ok .non A
  | .ret d A => .ok d A
  | .exc A => .exc A
  | .bad => .bad
@[simp] theorem endE_next {ρ : Env} {A : HostSt} : endE (.next ρ A) = .ok .non A := (rfl)
@[simp] theorem endE_ret {d : D} {A : HostSt} : endE (.ret d A) = .ok d A := (rfl)
@[simp] theorem endE_exc {A : HostSt} : endE (.exc A) = .exc A := (rfl)
@[simp] theorem runE_eq {sv : Se} {N n : Nat} {ds : List D} {A : HostSt} : runE sv N n ds A = endE (sv (ds.map some ++ List.replicate (N - n) none) A) := by
  unfold runE endE
  rfl
@[simp] theorem noexcE_ok {d : D} {A : HostSt} : noexcE (.ok d A) = .ok d A := (rfl)
end lazyE
/-! ### a row is written -/
def HostSt.setRow (A : HostSt) (r' : Row) : HostSt := { A with rows := A.rows.map fun q => if q.thing = r'.thing then r' else q }
def Nd (A : HostSt) : Prop := (A.rows.map (·.thing)).Nodup
theorem row_unique {rs : List Row} {q r : Row} (nd : (rs.map (·.thing)).Nodup) (hq : q ∈ rs) (hr : r ∈ rs) (e : q.thing = r.thing) : q = r := by
  have h1 := find_thing nd hq
  have h2 := find_thing nd hr
  rw [e, h2] at h1
  exact (Option.some.inj h1).symm
theorem upd_set {A : HostSt} {t : Int} {r : Row} {f : Row → Row} (nd : Nd A) (h : A.row t = some r) (e : (f r).thing = r.thing) : A.upd t f = A.setRow (f r) := by
  obtain ⟨hm, et⟩ := row_mem h
  unfold HostSt.upd HostSt.setRow
  congr 1
  apply List.map_congr_left
  intro q hq
  rw [e, et]
  by_cases hh : q.thing = t
  · rw [if_pos hh, if_pos hh, row_unique nd hq hm (by rw [hh, et])]
  · rw [if_neg hh, if_neg hh]
theorem set_things {A : HostSt} {r' : Row} : (A.setRow r').rows.map (·.thing) = A.rows.map (·.thing) := by
  unfold HostSt.setRow
  dsimp only
  rw [List.map_map]
  apply List.map_congr_left
  intro q _
  simp only [Function.comp]
  by_cases hh : q.thing = r'.thing
  · rw [if_pos hh, hh]
  · rw [if_neg hh]
theorem set_nd {A : HostSt} {r' : Row} (nd : Nd A) : Nd (A.setRow r') := by
  unfold Nd
  rw [set_things]
  exact nd
theorem set_mem {A : HostSt} {r r' : Row} (hr : r ∈ A.rows) (e : r'.thing = r.thing) : r' ∈ (A.setRow r').rows := by
  unfold HostSt.setRow
  exact List.mem_map.mpr ⟨r, hr, if_pos e.symm⟩
theorem set_row {A : HostSt} {t : Int} {r r' : Row} (nd : Nd A) (h : A.row t = some r) (e : r'.thing = r.thing) : (A.setRow r').row t = some r' := by
  obtain ⟨hm, et⟩ := row_mem h
  rw [← et, ← e]
  exact find_thing (set_nd nd) (set_mem hm e)
theorem set_set {A : HostSt} {r1 r2 : Row} (e : r1.thing = r2.thing) : (A.setRow r1).setRow r2 = A.setRow r2 := by
  unfold HostSt.setRow
  dsimp only
  congr 1
  rw [List.map_map]
  apply List.map_congr_left
  intro q _
  simp only [Function.comp]
  by_cases hh : q.thing = r2.thing
  · simp [hh, e]
  · simp [hh, e]
theorem stN_set {put : D → Option (Row → Row)} {d : D} {t : Int} {ρ : Env} {A : HostSt} {f : Row → Row} {r : Row} (nd : Nd A) (h2 : A.row t = some r) (h1 : put d = some f) (e : (f r).thing = r.thing) : stN put d (.node t) ρ A = .next ρ (A.setRow (f r)) := by
  unfold stN
  simp only [h1, h2]
  rw [upd_set nd h2 e]
section puts
variable {A : HostSt} {t : Int} {ρ : Env} {r : Row}
theorem st_text (nd : Nd A) (h : A.row t = some r) {x : Str} : stN putText (.str x) (.node t) ρ A = .next ρ (A.setRow { r with text := x }) := stN_set nd h (f := fun r => { r with text := x }) rfl rfl
theorem st_runs (nd : Nd A) (h : A.row t = some r) {x : Bool} : stN putRuns (.bl x) (.node t) ρ A = .next ρ (A.setRow { r with runs := x }) := stN_set nd h (f := fun r => { r with runs := x }) rfl rfl
theorem st_count (nd : Nd A) (h : A.row t = some r) {x : Int} : stN putCount (.int x) (.node t) ρ A = .next ρ (A.setRow { r with count := x }) := stN_set nd h (f := fun r => { r with count := x }) rfl rfl
theorem st_cuts (nd : Nd A) (h : A.row t = some r) {x : Int} : stN putCuts (.int x) (.node t) ρ A = .next ρ (A.setRow { r with cuts := x }) := stN_set nd h (f := fun r => { r with cuts := x }) rfl rfl
theorem st_staged (nd : Nd A) (h : A.row t = some r) {x : Bool} : stN putStaged (.bl x) (.node t) ρ A = .next ρ (A.setRow { r with staged := x }) := stN_set nd h (f := fun r => { r with staged := x }) rfl rfl
theorem st_area (nd : Nd A) (h : A.row t = some r) {a : Area} : stN putArea (areaD a) (.node t) ρ A = .next ρ (A.setRow { r with area := a }) := by
  cases a with
  | s x => exact stN_set nd h (f := fun r => { r with area := .s x }) rfl rfl
  | i x => exact stN_set nd h (f := fun r => { r with area := .i x }) rfl rfl
theorem strsOf_map : ∀ p : List Str, strsOf (p.map D.str) = some p
  | [] => rfl
  | x :: p => by simp only [List.map_cons, strsOf, strsOf_map p, Option.map_some]
theorem st_path (nd : Nd A) (h : A.row t = some r) {p : List Str} : stN putPath (pathD p) (.node t) ρ A = .next ρ (A.setRow { r with path := p }) := stN_set nd h (f := fun r => { r with path := p }) (by simp only [putPath, pathD, strsOf_map, Option.map_some]) rfl
end puts
/-! ### the defs that write -/
def wr (r : Row) (x : Str) (b : Bool) : Row := { r with text := x, runs := b, count := r.count + 1 }
theorem D_written_eq {A : HostSt} (nd : Nd A) {t : Int} {r : Row} (h : A.row t = some r) {x : Str} {b : Bool} : D_written [.node t, .str x, .bl b] A = .ok .non (A.setRow (wr r x b)) := by
  unfold D_written b_written
  have nd1 := set_nd (r' := { r with text := x }) nd
  have h1 : (A.setRow { r with text := x }).row t = some { r with text := x } := set_row nd h rfl
  have e1 : (A.setRow { r with text := x }).setRow { r with text := x, runs := b } = A.setRow { r with text := x, runs := b } := set_set rfl
  have nd2 := set_nd (r' := { r with text := x, runs := b }) nd
  have h2 : (A.setRow { r with text := x, runs := b }).row t = some { r with text := x, runs := b } := set_row nd h rfl
  have e2 : (A.setRow { r with text := x, runs := b }).setRow { r with text := x, runs := b, count := r.count + 1 } = A.setRow (wr r x b) := set_set rfl
  simp [st_text nd h, st_runs nd1 h1, e1, fdN_eq h2, st_count nd2 h2, e2]
def mvRow (r : Row) (a : Area) (p : List Str) (n : Nat) : Row := { r with path := p ++ r.path.drop n, area := a, staged := false }
theorem D_moved_eq {A : HostSt} (nd : Nd A) {t : Int} {r : Row} (h : A.row t = some r) {o p : List Str} {a : Area} (hl : p.length + r.path.length ≤ 1000) : D_moved [.node t, pathD o, areaD a, pathD p] A = .ok .non (A.setRow (mvRow r a p o.length)) := by
  unfold D_moved b_moved
  have nd1 := set_nd (r' := { r with path := p ++ r.path.drop o.length }) nd
  have h1 : (A.setRow { r with path := p ++ r.path.drop o.length }).row t = some { r with path := p ++ r.path.drop o.length } := set_row nd h rfl
  have e1 : (A.setRow { r with path := p ++ r.path.drop o.length }).setRow { r with path := p ++ r.path.drop o.length, area := a } = A.setRow { r with path := p ++ r.path.drop o.length, area := a } := set_set rfl
  have nd2 := set_nd (r' := { r with path := p ++ r.path.drop o.length, area := a }) nd
  have h2 : (A.setRow { r with path := p ++ r.path.drop o.length, area := a }).row t = some { r with path := p ++ r.path.drop o.length, area := a } := set_row nd h rfl
  have e2 : (A.setRow { r with path := p ++ r.path.drop o.length, area := a }).setRow (mvRow r a p o.length) = A.setRow (mvRow r a p o.length) := set_set rfl
  have e3 : addD (pathD p) (pathD (r.path.drop o.length)) A = .ok (pathD (p ++ r.path.drop o.length)) := addD_path (by rw [List.length_drop]; omega)
  have e4 : (A.setRow { r with path := p ++ r.path.drop o.length, area := a }).setRow { r with path := p ++ r.path.drop o.length, area := a, staged := false } = A.setRow (mvRow r a p o.length) := e2
  simp [fdN_eq h, slD_from, e3, st_path nd h, st_area nd1 h1, e1, st_staged nd2 h2, e4]
end FK
set_option Elab.async false
set_option linter.all false
set_option maxRecDepth 100000
set_option maxHeartbeats 1000000
/-! The plain law: carry, take away, put new. -/
namespace FK
open PySem L2
def inW (r : Row) (a : Area) (p : List Str) : Bool := decide (r.area = a) && decide (r.path.take p.length = p)
theorem D_within_eq {L : Nat} {A : HostSt} {t : Int} {r : Row} (h : A.row t = some r) (o : RowOk L r) {a : Area} (ha : AreaOk a) {p : List Str} (hp : PathOk p) : D_within [.node t, areaD a, pathD p] A = .ok (.bl (inW r a p)) := by
  unfold D_within b_within inW
  simp [fdN_eq h, eqD_area o.area ha, slD_to, eqD_path (o.path.take _) hp]
def mv (r0 : Row) (a : Area) (p : List Str) (q : Row) : Row := if inW q r0.area r0.path = true then mvRow q a p r0.path.length else q
theorem mv_thing {r0 : Row} {a : Area} {p : List Str} {q : Row} : (mv r0 a p q).thing = q.thing := by
  unfold mv
  split <;> rfl
def carryT (A : HostSt) (r0 : Row) (a : Area) (p : List Str) : HostSt := { A with rows := A.rows.map (mv r0 a p), turned := A.turned + 1 }
theorem set_at {A : HostSt} {done rest : List Row} {r r' : Row} (nd : Nd A) (e : A.rows = done ++ r :: rest) (et : r'.thing = r.thing) : A.setRow r' = { A with rows := done ++ r' :: rest } := by
  unfold HostSt.setRow
  congr 1
  unfold Nd at nd
  rw [e] at nd ⊢
  rw [List.map_append, List.map_cons, List.nodup_append] at nd
  obtain ⟨n1, n2, n3⟩ := nd
  rw [List.nodup_cons] at n2
  rw [List.map_append, List.map_cons, if_pos et.symm]
  congr 1
  · refine (List.map_congr_left fun q hq => ?_).trans (List.map_id _)
    rw [if_neg]
    · rfl
    · intro z
      exact n3 q.thing (List.mem_map_of_mem hq) r.thing (by simp) (by rw [z, et])
  · congr 1
    refine (List.map_congr_left fun q hq => ?_).trans (List.map_id _)
    rw [if_neg]
    · rfl
    · intro z
      exact n2.1 (by rw [← et, ← z]; exact List.mem_map_of_mem hq)
noncomputable def carryB : Se := eIf (tOfV (vCall 3 D_within (vCons (vVar 6) (vCons (vVar 4) (vCons (vVar 5) vNil))))) (eDrop (eCall 4 D_moved (vCons (vVar 6) (vCons (vVar 5) (vCons (vVar 2) (vCons (vVar 3) vNil)))))) eNil
def carryEnv (t : Int) (a : Area) (p : List Str) (r0 : Row) (o : Option D) : Env := [some .host, some (.node t), some (areaD a), some (pathD p), some (areaD r0.area), some (pathD r0.path), o]
theorem carry_loop {L : Nat} {t : Int} {a : Area} {p : List Str} {r0 : Row} (h0 : RowOk L r0) (hl : p.length + L ≤ 1000) : ∀ (rest done : List Row) (A : HostSt) (o : Option D), Nd A → A.rows = done ++ rest → (∀ r ∈ rest, RowOk L r) →
    ∃ o', forE 6 carryB (rest.map fun r => D.node r.thing) (carryEnv t a p r0 o) A = .next (carryEnv t a p r0 o') { A with rows := done ++ rest.map (mv r0 a p) }
  | [], done, A, o, nd, e, ho => ⟨o, by
      unfold forE
      simp [← e]⟩
  | r :: rest, done, A, o, nd, e, ho => by
    have hr : A.row r.thing = some r := find_thing nd (by rw [e]; simp)
    have or := ho r (by simp)
    have hset : List.set (carryEnv t a p r0 o) 6 (some (D.node r.thing)) = carryEnv t a p r0 (some (D.node r.thing)) := rfl
    rw [List.map_cons]
    unfold forE
    rw [hset]
    have hb : carryB (carryEnv t a p r0 (some (D.node r.thing))) A = .next (carryEnv t a p r0 (some (D.node r.thing))) { A with rows := done ++ mv r0 a p r :: rest } := by
      have hm := D_moved_eq (a := a) (p := p) (o := r0.path) nd hr (by have := or.plen; omega)
      unfold carryB
      simp [carryEnv, D_within_eq hr or h0.area h0.path]
      unfold mv
      cases q : inW r r0.area r0.path with
      | true =>
        simp [hm]
        exact set_at nd e rfl
      | false =>
        simp [← e]
    rw [hb]
    have et : (done ++ mv r0 a p r :: rest).map (·.thing) = A.rows.map (·.thing) := by rw [e]; simp [mv_thing]
    dsimp only
    rw [if_pos ⟨rfl, et⟩]
    obtain ⟨o', ih⟩ := carry_loop h0 hl rest (done ++ [mv r0 a p r]) { A with rows := done ++ mv r0 a p r :: rest } (some (D.node r.thing)) (by unfold Nd; rw [et]; exact nd) (by simp) (fun q hq => ho q (List.mem_cons_of_mem _ hq))
    exact ⟨o', by rw [ih]; simp⟩
theorem D_carry_eq {L : Nat} {A : HostSt} (h : StOk L A) {r0 : Row} (hr : r0 ∈ A.rows) {a : Area} {p : List Str} (hl : p.length + L ≤ 1000) : D_Host_carry [.host, .node r0.thing, areaD a, pathD p] A = .ok .non (carryT A r0 a p) := by
  unfold D_Host_carry b_Host_carry
  have e0 := h.row hr
  obtain ⟨o', e1⟩ := carry_loop (t := r0.thing) (a := a) (p := p) (r0 := r0) (h.rows r0 hr) hl A.rows [] A none h.nd rfl h.rows
  unfold carryB carryEnv at e1
  simp [fdN_eq e0, e1]
  unfold carryT
  rfl
/-! ### take away, put new -/
def goneT (A : HostSt) (t : Int) : HostSt := { A with rows := A.rows.filter fun r => !decide (r.thing = t), turned := A.turned + 1, ver := A.ver + 1 }
theorem nodesOf_map {A : HostSt} (nd : Nd A) : ∀ {l : List Row}, (∀ r ∈ l, r ∈ A.rows) → nodesOf A (l.map fun r => D.node r.thing) = some l
  | [], _ => rfl
  | r :: l, h => by
    rw [List.map_cons]
    unfold nodesOf
    have e : A.row r.thing = some r := find_thing nd (h r (by simp))
    simp only [e, nodesOf_map nd (l := l) fun q hq => h q (List.mem_cons_of_mem _ hq), Option.map_some]
theorem D_take_away_eq {L : Nat} {A : HostSt} (h : StOk L A) {r0 : Row} (hr : r0 ∈ A.rows) : D_Host_take_away [.host, .node r0.thing] A = .ok .non (goneT A r0.thing) := by
  unfold D_Host_take_away b_Host_take_away
  have e0 := h.row hr
  have e1 : lcGo 2 (tOfV (vBin neD (vUn (fdN fun r => .int r.thing) (vVar 2)) (vUn (fdN fun r => .int r.thing) (vVar 1)))) (vVar 2) [some .host, some (.node r0.thing), none] A (A.rows.map fun r => D.node r.thing) [] = .ok ([] ++ (A.rows.filter fun r => !decide (r.thing = r0.thing)).map fun r => D.node r.thing) := by
    refine lc_map (fun r : Row => D.node r.thing) (fun r => !decide (r.thing = r0.thing)) (fun r => D.node r.thing) (fun r hr => ?_) (fun r hr _ => ?_) (by have := h.nr; simp; omega)
    · simp [fdN_eq (h.row hr), fdN_eq e0]
    · simp
  have e2 := nodesOf_map h.nd (l := A.rows.filter fun r => !decide (r.thing = r0.thing)) fun r hr => (List.mem_filter.mp hr).1
  have e3 : eNodes 2 (itN (vVar 0)) (tOfV (vBin neD (vUn (fdN fun r => .int r.thing) (vVar 2)) (vUn (fdN fun r => .int r.thing) (vVar 1)))) (vVar 2) (vVar 0) [some .host, some (.node r0.thing), none] A = .next [some .host, some (.node r0.thing), none] { A with rows := A.rows.filter fun r => !decide (r.thing = r0.thing), ver := A.ver + 1 } := by
    unfold eNodes
    have e4 : itN (vVar 0) [some .host, some (.node r0.thing), none] A = .ok (A.rows.map fun r => D.node r.thing) := by simp
    have e5 : List.set ([some .host, some (.node r0.thing), none] : Env) 2 none = [some .host, some (.node r0.thing), none] := rfl
    rw [e4]
    dsimp only
    rw [e5, e1]
    dsimp only [List.nil_append]
    rw [e2]
    have e6 : vVar 0 [some .host, some (.node r0.thing), none] A = .ok .host := by simp
    rw [e6]
  simp [e3]
  rfl
theorem D_put_new_eq {L : Nat} {A : HostSt} (h : StOk L A) {a : Area} {p : List Str} {k x : Str} : D_Host_put_new [.host, areaD a, pathD p, .str k, .str x] A = .ok (.node A.next) (putNew A a p k x) := by
  have e1 : toArea (areaD a) = some a := by cases a <;> rfl
  have e2 : toPath (pathD p) = some p := strsOf_map p
  unfold D_Host_put_new
  dsimp only
  rw [e1, e2]
  dsimp only
  rw [if_pos (by have := h.nr; omega)]
end FK
set_option Elab.async false
set_option linter.all false
set_option maxRecDepth 100000
set_option maxHeartbeats 1000000
/-! The plain law: the programs' steps. -/
namespace FK
open PySem L2
/-! ### words -/
theorem strOk_ofString (s : String) : PyData.strOk (Str.ofString s) = true := by
  rw [Str.ofString_eq_toList]
  unfold PyData.strOk
  simp only [List.all_toArray, List.all_map, List.all_eq_true, Function.comp, decide_eq_true_eq]
  intro c _
  have h : c.val.toNat.isValidChar := c.valid
  show c.val.toNat < 0x110000
  unfold Nat.isValidChar at h
  omega
theorem ofString_inj {s t : String} : Str.ofString s = Str.ofString t ↔ s = t := by
  constructor
  · intro h
    rw [Str.ofString_eq_toList, Str.ofString_eq_toList, Str.mk.injEq, List.toArray_eq_iff, List.toList_toArray] at h
    have inj : ∀ l m : List Char, l.map Char.toNat = m.map Char.toNat → l = m := by
      intro l
      induction l with
      | nil => intro m e; cases m with
        | nil => rfl
        | cons _ _ => cases e
      | cons a l ih => intro m e; cases m with
        | nil => cases e
        | cons b m =>
          rw [List.map_cons, List.map_cons, List.cons.injEq] at e
          have e1 : a = b := Char.ext (UInt32.toNat_inj.mp e.1)
          rw [e1, ih m e.2]
    have h2 := inj _ _ h
    rw [← String.ofList_toList (s := s), ← String.ofList_toList (s := t), h2]
  · intro h; rw [h]
@[simp] theorem eqD_word {s t : String} {A : HostSt} : eqD (.str (Str.ofString s)) (.str (Str.ofString t)) A = .ok (.bl (decide (s = t))) := by
  rw [eqD_str (strOk_ofString s) (strOk_ofString t)]
  congr 2
  rw [Bool.eq_iff_iff]
  simp [ofString_inj]
@[simp] theorem neD_word {s t : String} {A : HostSt} : neD (.str (Str.ofString s)) (.str (Str.ofString t)) A = .ok (.bl (!decide (s = t))) := by
  rw [neD_str (strOk_ofString s) (strOk_ofString t)]
  congr 3
  rw [Bool.eq_iff_iff]
  simp [ofString_inj]
@[simp] theorem ix_tup0 {x : D} {l : List D} {A : HostSt} : ixD (.tup (x :: l)) (.int 0) A = .ok x := by
  unfold ixD
  dsimp only
  rw [show atI (x :: l) 0 = some x from atI_nat (j := 0) rfl]
@[simp] theorem ix_tup1 {x y : D} {l : List D} {A : HostSt} : ixD (.tup (x :: y :: l)) (.int 1) A = .ok y := by
  unfold ixD
  dsimp only
  rw [show atI (x :: y :: l) 1 = some y from atI_nat (j := 1) rfl]
@[simp] theorem ix_tup2 {x y z : D} {l : List D} {A : HostSt} : ixD (.tup (x :: y :: z :: l)) (.int 2) A = .ok z := by
  unfold ixD
  dsimp only
  rw [show atI (x :: y :: z :: l) 2 = some z from atI_nat (j := 2) rfl]
@[simp] theorem ix_tup3 {x y z u : D} {l : List D} {A : HostSt} : ixD (.tup (x :: y :: z :: u :: l)) (.int 3) A = .ok u := by
  unfold ixD
  dsimp only
  rw [show atI (x :: y :: z :: u :: l) 3 = some u from atI_nat (j := 3) rfl]
/-! ### texts -/
theorem cutS_len {z : Str} {lo hi : Option Int} : (cutS z lo hi).length ≤ z.length := by
  unfold cutS Str.length
  simp only [List.size_toArray, List.length_take, List.length_drop, Array.length_toList]
  omega
theorem cutS_ok {z : Str} {lo hi : Option Int} (h : PyData.strOk z = true) : PyData.strOk (cutS z lo hi) = true := by
  unfold PyData.strOk at h ⊢
  unfold cutS
  rw [Array.all_eq_true'] at h
  simp only [List.all_toArray, List.all_eq_true]
  intro c hc
  exact h c (by
    have := List.mem_of_mem_drop (List.mem_of_mem_take hc)
    simpa using this)
theorem app_len {x y : Str} : (x ++ y).length = x.length + y.length := by
  show (x.cps ++ y.cps).size = _
  simp [Str.length]
theorem app_ok {x y : Str} (h : PyData.strOk x = true) (h' : PyData.strOk y = true) : PyData.strOk (x ++ y) = true := by
  unfold PyData.strOk at h h' ⊢
  show (x.cps ++ y.cps).all _ = true
  simp [h, h']
theorem slD_str {z : Str} {lo hi : Option Int} (h : z.length ≤ 100000) : slD lo hi (.str z) = .ok (.str (cutS z lo hi)) := by
  unfold slD
  dsimp only
  rw [if_pos (show z.length ≤ lineN from h)]
theorem addD_str {x y : Str} {A : HostSt} (h : x.length + y.length ≤ 100000) : addD (.str x) (.str y) A = .ok (.str (x ++ y)) := by
  unfold addD
  dsimp only
  rw [if_pos h]
theorem lenD_str {z : Str} {A : HostSt} (h : z.length ≤ 100000) : lenD [.str z] A = .ok (.int z.length) := by
  unfold lenD
  dsimp only
  rw [if_pos (show z.length ≤ lineN from h)]
/-! ### making -/
def makeT (A : HostSt) (a : Area) (p : List Str) (k x : Str) (b s : Bool) : HostSt :=
  { A with rows := A.rows ++ [⟨a, p, A.next, k, x, b, 0, 0, s⟩], next := A.next + 1, turned := A.turned + 1 }
theorem put_nd {L : Nat} {A : HostSt} (h : StOk L A) {a : Area} {p : List Str} {k x : Str} : Nd (putNew A a p k x) := by
  unfold Nd putNew
  dsimp only
  rw [List.map_append, List.map_singleton, List.nodup_append]
  refine ⟨h.nd, by simp, fun y hy z hz => ?_⟩
  obtain ⟨r, hr, rfl⟩ := List.mem_map.mp hy
  rw [List.mem_singleton.mp hz]
  have := h.lt r hr
  intro e
  have e : r.thing = A.next := e
  omega
theorem put_row {L : Nat} {A : HostSt} (h : StOk L A) {a : Area} {p : List Str} {k x : Str} : (putNew A a p k x).row A.next = some ⟨a, p, A.next, k, x, false, 0, 0, false⟩ := by
  have := find_thing (put_nd h (a := a) (p := p) (k := k) (x := x)) (r := ⟨a, p, A.next, k, x, false, 0, 0, false⟩) (by unfold putNew; simp)
  exact this
theorem put_set {L : Nat} {A : HostSt} (h : StOk L A) {a : Area} {p : List Str} {k x : Str} {b s : Bool} : (putNew A a p k x).setRow ⟨a, p, A.next, k, x, b, 0, 0, s⟩ = makeT A a p k x b s := by
  rw [set_at (done := A.rows) (rest := []) (r := ⟨a, p, A.next, k, x, false, 0, 0, false⟩) (r' := ⟨a, p, A.next, k, x, b, 0, 0, s⟩) (put_nd h) rfl rfl]
  rfl
def outE : Option HostSt → HostSt → ResE
  | some A', _ => .ok .non A'
  | none, A => .exc A
theorem D_make_eq {L : Nat} {A : HostSt} (h : StOk L A) {s : Spot} (hs : SpotOk s) {x : Str} {b : Bool} : D_make [.host, encSpot s, .str x, .bl b] A = outE ((roomAt A s).map fun q => makeT A q.1 q.2 "file" x b false) A := by
  unfold D_make b_make
  simp [D_room_at_eq h hs]
  cases q : roomAt A s with
  | none => simp [placeD, outE]
  | some z =>
    obtain ⟨a, p⟩ := z
    have e := st_runs (ρ := [some .host, some (encSpot s), some (.str x), some (.bl b), some (.node A.next), some (areaD a), some (pathD p)]) (x := b) (put_nd h (a := a) (p := p) (k := "file") (x := x)) (put_row h)
    simp [placeD, D_put_new_eq h, outE, e, put_set h]
theorem D_make_kind_eq {L : Nat} {A : HostSt} (h : StOk L A) {s : Spot} (hs : SpotOk s) {k : Str} : D_make_kind [.host, encSpot s, .str k] A = outE ((roomAt A s).map fun q => makeT A q.1 q.2 k "" false false) A := by
  unfold D_make_kind b_make_kind
  simp [D_room_at_eq h hs]
  cases q : roomAt A s with
  | none => simp [placeD, outE]
  | some z =>
    obtain ⟨a, p⟩ := z
    simp [placeD, D_put_new_eq h, outE]
    rfl
/-! ### removing -/
def holds (A : HostSt) (r : Row) : Bool := (A.rows.find? fun q => inW q r.area r.path && decide (r.path.length < q.path.length)).isSome
theorem D_holds_eq {L : Nat} {A : HostSt} (h : StOk L A) {r : Row} (hr : r ∈ A.rows) : D_Host_holds_something [.host, .node r.thing] A = .ok (.bl (holds A r)) := by
  unfold D_Host_holds_something b_Host_holds_something holds
  have o := h.rows r hr
  simp
  rw [for_map (fun q : Row => D.node q.thing) (fun q => inW q r.area r.path && decide (r.path.length < q.path.length)) (fun _ => D.bl true) (fun q hq => ?_)]
  · cases A.rows.find? (fun q => inW q r.area r.path && decide (r.path.length < q.path.length)) <;> simp
  · simp [fdN_eq (h.row hr), fdN_eq (h.row hq), D_within_eq (h.row hq) (h.rows q hq) o.area o.path]
    cases inW q r.area r.path <;> simp
    by_cases z : r.path.length < q.path.length <;> simp [z]
def removeT (A : HostSt) (s : Spot) : Option HostSt := match thingAt A s with
  | some r => if r.kind = "folder" then none else some (goneT A r.thing)
  | none => none
theorem D_remove_eq {L : Nat} {A : HostSt} (h : StOk L A) {s : Spot} (hs : SpotOk s) : D_remove [.host, encSpot s] A = outE (removeT A s) A := by
  unfold D_remove b_remove removeT
  simp [D_thing_at_eq h hs]
  cases q : thingAt A s with
  | none => simp [excN, outE]
  | some r =>
    have hm := thingAt_mem q
    have hk := eqD_kind (A := A) (h.rows r hm) ok_folder
    simp [excN, fdN_eq (h.row hm), hk]
    by_cases z : r.kind = "folder" <;> simp [z, outE, D_take_away_eq h hm]
def removeFT (A : HostSt) (s : Spot) : Option HostSt := match thingAt A s with
  | some r => if r.kind = "folder" ∧ holds A r = false then some (goneT A r.thing) else none
  | none => none
theorem D_remove_folder_eq {L : Nat} {A : HostSt} (h : StOk L A) {s : Spot} (hs : SpotOk s) : D_remove_folder_programs [.host, encSpot s] A = outE (removeFT A s) A := by
  unfold D_remove_folder_programs b_remove_folder_programs removeFT
  simp [D_thing_at_eq h hs]
  cases q : thingAt A s with
  | none => simp [excN, outE]
  | some r =>
    have hm := thingAt_mem q
    have hk := neD_kind (A := A) (h.rows r hm) ok_folder
    simp [excN, fdN_eq (h.row hm), hk, D_holds_eq h hm]
    by_cases z : r.kind = "folder" <;> cases z2 : holds A r <;> simp [z, outE, D_take_away_eq h hm]
end FK
set_option Elab.async false
set_option linter.all false
set_option maxRecDepth 100000
set_option maxHeartbeats 2000000
/-! The plain law: the programs' steps, on. -/
namespace FK
open PySem L2
/-! ### renaming -/
theorem D_can_have_eq {L : Nat} {A : HostSt} (h : StOk L A) {x : Str} (hx : x ∈ menu) : D_Host_can_have [.host, .str x] A = .ok (.bl (fitsN A.rule x)) := by
  unfold D_Host_can_have b_Host_can_have
  simp [D_fits_eq h.rule hx]
theorem D_spelled_eq {L : Nat} {A : HostSt} (h : StOk L A) {r : Row} (hr : r ∈ A.rows) {q : List Str} {x : Str} (hx : x ∈ menu) : D_spelled [.host, .node r.thing, pathD (q ++ [x])] A = if fitsN A.rule x = true then .ok (pathD (r.path.dropLast ++ [x])) else .exc := by
  unfold D_spelled b_spelled
  simp [path_last, D_can_have_eq h hx, fdN_eq (h.row hr), slD_init]
  have o := h.rows r hr
  have e4 : D.tup [.str x] = pathD [x] := rfl
  have l1 := o.plen
  have l2 := h.lim
  cases z : fitsN A.rule x <;> simp [path_last, fdN_eq (h.row hr), slD_init, e4, addD_path (p := r.path.dropLast) (q := [x]) (by simp; omega)]
def renameT (A : HostSt) (s g : Spot) : Option HostSt := match thingAt A s with
  | none => none
  | some r => match spotPlace A g with
    | none => none
    | some (a, p) => match nodeAt A.rule.alike A.rows a p with
      | none => match freePath A a p with
        | none => none
        | some q => if a = r.area ∧ q.take r.path.length = r.path then none else some (carryT A r a q)
      | some o => if o.thing = r.thing then (match p.getLast? with
          | some x => if fitsN A.rule x = true then some (carryT A r a (r.path.dropLast ++ [x])) else none
          | none => none)
        else if r.kind = "folder" ∨ o.kind = "folder" then none else some (carryT (goneT A o.thing) r a o.path)
theorem freePath_ok {L : Nat} {A : HostSt} (h : StOk L A) {a : Area} {p q : List Str} (hp : PathOk p) (e : freePath A a p = some q) : PathOk q ∧ q.length ≤ L + 1 ∧ q ≠ [] := by
  unfold freePath at e
  split at e
  · cases e
  · rename_i x hx
    split at e
    · cases e
    · rw [Option.map_eq_some_iff] at e
      obtain ⟨z, e1, rfl⟩ := e
      obtain ⟨o1, o2⟩ := folderPath_ok h e1
      refine ⟨o1.append fun y hy => ?_, by simp; omega, by simp⟩
      rw [List.mem_singleton.mp hy]
      exact hp x (List.mem_of_getLast? hx)
theorem gone_ok {L : Nat} {A : HostSt} (h : StOk L A) (t : Int) : StOk L (goneT A t) := by
  refine ⟨h.lim, h.rule, fun r hr => h.rows r (List.mem_filter.mp hr).1, ?_, fun r hr => h.lt r (List.mem_filter.mp hr).1, ?_, h.no, h.nh⟩
  · exact (List.Sublist.map _ List.filter_sublist).nodup h.nd
  · exact Nat.le_trans (List.length_filter_le _ _) h.nr
theorem D_rename_eq {L : Nat} {A : HostSt} (h : StOk L A) (hL : L ≤ 200) {s g : Spot} (hs : SpotOk s) (hg : SpotOk g) : D_rename [.host, encSpot s, encSpot g] A = outE (renameT A s g) A := by
  unfold D_rename b_rename renameT
  simp [D_thing_at_eq h hs]
  cases hq : thingAt A s with
  | none => simp [excN, outE]
  | some r =>
    have hm := thingAt_mem hq
    have or := h.rows r hm
    have hr := h.row hm
    simp [excN, D_spot_place_eq h hg]
    cases hp : spotPlace A g with
    | none => simp [placeD, outE]
    | some z =>
      obtain ⟨a, p⟩ := z
      obtain ⟨o, hne⟩ := spotPlace_ok h hg hp
      simp [placeD, D_node_at h o.area o.path]
      cases hn : nodeAt A.rule.alike A.rows a p with
      | none =>
        have er : D_room_at [.host, encSpot g] A = placeD ((freePath A a p).map fun q => (a, q)) := by
          rw [D_room_at_eq h hg]
          unfold roomAt
          rw [hp]
          rfl
        simp [er]
        cases hf : freePath A a p with
        | none => simp [placeD, outE]
        | some q =>
          obtain ⟨f1, f2, f3⟩ := freePath_ok h o.path hf
          have ec := D_carry_eq h hm (a := a) (p := q) (by omega)
          simp [placeD, hr, eqD_area o.area or.area, slD_to, eqD_path (f1.take _) or.path, ec]
          by_cases z1 : a = r.area
          · subst z1
            by_cases z2 : q.take r.path.length = r.path <;> simp [z2, outE, ec]
          · by_cases z2 : q.take r.path.length = r.path <;> simp [z1, z2, outE, ec]
      | some o2 =>
        have hm2 := (nodeAt_mem hn).1
        have hr2 := h.row hm2
        have or2 := h.rows o2 hm2
        simp [hr, hr2]
        by_cases z1 : o2.thing = r.thing
        · simp [z1]
          rcases List.eq_nil_or_concat p with e | ⟨q, x, e⟩
          · exact absurd e hne
          · rw [List.concat_eq_append] at e
            subst e
            have hx : x ∈ menu := o.path x (by simp)
            have ec := D_carry_eq h hm (a := a) (p := r.path.dropLast ++ [x]) (by have := or.plen; simp; omega)
            simp [D_spelled_eq h hm hx]
            cases hf : fitsN A.rule x <;> simp [outE, ec]
        · simp [z1]
          have k1 := eqD_kind (A := A) or ok_folder
          have k2 := eqD_kind (A := A) or2 ok_folder
          simp [hr, hr2, k1, k2]
          by_cases z2 : r.kind = "folder"
          · simp [z2, outE]
          · by_cases z3 : o2.kind = "folder"
            · simp [z2, z3, outE]
            · have hm3 : r ∈ (goneT A o2.thing).rows := List.mem_filter.mpr ⟨hm, by simpa using fun e => z1 e.symm⟩
              have ec := D_carry_eq (gone_ok h o2.thing) hm3 (a := a) (p := o2.path) (by have := or2.plen; omega)
              simp [z2, z3, outE, hr2, D_take_away_eq h hm2, ec]
/-! ### files -/
def wtext (z : Str) (n : Int) (x : Str) : Str := cutS z none (some n) ++ x ++ cutS z (some (n + x.length)) none
def TxtOk (x : Str) : Prop := PyData.strOk x = true ∧ x.length ≤ 20
theorem fileNamed_mem {A : HostSt} {t : Tgt} {r : Row} (e : fileNamed A t = some r) : r ∈ A.rows ∧ r.kind = "file" := by
  unfold fileNamed at e
  rw [Option.filter_eq_some_iff] at e
  obtain ⟨e1, e2⟩ := e
  refine ⟨?_, of_decide_eq_true e2⟩
  cases t with
  | thing t =>
    dsimp only at e1
    split at e1
    · exact (row_mem e1).1
    · cases e1
  | spot s => exact thingAt_mem e1
def writeT (A : HostSt) (t : Tgt) (n : Int) (x : Str) : Option HostSt := match fileNamed A t with
  | none => none
  | some r => if (r.text.length : Int) < n then none else some (A.setRow (wr r (wtext r.text n x) r.runs))
theorem D_write_eq {L : Nat} {A : HostSt} (h : StOk L A) {t : Tgt} (ht : TgtOk t) {n : Int} {x : Str} (hx : TxtOk x) : D_write [.host, encTgt t, .int n, .str x] A = outE (writeT A t n x) A := by
  unfold D_write b_write writeT
  simp [D_file_named_eq h ht]
  cases q : fileNamed A t with
  | none => simp [excN, outE]
  | some r =>
    have hm := (fileNamed_mem q).1
    have hr := h.row hm
    have o := h.rows r hm
    have l1 := o.tlen
    have l2 := hx.2
    have c1 := cutS_len (z := r.text) (lo := none) (hi := some n)
    have c2 := cutS_len (z := r.text) (lo := some (n + x.length)) (hi := none)
    have a1 : addD (.str (cutS r.text none (some n))) (.str x) A = .ok (.str (cutS r.text none (some n) ++ x)) := addD_str (by omega)
    have a2 : addD (.str (cutS r.text none (some n) ++ x)) (.str (cutS r.text (some (n + x.length)) none)) A = .ok (.str (wtext r.text n x)) := addD_str (by rw [app_len]; omega)
    simp [excN, hr, lenD_str (z := r.text) (A := A) (by omega), lenD_str (z := x) (A := A) (by omega), slD_str (z := r.text) (by omega), a1, a2, D_written_eq h.nd hr]
    by_cases z : (r.text.length : Int) < n
    · simp [z, outE]
    · simp [z, outE, hr, lenD_str (z := r.text) (A := A) (by omega), lenD_str (z := x) (A := A) (by omega), slD_str (z := r.text) (by omega), a1, a2, D_written_eq h.nd hr]
def cutT (A : HostSt) (t : Tgt) : Option HostSt := match fileNamed A t with
  | none => none
  | some r => some (A.setRow { wr r "" r.runs with cuts := r.cuts + 1 })
theorem D_cut_eq {L : Nat} {A : HostSt} (h : StOk L A) {t : Tgt} (ht : TgtOk t) : D_cut [.host, encTgt t] A = outE (cutT A t) A := by
  unfold D_cut b_cut cutT
  simp [D_file_named_eq h ht]
  cases q : fileNamed A t with
  | none => simp [excN, outE]
  | some r =>
    have hm := (fileNamed_mem q).1
    have hr := h.row hm
    have h2 : (A.setRow (wr r "" r.runs)).row r.thing = some (wr r "" r.runs) := set_row h.nd hr rfl
    have e2 : (A.setRow (wr r "" r.runs)).setRow { wr r "" r.runs with cuts := r.cuts + 1 } = A.setRow { wr r "" r.runs with cuts := r.cuts + 1 } := set_set rfl
    have e3 : (wr r "" r.runs).cuts = r.cuts := rfl
    simp [excN, hr, D_written_eq h.nd hr, fdCuts_node h2, e3, st_cuts (set_nd h.nd) h2, e2, outE]
def closeT (A : HostSt) (t : Int) : Option HostSt := if t ∈ A.opened then some { A with opened := A.opened.erase t } else none
theorem D_close_eq {A : HostSt} {t : Int} : D_close [.host, .int t] A = outE (closeT A t) A := by
  unfold D_close b_close closeT
  simp [ninLD_op]
  by_cases z : t ∈ A.opened
  · simp [z, eRemove, outE]
  · simp [z, outE]
def runsT (A : HostSt) (t : Tgt) (b : Bool) : Option HostSt := match fileNamed A t with
  | none => none
  | some r => some (A.setRow (wr r r.text b))
def readT (A : HostSt) (t : Tgt) : Option HostSt := match fileNamed A t with
  | none => none
  | some r => some { A with had := A.had ++ [(r.thing, r.count)] }
def openT (A : HostSt) (s : Spot) : Option HostSt := match thingAt A s with
  | none => none
  | some r => some { A with opened := r.thing :: A.opened }
inductive Deed where
  | make (s : Spot) (x : Str) (b : Bool) | makeFolder (s : Spot) | makeOther (s : Spot) | remove (s : Spot) | removeFolder (s : Spot) | rename (s g : Spot)
  | cut (t : Tgt) | write (t : Tgt) (n : Int) (x : Str) | setRuns (t : Tgt) (b : Bool) | read (t : Tgt) | opens (s : Spot) | close (t : Int)
def encDeed : Deed → D
  | .make s x b => .tup [.str "make", encSpot s, .str x, .bl b]
  | .makeFolder s => .tup [.str "make_folder", encSpot s]
  | .makeOther s => .tup [.str "make_other", encSpot s]
  | .remove s => .tup [.str "remove", encSpot s]
  | .removeFolder s => .tup [.str "remove_folder", encSpot s]
  | .rename s g => .tup [.str "rename", encSpot s, encSpot g]
  | .cut t => .tup [.str "cut", encTgt t]
  | .write t n x => .tup [.str "write", encTgt t, .int n, .str x]
  | .setRuns t b => .tup [.str "set_runs", encTgt t, .bl b]
  | .read t => .tup [.str "read", encTgt t]
  | .opens s => .tup [.str "open", encSpot s]
  | .close t => .tup [.str "close", .int t]
def DeedOk : Deed → Prop
  | .make s x _ => SpotOk s ∧ TxtOk x
  | .makeFolder s => SpotOk s
  | .makeOther s => SpotOk s
  | .remove s => SpotOk s
  | .removeFolder s => SpotOk s
  | .rename s g => SpotOk s ∧ SpotOk g
  | .cut t => TgtOk t
  | .write t _ x => TgtOk t ∧ TxtOk x
  | .setRuns t _ => TgtOk t
  | .read t => TgtOk t
  | .opens s => SpotOk s
  | .close _ => True
def step (A : HostSt) : Deed → Option HostSt
  | .make s x b => (roomAt A s).map fun q => makeT A q.1 q.2 "file" x b false
  | .makeFolder s => (roomAt A s).map fun q => makeT A q.1 q.2 "folder" "" false false
  | .makeOther s => (roomAt A s).map fun q => makeT A q.1 q.2 "other" "" false false
  | .remove s => removeT A s
  | .removeFolder s => removeFT A s
  | .rename s g => renameT A s g
  | .cut t => cutT A t
  | .write t n x => writeT A t n x
  | .setRuns t b => runsT A t b
  | .read t => readT A t
  | .opens s => openT A s
  | .close t => closeT A t
theorem drop_out {r : Option HostSt} {A : HostSt} {ρ : Env} : endE (dE (outE r A) fun _ A' => .next ρ A') = outE r A := by cases r <;> rfl
theorem D_doing_in_eq {L : Nat} {A : HostSt} (h : StOk L A) {d : Deed} (hd : DeedOk d) (hk : match d with | .cut _ => True | .write _ _ _ => True | .setRuns _ _ => True | .read _ => True | .opens _ => True | _ => False) : D_doing_in_files [.host, encDeed d] A = outE (step A d) A := by
  unfold D_doing_in_files b_doing_in_files
  cases d with
  | cut t =>
    simp [encDeed, D_cut_eq h hd, step, drop_out]
  | write t n x =>
    simp [encDeed, D_write_eq h hd.1 hd.2, step, drop_out]
  | setRuns t b =>
    simp [encDeed, D_file_named_eq h hd, step, runsT]
    cases q : fileNamed A t with
    | none => simp [excN, outE]
    | some r =>
      have hr := h.row (fileNamed_mem q).1
      simp [excN, outE, hr, D_written_eq h.nd hr]
  | read t =>
    simp [encDeed, D_file_named_eq h hd, step, readT]
    cases q : fileNamed A t with
    | none => simp [excN, outE]
    | some r =>
      have hr := h.row (fileNamed_mem q).1
      have l := h.nh
      simp [excN, outE, ePush, hr]
      rw [if_pos (by omega)]
      rfl
  | opens s =>
    simp [encDeed, D_thing_at_eq h hd, step, openT]
    cases q : thingAt A s with
    | none => simp [excN, outE]
    | some r =>
      have hr := h.row (thingAt_mem q)
      have l := h.no
      simp [excN, outE, eInsert, hr]
      rw [if_pos (by omega)]
      rfl
  | _ => exact hk.elim
theorem D_program_eq {L : Nat} {A : HostSt} (h : StOk L A) (hL : L ≤ 200) {d : Deed} (hd : DeedOk d) : D_Host_program [.host, encDeed d] A = outE (step A d) A := by
  have key : D_doing [.host, encDeed d] A = outE (step A d) A := by
    unfold D_doing b_doing
    cases d with
    | make s x b => simp [encDeed, D_make_eq h hd.1, step, drop_out]
    | makeFolder s =>
      have e := D_make_kind_eq h (s := s) hd (k := "folder")
      simp [encDeed, e, step, drop_out]
    | makeOther s =>
      have e := D_make_kind_eq h (s := s) hd (k := "other")
      simp [encDeed, e, step, drop_out]
    | remove s => simp [encDeed, D_remove_eq h hd, step, drop_out]
    | removeFolder s => simp [encDeed, D_remove_folder_eq h hd, step, drop_out]
    | rename s g => simp [encDeed, D_rename_eq h hL hd.1 hd.2, step, drop_out]
    | close t => simp [encDeed, D_close_eq, step, drop_out]
    | cut t =>
      have e := D_doing_in_eq h (d := .cut t) hd trivial
      simp only [encDeed] at e
      simp [encDeed, e, drop_out]
    | write t n x =>
      have e := D_doing_in_eq h (d := .write t n x) hd trivial
      simp only [encDeed] at e
      simp [encDeed, e, drop_out]
    | setRuns t b =>
      have e := D_doing_in_eq h (d := .setRuns t b) hd trivial
      simp only [encDeed] at e
      simp [encDeed, e, drop_out]
    | read t =>
      have e := D_doing_in_eq h (d := .read t) hd trivial
      simp only [encDeed] at e
      simp [encDeed, e, drop_out]
    | opens s =>
      have e := D_doing_in_eq h (d := .opens s) hd trivial
      simp only [encDeed] at e
      simp [encDeed, e, drop_out]
  unfold D_Host_program b_Host_program
  simp [key, drop_out]
end FK
set_option Elab.async false
set_option linter.all false
set_option maxRecDepth 100000
set_option maxHeartbeats 2000000
/-! The plain law: the law's model. -/
namespace FK
open PySem L2
def encRow (r : Row) : D := .lst [areaD r.area, pathD r.path, .int r.thing, .str r.kind, .str r.text, .bl r.runs, .int r.count, .int r.cuts, .bl r.staged]
def rowsD (l : List Row) : D := .lst (l.map encRow)
def encS (A : HostSt) : D := .lst [rowsD A.rows, .lst (A.opened.map .int), .int A.next, .int A.turned, .lst (A.had.map encHad)]
theorem ix_lst {l : List D} {k : Nat} {x : D} {A : HostSt} (h : l[k]? = some x) : ixD (.lst l) (.int (k : Int)) A = .ok x := by
  unfold ixD
  dsimp only
  rw [atI_nat h]
section
variable {r : Row} {A B : HostSt}
@[simp] theorem row_0 : ixD (encRow r) (.int 0) B = .ok (areaD r.area) := ix_lst (k := 0) rfl
@[simp] theorem row_1 : ixD (encRow r) (.int 1) B = .ok (pathD r.path) := ix_lst (k := 1) rfl
@[simp] theorem row_2 : ixD (encRow r) (.int 2) B = .ok (.int r.thing) := ix_lst (k := 2) rfl
@[simp] theorem row_3 : ixD (encRow r) (.int 3) B = .ok (.str r.kind) := ix_lst (k := 3) rfl
@[simp] theorem row_4 : ixD (encRow r) (.int 4) B = .ok (.str r.text) := ix_lst (k := 4) rfl
@[simp] theorem row_5 : ixD (encRow r) (.int 5) B = .ok (.bl r.runs) := ix_lst (k := 5) rfl
@[simp] theorem row_6 : ixD (encRow r) (.int 6) B = .ok (.int r.count) := ix_lst (k := 6) rfl
@[simp] theorem row_7 : ixD (encRow r) (.int 7) B = .ok (.int r.cuts) := ix_lst (k := 7) rfl
@[simp] theorem row_8 : ixD (encRow r) (.int 8) B = .ok (.bl r.staged) := ix_lst (k := 8) rfl
@[simp] theorem st_0 : ixD (encS A) (.int 0) B = .ok (rowsD A.rows) := ix_lst (k := 0) rfl
@[simp] theorem st_1 : ixD (encS A) (.int 1) B = .ok (.lst (A.opened.map .int)) := ix_lst (k := 1) rfl
@[simp] theorem st_2 : ixD (encS A) (.int 2) B = .ok (.int A.next) := ix_lst (k := 2) rfl
@[simp] theorem st_3 : ixD (encS A) (.int 3) B = .ok (.int A.turned) := ix_lst (k := 3) rfl
@[simp] theorem st_4 : ixD (encS A) (.int 4) B = .ok (.lst (A.had.map encHad)) := ix_lst (k := 4) rfl
@[simp] theorem aLst_rows {l : List Row} : aLst (rowsD l) = .ok (l.map encRow) := (rfl)
@[simp] theorem isNon_row : D.isNon (encRow r) = false := (rfl)
@[simp] theorem isNon_encS : D.isNon (encS A) = false := (rfl)
end
/-! ### same -/
noncomputable def sameRest : Sv := (seqS (sIf (tOfV (vBin neD (vApp lenD (vCons (vVar 4) vNil)) (vApp lenD (vCons (vVar 5) vNil))))
      (sRet (vC (.bl false)))
      sNil)
    (sFor 6 (itR (vApp lenD (vCons (vVar 4) vNil)))
      (sIf (tOfV (vBin neD (vCall 2 D__law_as (vCons (vVar 0) (vCons (vBin ixD (vVar 4) (vVar 6)) vNil))) (vCall 2 D__law_as (vCons (vVar 0) (vCons (vBin ixD (vVar 5) (vVar 6)) vNil)))))
      (sRet (vC (.bl false)))
      sNil)))
theorem tab_rest (P Q K O : Option D) (B : HostSt) : (alikes.map fun al => menu.map fun x => menu.map fun y => sameRest [some (pathD al), P, Q, K, some (.str x), some (.str y), O] B) = alikes.map fun al => menu.map fun x => menu.map fun y => if sameN al x y = true then .next [some (pathD al), P, Q, K, some (.str x), some (.str y), some (.int ((x.length : Int) - 1))] else .ret (.bl false) := by
  kernel_rfl
theorem forS_inv {i : Nat} {body : Sv} {A : HostSt} (Inv : Env → Prop) (f : Nat → Bool) (e : D) : ∀ {l : List Nat} {ρ : Env}, (∀ k ∈ l, ∀ ρ, Inv ρ → (f k = true ∧ ∃ ρ', body (List.set ρ i (some (.int (k : Int)))) A = .next ρ' ∧ Inv ρ') ∨ (f k = false ∧ body (List.set ρ i (some (.int (k : Int)))) A = .ret e)) → Inv ρ →
    (∃ ρ', forS i body (l.map fun (k : Nat) => D.int (k : Int)) ρ A = .next ρ' ∧ Inv ρ' ∧ ∀ k ∈ l, f k = true) ∨ (forS i body (l.map fun (k : Nat) => D.int (k : Int)) ρ A = .ret e ∧ ∃ k, k ∈ l ∧ f k = false)
  | [], ρ, _, hi => .inl ⟨ρ, rfl, hi, fun _ h => by cases h⟩
  | k :: l, ρ, h, hi => by
    rw [List.map_cons]
    unfold forS
    rcases h k (by simp) ρ hi with ⟨hf, ρ', hb, hi'⟩ | ⟨hf, hb⟩
    · rw [hb]
      dsimp only
      rcases forS_inv Inv f e (l := l) (fun k' hk' => h k' (List.mem_cons_of_mem _ hk')) hi' with ⟨ρ2, e1, e2, e3⟩ | ⟨e1, k2, e2, e3⟩
      · refine .inl ⟨ρ2, e1, e2, fun k' hk' => ?_⟩
        rcases List.mem_cons.mp hk' with z | z
        · rw [z]; exact hf
        · exact e3 k' z
      · exact .inr ⟨e1, k2, List.mem_cons_of_mem _ e2, e3⟩
    · rw [hb]
      exact .inr ⟨rfl, k, by simp, hf⟩
theorem D_law_same_eq {al : List Str} (hal : al ∈ alikes) {B : HostSt} {p q : List Str} (hp : PathOk p) (hq : PathOk q) (lp : p.length ≤ 1000) : D__law_same [pathD al, pathD p, pathD q] B = .ok (.bl (sameP al p q)) := by
  unfold D__law_same b__law_same
  by_cases hl : p.length = q.length
  · have e1 := aRng_nat (n := q.length) (by omega)
    simp [hl, e1]
    have key := forS_inv (i := 3) (A := B) (body := (seqS (sSet 4 (vBin ixD (vVar 1) (vVar 3))) (seqS (sSet 5 (vBin ixD (vVar 2) (vVar 3))) sameRest))) (fun ρ => ∃ k o1 o2 o3, ρ = [some (pathD al), some (pathD p), some (pathD q), k, o1, o2, o3]) (fun k => sameN al (p.getD k "") (q.getD k "")) (.bl false) (l := List.range q.length) (ρ := [some (pathD al), some (pathD p), some (pathD q), none, none, none, none]) (fun k hk ρ hi => by
      obtain ⟨k0, o1, o2, o3, rfl⟩ := hi
      have hk1 : k < q.length := List.mem_range.mp hk
      have hk2 : k < p.length := by omega
      have t := mem_map3 (tab_rest (some (pathD p)) (some (pathD q)) (some (.int (k : Int))) o3 B) hal (hp _ (List.getElem_mem hk2)) (hq _ (List.getElem_mem hk1))
      simp [path_ix hk1, path_ix hk2, hk1, hk2, t]
      cases z : sameN al p[k] q[k] <;> simp) ⟨_, _, _, _, rfl⟩
    unfold sameRest at key
    rcases key with ⟨ρ', e, _, hf⟩ | ⟨e, k, hk, hf⟩
    · rw [e]
      have : sameP al p q = true := by
        unfold sameP
        refine decide_eq_true ((map_eq_at hl).mp fun k h => ?_)
        have := hf k (List.mem_range.mpr (by omega))
        have h2 : k < q.length := by omega
        simp [h, h2] at this
        exact of_decide_eq_true this
      simp [this]
    · rw [e]
      have hk := List.mem_range.mp hk
      have : sameP al p q = false := by
        cases z : sameP al p q with
        | false => rfl
        | true =>
          have h3 := (map_eq_at hl).mpr (of_decide_eq_true z) k (by omega)
          have h1 : k < p.length := by omega
          simp [h1, hk] at hf
          unfold sameN at hf
          rw [h3] at hf
          simp at hf
      simp [this]
  · have h2 : sameP al p q = false := by
      cases z : sameP al p q with
      | false => rfl
      | true =>
        have := congrArg List.length (of_decide_eq_true z)
        simp at this
        exact absurd this hl
    have t3 : ¬ ((p.length : Int) = (q.length : Int)) := by omega
    simp [t3, h2]
def rowD : Option Row → D
  | some r => encRow r
  | none => .non
@[simp] theorem rowD_some {r : Row} : rowD (some r) = encRow r := rfl
@[simp] theorem rowD_none : rowD none = .non := rfl
theorem D_law_at_eq {L : Nat} {A B : HostSt} (h : StOk L A) {a : Area} (ha : AreaOk a) {p : List Str} (hp : PathOk p) : D__law_at [rowsD A.rows, .rule A.rule, areaD a, pathD p] B = .ok (rowD (nodeAt A.rule.alike A.rows a p)) := by
  unfold D__law_at b__law_at
  simp
  rw [for_map encRow (fun r => decide (r.area = a) && sameP A.rule.alike r.path p) encRow (fun r hr => ?_)]
  · unfold nodeAt
    cases A.rows.find? (fun r => decide (r.area = a) && sameP A.rule.alike r.path p) <;> simp
  · have o := h.rows r hr
    simp [eqD_area o.area ha, D_law_same_eq h.rule.1 o.path hp (by have := o.plen; have := h.lim; omega)]
    by_cases q : r.area = a <;> simp [q]
    cases sameP A.rule.alike r.path p <;> simp
end FK
set_option Elab.async false
set_option linter.all false
set_option maxRecDepth 100000
set_option maxHeartbeats 2000000
/-! The plain law: the law's model, on. -/
namespace FK
open PySem L2
theorem ok_outside : PyData.strOk "outside" = true := strOk_ofString _
theorem KA.ok {a : Area} (h : KA a) : AreaOk a := by
  rcases h with rfl | rfl | ⟨i, rfl⟩
  · exact ok_folder
  · exact ok_outside
  · trivial
theorem ka_isI {a : Area} (h : KA a) : (decide (a = .s "folder") || decide (a = .s "outside")) = !isI a := by
  rcases h with rfl | rfl | ⟨i, rfl⟩
  · simp [isI]
  · simp [isI]
  · simp [isI]
theorem eqD_areaS {a : Area} {A : HostSt} (ha : AreaOk a) (s : String) : eqD (areaD a) (.str (Str.ofString s)) A = .ok (.bl (decide (a = .s (Str.ofString s)))) := eqD_area (b := .s (Str.ofString s)) ha (strOk_ofString s)
theorem D_law_above_eq {L : Nat} {A B : HostSt} (h : StOk L A) {a : Area} (ka : KA a) {p : List Str} (hp : PathOk p) : D__law_above [rowsD A.rows, .rule A.rule, areaD a, pathD p] B = .ok (optP (folderPath A a p)) := by
  unfold D__law_above b__law_above folderPath
  have ha := ka.ok
  have e := ka_isI ka
  simp [eqD_nil hp, eqD_areaS ha, e, D_law_at_eq h ha hp]
  by_cases h0 : p = [] ∧ isI a = false
  · simp [h0.1, h0.2, optP, tup_nil]
  · rw [if_neg h0]
    have e : (decide (p = []) && !isI a) = false := by
      by_cases h1 : p = [] <;> cases h2 : isI a <;> simp [h1]
      exact h0 ⟨h1, h2⟩
    simp [e, D_law_at_eq h ha hp]
    cases q : nodeAt A.rule.alike A.rows a p with
    | none => simp [optP]
    | some r =>
      have hm := (nodeAt_mem q).1
      have hk := neD_kind (A := B) (h.rows r hm) ok_folder
      simp [hk]
      by_cases hk : r.kind = "folder" <;> simp [hk, optP]
@[simp] theorem aTup_path {p : List Str} : aTup (pathD p) = .ok (p.map .str) := (rfl)
theorem unfit_menu {u : List Str} (h : u ∈ unfits) : ∀ x ∈ u, x ∈ menu := by
  have : ∀ u ∈ unfits, ∀ x ∈ u, x ∈ menu := by decide +kernel
  exact this u h
theorem same_one {al : List Str} {u x : Str} : sameP al [u] [x] = sameN al u x := by
  unfold sameP sameN
  simp
theorem law_same_one {al : List Str} (hal : al ∈ alikes) {B : HostSt} {u x : Str} (hu : u ∈ menu) (hx : x ∈ menu) : D__law_same [pathD al, .tup [.str u], .tup [.str x]] B = .ok (.bl (sameN al u x)) := by
  have := D_law_same_eq hal (B := B) (p := [u]) (q := [x]) (fun y hy => by rw [List.mem_singleton.mp hy]; exact hu) (fun y hy => by rw [List.mem_singleton.mp hy]; exact hx) (by simp)
  rw [same_one] at this
  exact this
theorem fitsN_find {r : RuleD} {x : Str} : fitsN r x = (r.unfit.find? fun u => sameN r.alike u x).isNone := by
  unfold fitsN
  generalize r.unfit = l
  induction l with
  | nil => rfl
  | cons u l ih =>
    rw [List.any_cons, List.find?_cons]
    cases q : sameN r.alike u x with
    | true => rfl
    | false => simpa using ih
theorem lastSet_form {i : Nat} : ∀ (ds : List D) (ρ : Env), ∃ o, lastSet i ds ρ = List.set ρ i o
  | [], ρ => by
    by_cases h : i < ρ.length
    · exact ⟨ρ[i], by simp [lastSet]⟩
    · exact ⟨none, by rw [List.set_eq_of_length_le (by omega)]; rfl⟩
  | d :: ds, ρ => by
    obtain ⟨o, e⟩ := lastSet_form ds (List.set ρ i (some d))
    exact ⟨o, by rw [lastSet, e, List.set_set]⟩
theorem D_law_free_eq {L : Nat} {A B : HostSt} (h : StOk L A) {a : Area} (ka : KA a) {p : List Str} (hp : PathOk p) : D__law_free [rowsD A.rows, .rule A.rule, areaD a, pathD p] B = .ok (optP (freePath A a p)) := by
  unfold D__law_free b__law_free freePath
  have ha := ka.ok
  rcases List.eq_nil_or_concat p with e | ⟨q, x, e⟩
  · subst e
    simp [optP]
  · rw [List.concat_eq_append] at e
    subst e
    have hq : PathOk q := fun y hy => hp y (by simp [hy])
    have hx : x ∈ menu := hp x (by simp)
    have l5 := menu_len x hx
    have l48 : A.rule.longest = 48 := h.rule.2.2
    have n48 : ¬ ((48 : Int) < (x.length : Int)) := by omega
    simp [eqD_nil hp, D_law_at_eq h ha hp, path_last]
    cases h1 : nodeAt A.rule.alike A.rows a (q ++ [x]) with
    | some r => simp [optP]
    | none =>
      have e5 : D__law_above [rowsD A.rows, .rule A.rule, areaD a, pathD q] B = .ok (optP (folderPath A a q)) := D_law_above_eq h ka hq
      simp [path_last, lenD_str (z := x) (A := B) (by omega), l48, n48]
      rw [for_map D.str (fun u => sameN A.rule.alike u x) (fun _ => D.non) (fun u hu => by
        simp [path_last, law_same_one h.rule.1 (unfit_menu h.rule.2.1 u hu) hx]
        cases sameN A.rule.alike u x <;> simp)]
      rw [fitsN_find]
      cases h2 : A.rule.unfit.find? (fun u => sameN A.rule.alike u x) with
      | some u => simp [optP]
      | none =>
        obtain ⟨o, eo⟩ := lastSet_form (i := 4) (A.rule.unfit.map D.str) [some (rowsD A.rows), some (D.rule A.rule), some (areaD a), some (pathD (q ++ [x])), none, none]
        rw [eo]
        simp [slD_init, path_last, e5]
        cases h3 : folderPath A a q with
        | none => simp [optP]
        | some z =>
          have o := folderPath_ok h h3
          have l0 := h.lim
          have e4 : D.tup [.str x] = pathD [x] := rfl
          simp [optP, path_last, e4, addD_path (p := z) (q := [x]) (by simp; omega)]
/-! ### spots -/
@[simp] theorem spot_0 {s : Spot} {B : HostSt} : ixD (encSpot s) (.int 0) B = .ok (areaD s.base) := ix_tup0
@[simp] theorem spot_1 {s : Spot} {B : HostSt} : ixD (encSpot s) (.int 1) B = .ok (pathD s.path) := ix_tup1
def placeL : Option (Area × List Str) → D
  | some (a, p) => .tup [areaD a, pathD p]
  | none => .non
theorem inLD_ints {B : HostSt} (t : Int) (l : List Int) : inLD (.int t) (.lst (l.map .int)) B = .ok (.bl (decide (t ∈ l))) := by
  unfold inLD
  have e1 : toPy B (.lst (l.map .int)) = some (.list (l.map PyData.int)) := (sh_lst (n := 0) fun x _ => sh_int).py
  have e2 : SeqAt.shaped (.list (l.map PyData.int)) = true := (sh_lst (A := B) (n := 0) (f := D.int) (g := PyData.int) (l := l) fun x _ => sh_int).shaped
  rw [e1]
  simp only [toPy]
  rw [if_pos ⟨(sh_int (A := B)).shaped, e2⟩, any_ints]
theorem ninLD_ints {B : HostSt} (t : Int) (l : List Int) : ninLD (.int t) (.lst (l.map .int)) B = .ok (.bl (!decide (t ∈ l))) := by
  unfold ninLD
  have e1 : toPy B (.lst (l.map .int)) = some (.list (l.map PyData.int)) := (sh_lst (n := 0) fun x _ => sh_int).py
  have e2 : SeqAt.shaped (.list (l.map PyData.int)) = true := (sh_lst (A := B) (n := 0) (f := D.int) (g := PyData.int) (l := l) fun x _ => sh_int).shaped
  rw [e1]
  simp only [toPy]
  rw [if_pos ⟨(sh_int (A := B)).shaped, e2⟩, any_ints]
theorem find_and {rs : List Row} (nd : (rs.map (·.thing)).Nodup) {t : Int} {c : Row → Bool} : (rs.find? fun r => decide (r.thing = t) && c r) = (rs.find? fun r => decide (r.thing = t)).filter c := by
  induction rs with
  | nil => rfl
  | cons r rs ih =>
    rw [List.map_cons, List.nodup_cons] at nd
    rw [List.find?_cons, List.find?_cons]
    by_cases e : r.thing = t
    · cases hc : c r with
      | true => simp [e, hc, Option.filter]
      | false =>
        simp [e, hc, Option.filter]
        intro q hq hqt
        exact absurd (List.mem_map_of_mem (f := (·.thing)) hq) (by rw [hqt, ← e]; exact nd.1)
    · simp [e]
      have := ih nd.2
      simpa using this
theorem D_spot_of_eq {L : Nat} {A B : HostSt} (h : StOk L A) {s : Spot} (hs : SpotOk s) : D__law_spot_of [encS A, .rule A.rule, encSpot s] B = .ok (placeL (spotPlace A s)) := by
  unfold D__law_spot_of b__law_spot_of spotPlace
  by_cases h0 : s.path = []
  · simp [eqD_nil hs.path, h0, placeL]
  · cases hb : s.base with
    | s x => simp [eqD_nil hs.path, h0, placeL, areaD, isStrD, hb]
    | i t =>
      simp [eqD_nil hs.path, h0, areaD, isStrD, hb]
      rw [for_map encRow (fun r => decide (r.thing = t) && (decide (t ∈ A.opened) && decide (r.kind = "folder"))) (fun r => .tup [areaD r.area, pathD (r.path ++ s.path)]) (fun r hr => ?_)]
      · rw [find_and h.nd, show (A.rows.find? fun r => decide (r.thing = t)) = A.row t from rfl]
        cases hr : A.row t with
        | none => simp [placeL]
        | some r =>
          by_cases z1 : t ∈ A.opened <;> by_cases z2 : r.kind = "folder" <;> simp [Option.filter, z1, z2, placeL]
      · have o := h.rows r hr
        have l1 := o.plen
        have l2 := hs.len
        have l0 := h.lim
        have hk := eqD_kind (A := B) o ok_folder
        simp [hk, inLD_ints, hb, areaD]
        by_cases q1 : r.thing = t <;> by_cases q2 : t ∈ A.opened <;> by_cases q3 : r.kind = "folder" <;> simp [q1, q2, q3, hb, areaD, inLD_ints, addD_path (p := r.path) (q := s.path) (by omega)]
end FK
set_option Elab.async false
set_option linter.all false
set_option maxRecDepth 100000
set_option maxHeartbeats 2000000
/-! The plain law: the law's model, its changes. -/
namespace FK
open PySem L2
theorem D_row_at_eq {L : Nat} {A B : HostSt} (h : StOk L A) {s : Spot} (hs : SpotOk s) : D__law_row_at [encS A, .rule A.rule, encSpot s] B = .ok (rowD (thingAt A s)) := by
  unfold D__law_row_at b__law_row_at thingAt
  simp [D_spot_of_eq h hs]
  cases q : spotPlace A s with
  | none => simp [placeL]
  | some z =>
    obtain ⟨a, p⟩ := z
    obtain ⟨o, _⟩ := spotPlace_ok h hs q
    simp [placeL, D_law_at_eq h o.area o.path]
theorem D_file_at_eq {L : Nat} {A B : HostSt} (h : StOk L A) {t : Tgt} (ht : TgtOk t) : D__law_file_at [encS A, .rule A.rule, encTgt t] B = .ok (rowD (fileNamed A t)) := by
  unfold D__law_file_at b__law_file_at fileNamed
  cases t with
  | thing t =>
    simp [encTgt, isIntD]
    rw [for_map encRow (fun r => decide (r.thing = t) && (decide (r.kind = "file") && decide (t ∈ A.opened))) encRow (fun r hr => ?_)]
    · rw [find_and h.nd, show (A.rows.find? fun r => decide (r.thing = t)) = A.row t from rfl]
      cases hr : A.row t with
      | none => simp
      | some r => by_cases z1 : t ∈ A.opened <;> by_cases z2 : r.kind = "file" <;> simp [Option.filter, z1, z2]
    · have o := h.rows r hr
      have hk := eqD_kind (A := B) o ok_file
      simp [hk, inLD_ints]
      by_cases q1 : r.thing = t <;> by_cases q2 : t ∈ A.opened <;> by_cases q3 : r.kind = "file" <;> simp [q1, q2, q3, inLD_ints]
  | spot s =>
    have e0 : isIntD (encSpot s) B = .ok (.bl false) := rfl
    simp [encTgt, e0, D_row_at_eq h ht]
    cases q : thingAt A s with
    | none => simp
    | some r =>
      have hm := thingAt_mem q
      have hk := neD_kind (A := B) (h.rows r hm) ok_file
      simp [hk]
      by_cases hk : r.kind = "file" <;> simp [hk, Option.filter]
theorem addD_lst {x y : List D} {B : HostSt} (h : x.length + y.length ≤ 1000) : addD (.lst x) (.lst y) B = .ok (.lst (x ++ y)) := by
  unfold addD
  dsimp only
  rw [if_pos h]
theorem D_put_eq {L : Nat} {A B : HostSt} (h : StOk L A) {a : Area} {p : List Str} {k x : Str} {b s : Bool} : D__law_put [encS A, areaD a, pathD p, .str k, .str x, .bl b, .bl s] B = .ok (encS (makeT A a p k x b s)) := by
  unfold D__law_put b__law_put
  have e := addD_lst (B := B) (x := A.rows.map encRow) (y := [.lst [areaD a, pathD p, .int A.next, .str k, .str x, .bl b, .int 0, .int 0, .bl s]]) (by have := h.nr; simp; omega)
  have e2 : addD (rowsD A.rows) (.lst [.lst [areaD a, pathD p, .int A.next, .str k, .str x, .bl b, .int 0, .int 0, .bl s]]) B = .ok (rowsD (A.rows ++ [⟨a, p, A.next, k, x, b, 0, 0, s⟩])) := by
    unfold rowsD
    rw [e, List.map_append]
    rfl
  simp [e2]
  rfl
theorem D_gone_eq {L : Nat} {A B : HostSt} (h : StOk L A) {t : Int} : D__law_gone [encS A, .int t] B = .ok (encS (goneT A t)) := by
  unfold D__law_gone b__law_gone
  have e1 : lcGo 2 (tOfV (vBin neD (vBin ixD (vVar 2) (vC (.int 2))) (vVar 1))) (vVar 2) [some (encS A), some (.int t), none] B (A.rows.map encRow) [] = .ok ([] ++ (A.rows.filter fun r => !decide (r.thing = t)).map encRow) := by
    refine lc_map encRow (fun r => !decide (r.thing = t)) encRow (fun r hr => ?_) (fun r hr _ => ?_) (by have := h.nr; simp; omega)
    · simp
    · simp
  simp [e1]
  rfl
theorem sAcc_of {i j : Nat} {it : Iv} {t : Tv} {e : Ev} {ρ : Env} {A : HostSt} {ds l : List D} (h1 : it (List.set ρ j none) A = .ok ds) (hi : i < ρ.length) (hj : j < ρ.length) (hij : i ≠ j) (h2 : lcGo i t e (List.set ρ j none) A ds [] = .ok l) :
    sAcc i j it t e ρ A = .next (List.set (List.set (List.set ρ j none) i none) j (some (.lst l))) := by
  unfold sAcc
  rw [h1]
  dsimp only
  rw [if_pos ⟨hi, hj, hij⟩, h2]
theorem filter_true {α : Type} (l : List α) : l.filter (fun _ => true) = l := List.filter_eq_self.mpr fun _ _ => rfl
theorem D_carried_eq {L M : Nat} {A B : HostSt} (h : StOk L A) {r : Row} (or : RowOk M r) {a : Area} {p : List Str} (hl : p.length + L ≤ 1000) : D__law_carried [encS A, encRow r, areaD a, pathD p] B = .ok (encS (carryT A r a p)) := by
  have e0 : D__law_moved [rowsD A.rows, encRow r, areaD a, pathD p] B = .ok (rowsD (A.rows.map (mv r a p))) := by
    unfold D__law_moved b__law_moved
    have e2 := sAcc_of (i := 6) (j := 5) (it := itL (vVar 0)) (t := tvYes) (e := vIf (tvAnd (tOfV (vBin eqD (vBin ixD (vVar 6) (vC (.int 0))) (vBin ixD (vVar 4) (vC (.int 0))))) (tOfV (vBin eqD (vSl (vBin ixD (vVar 6) (vC (.int 1))) oNone (oSome (vApp lenD (vCons (vBin ixD (vVar 4) (vC (.int 1))) vNil)))) (vBin ixD (vVar 4) (vC (.int 1)))))) (vLst (vCons (vVar 2) (vCons (vBin addD (vVar 3) (vSl (vBin ixD (vVar 6) (vC (.int 1))) (oSome (vApp lenD (vCons (vBin ixD (vVar 4) (vC (.int 1))) vNil))) oNone)) (vCons (vBin ixD (vVar 6) (vC (.int 2))) (vCons (vBin ixD (vVar 6) (vC (.int 3))) (vCons (vBin ixD (vVar 6) (vC (.int 4))) (vCons (vBin ixD (vVar 6) (vC (.int 5))) (vCons (vBin ixD (vVar 6) (vC (.int 6))) (vCons (vBin ixD (vVar 6) (vC (.int 7))) (vCons (vC (.bl false)) vNil)))))))))) (vVar 6))
      (ρ := [some (rowsD A.rows), some (encRow r), some (areaD a), some (pathD p), some (.tup [areaD r.area, pathD r.path]), none, none]) (A := B) (ds := A.rows.map encRow) (l := [] ++ (A.rows.filter fun _ => true).map fun q => encRow (mv r a p q)) (by simp) (by simp) (by simp) (by decide)
      (lc_map encRow (fun _ => true) (fun q => encRow (mv r a p q)) (fun q hq => by simp) (fun q hq _ => by
        have oq := h.rows q hq
        have l1 := oq.plen
        have ea : addD (pathD p) (pathD (q.path.drop r.path.length)) B = .ok (pathD (p ++ q.path.drop r.path.length)) := addD_path (by rw [List.length_drop]; omega)
        simp [eqD_area oq.area or.area, slD_to, slD_from, eqD_path (oq.path.take _) or.path, ea]
        unfold mv inW
        by_cases z1 : q.area = r.area <;> by_cases z2 : q.path.take r.path.length = r.path <;> simp [z1, z2]
        rfl) (by have := h.nr; simp; omega))
    rw [filter_true] at e2
    simp [e2]
    unfold rowsD
    rw [List.map_map]
    rfl
  unfold D__law_carried b__law_carried
  simp [e0]
  rfl
theorem D_with_text_eq {L : Nat} {A B : HostSt} (h : StOk L A) {r : Row} (hr : r ∈ A.rows) {x : Str} {b : Bool} {c : Int} : D__law_with_text [encS A, encRow r, .str x, .bl b, .int c] B = .ok (encS (A.setRow { wr r x b with cuts := r.cuts + c })) := by
  unfold D__law_with_text b__law_with_text
  have e2 := sAcc_of (i := 6) (j := 5) (it := itL (vBin ixD (vVar 0) (vC (.int 0)))) (t := tvYes) (e := vIf (tOfV (vBin eqD (vBin ixD (vVar 6) (vC (.int 2))) (vBin ixD (vVar 1) (vC (.int 2))))) (vLst (vCons (vBin ixD (vVar 1) (vC (.int 0))) (vCons (vBin ixD (vVar 1) (vC (.int 1))) (vCons (vBin ixD (vVar 1) (vC (.int 2))) (vCons (vBin ixD (vVar 1) (vC (.int 3))) (vCons (vVar 2) (vCons (vVar 3) (vCons (vBin addD (vBin ixD (vVar 1) (vC (.int 6))) (vC (.int 1))) (vCons (vBin addD (vBin ixD (vVar 1) (vC (.int 7))) (vVar 4)) (vCons (vBin ixD (vVar 1) (vC (.int 8))) vNil)))))))))) (vVar 6))
    (ρ := [some (encS A), some (encRow r), some (.str x), some (.bl b), some (.int c), none, none]) (A := B) (ds := A.rows.map encRow) (l := [] ++ (A.rows.filter fun _ => true).map fun q => encRow (if q.thing = r.thing then { wr r x b with cuts := r.cuts + c } else q)) (by simp) (by simp) (by simp) (by decide)
    (lc_map encRow (fun _ => true) (fun q => encRow (if q.thing = r.thing then { wr r x b with cuts := r.cuts + c } else q)) (fun q hq => by simp) (fun q hq _ => by
      simp
      by_cases z1 : q.thing = r.thing <;> simp [z1]
      rfl) (by have := h.nr; simp; omega))
  rw [filter_true] at e2
  simp [e2]
  unfold encS HostSt.setRow rowsD
  rw [List.map_map]
  rfl
theorem D_filled_eq {L M : Nat} {A B : HostSt} (h : StOk L A) {r : Row} (or : RowOk M r) : D__law_filled [rowsD A.rows, encRow r] B = .ok (.bl (holds A r)) := by
  unfold D__law_filled b__law_filled holds
  simp
  rw [for_map encRow (fun q => inW q r.area r.path && decide (r.path.length < q.path.length)) (fun _ => D.bl true) (fun q hq => ?_)]
  · cases A.rows.find? (fun q => inW q r.area r.path && decide (r.path.length < q.path.length)) <;> simp
  · have oq := h.rows q hq
    simp [eqD_area oq.area or.area, slD_to, eqD_path (oq.path.take _) or.path]
    unfold inW
    by_cases z1 : q.area = r.area <;> by_cases z2 : q.path.take r.path.length = r.path <;> by_cases z3 : r.path.length < q.path.length <;> simp [z1, z2, z3]
end FK
set_option Elab.async false
set_option linter.all false
set_option maxRecDepth 100000
set_option maxHeartbeats 4000000
/-! The plain law: the law's step for a deed. -/
namespace FK
open PySem L2
def KaAll (A : HostSt) : Prop := ∀ r ∈ A.rows, KA r.area
theorem spotPlace_ka {A : HostSt} (hk : KaAll A) {s : Spot} (hs : SpotOk s) {a : Area} {p : List Str} (e : spotPlace A s = some (a, p)) : KA a := by
  unfold spotPlace at e
  split at e
  · cases e
  · split at e
    · rename_i x hb
      cases e
      have := hs.ka
      rw [hb] at this
      exact this
    · split at e
      · rename_i r hr
        split at e
        · cases e
          exact hk r (row_mem hr).1
        · cases e
      · cases e
def stD : Option HostSt → D
  | some A => encS A
  | none => .non
@[simp] theorem stD_some {A : HostSt} : stD (some A) = encS A := rfl
@[simp] theorem stD_none : stD none = .non := rfl
@[simp] theorem placeL0 {a : Area} {p : List Str} {B : HostSt} : ixD (.tup [areaD a, pathD p]) (.int 0) B = .ok (areaD a) := ix_tup0
theorem fits_filter {r : RuleD} {x : Str} : (0 < (r.unfit.filter fun u => sameN r.alike u x).length) ↔ fitsN r x = false := by
  rw [fitsN_find]
  generalize r.unfit = l
  induction l with
  | nil => simp
  | cons u l ih =>
    rw [List.filter_cons, List.find?_cons]
    cases q : sameN r.alike u x with
    | true => simp
    | false => simpa using ih
theorem D_law_renamed_eq {L : Nat} {A B : HostSt} (h : StOk L A) (hL : L ≤ 200) (hk : KaAll A) {s g : Spot} (hs : SpotOk s) (hg : SpotOk g) : D__law_renamed [encS A, .rule A.rule, encSpot s, encSpot g] B = .ok (stD (renameT A s g)) := by
  unfold D__law_renamed b__law_renamed renameT
  simp [D_row_at_eq h hs, D_spot_of_eq h hg]
  cases hq : thingAt A s with
  | none => simp
  | some r =>
    have hm := thingAt_mem hq
    have or := h.rows r hm
    simp
    cases hp : spotPlace A g with
    | none => simp [placeL]
    | some z =>
      obtain ⟨a, p⟩ := z
      obtain ⟨o, hne⟩ := spotPlace_ok h hg hp
      have ka := spotPlace_ka hk hg hp
      simp [placeL, D_law_at_eq h o.area o.path]
      cases hn : nodeAt A.rule.alike A.rows a p with
      | none =>
        simp [D_law_free_eq h ka o.path]
        cases hf : freePath A a p with
        | none => simp [optP]
        | some q =>
          obtain ⟨f1, f2, f3⟩ := freePath_ok h o.path hf
          have ec := D_carried_eq (B := B) h or (a := a) (p := q) (by omega)
          have ea := eqD_area (A := B) o.area or.area
          simp only at ea
          simp [optP, ea, slD_to, eqD_path (f1.take _) or.path, ec]
          by_cases z1 : a = r.area <;> by_cases z2 : q.take r.path.length = r.path <;> simp [z1, z2]
          · subst z1; simp [ec]
          · simp [ec]
          · simp [ec]
      | some o2 =>
        obtain ⟨hm2, e2, _⟩ := nodeAt_mem hn
        have or2 := h.rows o2 hm2
        simp
        by_cases z1 : o2.thing = r.thing
        · have e3 : o2 = r := row_unique h.nd hm2 hm z1
          subst e3
          subst e2
          simp
          rcases List.eq_nil_or_concat p with e | ⟨q, x, e⟩
          · exact absurd e hne
          · rw [List.concat_eq_append] at e
            subst e
            have hx : x ∈ menu := o.path x (by simp)
            have l5 := menu_len x hx
            have l48 : A.rule.longest = 48 := h.rule.2.2
            have n48 : ¬ ((48 : Int) < (x.length : Int)) := by omega
            have lc : ∀ v0 v2 v3 v4 v5 v6 v7 v9 : Option D, lcGo 10 (tOfV (vCall 3 D__law_same (vCons (vUn (fdR fun r => pathD r.alike) (vVar 1)) (vCons (vTup (vCons (vVar 10) vNil)) (vCons (vTup (vCons (vVar 8) vNil)) vNil))))) (vVar 10) [v0, some (.rule A.rule), v2, v3, v4, v5, v6, v7, some (.str x), v9, none] B (A.rule.unfit.map .str) [] = .ok ([] ++ (A.rule.unfit.filter fun u => sameN A.rule.alike u x).map D.str) := by
              intro v0 v2 v3 v4 v5 v6 v7 v9
              refine lc_map D.str (fun u => sameN A.rule.alike u x) D.str (fun u hu => ?_) (fun u hu _ => ?_) ?_
              · simp [law_same_one h.rule.1 (unfit_menu h.rule.2.1 u hu) hx]
              · simp
              · have : ∀ u ∈ unfits, u.length ≤ 2 := by decide
                have := this _ h.rule.2.1
                simp; omega
            have ec := D_carried_eq (B := B) h or (a := o2.area) (p := o2.path.dropLast ++ [x]) (by have := or.plen; simp; omega)
            have e4 : D.tup [.str x] = pathD [x] := rfl
            have ep := addD_path (A := B) (p := o2.path.dropLast) (q := [x]) (by have := or.plen; simp; omega)
            simp [path_last, lc, lenD_str (z := x) (A := B) (by omega), l48, n48, slD_init, e4, ep, ec]
            have nx : (∃ u, u ∈ A.rule.unfit ∧ sameN A.rule.alike u x = true) ↔ fitsN A.rule x = false := by simp [fitsN]
            cases hf : fitsN A.rule x with
            | true => simp [nx, hf, ec, slD_init, e4, ep]
            | false => simp [nx, hf]
        · simp [z1]
          have k1 := eqD_kind (A := B) or ok_folder
          have k2 := eqD_kind (A := B) or2 ok_folder
          simp [k1, k2]
          by_cases z2 : r.kind = "folder"
          · simp [z2]
          · by_cases z3 : o2.kind = "folder"
            · simp [z2, z3]
            · have ec := D_carried_eq (B := B) (gone_ok h o2.thing) or (a := o2.area) (p := o2.path) (by have := or2.plen; omega)
              rw [e2] at ec
              simp [z2, z3, D_gone_eq h, ec, e2]
end FK
set_option Elab.async false
set_option linter.all false
set_option maxRecDepth 100000
set_option maxHeartbeats 4000000
/-! The plain law: the law's step for a deed, on. -/
namespace FK
open PySem L2
@[simp] theorem beq_word {s t : String} : (Str.ofString s == Str.ofString t) = decide (s = t) := by
  rw [Bool.eq_iff_iff]
  simp [ofString_inj]
@[simp] theorem inTD_3 {w a b c : String} {B : HostSt} : inTD (.str (Str.ofString w)) (.tup [.str (Str.ofString a), .str (Str.ofString b), .str (Str.ofString c)]) B = .ok (.bl (decide (a = w) || (decide (b = w) || decide (c = w)))) := by
  unfold inTD
  simp only [strsOf, Option.map_some, List.any_cons, List.any_nil, beq_word, Bool.or_false]
@[simp] theorem inTD_6 {w a b c d e f : String} {B : HostSt} : inTD (.str (Str.ofString w)) (.tup [.str (Str.ofString a), .str (Str.ofString b), .str (Str.ofString c), .str (Str.ofString d), .str (Str.ofString e), .str (Str.ofString f)]) B = .ok (.bl (decide (a = w) || (decide (b = w) || (decide (c = w) || (decide (d = w) || (decide (e = w) || decide (f = w))))))) := by
  unfold inTD
  simp only [strsOf, Option.map_some, List.any_cons, List.any_nil, beq_word, Bool.or_false]
theorem intsOf_map : ∀ l : List Int, intsOf (l.map D.int) = some l
  | [] => rfl
  | x :: l => by simp only [List.map_cons, intsOf, intsOf_map l, Option.map_some]
theorem vIdx_eq {a b : Ev} {ρ : Env} {A : HostSt} {l : List Int} {t : Int} (h1 : a ρ A = .ok (.lst (l.map .int))) (h2 : b ρ A = .ok (.int t)) (h3 : t ∈ l) : vIdx a b ρ A = .ok (.int (l.idxOf t : Nat)) := by
  unfold vIdx
  rw [h1, h2]
  show idxD (.lst (l.map .int)) (.int t) A = _
  unfold idxD
  dsimp only
  rw [intsOf_map]
  dsimp only
  rw [if_pos h3]
theorem erase_cut (t : Int) : ∀ l : List Int, l.take (l.idxOf t) ++ l.drop (l.idxOf t + 1) = l.erase t
  | [] => by simp
  | x :: l => by
    by_cases h : x = t
    · subst h
      simp
    · have e : (x :: l).idxOf t = l.idxOf t + 1 := by
        have : (x == t) = false := by simpa using h
        simp only [List.idxOf, List.findIdx_cons, this]
        rfl
      rw [e, List.take_succ_cons, List.drop_succ_cons, List.cons_append, erase_cut t l, List.erase_cons_tail (by simpa using h)]
theorem slD_lst_to {l : List D} {j : Nat} : slD none (some (j : Int)) (.lst l) = .ok (.lst (l.take j)) := by
  unfold slD
  dsimp only
  rw [cut_to]
theorem slD_lst_from {l : List D} {j : Nat} : slD (some ((j : Int) + 1)) none (.lst l) = .ok (.lst (l.drop (j + 1))) := by
  unfold slD
  dsimp only
  rw [show ((j : Int) + 1) = ((j + 1 : Nat) : Int) by omega, cut_from]
theorem kind5a : cutS (Str.ofString "make_folder") (some 5) none = Str.ofString "folder" := by decide +kernel
theorem kind5b : cutS (Str.ofString "make_other") (some 5) none = Str.ofString "other" := by decide +kernel
theorem slD_word {s t : String} (h : cutS (Str.ofString s) (some 5) none = Str.ofString t) (hl : (Str.ofString s).length ≤ 100000) : slD (some 5) none (.str (Str.ofString s)) = .ok (.str (Str.ofString t)) := by
  rw [slD_str hl, h]
theorem make_free {L : Nat} {A B : HostSt} (h : StOk L A) (hk : KaAll A) {s : Spot} (hs : SpotOk s) {a : Area} {p : List Str} (hp : spotPlace A s = some (a, p)) : D__law_free [rowsD A.rows, .rule A.rule, areaD a, pathD p] B = .ok (optP (freePath A a p)) := by
  obtain ⟨o, _⟩ := spotPlace_ok h hs hp
  exact D_law_free_eq h (spotPlace_ka hk hs hp) o.path
theorem roomAt_some {A : HostSt} {s : Spot} {a : Area} {p : List Str} (hp : spotPlace A s = some (a, p)) : roomAt A s = (freePath A a p).map fun q => (a, q) := by
  unfold roomAt
  rw [hp]
  rfl
theorem roomAt_none {A : HostSt} {s : Spot} (hp : spotPlace A s = none) : roomAt A s = none := by
  unfold roomAt
  rw [hp]
  rfl
@[simp] theorem placeL1 {a : Area} {p : List Str} {B : HostSt} : ixD (.tup [areaD a, pathD p]) (.int 1) B = .ok (pathD p) := ix_tup1
theorem eqD_beq {b c : Bool} {B : HostSt} : neD (.bl b) (.bl c) B = .ok (.bl (!(b == c))) := by
  rw [neD_of sh_bl sh_bl]
  simp [PyData.eqv]
theorem D_done_in_eq {L : Nat} {A B : HostSt} (h : StOk L A) {d : Deed} (hd : DeedOk d) (hk : match d with | .cut _ => True | .write _ _ _ => True | .setRuns _ _ => True | .read _ => True | _ => False) : D__law_done_in [encS A, .rule A.rule, encDeed d] B = .ok (stD (step A d)) := by
  unfold D__law_done_in b__law_done_in
  cases d with
  | cut t =>
    simp [encDeed, D_file_at_eq h hd, step, cutT]
    cases q : fileNamed A t with
    | none => simp
    | some r =>
      have e := D_with_text_eq (B := B) h (fileNamed_mem q).1 (x := "") (b := r.runs) (c := 1)
      simp [e]
  | write t n x =>
    simp [encDeed, D_file_at_eq h hd.1, step, writeT]
    cases q : fileNamed A t with
    | none => simp
    | some r =>
      have hm := (fileNamed_mem q).1
      have o := h.rows r hm
      have l1 := o.tlen
      have l2 := hd.2.2
      have c1 := cutS_len (z := r.text) (lo := none) (hi := some n)
      have c2 := cutS_len (z := r.text) (lo := some (n + x.length)) (hi := none)
      have a1 : addD (.str (cutS r.text none (some n))) (.str x) B = .ok (.str (cutS r.text none (some n) ++ x)) := addD_str (by omega)
      have a2 : addD (.str (cutS r.text none (some n) ++ x)) (.str (cutS r.text (some (n + x.length)) none)) B = .ok (.str (wtext r.text n x)) := addD_str (by rw [app_len]; omega)
      have e := D_with_text_eq (B := B) h hm (x := wtext r.text n x) (b := r.runs) (c := 0)
      have e2 : ({ wr r (wtext r.text n x) r.runs with cuts := r.cuts + 0 } : Row) = wr r (wtext r.text n x) r.runs := by simp [wr]
      rw [e2] at e
      simp [lenD_str (z := r.text) (A := B) (by omega)]
      by_cases z : (r.text.length : Int) < n
      · simp [z]
      · simp [z, lenD_str (z := x) (A := B) (by omega), slD_str (z := r.text) (by omega), a1, a2, e]
  | setRuns t b =>
    simp [encDeed, D_file_at_eq h hd, step, runsT]
    cases q : fileNamed A t with
    | none => simp
    | some r =>
      have e := D_with_text_eq (B := B) h (fileNamed_mem q).1 (x := r.text) (b := b) (c := 0)
      have e2 : ({ wr r r.text b with cuts := r.cuts + 0 } : Row) = wr r r.text b := by simp [wr]
      rw [e2] at e
      simp [e]
  | read t =>
    simp [encDeed, D_file_at_eq h hd, step, readT]
    cases q : fileNamed A t with
    | none => simp
    | some r =>
      have e := addD_lst (B := B) (x := A.had.map encHad) (y := [.tup [.int r.thing, .int r.count]]) (by have := h.nh; simp; omega)
      simp [e]
      unfold encS
      simp
      rfl
  | _ => exact hk.elim
theorem D_done_eq {L : Nat} {A B : HostSt} (h : StOk L A) (hL : L ≤ 200) (ha : KaAll A) (hn : ∀ r ∈ A.rows, r.kind ≠ "folder" → holds A r = false) {d : Deed} (hd : DeedOk d) : D__law_done [encS A, .rule A.rule, encDeed d] B = .ok (stD (step A d)) := by
  unfold D__law_done b__law_done
  cases d with
  | make s x b =>
    simp [encDeed, D_spot_of_eq h hd.1, step]
    cases hp : spotPlace A s with
    | none => simp [placeL, roomAt_none hp]
    | some z =>
      obtain ⟨a, p⟩ := z
      simp [placeL, roomAt_some hp, make_free h ha hd.1 hp]
      cases hf : freePath A a p with
      | none => simp [optP]
      | some q =>
        have e := D_put_eq (B := B) h (a := a) (p := q) (k := "file") (x := x) (b := b) (s := false)
        simp [optP, e]
  | makeFolder s =>
    simp [encDeed, D_spot_of_eq h hd, step]
    cases hp : spotPlace A s with
    | none => simp [placeL, roomAt_none hp]
    | some z =>
      obtain ⟨a, p⟩ := z
      simp [placeL, roomAt_some hp, make_free h ha hd hp]
      cases hf : freePath A a p with
      | none => simp [optP]
      | some q =>
        have e := D_put_eq (B := B) h (a := a) (p := q) (k := "folder") (x := "") (b := false) (s := false)
        simp [optP, slD_word kind5a (by decide +kernel), e]
  | makeOther s =>
    simp [encDeed, D_spot_of_eq h hd, step]
    cases hp : spotPlace A s with
    | none => simp [placeL, roomAt_none hp]
    | some z =>
      obtain ⟨a, p⟩ := z
      simp [placeL, roomAt_some hp, make_free h ha hd hp]
      cases hf : freePath A a p with
      | none => simp [optP]
      | some q =>
        have e := D_put_eq (B := B) h (a := a) (p := q) (k := "other") (x := "") (b := false) (s := false)
        simp [optP, slD_word kind5b (by decide +kernel), e]
  | remove s =>
    simp [encDeed, D_row_at_eq h hd, step, removeT]
    cases q : thingAt A s with
    | none => simp
    | some r =>
      have hm := thingAt_mem q
      have o := h.rows r hm
      have hk := eqD_kind (A := B) o ok_folder
      simp [hk, eqD_beq]
      by_cases z : r.kind = "folder"
      · simp [z]
      · simp [z, D_filled_eq h o, hn r hm z, D_gone_eq h]
  | removeFolder s =>
    simp [encDeed, D_row_at_eq h hd, step, removeFT]
    cases q : thingAt A s with
    | none => simp
    | some r =>
      have hm := thingAt_mem q
      have o := h.rows r hm
      have hk := eqD_kind (A := B) o ok_folder
      simp [hk, eqD_beq, D_filled_eq h o]
      by_cases z : r.kind = "folder" <;> cases z2 : holds A r <;> simp [z, D_gone_eq h]
  | rename s g => simp [encDeed, D_law_renamed_eq h hL ha hd.1 hd.2, step]
  | opens s =>
    simp [encDeed, D_row_at_eq h hd, step, openT]
    cases q : thingAt A s with
    | none => simp
    | some r =>
      have e := addD_lst (B := B) (x := [.int r.thing]) (y := A.opened.map .int) (by have := h.no; simp; omega)
      simp [e]
      rfl
  | close t =>
    simp [encDeed, ninLD_ints, step, closeT]
    by_cases z : t ∈ A.opened
    · have e := addD_lst (B := B) (x := (A.opened.map D.int).take (A.opened.idxOf t)) (y := (A.opened.map D.int).drop (A.opened.idxOf t + 1)) (by have := h.no; simp; omega)
      have ei : vIdx (vBin ixD (vVar 0) (vC (.int 1))) (vBin ixD (vVar 2) (vC (.int 1))) [some (encS A), some (.rule A.rule), some (.tup [.str (Str.ofString "close"), .int t]), some (.str (Str.ofString "close")), none, none, none, none] B = .ok (.int (A.opened.idxOf t : Nat)) := vIdx_eq (l := A.opened) (by simp) (by simp) z
      simp [z, ei, slD_lst_to, slD_lst_from, e]
      rw [← List.map_take, ← List.map_drop, ← List.map_append, erase_cut]
      rfl
    · simp [z]
  | cut t =>
    have e := D_done_in_eq (B := B) h (d := .cut t) hd trivial
    simp only [encDeed] at e
    simp [encDeed, e]
  | write t n x =>
    have e := D_done_in_eq (B := B) h (d := .write t n x) hd trivial
    simp only [encDeed] at e
    simp [encDeed, e]
  | setRuns t b =>
    have e := D_done_in_eq (B := B) h (d := .setRuns t b) hd trivial
    simp only [encDeed] at e
    simp [encDeed, e]
  | read t =>
    have e := D_done_in_eq (B := B) h (d := .read t) hd trivial
    simp only [encDeed] at e
    simp [encDeed, e]
end FK
set_option Elab.async false
set_option linter.all false
set_option maxRecDepth 100000
set_option maxHeartbeats 4000000
/-! The plain law: trees. -/
namespace FK
open PySem L2
def standsD (r : Row) : D := .tup [pathD r.path, .str r.kind, .int r.thing, .int r.count, .int r.cuts, .str r.text, .bl r.runs]
def pathP (p : List Str) : PyData := .tuple (p.map .str)
def standsP (r : Row) : PyData := .tuple [pathP r.path, .str r.kind, .int r.thing, .int r.count, .int r.cuts, .str r.text, .bool r.runs]
theorem toPy_path {A : HostSt} {p : List Str} : toPy A (pathD p) = some (pathP p) := by
  unfold pathD pathP
  simp only [toPy, toPys_strs, Option.map_some]
theorem toPy_stands {A : HostSt} {r : Row} : toPy A (standsD r) = some (standsP r) := by
  unfold standsD standsP
  simp only [toPy, toPys, toPy_path, Option.bind_some, Option.map_some]
theorem pyD_stands {A : HostSt} {r : Row} : pyD A (standsD r) = standsP r := by
  unfold pyD
  rw [toPy_stands]
  rfl
theorem encK_stands {r : Row} : encK (standsD r) = pathP r.path := by
  unfold encK keyStrs standsD pathD
  simp only [strsOf_map, Option.getD_some]
  rfl
theorem keyStrs_stands {r : Row} : keyStrs (standsD r) = some r.path := by
  unfold keyStrs standsD pathD
  exact strsOf_map _
def treeL (A : HostSt) (a : Area) : List D := (A.rows.filter fun r => decide (r.area = a)).map standsD
theorem D_stands {L : Nat} {A : HostSt} (h : StOk L A) {r : Row} (hr : r ∈ A.rows) : D_Node_stands [.node r.thing] A = .ok (standsD r) := by
  unfold D_Node_stands b_Node_stands
  simp [fdN_eq (h.row hr), fdCuts_node (h.row hr)]
  rfl
theorem vMethN_of {f : List D → HostSt → Res D} {o : Ev} {ρ : Env} {A : HostSt} {t : Int} {r : Row} (h1 : o ρ A = .ok (.node t)) (h2 : A.row t = some r) : vMethN f o ρ A = f [.node t] A := by
  unfold vMethN
  rw [h1]
  show (match A.row t with | some _ => _ | none => _) = _
  rw [h2]
theorem D_area_list_eq {L : Nat} {A : HostSt} (h : StOk L A) {a : Area} (ha : AreaOk a) : D_Host_area_list [.host, areaD a] A = .ok (.lst ((treeL A a).mergeSort (PySem.W.dataLe false encK))) := by
  unfold D_Host_area_list b_Host_area_list
  have e1 : lcGo 2 (tOfV (vBin eqD (vUn (fdN fun r => areaD r.area) (vVar 2)) (vVar 1))) (vMethN D_Node_stands (vVar 2)) [some .host, some (areaD a), none] A (A.rows.map fun r => D.node r.thing) [] = .ok ([] ++ (A.rows.filter fun r => decide (r.area = a)).map standsD) := by
    refine lc_map (fun r : Row => D.node r.thing) (fun r => decide (r.area = a)) standsD (fun r hr => ?_) (fun r hr _ => ?_) (by have := h.nr; simp; omega)
    · simp [fdN_eq (h.row hr), eqD_area (h.rows r hr).area ha]
    · rw [vMethN_of (t := r.thing) (by simp) (h.row hr), D_stands h hr]
  have e2 : sortKD (.lst ((A.rows.filter fun r => decide (r.area = a)).map standsD)) A = .ok (.lst ((treeL A a).mergeSort (PySem.W.dataLe false encK))) := by
    unfold sortKD treeL
    dsimp only
    rw [if_pos]
    refine ⟨?_, ?_⟩
    · rw [List.all_map, List.all_eq_true]
      intro r _
      simp only [Function.comp, keyStrs_stands, Option.isSome_some]
    · rw [List.length_map]
      exact Nat.le_trans (List.length_filter_le _ _) (by have := h.nr; omega)
  simp [e1, e2]
theorem alike_strs : ∀ p q : List Str, PySem.W.alikeAll (p.map PyData.str) (q.map PyData.str) = true
  | [], _ => by simp [PySem.W.alikeAll]
  | _ :: _, [] => by simp [PySem.W.alikeAll]
  | x :: p, y :: q => by simp only [List.map_cons, PySem.W.alikeAll, PySem.W.alike, alike_strs p q, Bool.and_self]
theorem alike_path (p q : List Str) : PySem.W.alike (pathP p) (pathP q) = true := by
  unfold pathP
  simp only [PySem.W.alike, alike_strs]
theorem alike_stands (r s : Row) : PySem.W.alike (standsP r) (standsP s) = true := by
  unfold standsP
  simp only [PySem.W.alike, PySem.W.alikeAll, alike_path, Bool.and_self]
theorem stands_depth (r : Row) : (standsP r).depth ≤ 60 := by
  unfold standsP pathP
  simp only [PyData.depth, PyData.depthAll]
  have := depthAll_map (g := PyData.str) (n := 0) (l := r.path) fun _ _ => by simp [PyData.depth]
  omega
theorem sortOk_rows {B : HostSt} {l : List Row} {e : Row → D} {g : Row → PyData} (h1 : ∀ r ∈ l, toPy B (e r) = some (g r)) (h2 : ∀ r ∈ l, ∀ s ∈ l, PySem.W.alike (g r) (g s) = true) (h3 : ∀ r ∈ l, ∃ x y, g r = .tuple (x :: y)) (h4 : ∀ r ∈ l, (g r).depth ≤ 60) (h5 : l.length ≤ 1000) : SortOk B (l.map e) := by
  have hp : ∀ r ∈ l, pyD B (e r) = g r := fun r hr => by
    unfold pyD
    rw [h1 r hr]
    rfl
  refine ⟨fun d hd => ?_, fun d hd d' hd' => ?_, .inl fun d hd => ?_, fun d hd => ?_, by rw [List.length_map]; exact h5⟩
  · obtain ⟨r, hr, rfl⟩ := List.mem_map.mp hd
    exact ⟨_, h1 r hr⟩
  · rw [List.map_map] at hd hd'
    obtain ⟨r, hr, rfl⟩ := List.mem_map.mp hd
    obtain ⟨s, hs, rfl⟩ := List.mem_map.mp hd'
    simp only [Function.comp, hp r hr, hp s hs]
    exact h2 r hr s hs
  · rw [List.map_map] at hd
    obtain ⟨r, hr, rfl⟩ := List.mem_map.mp hd
    simp only [Function.comp, hp r hr]
    exact h3 r hr
  · obtain ⟨r, hr, rfl⟩ := List.mem_map.mp hd
    rw [hp r hr]
    exact h4 r hr
theorem sortD_of {B : HostSt} {l : List D} (h : SortOk B l) : sortD (.lst l) B = .ok (.lst (l.mergeSort (PySem.W.dataLe false (pyD B)))) := by
  unfold sortD
  dsimp only
  rw [if_pos h]
theorem D_law_tree_eq {L : Nat} {A B : HostSt} (h : StOk L A) {a : Area} (ha : AreaOk a) : D__law_tree [encS A, areaD a] B = .ok (.lst ((treeL A a).mergeSort (PySem.W.dataLe false (pyD B)))) := by
  unfold D__law_tree b__law_tree
  have e1 : lcGo 2 (tOfV (vBin eqD (vBin ixD (vVar 2) (vC (.int 0))) (vVar 1))) (vTup (vCons (vBin ixD (vVar 2) (vC (.int 1))) (vCons (vBin ixD (vVar 2) (vC (.int 3))) (vCons (vBin ixD (vVar 2) (vC (.int 2))) (vCons (vBin ixD (vVar 2) (vC (.int 6))) (vCons (vBin ixD (vVar 2) (vC (.int 7))) (vCons (vBin ixD (vVar 2) (vC (.int 4))) (vCons (vBin ixD (vVar 2) (vC (.int 5))) vNil)))))))) [some (encS A), some (areaD a), none] B (A.rows.map encRow) [] = .ok ([] ++ (A.rows.filter fun r => decide (r.area = a)).map standsD) := by
    refine lc_map encRow (fun r => decide (r.area = a)) standsD (fun r hr => ?_) (fun r hr _ => ?_) (by have := h.nr; simp; omega)
    · simp [eqD_area (h.rows r hr).area ha]
    · simp
      rfl
  have e2 := sortD_of (B := B) (l := (A.rows.filter fun r => decide (r.area = a)).map standsD) (sortOk_rows (g := standsP) (fun r _ => toPy_stands) (fun r _ s _ => alike_stands r s) (fun r _ => ⟨_, _, rfl⟩) (fun r _ => stands_depth r) (Nat.le_trans (List.length_filter_le _ _) (by have := h.nr; omega)))
  simp [e1, e2]
  rfl
theorem le_refl_data {β : Type} (k : β → PyData) (a : β) : PySem.W.dataLe false k a a = true := (PySem.W.sortLe_total _ _ _).refl a
theorem eqv_path {p q : List Str} : PyData.eqv (pathP p) (pathP q) = decide (p = q) := by
  unfold pathP
  simp only [PyData.eqv, eqvAll_strs]
/-- sorted by the path = sorted whole, where paths are distinct -/
theorem tree_sorts {A B : HostSt} {a : Area} (dist : ∀ r ∈ A.rows, ∀ s ∈ A.rows, r.area = s.area → r.path = s.path → r = s) : (treeL A a).mergeSort (PySem.W.dataLe false encK) = (treeL A a).mergeSort (PySem.W.dataLe false (pyD B)) := by
  refine PySem.W.sort_congr fun d hd d' hd' => ?_
  unfold treeL at hd hd'
  obtain ⟨r, hr, rfl⟩ := List.mem_map.mp hd
  obtain ⟨s, hs, rfl⟩ := List.mem_map.mp hd'
  obtain ⟨hr1, hr2⟩ := List.mem_filter.mp hr
  obtain ⟨hs1, hs2⟩ := List.mem_filter.mp hs
  by_cases e : r.path = s.path
  · have := dist r hr1 s hs1 ((of_decide_eq_true hr2).trans (of_decide_eq_true hs2).symm) e
    subst this
    rw [le_refl_data, le_refl_data]
  · show (!_) = (!_)
    congr 1
    show PyProof.Rows.lexLt PyProof.Rows.itemOrd (PySem.W.keyToks (encK (standsD s))) (PySem.W.keyToks (encK (standsD r))) = PyProof.Rows.lexLt PyProof.Rows.itemOrd (PySem.W.keyToks (pyD B (standsD s))) (PySem.W.keyToks (pyD B (standsD r)))
    rw [encK_stands, encK_stands, pyD_stands, pyD_stands]
    have ne : PyData.eqv (pathP s.path) (pathP r.path) = false := by rw [eqv_path]; exact decide_eq_false fun z => e z.symm
    unfold standsP
    have := PySem.W.dataLt_all_no (xs := [.str s.kind, .int s.thing, .int s.count, .int s.cuts, .str s.text, .bool s.runs]) (ys := [.str r.kind, .int r.thing, .int r.count, .int r.cuts, .str r.text, .bool r.runs]) (alike_path s.path r.path) ne
    rw [show ∀ l, PySem.W.keyToks (.tuple l) = PySem.W.keyToksAll l from fun l => by simp only [PySem.W.keyToks], show ∀ l, PySem.W.keyToks (.tuple l) = PySem.W.keyToksAll l from fun l => by simp only [PySem.W.keyToks]]
    exact this.symm
end FK
set_option Elab.async false
set_option linter.all false
set_option maxRecDepth 100000
set_option maxHeartbeats 4000000
/-! The plain law: shelves, law_is. -/
namespace FK
open PySem L2
def Dist (A : HostSt) : Prop := ∀ r ∈ A.rows, ∀ s ∈ A.rows, r.area = s.area → r.path = s.path → r = s
def onShelf (r : Row) : Bool := isI r.area && decide (r.path = [])
def treeD (A : HostSt) (a : Area) : D := .lst ((treeL A a).mergeSort (PySem.W.dataLe false encK))
def placesL (A : HostSt) : List D := (A.rows.filter onShelf).map fun r => areaD r.area
noncomputable def placesS (A B : HostSt) : List D := (placesL A).mergeSort (PySem.W.dataLe false (pyD B))
def shelfOne (A : HostSt) (d : D) : D := match d with
  | .int z => .tup [.int z, treeD A (.i z)]
  | _ => .non
noncomputable def shelfD (A B : HostSt) : D := .lst ((placesS A B).map (shelfOne A))
theorem places_int {A : HostSt} : ∀ d ∈ placesL A, ∃ z, d = .int z := fun d hd => by
  obtain ⟨r, hr, rfl⟩ := List.mem_map.mp hd
  have := (List.mem_filter.mp hr).2
  unfold onShelf at this
  cases e : r.area with
  | s x => rw [e] at this; cases this
  | i z => exact ⟨z, rfl⟩
theorem placesS_int {A B : HostSt} : ∀ d ∈ placesS A B, ∃ z, d = .int z := fun d hd => places_int d ((List.mergeSort_perm _ _).mem_iff.mp hd)
theorem placesS_len {A B : HostSt} : (placesS A B).length ≤ A.rows.length := by
  unfold placesS placesL
  rw [List.length_mergeSort, List.length_map]
  exact List.length_filter_le _ _
theorem sortOk_ints {B : HostSt} {l : List D} (h : ∀ d ∈ l, ∃ z, d = .int z) (hl : l.length ≤ 1000) : SortOk B l := by
  have hp : ∀ d ∈ l, ∃ z, pyD B d = .int z := fun d hd => by
    obtain ⟨z, rfl⟩ := h d hd
    exact ⟨z, rfl⟩
  refine ⟨fun d hd => ?_, fun d hd d' hd' => ?_, .inr fun d hd => ?_, fun d hd => ?_, hl⟩
  · obtain ⟨z, rfl⟩ := h d hd
    exact ⟨.int z, by simp [toPy]⟩
  · obtain ⟨x, hx, rfl⟩ := List.mem_map.mp hd
    obtain ⟨y, hy, rfl⟩ := List.mem_map.mp hd'
    obtain ⟨z, ez⟩ := hp x hx
    obtain ⟨w, ew⟩ := hp y hy
    rw [ez, ew]
    rfl
  · obtain ⟨x, hx, rfl⟩ := List.mem_map.mp hd
    obtain ⟨z, ez⟩ := hp x hx
    rw [ez]
    exact ⟨(by intro q; cases q), (by intro xs q; cases q)⟩
  · obtain ⟨z, ez⟩ := hp d hd
    rw [ez]
    simp [PyData.depth]
theorem D_host_tree_eq {L : Nat} {A : HostSt} (h : StOk L A) : D_Host_tree [.host] A = .ok (treeD A (.s "folder")) := by
  unfold D_Host_tree b_Host_tree
  have e := D_area_list_eq h (a := .s "folder") ok_folder
  have e2 : areaD (.s (Str.ofString "folder")) = .str (Str.ofString "folder") := rfl
  rw [e2] at e
  simp [e]
  rfl
theorem D_host_outside_eq {L : Nat} {A : HostSt} (h : StOk L A) : D_Host_outside [.host] A = .ok (treeD A (.s "outside")) := by
  unfold D_Host_outside b_Host_outside
  have e := D_area_list_eq h (a := .s "outside") ok_outside
  have e2 : areaD (.s (Str.ofString "outside")) = .str (Str.ofString "outside") := rfl
  rw [e2] at e
  simp [e]
  rfl
theorem D_law_tree_dist {L : Nat} {A B : HostSt} (h : StOk L A) (hd : Dist A) {a : Area} (ha : AreaOk a) : D__law_tree [encS A, areaD a] B = .ok (treeD A a) := by
  rw [D_law_tree_eq h ha, ← tree_sorts (B := B) hd]
  rfl
theorem filter_map_id {l : List D} {f : D → D} : (l.filter fun _ => true).map f = l.map f := by rw [filter_true]
theorem D_host_shelf_eq {L : Nat} {A : HostSt} (h : StOk L A) : D_Host_shelf [.host] A = .ok (shelfD A A) := by
  unfold D_Host_shelf b_Host_shelf
  have e1 : lcGo 3 (tvAnd (tOfV (vUn isIntD (vUn (fdN fun r => areaD r.area) (vVar 3)))) (tOfV (vBin eqD (vUn (fdN fun r => pathD r.path) (vVar 3)) (vTup vNil)))) (vUn (fdN fun r => areaD r.area) (vVar 3)) [some .host, none, none, none] A (A.rows.map fun r => D.node r.thing) [] = .ok ([] ++ (A.rows.filter onShelf).map fun r => areaD r.area) := by
    refine lc_map (fun r : Row => D.node r.thing) onShelf (fun r => areaD r.area) (fun r hr => ?_) (fun r hr _ => ?_) (by have := h.nr; simp; omega)
    · simp [fdN_eq (h.row hr), eqD_nil (h.rows r hr).path, -isIntD_area]
      rfl
    · simp [fdN_eq (h.row hr)]
  have nr := h.nr
  have e2 : sortD (.lst ((A.rows.filter onShelf).map fun r => areaD r.area)) A = .ok (.lst (placesS A A)) := sortD_of (sortOk_ints places_int (by rw [List.length_map]; exact Nat.le_trans (List.length_filter_le _ _) (by omega)))
  have e3 : lcGo 2 tvYes (vTup (vCons (vVar 2) (vCons (vMeth 2 D_Host_area_list (vVar 0) (vCons (vVar 2) vNil)) vNil))) [some .host, some (.lst (placesS A A)), none, none] A (placesS A A) [] = .ok ([] ++ ((placesS A A).filter fun _ => true).map (shelfOne A)) := by
    refine lcGo_ok (fun _ => true) (shelfOne A) (fun d hd => by simp) (fun d hd _ => ?_) (by have := placesS_len (A := A) (B := A); simp; omega)
    obtain ⟨z, rfl⟩ := placesS_int d hd
    have e := D_area_list_eq h (a := .i z) trivial
    have e2 : areaD (.i z) = .int z := rfl
    rw [e2] at e
    simp [e]
    rfl
  rw [filter_true] at e3
  simp [e1, e2, e3]
  rfl
theorem D_law_shelf_eq {L : Nat} {A B : HostSt} (h : StOk L A) (hd : Dist A) : D__law_shelf [encS A] B = .ok (shelfD A B) := by
  unfold D__law_shelf b__law_shelf
  have e1 : lcGo 3 (tvAnd (tOfV (vUn isIntD (vBin ixD (vVar 3) (vC (.int 0))))) (tOfV (vBin eqD (vBin ixD (vVar 3) (vC (.int 1))) (vTup vNil)))) (vBin ixD (vVar 3) (vC (.int 0))) [some (encS A), none, none, none] B (A.rows.map encRow) [] = .ok ([] ++ (A.rows.filter onShelf).map fun r => areaD r.area) := by
    refine lc_map encRow onShelf (fun r => areaD r.area) (fun r hr => ?_) (fun r hr _ => ?_) (by have := h.nr; simp; omega)
    · simp [eqD_nil (h.rows r hr).path, -isIntD_area]
      rfl
    · simp
  have nr := h.nr
  have e2 : sortD (.lst ((A.rows.filter onShelf).map fun r => areaD r.area)) B = .ok (.lst (placesS A B)) := sortD_of (sortOk_ints places_int (by rw [List.length_map]; exact Nat.le_trans (List.length_filter_le _ _) (by omega)))
  have e3 : lcGo 2 tvYes (vTup (vCons (vVar 2) (vCons (vCall 2 D__law_tree (vCons (vVar 0) (vCons (vVar 2) vNil))) vNil))) [some (encS A), some (.lst (placesS A B)), none, none] B (placesS A B) [] = .ok ([] ++ ((placesS A B).filter fun _ => true).map (shelfOne A)) := by
    refine lcGo_ok (fun _ => true) (shelfOne A) (fun d hd => by simp) (fun d hd' _ => ?_) (by have := placesS_len (A := A) (B := B); simp; omega)
    obtain ⟨z, rfl⟩ := placesS_int d hd'
    have e := D_law_tree_dist (B := B) h hd (a := .i z) trivial
    have e2 : areaD (.i z) = .int z := rfl
    rw [e2] at e
    simp [e]
    rfl
  rw [filter_true] at e3
  simp [e1, e2, e3]
  rfl
/-! ### law_is -/
theorem shD_stands {L : Nat} {B : HostSt} {r : Row} (o : RowOk L r) : ShD B 2 (standsD r) := by
  unfold standsD
  refine shD_tup (n := 1) fun x hx => ?_
  simp only [List.mem_cons, List.not_mem_nil, or_false] at hx
  rcases hx with rfl | rfl | rfl | rfl | rfl | rfl | rfl
  · exact ⟨_, sh_path o.path⟩
  · exact ⟨_, (sh_str o.kind).mono (by decide)⟩
  · exact ⟨_, sh_int.mono (by decide)⟩
  · exact ⟨_, sh_int.mono (by decide)⟩
  · exact ⟨_, sh_int.mono (by decide)⟩
  · exact ⟨_, (sh_str o.text).mono (by decide)⟩
  · exact ⟨_, sh_bl.mono (by decide)⟩
theorem shD_tree {L : Nat} {A B : HostSt} (h : StOk L A) {a : Area} : ShD B 3 (treeD A a) := by
  unfold treeD
  refine shD_lst (n := 2) fun x hx => ?_
  have hx := (List.mergeSort_perm _ _).mem_iff.mp hx
  unfold treeL at hx
  obtain ⟨r, hr, rfl⟩ := List.mem_map.mp hx
  exact shD_stands (h.rows r (List.mem_filter.mp hr).1)
theorem shD_shelf {L : Nat} {A B C : HostSt} (h : StOk L A) : ShD C 5 (shelfD A B) := by
  unfold shelfD
  refine shD_lst (n := 4) fun x hx => ?_
  obtain ⟨d, hd, rfl⟩ := List.mem_map.mp hx
  obtain ⟨z, rfl⟩ := placesS_int d hd
  show ShD C 4 (.tup [.int z, treeD A (.i z)])
  refine shD_tup (n := 3) fun x hx => ?_
  simp only [List.mem_cons, List.not_mem_nil, or_false] at hx
  rcases hx with rfl | rfl
  · exact ⟨_, sh_int.mono (by decide)⟩
  · exact shD_tree h
theorem eqD_opened {A : HostSt} : eqD .opened (.lst (A.opened.map .int)) A = .ok (.bl true) := by
  have e1 : Sh A 1 (.lst (A.opened.map .int)) (.list (A.opened.map PyData.int)) := sh_lst (n := 0) fun x _ => sh_int
  have e2 : Sh A 1 .opened (.list (A.opened.map PyData.int)) := ⟨by simp [toPy], e1.can, e1.dp⟩
  rw [eqD_of e2 e1, SeqAt.eqv_refl _ e1.can]
theorem D_law_is_eq {L : Nat} {A : HostSt} (h : StOk L A) (hd : Dist A) : D__law_is [.host, encS A] A = .ok (.bl true) := by
  unfold D__law_is b__law_is
  have t1 := D_law_tree_dist (B := A) h hd (a := .s "folder") ok_folder
  have t2 := D_law_tree_dist (B := A) h hd (a := .s "outside") ok_outside
  have e1 : areaD (.s (Str.ofString "folder")) = .str (Str.ofString "folder") := rfl
  have e2 : areaD (.s (Str.ofString "outside")) = .str (Str.ofString "outside") := rfl
  rw [e1] at t1
  rw [e2] at t2
  have n1 := neD_self (A := A) (shD_tree (B := A) h (a := .s "folder"))
  have n2 := neD_self (A := A) (shD_tree (B := A) h (a := .s "outside"))
  have n3 := eqD_self (A := A) (shD_shelf (B := A) (C := A) h)
  simp [D_host_tree_eq h, D_host_outside_eq h, t1, t2, n1, n2, D_host_shelf_eq h, D_law_shelf_eq h hd, n3, eqD_opened]
end FK
set_option Elab.async false
set_option linter.all false
set_option maxRecDepth 100000
set_option maxHeartbeats 4000000
/-! The plain law: what is drawn. -/
namespace FK
open PySem L2
@[simp] theorem fdivD_int {i j : Int} {B : HostSt} (h : j ≠ 0) (h' : j.natAbs < 1073741824) : fdivD (.int i) (.int j) B = .ok (.int (i.fdiv j)) := by
  unfold fdivD
  dsimp only
  rw [if_pos ⟨h, h'⟩]
@[simp] theorem modD_int {i j : Int} {B : HostSt} (h : j ≠ 0) : modD (.int i) (.int j) B = .ok (.int (i.fmod j)) := by
  unfold modD
  dsimp only
  rw [if_pos h]
theorem ix_mod {l : List D} {c n : Int} (hn : n = l.length) (h0 : 0 < n) (B : HostSt) : ∃ d ∈ l, ixD (.lst l) (.int (c.fmod n)) B = .ok d := by
  have h1 : 0 ≤ c.fmod n := Int.fmod_nonneg_of_pos _ h0
  have h2 : c.fmod n < n := Int.fmod_lt_of_pos _ h0
  obtain ⟨k, hk⟩ : ∃ k : Nat, c.fmod n = (k : Int) := ⟨(c.fmod n).toNat, by omega⟩
  have h3 : k < l.length := by omega
  rw [hk]
  exact ⟨l[k], List.getElem_mem h3, ix_lst (List.getElem?_eq_getElem h3)⟩
theorem law_name (c : Int) (B : HostSt) : ∃ x, x ∈ menu ∧ D__law_name [.int c] B = .ok (.str x) := by
  obtain ⟨d, hd, e⟩ := ix_mod (l := menu.map D.str) (c := c) (n := 9) rfl (by decide) B
  obtain ⟨x, hx, rfl⟩ := List.mem_map.mp hd
  refine ⟨x, hx, ?_⟩
  unfold D__law_name b__law_name
  simp only [menu, List.map_cons, List.map_nil] at e
  simp [e]
def texts : List Str := ["", "a", "b", "one", "two", "line\nline", "x y", "{}"]
theorem texts_ok : ∀ x ∈ texts, PyData.strOk x = true ∧ x.length ≤ 20 := by decide +kernel
theorem law_text (c : Int) (B : HostSt) : ∃ x, TxtOk x ∧ D__law_text [.int c] B = .ok (.str x) := by
  obtain ⟨d, hd, e⟩ := ix_mod (l := texts.map D.str) (c := c) (n := 8) rfl (by decide) B
  obtain ⟨x, hx, rfl⟩ := List.mem_map.mp hd
  refine ⟨x, texts_ok x hx, ?_⟩
  unfold D__law_text b__law_text
  simp only [texts, List.map_cons, List.map_nil] at e
  simp [e]
theorem law_path (c : Int) (B : HostSt) : ∃ p, PathOk p ∧ p ≠ [] ∧ p.length ≤ 3 ∧ D__law_path [.int c] B = .ok (pathD p) := by
  obtain ⟨x, hx, ex⟩ := law_name c B
  obtain ⟨y, hy, ey⟩ := law_name (c.fdiv 27) B
  obtain ⟨z, hz, ez⟩ := law_name (c.fdiv 729) B
  unfold D__law_path b__law_path
  simp [ex]
  by_cases h1 : (c.fdiv 9).fmod 3 = 0
  · refine ⟨[x], fun w hw => by rw [List.mem_singleton.mp hw]; exact hx, by simp, by simp, ?_⟩
    simp [h1]
    rfl
  · by_cases h2 : (c.fdiv 243).fmod 3 < 2
    · refine ⟨[x, y], fun w hw => ?_, by simp, by simp, ?_⟩
      · simp at hw
        rcases hw with rfl | rfl
        · exact hx
        · exact hy
      · simp [h1, h2, ey]
        rfl
    · refine ⟨[x, y, z], fun w hw => ?_, by simp, by simp, ?_⟩
      · simp at hw
        rcases hw with rfl | rfl | rfl
        · exact hx
        · exact hy
        · exact hz
      · simp [h1, h2, ey, ez]
        rfl
theorem law_pick_op (c : Int) (A : HostSt) (h : 0 < A.opened.length) : ∃ t, D__law_pick [.int c, .opened] A = .ok (.int t) := by
  have h1 : 0 ≤ c.fmod (A.opened.length : Int) := Int.fmod_nonneg_of_pos _ (by omega)
  have h2 : c.fmod (A.opened.length : Int) < A.opened.length := Int.fmod_lt_of_pos _ (by omega)
  obtain ⟨k, hk⟩ : ∃ k : Nat, c.fmod (A.opened.length : Int) = (k : Int) := ⟨(c.fmod (A.opened.length : Int)).toNat, by omega⟩
  have h3 : k < A.opened.length := by omega
  refine ⟨A.opened[k], ?_⟩
  have e : ixD .opened (.int (k : Int)) A = .ok (.int A.opened[k]) := by
    unfold ixD
    dsimp only
    rw [atI_nat (List.getElem?_eq_getElem h3)]
  unfold D__law_pick b__law_pick
  have hne : (A.opened.length : Int) ≠ 0 := by omega
  have em : modD (.int c) (.int (A.opened.length : Int)) A = .ok (.int (k : Int)) := by rw [modD_int hne, hk]
  simp [em, e]
theorem spotOk_of {a : Area} {p : List Str} (ka : KA a) (hp : PathOk p) (hl : p.length ≤ 3) : SpotOk ⟨a, p⟩ := ⟨ka, ka.ok, hp, by show p.length ≤ 90; omega⟩
theorem law_spot (c : Int) (A : HostSt) : ∃ s, SpotOk s ∧ D__law_spot [.int c, .host] A = .ok (encSpot s) := by
  obtain ⟨p, hp, _, hl, ep⟩ := law_path (c.fdiv 7) A
  unfold D__law_spot b__law_spot
  simp [ep]
  by_cases h1 : c.fmod 7 = 5
  · exact ⟨⟨.s "outside", p⟩, spotOk_of (.inr (.inl rfl)) hp hl, by simp [h1]; rfl⟩
  · by_cases h2 : c.fmod 7 = 6 ∧ 0 < A.opened.length
    · obtain ⟨t, et⟩ := law_pick_op (c.fdiv 3) A h2.2
      refine ⟨⟨.i t, p⟩, spotOk_of (.inr (.inr ⟨t, rfl⟩)) hp hl, ?_⟩
      simp [h2.1, h2.2, et]
      rfl
    · refine ⟨⟨.s "folder", p⟩, spotOk_of (.inl rfl) hp hl, ?_⟩
      have e : (decide (c.fmod 7 = 6) && decide (0 < A.opened.length)) = false := by
        by_cases q1 : c.fmod 7 = 6 <;> by_cases q2 : 0 < A.opened.length <;> simp [q1, q2]
        exact absurd ⟨q1, q2⟩ h2
      simp [h1, e]
      rfl
theorem law_target (c : Int) (A : HostSt) : ∃ t, TgtOk t ∧ D__law_target [.int c, .host] A = .ok (encTgt t) := by
  obtain ⟨s, hs, es⟩ := law_spot (c.fdiv 4) A
  unfold D__law_target b__law_target
  simp
  by_cases h2 : c.fmod 4 = 0 ∧ 0 < A.opened.length
  · obtain ⟨t, et⟩ := law_pick_op (c.fdiv 4) A h2.2
    refine ⟨.thing t, trivial, ?_⟩
    simp [h2.1, h2.2, et]
    rfl
  · refine ⟨.spot s, hs, ?_⟩
    have e : (decide (c.fmod 4 = 0) && decide (0 < A.opened.length)) = false := by
      by_cases q1 : c.fmod 4 = 0 <;> by_cases q2 : 0 < A.opened.length <;> simp [q1, q2]
      exact absurd ⟨q1, q2⟩ h2
    simp [e, es]
    rfl
/-- places to write at are counted from the front -/
def NN : Deed → Prop
  | .write _ n _ => 0 ≤ n
  | _ => True
theorem law_deed (c : Int) (A : HostSt) : ∃ d, DeedOk d ∧ NN d ∧ D__law_deed [.int c, .host] A = .ok (encDeed d) := by
  unfold D__law_deed b__law_deed
  generalize hr : c.fdiv 14 = r
  obtain ⟨s, hs, es⟩ := law_spot r A
  obtain ⟨x, hx, ex⟩ := law_text (r.fdiv 5) A
  obtain ⟨g, hg, eg⟩ := law_spot (r.fdiv 50021) A
  obtain ⟨t, ht, et⟩ := law_target r A
  obtain ⟨x2, hx2, ex2⟩ := law_text (r.fdiv 44) A
  obtain ⟨t2, ht2, et2⟩ := law_target (r.fdiv 2) A
  simp [hr, es]
  by_cases k0 : c.fmod 14 < 4
  · exact ⟨.make s x _, ⟨hs, hx⟩, trivial, by simp [k0, ex]; rfl⟩
  by_cases k1 : c.fmod 14 = 4
  · exact ⟨.makeFolder s, hs, trivial, by simp [k1]; rfl⟩
  by_cases k2 : c.fmod 14 = 5
  · exact ⟨.makeOther s, hs, trivial, by simp [k2]; rfl⟩
  by_cases k3 : c.fmod 14 = 6
  · exact ⟨.remove s, hs, trivial, by simp [k3]; rfl⟩
  by_cases k4 : c.fmod 14 = 7
  · exact ⟨.removeFolder s, hs, trivial, by simp [k4]; rfl⟩
  by_cases k5 : c.fmod 14 < 10
  · exact ⟨.rename s g, ⟨hs, hg⟩, trivial, by simp [k0, k1, k2, k3, k4, k5, eg]; rfl⟩
  by_cases k6 : c.fmod 14 = 10
  · exact ⟨.cut t, ht, trivial, by simp [k6, et]; rfl⟩
  by_cases k7 : c.fmod 14 = 11
  · exact ⟨.write t ((r.fdiv 11).fmod 4) x2, ⟨ht, hx2⟩, Int.fmod_nonneg_of_pos _ (by decide), by simp [k7, et, ex2]; rfl⟩
  by_cases k8 : c.fmod 14 = 12
  · obtain ⟨d, hd, ed⟩ := ix_mod (l := [encDeed (.read t2), encDeed (.setRuns t true)]) (c := r) (n := 2) rfl (by decide) A
    have ep : D__law_pick [.int r, .lst [.tup [.str (Str.ofString "read"), encTgt t2], .tup [.str (Str.ofString "set_runs"), encTgt t, .bl true]]] A = .ok d := by
      unfold D__law_pick b__law_pick
      simp only [encDeed] at ed
      simp [ed]
    simp only [List.mem_cons, List.not_mem_nil, or_false] at hd
    rcases hd with rfl | rfl
    · exact ⟨.read t2, ht2, trivial, by simp [k8, et, et2, ep]⟩
    · exact ⟨.setRuns t true, ht, trivial, by simp [k8, et, et2, ep]⟩
  by_cases k9 : r.fmod 2 = 0 ∨ A.opened = []
  · refine ⟨.opens s, hs, trivial, ?_⟩
    have e : (decide (r.fmod 2 = 0) || decide (A.opened = [])) = true := by
      rcases k9 with q | q <;> simp [q]
    simp [k0, k1, k2, k3, k4, k5, k6, k7, k8, e]
    rfl
  · have q1 : ¬ r.fmod 2 = 0 := fun z => k9 (.inl z)
    have q2 : ¬ A.opened = [] := fun z => k9 (.inr z)
    obtain ⟨u, eu⟩ := law_pick_op (r.fdiv 2) A (List.length_pos_iff.mpr q2)
    refine ⟨.close u, trivial, trivial, ?_⟩
    simp [k0, k1, k2, k3, k4, k5, k6, k7, k8, q1, q2, eu]
    rfl
end FK
set_option Elab.async false
set_option linter.all false
set_option maxRecDepth 100000
set_option maxHeartbeats 4000000
/-! The plain law: operations drawn. -/
namespace FK
open PySem L2
inductive Op where
  | names (p : List Str) | total | shelf | read (p : List Str) | readShelf (i : Int) | wasRead (a b : Int) | stage (i : Int) (x : Str) (b : Bool) | take (p : List Str) (i : Int) | give (i : Int) (p : List Str) | swap (i : Int) (p : List Str)
  | makeFolder (p : List Str) | removeFolder (p : List Str) | drop (i n : Int)
def encOp : Op → D
  | .names p => .tup [.str "names", pathD p]
  | .total => .tup [.str "total"]
  | .shelf => .tup [.str "shelf"]
  | .read p => .tup [.str "read", pathD p]
  | .readShelf i => .tup [.str "read_shelf", .int i]
  | .wasRead a b => .tup [.str "was_read", .int a, .int b]
  | .stage i x b => .tup [.str "stage", .int i, .str x, .bl b]
  | .take p i => .tup [.str "take", pathD p, .int i]
  | .give i p => .tup [.str "give", .int i, pathD p]
  | .swap i p => .tup [.str "swap", .int i, pathD p]
  | .makeFolder p => .tup [.str "make_folder", pathD p]
  | .removeFolder p => .tup [.str "remove_folder", pathD p]
  | .drop i n => .tup [.str "drop", .int i, .int n]
def PO (p : List Str) : Prop := PathOk p ∧ p.length ≤ 200
def OpOk : Op → Prop
  | .names p => PO p
  | .read p => PO p
  | .stage _ x _ => TxtOk x
  | .take p _ => PO p
  | .give _ p => PO p
  | .swap _ p => PO p
  | .makeFolder p => PO p
  | .removeFolder p => PO p
  | _ => True
theorem pick_lst (c : Int) (l : List D) (B : HostSt) (h : 0 < l.length) : ∃ d ∈ l, D__law_pick [.int c, .lst l] B = .ok d := by
  obtain ⟨d, hd, e⟩ := ix_mod (l := l) (c := c) (n := l.length) rfl (by omega) B
  refine ⟨d, hd, ?_⟩
  unfold D__law_pick b__law_pick
  have hne : (l.length : Int) ≠ 0 := by omega
  have em : modD (.int c) (.int (l.length : Int)) B = .ok (.int (c.fmod l.length)) := modD_int hne
  simp [em, e]
theorem tree_len {A : HostSt} {a : Area} {B : HostSt} : ∃ l, treeD A a = .lst l ∧ ∀ d ∈ l, ∃ r ∈ A.rows, d = standsD r := by
  refine ⟨_, rfl, fun d hd => ?_⟩
  have hd := (List.mergeSort_perm _ _).mem_iff.mp hd
  obtain ⟨r, hr, rfl⟩ := List.mem_map.mp hd
  exact ⟨r, (List.mem_filter.mp hr).1, rfl⟩
theorem shelf_len {A B : HostSt} : ∃ l, shelfD A B = .lst l ∧ ∀ d ∈ l, ∃ z, d = .tup [.int z, treeD A (.i z)] := by
  refine ⟨_, rfl, fun d hd => ?_⟩
  obtain ⟨x, hx, rfl⟩ := List.mem_map.mp hd
  obtain ⟨z, rfl⟩ := placesS_int x hx
  exact ⟨z, rfl⟩
@[simp] theorem stands_0 {r : Row} {B : HostSt} : ixD (standsD r) (.int 0) B = .ok (pathD r.path) := ix_tup0
@[simp] theorem ixL0 {x : D} {l : List D} {B : HostSt} : ixD (.lst (x :: l)) (.int 0) B = .ok x := ix_lst (k := 0) rfl
@[simp] theorem ixL1 {x y : D} {l : List D} {B : HostSt} : ixD (.lst (x :: y :: l)) (.int 1) B = .ok y := ix_lst (k := 1) rfl
noncomputable def opTail : Sv :=
  (seqS (sIf (tOfV (vBin eqD (vVar 2) (vC (.int 0))))
      (sRet (vTup (vCons (vC (.str "names")) (vCons (vBin ixD (vLst (vCons (vTup vNil) (vCons (vVar 4) (vCons (vSl (vVar 4) oNone (oSome (vUn negD (vC (.int 1))))) vNil)))) (vBin modD (vApp intD (vCons (vVar 3) vNil)) (vC (.int 3)))) vNil))))
      sNil)
    (seqS (sIf (tOfV (vBin ltD (vVar 2) (vC (.int 3))))
      (sRet (vBin ixD (vLst (vCons (vTup (vCons (vC (.str "total")) vNil)) (vCons (vTup (vCons (vC (.str "shelf")) vNil)) vNil))) (vBin subD (vVar 2) (vC (.int 1)))))
      sNil)
    (seqS (sIf (tOfV (vBin eqD (vVar 2) (vC (.int 3))))
      (sRet (vTup (vCons (vC (.str "read")) (vCons (vVar 4) vNil))))
      sNil)
    (seqS (sIf (tOfV (vBin eqD (vVar 2) (vC (.int 4))))
      (sRet (vTup (vCons (vC (.str "read_shelf")) (vCons (vVar 6) vNil))))
      sNil)
    (seqS (sIf (tOfV (vBin eqD (vVar 2) (vC (.int 5))))
      (sRet (vTup (vCons (vC (.str "was_read")) (vCons (vBin addD (vC (.int 1)) (vBin modD (vApp intD (vCons (vVar 3) vNil)) (vC (.int 9)))) (vCons (vBin modD (vBin fdivD (vApp intD (vCons (vVar 3) vNil)) (vC (.int 9))) (vC (.int 3))) vNil)))))
      sNil)
    (seqS (sIf (tOfV (vBin ltD (vVar 2) (vC (.int 8))))
      (sRet (vTup (vCons (vC (.str "stage")) (vCons (vVar 6) (vCons (vCall 1 D__law_text (vCons (vBin fdivD (vVar 3) (vC (.int 13))) vNil)) (vCons (vBin eqD (vBin modD (vApp intD (vCons (vVar 3) vNil)) (vC (.int 4))) (vC (.int 0))) vNil))))))
      sNil)
    (seqS (sIf (tOfV (vBin ltD (vVar 2) (vC (.int 10))))
      (sRet (vTup (vCons (vC (.str "take")) (vCons (vVar 4) (vCons (vVar 6) vNil)))))
      sNil)
    (seqS (sIf (tOfV (vBin eqD (vVar 2) (vC (.int 10))))
      (sRet (vTup (vCons (vC (.str "give")) (vCons (vVar 6) (vCons (vCall 1 D__law_path (vCons (vBin fdivD (vVar 3) (vC (.int 17))) vNil)) vNil)))))
      sNil)
    (seqS (sIf (tOfV (vBin eqD (vVar 2) (vC (.int 11))))
      (sRet (vTup (vCons (vC (.str "swap")) (vCons (vVar 6) (vCons (vVar 4) vNil)))))
      sNil)
    (seqS (sIf (tOfV (vBin eqD (vVar 2) (vC (.int 12))))
      (sRet (vTup (vCons (vC (.str "make_folder")) (vCons (vVar 4) vNil))))
      sNil)
    (seqS (sIf (tOfV (vBin eqD (vVar 2) (vC (.int 13))))
      (sRet (vTup (vCons (vC (.str "remove_folder")) (vCons (vVar 4) vNil))))
      sNil)
    (sRet (vTup (vCons (vC (.str "drop")) (vCons (vVar 6) (vCons (vBin modD (vBin fdivD (vApp intD (vCons (vVar 3) vNil)) (vC (.int 19))) (vC (.int 3))) vNil))))))))))))))))
theorem b_op : b__law_operation =   (seqS (sSet 2 (vBin modD (vApp intD (vCons (vVar 0) vNil)) (vC (.int 15))))
    (seqS (sSet 3 (vBin fdivD (vVar 0) (vC (.int 15))))
    (seqS (sSet 4 (vCall 1 D__law_path (vCons (vVar 3) vNil)))
    (seqS (sSet 5 (vMeth 1 D_Host_tree (vVar 1) vNil))
    (seqS (sIf (tvAnd (tOfV (vBin gtD (vApp lenD (vCons (vVar 5) vNil)) (vC (.int 0)))) (tOfV (vBin gtD (vBin modD (vApp intD (vCons (vVar 3) vNil)) (vC (.int 3))) (vC (.int 0)))))
      (sSet 4 (vBin ixD (vCall 2 D__law_pick (vCons (vBin fdivD (vVar 3) (vC (.int 3))) (vCons (vVar 5) vNil))) (vC (.int 0))))
      sNil)
    (seqS (sSet 6 (vBin modD (vBin fdivD (vApp intD (vCons (vVar 3) vNil)) (vC (.int 7))) (vC (.int 5))))
    (seqS (sSet 7 (vMeth 1 D_Host_shelf (vVar 1) vNil))
    (seqS (sIf (tvAnd (tOfV (vBin gtD (vApp lenD (vCons (vVar 7) vNil)) (vC (.int 0)))) (tOfV (vBin gtD (vBin modD (vBin fdivD (vApp intD (vCons (vVar 3) vNil)) (vC (.int 5))) (vC (.int 3))) (vC (.int 0)))))
      (sSet 6 (vBin ixD (vCall 2 D__law_pick (vCons (vBin fdivD (vVar 3) (vC (.int 11))) (vCons (vVar 7) vNil))) (vC (.int 0))))
      sNil)
    opTail)))))))) := rfl
theorem op_tail {A : HostSt} {k r i : Int} {p : List Str} {v0 v5 v7 : Option D} (hk : 0 ≤ k) (hp : PO p) : ∃ o, OpOk o ∧ endF (opTail [v0, some .host, some (.int k), some (.int r), some (pathD p), v5, some (.int i), v7] A) = .ok (encOp o) := by
  obtain ⟨x, hx, ex⟩ := law_text (r.fdiv 13) A
  obtain ⟨pg, hpg, _, hlg, epg⟩ := law_path (r.fdiv 17) A
  unfold opTail
  by_cases k0 : k = 0
  · obtain ⟨d, hd, ed⟩ := ix_mod (l := [pathD [], pathD p, pathD p.dropLast]) (c := r) (n := 3) rfl (by decide) A
    have ed' : ixD (.lst [.tup [], pathD p, pathD p.dropLast]) (.int (r.fmod 3)) A = .ok d := ed
    simp only [List.mem_cons, List.not_mem_nil, or_false] at hd
    have hl := hp.2
    rcases hd with rfl | rfl | rfl
    · exact ⟨.names [], ⟨pathOk_nil, by simp⟩, by simp [k0, slD_init, ed']; rfl⟩
    · exact ⟨.names p, hp, by simp [k0, slD_init, ed']; rfl⟩
    · exact ⟨.names p.dropLast, ⟨hp.1.init, by rw [List.length_dropLast]; omega⟩, by simp [k0, slD_init, ed']; rfl⟩
  by_cases k1 : k < 3
  · by_cases k2 : k = 1
    · exact ⟨.total, trivial, by simp [k2]; rfl⟩
    · have k3 : k = 2 := by omega
      exact ⟨.shelf, trivial, by simp [k3]; rfl⟩
  by_cases k3 : k = 3
  · exact ⟨.read p, hp, by simp [k3]; rfl⟩
  by_cases k4 : k = 4
  · exact ⟨.readShelf i, trivial, by simp [k4]; rfl⟩
  by_cases k5 : k = 5
  · exact ⟨.wasRead _ _, trivial, by simp [k5]; rfl⟩
  by_cases k6 : k < 8
  · exact ⟨.stage i x _, hx, by simp [k0, k1, k3, k4, k5, k6, ex]; rfl⟩
  by_cases k7 : k < 10
  · exact ⟨.take p i, hp, by simp [k0, k1, k3, k4, k5, k6, k7]; rfl⟩
  by_cases k8 : k = 10
  · exact ⟨.give i pg, ⟨hpg, by omega⟩, by simp [k8, epg]; rfl⟩
  by_cases k9 : k = 11
  · exact ⟨.swap i p, hp, by simp [k9]; rfl⟩
  by_cases k10 : k = 12
  · exact ⟨.makeFolder p, hp, by simp [k10]; rfl⟩
  by_cases k11 : k = 13
  · exact ⟨.removeFolder p, hp, by simp [k11]; rfl⟩
  exact ⟨.drop i _, trivial, by simp [k0, k1, k3, k4, k5, k6, k7, k8, k9, k10, k11]; rfl⟩
theorem law_operation {L : Nat} {A : HostSt} (h : StOk L A) (hL : L ≤ 200) (c : Int) : ∃ o, OpOk o ∧ D__law_operation [.int c, .host] A = .ok (encOp o) := by
  unfold D__law_operation
  rw [b_op]
  generalize hr : c.fdiv 15 = r
  obtain ⟨p0, hp0, _, hl0, ep0⟩ := law_path r A
  obtain ⟨lt, elt, mlt⟩ := tree_len (A := A) (a := .s "folder") (B := A)
  obtain ⟨ls, els, mls⟩ := shelf_len (A := A) (B := A)
  have et := D_host_tree_eq h
  rw [elt] at et
  have es := D_host_shelf_eq h
  rw [els] at es
  have hk : 0 ≤ c.fmod 15 := Int.fmod_nonneg_of_pos _ (by decide)
  have fin : ∀ (p : List Str) (i : Int), PO p → ∃ o, OpOk o ∧ noexc (endF (opTail [some (.int c), some .host, some (.int (c.fmod 15)), some (.int r), some (pathD p), some (.lst lt), some (.int i), some (.lst ls)] A)) = .ok (encOp o) := by
    intro p i hp
    obtain ⟨o, ho, e⟩ := op_tail (A := A) (k := c.fmod 15) (r := r) (i := i) (v0 := some (.int c)) (v5 := some (.lst lt)) (v7 := some (.lst ls)) hk hp
    exact ⟨o, ho, by rw [e]; rfl⟩
  simp [hr, ep0, et]
  by_cases z1 : 0 < lt.length ∧ 0 < r.fmod 3
  · obtain ⟨d, hd, ed⟩ := pick_lst (r.fdiv 3) lt A z1.1
    obtain ⟨q, hq, rfl⟩ := mlt d hd
    have o := h.rows q hq
    have po : PO q.path := ⟨o.path, by have := o.plen; omega⟩
    simp [z1.1, z1.2, ed, es]
    by_cases z2 : 0 < ls.length ∧ 0 < (r.fdiv 5).fmod 3
    · obtain ⟨d2, hd2, ed2⟩ := pick_lst (r.fdiv 11) ls A z2.1
      obtain ⟨w, rfl⟩ := mls d2 hd2
      simp [z2.1, z2.2, ed2]
      exact fin _ _ po
    · have e : (decide (0 < ls.length) && decide (0 < (r.fdiv 5).fmod 3)) = false := by
        by_cases q1 : 0 < ls.length <;> by_cases q2 : 0 < (r.fdiv 5).fmod 3 <;> simp [q1, q2]
        exact absurd ⟨q1, q2⟩ z2
      simp [e]
      exact fin _ _ po
  · have e0 : (decide (0 < lt.length) && decide (0 < r.fmod 3)) = false := by
      by_cases q1 : 0 < lt.length <;> by_cases q2 : 0 < r.fmod 3 <;> simp [q1, q2]
      exact absurd ⟨q1, q2⟩ z1
    have po : PO p0 := ⟨hp0, by omega⟩
    simp [e0, es]
    by_cases z2 : 0 < ls.length ∧ 0 < (r.fdiv 5).fmod 3
    · obtain ⟨d2, hd2, ed2⟩ := pick_lst (r.fdiv 11) ls A z2.1
      obtain ⟨w, rfl⟩ := mls d2 hd2
      simp [z2.1, z2.2, ed2]
      exact fin _ _ po
    · have e : (decide (0 < ls.length) && decide (0 < (r.fdiv 5).fmod 3)) = false := by
        by_cases q1 : 0 < ls.length <;> by_cases q2 : 0 < (r.fdiv 5).fmod 3 <;> simp [q1, q2]
        exact absurd ⟨q1, q2⟩ z2
      simp [e]
      exact fin _ _ po
end FK
set_option Elab.async false
set_option linter.all false
set_option maxRecDepth 100000
set_option maxHeartbeats 4000000
/-! The plain law: what the host answers, reads. -/
namespace FK
open PySem L2
def cutsI (A : HostSt) (r : Row) : Int := if A.rule.cuts = true then r.cuts else 0
theorem D_told_cuts_eq {L : Nat} {A : HostSt} (h : StOk L A) {r : Row} (hr : r ∈ A.rows) : D_told_cuts [.host, .node r.thing] A = .ok (.int (cutsI A r)) := by
  unfold D_told_cuts b_told_cuts cutsI
  cases z : A.rule.cuts <;> simp [z, fdCuts_node (h.row hr)]
def refused : D := .tup [.str "refused"]
def done : D := .tup [.str "done"]
def nameD (A : HostSt) (r : Row) : D := .tup [.str (r.path.getLast?.getD ""), .int r.thing, .str r.kind, .int r.count, .int (cutsI A r)]
def nameP (A : HostSt) (r : Row) : PyData := .tuple [.str (r.path.getLast?.getD ""), .int r.thing, .str r.kind, .int r.count, .int (cutsI A r)]
def inNames (ab : List Str) (r : Row) : Bool := decide (r.area = .s "folder") && (!decide (r.path = []) && decide (r.path.dropLast = ab))
noncomputable def sorted (B : HostSt) (l : List D) : D := .lst (l.mergeSort (PySem.W.dataLe false (pyD B)))
noncomputable def namesD (A B : HostSt) (p : List Str) : D := match folderPath A (.s "folder") p with
  | none => refused
  | some ab => .tup [.str "names", sorted B ((A.rows.filter (inNames ab)).map (nameD A))]
theorem names_ok {A B : HostSt} {l : List Row} (hl : l.length ≤ 1000) : sortD (.lst (l.map (nameD A))) B = .ok (sorted B (l.map (nameD A))) := by
  refine sortD_of (sortOk_rows (g := nameP A) (fun r _ => ?_) (fun r _ s _ => ?_) (fun r _ => ⟨_, _, rfl⟩) (fun r _ => ?_) hl)
  · unfold nameD nameP
    simp [toPy, toPys]
  · unfold nameP
    simp [PySem.W.alike, PySem.W.alikeAll]
  · unfold nameP
    simp [PyData.depth, PyData.depthAll]
theorem last_ix {p : List Str} (h : p ≠ []) {B : HostSt} : ixD (pathD p) (.int (-1)) B = .ok (.str (p.getLast?.getD "")) := by
  rcases List.eq_nil_or_concat p with e | ⟨q, x, e⟩
  · exact absurd e h
  · rw [List.concat_eq_append] at e
    subst e
    rw [path_last]
    simp
theorem D_names_eq {L : Nat} {A : HostSt} (h : StOk L A) {p : List Str} (hp : PathOk p) : D_names_answer [.host, pathD p] A = .ok (namesD A A p) := by
  unfold D_names_answer b_names_answer namesD
  have e := D_folder_path h (a := .s "folder") ok_folder hp
  have e2 : areaD (.s (Str.ofString "folder")) = .str (Str.ofString "folder") := rfl
  rw [e2] at e
  simp [e]
  cases hf : folderPath A (.s "folder") p with
  | none => simp [optP]; rfl
  | some ab =>
    have fo := folderPath_ok h hf
    have nr := h.nr
    have ea := sAcc_of (A := A) (i := 4) (j := 3) (it := itN (vVar 0)) (t := tvAnd (tOfV (vBin eqD (vUn (fdN fun r => areaD r.area) (vVar 4)) (vC (.str "folder")))) (tvAnd (tOfV (vBin neD (vUn (fdN fun r => pathD r.path) (vVar 4)) (vTup vNil))) (tOfV (vBin eqD (vSl (vUn (fdN fun r => pathD r.path) (vVar 4)) oNone (oSome (vUn negD (vC (.int 1))))) (vVar 2))))) (e := vTup (vCons (vBin ixD (vUn (fdN fun r => pathD r.path) (vVar 4)) (vUn negD (vC (.int 1)))) (vCons (vUn (fdN fun r => .int r.thing) (vVar 4)) (vCons (vUn (fdN fun r => .str r.kind) (vVar 4)) (vCons (vUn (fdN fun r => .int r.count) (vVar 4)) (vCons (vCall 2 D_told_cuts (vCons (vVar 0) (vCons (vVar 4) vNil))) vNil))))))
      (ρ := [some .host, some (pathD p), some (pathD ab), none, none]) (ds := A.rows.map fun r => D.node r.thing) (l := [] ++ (A.rows.filter (inNames ab)).map (nameD A)) (by simp) (by simp) (by simp) (by decide)
      (lc_map (fun r : Row => D.node r.thing) (inNames ab) (nameD A) (fun r hr => by
        have o := h.rows r hr
        simp [fdN_eq (h.row hr), eqD_areaS o.area, neD_nil o.path, slD_init, eqD_path o.path.init fo.1]
        rfl) (fun r hr hi => by
        have o := h.rows r hr
        have hne : r.path ≠ [] := by
          unfold inNames at hi
          simp at hi
          exact hi.2.1
        simp [fdN_eq (h.row hr), last_ix hne, D_told_cuts_eq h hr]
        rfl) (by simp; omega))
    have es := names_ok (A := A) (B := A) (l := A.rows.filter (inNames ab)) (Nat.le_trans (List.length_filter_le _ _) (by omega))
    simp [optP, ea, es]
def textD (A : HostSt) (o : Option Row) : D := match o with
  | none => refused
  | some r => if r.kind = "file" then .tup [.str "text", .int r.thing, .int r.count, .int (cutsI A r), .str r.text, .bl r.runs] else refused
theorem D_text_eq {L : Nat} {A : HostSt} (h : StOk L A) {o : Option Row} (ho : ∀ r, o = some r → r ∈ A.rows) : D_text_answer [.host, nodeD o] A = .ok (textD A o) := by
  unfold D_text_answer b_text_answer textD
  cases o with
  | none => simp; rfl
  | some r =>
    have hr := ho r rfl
    have o := h.rows r hr
    simp [fdN_eq (h.row hr), neD_kind o ok_file]
    by_cases hk : r.kind = "file"
    · simp [hk, fdN_eq (h.row hr), D_told_cuts_eq h hr]
    · simp [hk]; rfl
def inFolder (A : HostSt) (p : List Str) : Option Row := if p = [] then none else nodeAt A.rule.alike A.rows (.s "folder") p
theorem D_in_folder_eq {L : Nat} {A : HostSt} (h : StOk L A) {p : List Str} (hp : PathOk p) : D_file_in_folder [.host, pathD p] A = .ok (nodeD (inFolder A p)) := by
  unfold D_file_in_folder b_file_in_folder inFolder
  have e := D_node_at h (a := .s "folder") ok_folder hp
  have e2 : areaD (.s (Str.ofString "folder")) = .str (Str.ofString "folder") := rfl
  rw [e2] at e
  simp [eqD_nil hp]
  by_cases z : p = []
  · simp [z]
  · simp [z, e]
theorem inFolder_mem {A : HostSt} {p : List Str} {r : Row} (e : inFolder A p = some r) : r ∈ A.rows ∧ r.area = .s "folder" := by
  unfold inFolder at e
  split at e
  · cases e
  · exact ⟨(nodeAt_mem e).1, (nodeAt_mem e).2.1⟩
theorem D_shelf_at {L : Nat} {A : HostSt} (h : StOk L A) (i : Int) : D_Host_node_at [.host, .int i, .tup []] A = .ok (nodeD (nodeAt A.rule.alike A.rows (.i i) [])) := D_node_at h (a := .i i) trivial pathOk_nil
def onShelfD (A : HostSt) (r : Row) : D := .tup [areaD r.area, .int r.thing, .str r.kind, .int r.count, .int (cutsI A r), .int r.text.length]
noncomputable def shelfAns (A B : HostSt) : D := .tup [.str "shelf", sorted B ((A.rows.filter onShelf).map (onShelfD A))]
theorem shelf_ok {A B : HostSt} {l : List Row} (hl : l.length ≤ 1000) (hi : ∀ r ∈ l, onShelf r = true) : sortD (.lst (l.map (onShelfD A))) B = .ok (sorted B (l.map (onShelfD A))) := by
  have ai : ∀ r ∈ l, ∃ z, r.area = .i z := fun r hr => by
    have := hi r hr
    unfold onShelf at this
    cases e : r.area with
    | s x => rw [e] at this; cases this
    | i z => exact ⟨z, rfl⟩
  refine sortD_of (sortOk_rows (g := fun r => .tuple [match r.area with | .i z => .int z | .s x => .str x, .int r.thing, .str r.kind, .int r.count, .int (cutsI A r), .int r.text.length]) (fun r hr => ?_) (fun r hr s hs => ?_) (fun r _ => ⟨_, _, rfl⟩) (fun r hr => ?_) hl)
  · obtain ⟨z, ez⟩ := ai r hr
    unfold onShelfD
    simp [toPy, toPys, ez, areaD]
  · obtain ⟨z, ez⟩ := ai r hr
    obtain ⟨w, ew⟩ := ai s hs
    simp [PySem.W.alike, PySem.W.alikeAll, ez, ew]
  · obtain ⟨z, ez⟩ := ai r hr
    simp [PyData.depth, PyData.depthAll, ez]
theorem D_shelf_ans_eq {L : Nat} {A : HostSt} (h : StOk L A) : D_shelf_answer [.host] A = .ok (shelfAns A A) := by
  unfold D_shelf_answer b_shelf_answer shelfAns
  have nr := h.nr
  have ea := sAcc_of (A := A) (i := 2) (j := 1) (it := itN (vVar 0)) (t := tvAnd (tOfV (vUn isIntD (vUn (fdN fun r => areaD r.area) (vVar 2)))) (tOfV (vBin eqD (vUn (fdN fun r => pathD r.path) (vVar 2)) (vTup vNil)))) (e := vTup (vCons (vUn (fdN fun r => areaD r.area) (vVar 2)) (vCons (vUn (fdN fun r => .int r.thing) (vVar 2)) (vCons (vUn (fdN fun r => .str r.kind) (vVar 2)) (vCons (vUn (fdN fun r => .int r.count) (vVar 2)) (vCons (vCall 2 D_told_cuts (vCons (vVar 0) (vCons (vVar 2) vNil))) (vCons (vApp lenD (vCons (vUn (fdN fun r => .str r.text) (vVar 2)) vNil)) vNil)))))))
    (ρ := [some .host, none, none]) (ds := A.rows.map fun r => D.node r.thing) (l := [] ++ (A.rows.filter onShelf).map (onShelfD A)) (by simp) (by simp) (by simp) (by decide)
    (lc_map (fun r : Row => D.node r.thing) onShelf (onShelfD A) (fun r hr => by
      simp [fdN_eq (h.row hr), eqD_nil (h.rows r hr).path, -isIntD_area]
      rfl) (fun r hr hi => by
      have o := h.rows r hr
      have l1 := o.tlen
      simp [fdN_eq (h.row hr), lenD_str (z := r.text) (A := A) (by omega), D_told_cuts_eq h hr]
      rfl) (by simp; omega))
  have es := shelf_ok (A := A) (B := A) (l := A.rows.filter onShelf) (Nat.le_trans (List.length_filter_le _ _) (by omega)) (fun r hr => (List.mem_filter.mp hr).2)
  simp [ea, es]
def wasB (A : HostSt) (a b : Int) : Bool := (A.had.map fun p => PyData.tuple [.int p.1, .int p.2]).any fun z => PyData.eqv z (.tuple [.int a, .int b])
def wasD (A : HostSt) (a b : Int) : D := .tup [.str "was_read", if A.rule.reads = true then .bl (wasB A a b) else .non]
theorem sh_pair {A : HostSt} {a b : Int} : Sh A 1 (.tup [.int a, .int b]) (.tuple [.int a, .int b]) := sh_tup (l := [a, b]) (f := D.int) (g := PyData.int) fun x _ => sh_int
theorem sh_had {A B : HostSt} : Sh B 2 (.lst (A.had.map encHad)) (hadPy A.had) := sh_lst (f := encHad) (g := fun p => PyData.tuple [.int p.1, .int p.2]) fun p _ => sh_pair
theorem inLD_reads {A : HostSt} {a b : Int} : inLD (.tup [.int a, .int b]) .reads A = .ok (.bl (wasB A a b)) := by
  unfold inLD
  have e1 : toPy A .reads = some (hadPy A.had) := by simp [toPy]
  rw [(sh_pair (A := A)).py, e1]
  unfold hadPy
  dsimp only
  rw [if_pos ⟨(sh_pair (A := A)).shaped, (sh_had (A := A) (B := A)).shaped⟩]
  rfl
theorem D_read_ans_eq {A : HostSt} {a b : Int} : D_read_answer [.host, .int a, .int b] A = .ok (wasD A a b) := by
  unfold D_read_answer b_read_answer wasD
  cases z : A.rule.reads <;> simp [z, inLD_reads]
end FK
set_option Elab.async false
set_option linter.all false
set_option maxRecDepth 100000
set_option maxHeartbeats 4000000
/-! The plain law: what the host changes when asked. -/
namespace FK
open PySem L2
def ansE : Option HostSt → HostSt → ResE
  | some A', _ => .ok done A'
  | none, A => .ok refused A
def stageT (A : HostSt) (i : Int) (x : Str) (b : Bool) : Option HostSt := match nodeAt A.rule.alike A.rows (.i i) [] with
  | none => some (makeT A (.i i) [] "file" x b true)
  | some r => if r.staged = true then some (A.setRow (wr r (r.text ++ x) b)) else none
theorem nodeAt_snoc {al : List Str} {rows : List Row} {a : Area} {p : List Str} {r : Row} (h : nodeAt al rows a p = none) (h2 : r.area = a) (h3 : sameP al r.path p = true) : nodeAt al (rows ++ [r]) a p = some r := by
  unfold nodeAt at h ⊢
  rw [List.find?_append, h]
  simp [h2, h3]
theorem put_ok {L : Nat} {A : HostSt} (h : StOk L A) (hn : A.rows.length ≤ 899) {a : Area} (ha : AreaOk a) {p : List Str} (hp : PathOk p) (hl : p.length ≤ L) {k x : Str} (hk : PyData.strOk k = true) (hx : TxtOk x) : StOk L (putNew A a p k x) := by
  refine ⟨h.lim, h.rule, fun r hr => ?_, put_nd h, fun r hr => ?_, ?_, h.no, h.nh⟩
  · rcases List.mem_append.mp hr with z | z
    · exact h.rows r z
    · rw [List.mem_singleton.mp z]
      exact ⟨ha, hp, hl, hk, hx.1, by have := hx.2; show x.length ≤ 40000; omega⟩
  · rcases List.mem_append.mp hr with z | z
    · have := h.lt r z
      show r.thing < A.next + 1
      omega
    · rw [List.mem_singleton.mp z]
      show A.next < A.next + 1
      omega
  · show (A.rows ++ [_]).length ≤ 900
    simp; omega
theorem D_stage_eq {L : Nat} {A : HostSt} (h : StOk L A) (hn : A.rows.length ≤ 899) {i : Int} {x : Str} (hx : TxtOk x) {b : Bool} : D_stage [.host, .int i, .str x, .bl b] A = ansE (stageT A i x b) A := by
  unfold D_stage b_stage stageT
  simp [D_shelf_at h]
  cases q : nodeAt A.rule.alike A.rows (.i i) [] with
  | none =>
    have ep : D_Host_put_new [.host, .int i, .tup [], .str (Str.ofString "file"), .str x] A = .ok (.node A.next) (putNew A (.i i) [] "file" x) := D_put_new_eq h (a := .i i) (p := [])
    have h1 := put_ok h hn (a := .i i) trivial pathOk_nil (by simp) ok_file hx
    have en := D_shelf_at h1 i
    have e3 : nodeAt (putNew A (.i i) [] "file" x).rule.alike (putNew A (.i i) [] "file" x).rows (.i i) [] = some ⟨.i i, [], A.next, "file", x, false, 0, 0, false⟩ := nodeAt_snoc q rfl (by simp [sameP])
    rw [e3] at en
    have nd1 : Nd (putNew A (.i i) [] "file" x) := put_nd h
    have r1 : (putNew A (.i i) [] "file" x).row A.next = some ⟨.i i, [], A.next, "file", x, false, 0, 0, false⟩ := put_row h
    have s1 : (putNew A (.i i) [] "file" x).setRow ⟨.i i, [], A.next, "file", x, b, 0, 0, false⟩ = makeT A (.i i) [] "file" x b false := put_set h
    have nd2 : Nd (makeT A (.i i) [] "file" x b false) := by rw [← s1]; exact set_nd nd1
    have r2 : (makeT A (.i i) [] "file" x b false).row A.next = some ⟨.i i, [], A.next, "file", x, b, 0, 0, false⟩ := by rw [← s1]; exact set_row nd1 r1 rfl
    have s2 : (makeT A (.i i) [] "file" x b false).setRow ⟨.i i, [], A.next, "file", x, b, 0, 0, true⟩ = makeT A (.i i) [] "file" x b true := by
      rw [← s1]
      exact (set_set (r1 := ⟨.i i, [], A.next, "file", x, b, 0, 0, false⟩) (r2 := ⟨.i i, [], A.next, "file", x, b, 0, 0, true⟩) rfl).trans (put_set h)
    simp [ep, en, st_runs nd1 r1, s1, st_staged nd2 r2, s2, ansE]
    rfl
  | some r =>
    have hm := (nodeAt_mem q).1
    have hr := h.row hm
    have o := h.rows r hm
    have l1 := o.tlen
    have l2 := hx.2
    have ea : addD (.str r.text) (.str x) A = .ok (.str (r.text ++ x)) := addD_str (by omega)
    have nd := h.nd
    have nd1 := set_nd (r' := { r with text := r.text ++ x }) nd
    have h1 : (A.setRow { r with text := r.text ++ x }).row r.thing = some { r with text := r.text ++ x } := set_row nd hr rfl
    have e1 : (A.setRow { r with text := r.text ++ x }).setRow { r with text := r.text ++ x, runs := b } = A.setRow { r with text := r.text ++ x, runs := b } := set_set rfl
    have nd2 := set_nd (r' := { r with text := r.text ++ x, runs := b }) nd
    have h2 : (A.setRow { r with text := r.text ++ x, runs := b }).row r.thing = some { r with text := r.text ++ x, runs := b } := set_row nd hr rfl
    have e2 : (A.setRow { r with text := r.text ++ x, runs := b }).setRow { r with text := r.text ++ x, runs := b, count := r.count + 1 } = A.setRow (wr r (r.text ++ x) b) := set_set rfl
    simp [hr]
    cases z : r.staged with
    | true =>
      simp [hr, ea, st_text nd hr, st_runs nd1 h1, e1, fdN_eq h2, st_count nd2 h2, e2, ansE]
      rfl
    | false =>
      simp [ansE]
      rfl
def takeT (A : HostSt) (p : List Str) (i : Int) : Option HostSt := match inFolder A p with
  | none => none
  | some r => if (nodeAt A.rule.alike A.rows (.i i) []).isSome = true then none else some (carryT A r (.i i) [])
theorem D_take_eq {L : Nat} {A : HostSt} (h : StOk L A) {p : List Str} (hp : PathOk p) {i : Int} : D_take [.host, pathD p, .int i] A = ansE (takeT A p i) A := by
  unfold D_take b_take takeT
  simp [D_in_folder_eq h hp]
  cases q : inFolder A p with
  | none => simp [ansE]; rfl
  | some r =>
    have hm := (inFolder_mem q).1
    have ec : D_Host_carry [.host, .node r.thing, .int i, .tup []] A = .ok .non (carryT A r (.i i) []) := D_carry_eq h hm (a := .i i) (p := []) (by have := h.lim; simp; omega)
    simp [D_shelf_at h]
    cases q2 : nodeAt A.rule.alike A.rows (.i i) [] with
    | none => simp [ec, ansE]; rfl
    | some _ => simp [ansE]; rfl
def giveT (A : HostSt) (i : Int) (p : List Str) : Option HostSt := match nodeAt A.rule.alike A.rows (.i i) [], freePath A (.s "folder") p with
  | some r, some q => some (carryT A r (.s "folder") q)
  | _, _ => none
theorem D_give_eq {L : Nat} {A : HostSt} (h : StOk L A) (hL : L ≤ 400) {p : List Str} (hp : PathOk p) {i : Int} : D_give [.host, .int i, pathD p] A = ansE (giveT A i p) A := by
  unfold D_give b_give giveT
  have ef : D_Host_free_path [.host, .str (Str.ofString "folder"), pathD p] A = .ok (optP (freePath A (.s "folder") p)) := D_free_path h (a := .s "folder") ok_folder hp
  simp [D_shelf_at h, ef]
  cases q : nodeAt A.rule.alike A.rows (.i i) [] with
  | none => simp [ansE]; rfl
  | some r =>
    have hm := (nodeAt_mem q).1
    cases q2 : freePath A (.s "folder") p with
    | none => simp [ansE, optP]; rfl
    | some z =>
      obtain ⟨f1, f2, f3⟩ := freePath_ok h hp q2
      have ec : D_Host_carry [.host, .node r.thing, .str (Str.ofString "folder"), pathD z] A = .ok .non (carryT A r (.s "folder") z) := D_carry_eq h hm (a := .s "folder") (p := z) (by omega)
      simp [ansE, optP, ec]
      rfl
def mkfT (A : HostSt) (p : List Str) : Option HostSt := (freePath A (.s "folder") p).map fun q => makeT A (.s "folder") q "folder" "" false false
theorem D_mkf_eq {L : Nat} {A : HostSt} (h : StOk L A) {p : List Str} (hp : PathOk p) : D_make_folder [.host, pathD p] A = ansE (mkfT A p) A := by
  unfold D_make_folder b_make_folder mkfT
  have ef : D_Host_free_path [.host, .str (Str.ofString "folder"), pathD p] A = .ok (optP (freePath A (.s "folder") p)) := D_free_path h (a := .s "folder") ok_folder hp
  simp [ef]
  cases q2 : freePath A (.s "folder") p with
  | none => simp [ansE, optP]; rfl
  | some z =>
    have ep : D_Host_put_new [.host, .str (Str.ofString "folder"), pathD z, .str (Str.ofString "folder"), .str (Str.ofString "")] A = .ok (.node A.next) (putNew A (.s "folder") z "folder" "") := D_put_new_eq h (a := .s "folder") (p := z)
    simp [ansE, optP, ep]
    exact ⟨rfl, rfl⟩
def rmfT (A : HostSt) (p : List Str) : Option HostSt := match inFolder A p with
  | none => none
  | some r => if r.kind = "folder" ∧ holds A r = false then some (goneT A r.thing) else none
theorem D_rmf_eq {L : Nat} {A : HostSt} (h : StOk L A) {p : List Str} (hp : PathOk p) : D_remove_folder_asking [.host, pathD p] A = ansE (rmfT A p) A := by
  unfold D_remove_folder_asking b_remove_folder_asking rmfT
  simp [D_in_folder_eq h hp]
  cases q : inFolder A p with
  | none => simp [ansE]; rfl
  | some r =>
    have hm := (inFolder_mem q).1
    have hk := neD_kind (A := A) (h.rows r hm) ok_folder
    simp [fdN_eq (h.row hm), hk, D_holds_eq h hm]
    by_cases z : r.kind = "folder" <;> cases z2 : holds A r <;> simp [z, ansE, D_take_away_eq h hm] <;> rfl
def dropT (A : HostSt) (i n : Int) : Option HostSt := match nodeAt A.rule.alike A.rows (.i i) [] with
  | none => none
  | some r => if r.kind = "file" ∧ r.count = n ∧ r.thing ∉ A.opened then some (goneT A r.thing) else none
theorem D_drop_eq {L : Nat} {A : HostSt} (h : StOk L A) {i n : Int} : D_drop [.host, .int i, .int n] A = ansE (dropT A i n) A := by
  unfold D_drop b_drop dropT
  simp [D_shelf_at h]
  cases q : nodeAt A.rule.alike A.rows (.i i) [] with
  | none => simp [ansE]; rfl
  | some r =>
    have hm := (nodeAt_mem q).1
    have hk := neD_kind (A := A) (h.rows r hm) ok_file
    simp [fdN_eq (h.row hm), hk, inLD_op]
    by_cases z : r.kind = "file" <;> by_cases z2 : r.count = n <;> by_cases z3 : r.thing ∈ A.opened <;> simp [z, z2, z3, ansE, D_take_away_eq h hm, fdN_eq (h.row hm), inLD_op] <;> rfl
end FK
set_option Elab.async false
set_option linter.all false
set_option maxRecDepth 100000
set_option maxHeartbeats 4000000
/-! The plain law: swap. -/
namespace FK
open PySem L2
theorem carry_ok {L M : Nat} {A : HostSt} (h : StOk L A) {r0 : Row} {a : Area} {p : List Str} (ha : AreaOk a) (hp : PathOk p) (hl : p.length + L ≤ M) (hM : M ≤ 900) : StOk M (carryT A r0 a p) := by
  refine ⟨hM, h.rule, fun r hr => ?_, ?_, fun r hr => ?_, ?_, h.no, h.nh⟩
  · obtain ⟨q, hq, rfl⟩ := List.mem_map.mp hr
    have o := h.rows q hq
    unfold mv
    split
    · refine ⟨ha, hp.append (o.path.drop _), ?_, o.kind, o.text, o.tlen⟩
      have := o.plen
      show (p ++ q.path.drop _).length ≤ M
      rw [List.length_append, List.length_drop]
      omega
    · exact ⟨o.area, o.path, by have := o.plen; omega, o.kind, o.text, o.tlen⟩
  · show ((A.rows.map _).map _).Nodup
    rw [List.map_map]
    have : ((fun r : Row => r.thing) ∘ mv r0 a p) = fun r => r.thing := by
      funext q
      exact mv_thing
    rw [this]
    exact h.nd
  · obtain ⟨q, hq, rfl⟩ := List.mem_map.mp hr
    rw [mv_thing]
    exact h.lt q hq
  · show (A.rows.map _).length ≤ 900
    rw [List.length_map]
    exact h.nr
def swapRow (st ly : Row) (i : Int) (q : Row) : Row := if inW q st.area st.path = true then mvRow q (.i i) [] st.path.length else if inW q (.i i) [] = true then mvRow q (.s "folder") st.path 0 else q
def swapT (A : HostSt) (i : Int) (p : List Str) : Option HostSt := if A.rule.swaps = true then (match nodeAt A.rule.alike A.rows (.i i) [], inFolder A p with
  | some ly, some st => some { A with rows := A.rows.map (swapRow st ly i), turned := A.turned + 1 }
  | _, _ => none) else none
/-- through an area that nothing lies in -/
theorem swap_three {st ly : Row} {i : Int} {Z : Str} {q : Row} (hs : st.area = .s "folder") (hl : ly.area = .i i) (hlp : ly.path = []) (hz : q.area ≠ .s Z) (hz2 : (.s "folder" : Area) ≠ .s Z) :
    mv (mvRow st (.s Z) [] st.path.length) (.i i) [] (mv ly (.s "folder") st.path (mv st (.s Z) [] q)) = swapRow st ly i q := by
  have e1 : (mvRow st (.s Z) [] st.path.length).path = [] := by unfold mvRow; simp
  have e2 : (mvRow st (.s Z) [] st.path.length).area = .s Z := rfl
  unfold swapRow
  cases w : inW q st.area st.path with
  | true =>
    have e3 : mv st (.s Z) [] q = mvRow q (.s Z) [] st.path.length := by unfold mv; rw [if_pos w]
    rw [e3]
    have e4 : mv ly (.s "folder") st.path (mvRow q (.s Z) [] st.path.length) = mvRow q (.s Z) [] st.path.length := by
      unfold mv
      rw [if_neg]
      unfold inW
      rw [hl]
      simp [mvRow]
    rw [e4]
    unfold mv
    rw [if_pos (by unfold inW; rw [e1, e2]; simp [mvRow]), if_pos rfl, e1]
    unfold mvRow
    simp
  | false =>
    have e3 : mv st (.s Z) [] q = q := by unfold mv; rw [if_neg (by rw [w]; simp)]
    rw [e3, if_neg (by simp)]
    cases w2 : inW q (.i i) [] with
    | true =>
      have e4 : mv ly (.s "folder") st.path q = mvRow q (.s "folder") st.path 0 := by
        unfold mv
        rw [hl, hlp, if_pos w2]
        rfl
      rw [e4, if_pos rfl]
      unfold mv
      rw [if_neg]
      unfold inW
      rw [e2]
      have : ¬ ((mvRow q (.s "folder") st.path 0).area = .s Z) := hz2
      simp [this]
    | false =>
      have e4 : mv ly (.s "folder") st.path q = q := by
        unfold mv
        rw [hl, hlp, if_neg (by rw [w2]; simp)]
      rw [e4, if_neg (by simp)]
      unfold mv
      rw [if_neg]
      unfold inW
      rw [e2]
      simp [hz]
theorem shelf_root {A : HostSt} {i : Int} {r : Row} (e : nodeAt A.rule.alike A.rows (.i i) [] = some r) : r ∈ A.rows ∧ r.area = .i i ∧ r.path = [] := by
  obtain ⟨h1, h2, h3⟩ := nodeAt_mem e
  refine ⟨h1, h2, ?_⟩
  have := of_decide_eq_true h3
  simpa using this
theorem inW_self {r : Row} : inW r r.area r.path = true := by unfold inW; simp
theorem D_swap_eq {L : Nat} {A : HostSt} (h : StOk L A) (hL : L ≤ 200) (hk : KaAll A) {p : List Str} (hp : PathOk p) {i : Int} : D_swap [.host, .int i, pathD p] A = ansE (swapT A i p) A := by
  unfold D_swap b_swap swapT
  simp [D_shelf_at h, D_in_folder_eq h hp]
  cases z : A.rule.swaps with
  | false => simp [ansE]; rfl
  | true =>
    cases q1 : nodeAt A.rule.alike A.rows (.i i) [] with
    | none => simp [ansE]; rfl
    | some ly =>
      cases q2 : inFolder A p with
      | none => simp [ansE]; rfl
      | some st =>
        obtain ⟨ml, al, pl⟩ := shelf_root q1
        obtain ⟨ms, as⟩ := inFolder_mem q2
        have os := h.rows st ms
        have okB : PyData.strOk "between" = true := strOk_ofString _
        have c1 : D_Host_carry [.host, .node st.thing, .str (Str.ofString "between"), .tup []] A = .ok .non (carryT A st (.s "between") []) := D_carry_eq h ms (a := .s "between") (p := []) (by simp; omega)
        have h1 : StOk L (carryT A st (.s "between") []) := carry_ok h okB pathOk_nil (by simp) h.lim
        have el : mv st (.s "between") [] ly = ly := by
          unfold mv
          rw [if_neg]
          unfold inW
          rw [al, as]
          simp
        have ml1 : ly ∈ (carryT A st (.s "between") []).rows := List.mem_map.mpr ⟨ly, ml, el⟩
        have c2 : D_Host_carry [.host, .node ly.thing, .str (Str.ofString "folder"), pathD st.path] (carryT A st (.s "between") []) = .ok .non (carryT (carryT A st (.s "between") []) ly (.s "folder") st.path) := D_carry_eq h1 ml1 (a := .s "folder") (p := st.path) (by have := os.plen; omega)
        have h2 : StOk (L + L) (carryT (carryT A st (.s "between") []) ly (.s "folder") st.path) := carry_ok h1 ok_folder os.path (by have := os.plen; omega) (by omega)
        have e1 : mv st (.s "between") [] st = mvRow st (.s "between") [] st.path.length := by unfold mv; rw [if_pos inW_self]
        have e2 : mv ly (.s "folder") st.path (mvRow st (.s "between") [] st.path.length) = mvRow st (.s "between") [] st.path.length := by
          unfold mv
          rw [if_neg]
          unfold inW
          rw [al]
          simp [mvRow]
        have ms2 : mvRow st (.s "between") [] st.path.length ∈ (carryT (carryT A st (.s "between") []) ly (.s "folder") st.path).rows := by
          refine List.mem_map.mpr ⟨_, List.mem_map.mpr ⟨st, ms, e1⟩, e2⟩
        have c3 : D_Host_carry [.host, .node st.thing, .int i, .tup []] (carryT (carryT A st (.s "between") []) ly (.s "folder") st.path) = .ok .non (carryT (carryT (carryT A st (.s "between") []) ly (.s "folder") st.path) (mvRow st (.s "between") [] st.path.length) (.i i) []) := D_carry_eq h2 ms2 (a := .i i) (p := []) (by simp; omega)
        simp [fdN_eq (h.row ms), c1, c2, c3, ansE]
        refine ⟨rfl, ?_⟩
        unfold carryT
        dsimp only
        rw [List.map_map, List.map_map]
        have er : (A.rows.map ((mv (mvRow st (.s "between") [] st.path.length) (.i i) [] ∘ mv ly (.s "folder") st.path) ∘ mv st (.s "between") [])) = A.rows.map (swapRow st ly i) := by
          apply List.map_congr_left
          intro q hq
          refine swap_three as al pl ?_ ?_
          · rcases hk q hq with e | e | ⟨j, e⟩ <;> rw [e] <;> simp [ofString_inj]
          · simp [ofString_inj]
        exact ⟨rfl, er, rfl, rfl, rfl, by omega, rfl⟩
end FK
set_option Elab.async false
set_option linter.all false
set_option maxRecDepth 100000
set_option maxHeartbeats 4000000
/-! The plain law: asking the host. -/
namespace FK
open PySem L2
def isRead : Op → Bool
  | .names _ => true
  | .total => true
  | .shelf => true
  | .read _ => true
  | .readShelf _ => true
  | .wasRead _ _ => true
  | _ => false
def change (A : HostSt) : Op → Option HostSt
  | .stage i x b => stageT A i x b
  | .take p i => takeT A p i
  | .give i p => giveT A i p
  | .swap i p => swapT A i p
  | .makeFolder p => mkfT A p
  | .removeFolder p => rmfT A p
  | .drop i n => dropT A i n
  | _ => none
def totalD (A : HostSt) : D := .tup [.str "total", if A.rule.turns = true then .int A.turned else .non]
noncomputable def toldD (A B : HostSt) : Op → D
  | .names p => namesD A B p
  | .total => totalD A
  | .shelf => shelfAns A B
  | .read p => textD A (inFolder A p)
  | .readShelf i => textD A (nodeAt A.rule.alike A.rows (.i i) [])
  | .wasRead a b => wasD A a b
  | _ => .non
theorem ret_ans {r : Option HostSt} {A : HostSt} {k : Env → HostSt → OutE} : bE (dE (ansE r A) fun d A' => .ret d A') k = dE (ansE r A) fun d A' => .ret d A' := by cases r <;> rfl
theorem end_ans {r : Option HostSt} {A : HostSt} : noexcE (endE (dE (ansE r A) fun d A' => .ret d A')) = ansE r A := by cases r <;> rfl
theorem D_change_eq {L : Nat} {A : HostSt} (h : StOk L A) (hL : L ≤ 200) (hn : A.rows.length ≤ 899) (hk : KaAll A) {o : Op} (ho : OpOk o) (hr : isRead o = false) : D_change_answer [.host, encOp o] A = ansE (change A o) A := by
  unfold D_change_answer b_change_answer
  cases o with
  | stage i x b => simp [encOp, D_stage_eq h hn ho, change, ret_ans, end_ans]
  | take p i => simp [encOp, D_take_eq h ho.1, change, ret_ans, end_ans]
  | give i p => simp [encOp, D_give_eq h (by omega) ho.1, change, ret_ans, end_ans]
  | swap i p => simp [encOp, D_swap_eq h hL hk ho.1, change, ret_ans, end_ans]
  | makeFolder p => simp [encOp, D_mkf_eq h ho.1, change, ret_ans, end_ans]
  | removeFolder p => simp [encOp, D_rmf_eq h ho.1, change, ret_ans, end_ans]
  | drop i n => simp [encOp, D_drop_eq h, change, ret_ans, end_ans]
  | _ => cases hr
theorem D_ask_eq {L : Nat} {A : HostSt} (h : StOk L A) (hL : L ≤ 200) (hn : A.rows.length ≤ 899) (hk : KaAll A) {o : Op} (ho : OpOk o) : D_Host_ask [.host, encOp o] A = if isRead o = true then .ok (toldD A A o) A else ansE (change A o) A := by
  have key : D_answer [.host, encOp o] A = if isRead o = true then .ok (toldD A A o) A else ansE (change A o) A := by
    unfold D_answer b_answer
    cases o with
    | names p => simp [encOp, D_names_eq h ho.1, isRead, toldD]
    | total =>
      simp [encOp, isRead, toldD, totalD]
      cases z : A.rule.turns <;> simp [z]
    | shelf => simp [encOp, D_shelf_ans_eq h, isRead, toldD]
    | read p => simp [encOp, D_in_folder_eq h ho.1, D_text_eq h fun r e => (inFolder_mem e).1, isRead, toldD]
    | readShelf i => simp [encOp, D_shelf_at h, D_text_eq h fun r e => (nodeAt_mem e).1, isRead, toldD]
    | wasRead a b => simp [encOp, D_read_ans_eq, isRead, toldD]
    | stage i x b =>
      have e := D_change_eq h hL hn hk (o := .stage i x b) ho rfl
      simp only [encOp] at e
      simp [encOp, e, isRead, end_ans]
    | take p i =>
      have e := D_change_eq h hL hn hk (o := .take p i) ho rfl
      simp only [encOp] at e
      simp [encOp, e, isRead, end_ans]
    | give i p =>
      have e := D_change_eq h hL hn hk (o := .give i p) ho rfl
      simp only [encOp] at e
      simp [encOp, e, isRead, end_ans]
    | swap i p =>
      have e := D_change_eq h hL hn hk (o := .swap i p) ho rfl
      simp only [encOp] at e
      simp [encOp, e, isRead, end_ans]
    | makeFolder p =>
      have e := D_change_eq h hL hn hk (o := .makeFolder p) ho rfl
      simp only [encOp] at e
      simp [encOp, e, isRead, end_ans]
    | removeFolder p =>
      have e := D_change_eq h hL hn hk (o := .removeFolder p) ho rfl
      simp only [encOp] at e
      simp [encOp, e, isRead, end_ans]
    | drop i n =>
      have e := D_change_eq h hL hn hk (o := .drop i n) ho rfl
      simp only [encOp] at e
      simp [encOp, e, isRead, end_ans]
  unfold D_Host_ask b_Host_ask
  simp [key]
  cases isRead o with
  | true => simp
  | false => simp [end_ans]
end FK
set_option Elab.async false
set_option linter.all false
set_option maxRecDepth 100000
set_option maxHeartbeats 4000000
/-! The plain law: the law's answers. -/
namespace FK
open PySem L2
theorem D_law_cuts_eq {A B : HostSt} {r : Row} : D__law_cuts [.rule A.rule, encRow r] B = .ok (.int (cutsI A r)) := by
  unfold D__law_cuts b__law_cuts cutsI
  cases z : A.rule.cuts <;> simp [z]
theorem D_law_read_eq {L : Nat} {A B : HostSt} (h : StOk L A) {o : Option Row} (ho : ∀ r, o = some r → r ∈ A.rows) : D__law_read [.rule A.rule, rowD o] B = .ok (textD A o) := by
  unfold D__law_read b__law_read textD
  cases o with
  | none => simp; rfl
  | some r =>
    have hr := ho r rfl
    have o := h.rows r hr
    have hk := neD_kind (A := B) o ok_file
    simp [hk]
    by_cases hk : r.kind = "file"
    · simp [hk, D_law_cuts_eq]
    · simp [hk]; rfl
theorem shelf_law {L : Nat} {A B : HostSt} (h : StOk L A) (i : Int) : D__law_at [rowsD A.rows, .rule A.rule, .int i, .tup []] B = .ok (rowD (nodeAt A.rule.alike A.rows (.i i) [])) := D_law_at_eq h (a := .i i) trivial pathOk_nil
theorem folder_law {L : Nat} {A B : HostSt} (h : StOk L A) {p : List Str} (hp : PathOk p) : D__law_at [rowsD A.rows, .rule A.rule, .str (Str.ofString "folder"), pathD p] B = .ok (rowD (nodeAt A.rule.alike A.rows (.s "folder") p)) := D_law_at_eq h (a := .s "folder") ok_folder hp
theorem inLD_had {A B : HostSt} {a b : Int} : inLD (.tup [.int a, .int b]) (.lst (A.had.map encHad)) B = .ok (.bl (wasB A a b)) := by
  unfold inLD
  rw [(sh_pair (A := B)).py, (sh_had (A := A) (B := B)).py]
  unfold hadPy
  dsimp only
  rw [if_pos ⟨(sh_pair (A := B)).shaped, (sh_had (A := A) (B := B)).shaped⟩]
  rfl
theorem D_told_eq {L : Nat} {A B : HostSt} (h : StOk L A) {o : Op} (ho : OpOk o) (hr : isRead o = true) : D__law_told [encS A, .rule A.rule, encOp o] B = .ok (toldD A B o) := by
  unfold D__law_told b__law_told
  have nr := h.nr
  cases o with
  | names p =>
    have e : D__law_above [rowsD A.rows, .rule A.rule, .str (Str.ofString "folder"), pathD p] B = .ok (optP (folderPath A (.s "folder") p)) := D_law_above_eq h (a := .s "folder") (.inl rfl) ho.1
    simp [encOp, e, toldD, namesD]
    cases hf : folderPath A (.s "folder") p with
    | none => simp [optP]; rfl
    | some ab =>
      have fo := folderPath_ok h hf
      have e1 : ∀ v0 v1 v2 v3 v4 : Option D, lcGo 6 (tvAnd (tOfV (vBin eqD (vBin ixD (vVar 6) (vC (.int 0))) (vC (.str "folder")))) (tvAnd (tOfV (vBin eqD (vSl (vBin ixD (vVar 6) (vC (.int 1))) oNone (oSome (vUn negD (vC (.int 1))))) (vVar 5))) (tOfV (vBin neD (vBin ixD (vVar 6) (vC (.int 1))) (vTup vNil))))) (vVar 6) [v0, v1, v2, v3, v4, some (pathD ab), none] B (A.rows.map encRow) [] = .ok ([] ++ (A.rows.filter (inNames ab)).map encRow) := by
        intro v0 v1 v2 v3 v4
        refine lc_map encRow (inNames ab) encRow (fun r hr => ?_) (fun r hr _ => by simp) (by simp; omega)
        have o := h.rows r hr
        simp [eqD_areaS o.area, neD_nil o.path, slD_init, eqD_path o.path.init fo.1]
        unfold inNames
        by_cases z1 : r.path = [] <;> by_cases z2 : r.path.dropLast = ab <;> simp [z1, z2]
      have e2 : ∀ v0 v2 v3 v4 v5 : Option D, lcGo 6 tvYes (vTup (vCons (vBin ixD (vBin ixD (vVar 6) (vC (.int 1))) (vUn negD (vC (.int 1)))) (vCons (vBin ixD (vVar 6) (vC (.int 2))) (vCons (vBin ixD (vVar 6) (vC (.int 3))) (vCons (vBin ixD (vVar 6) (vC (.int 6))) (vCons (vCall 2 D__law_cuts (vCons (vVar 1) (vCons (vVar 6) vNil))) vNil)))))) [v0, some (.rule A.rule), v2, v3, v4, v5, none] B ((A.rows.filter (inNames ab)).map encRow) [] = .ok ([] ++ ((A.rows.filter (inNames ab)).filter fun _ => true).map (nameD A)) := by
        intro v0 v2 v3 v4 v5
        refine lc_map encRow (fun _ => true) (nameD A) (fun r hr => by simp) (fun r hr _ => ?_) (by have := List.length_filter_le (inNames ab) A.rows; simp; omega)
        have hi := (List.mem_filter.mp hr).2
        have hne : r.path ≠ [] := by
          unfold inNames at hi
          simp at hi
          exact hi.2.1
        simp [last_ix hne, D_law_cuts_eq]
        rfl
      have es := names_ok (A := A) (B := B) (l := A.rows.filter (inNames ab)) (Nat.le_trans (List.length_filter_le _ _) (by omega))
      simp only [filter_true] at e2
      simp [optP, e1, e2, es]
  | total =>
    simp [encOp, toldD, totalD]
    cases z : A.rule.turns <;> simp [z]
  | shelf =>
    have e1 : ∀ v0 v1 v2 v3 v4 v5 : Option D, lcGo 6 (tvAnd (tOfV (vUn isIntD (vBin ixD (vVar 6) (vC (.int 0))))) (tOfV (vBin eqD (vBin ixD (vVar 6) (vC (.int 1))) (vTup vNil)))) (vVar 6) [v0, v1, v2, v3, v4, v5, none] B (A.rows.map encRow) [] = .ok ([] ++ (A.rows.filter onShelf).map encRow) := by
      intro v0 v1 v2 v3 v4 v5
      refine lc_map encRow onShelf encRow (fun r hr => ?_) (fun r hr _ => by simp) (by simp; omega)
      simp [eqD_nil (h.rows r hr).path, -isIntD_area]
      rfl
    have e2 : ∀ v0 v2 v3 v4 v5 : Option D, lcGo 6 tvYes (vTup (vCons (vBin ixD (vVar 6) (vC (.int 0))) (vCons (vBin ixD (vVar 6) (vC (.int 2))) (vCons (vBin ixD (vVar 6) (vC (.int 3))) (vCons (vBin ixD (vVar 6) (vC (.int 6))) (vCons (vCall 2 D__law_cuts (vCons (vVar 1) (vCons (vVar 6) vNil))) (vCons (vApp lenD (vCons (vBin ixD (vVar 6) (vC (.int 4))) vNil)) vNil))))))) [v0, some (.rule A.rule), v2, v3, v4, v5, none] B ((A.rows.filter onShelf).map encRow) [] = .ok ([] ++ ((A.rows.filter onShelf).filter fun _ => true).map (onShelfD A)) := by
      intro v0 v2 v3 v4 v5
      refine lc_map encRow (fun _ => true) (onShelfD A) (fun r hr => by simp) (fun r hr _ => ?_) (by have := List.length_filter_le onShelf A.rows; simp; omega)
      have o := h.rows r (List.mem_filter.mp hr).1
      have l1 := o.tlen
      simp [lenD_str (z := r.text) (A := B) (by omega), D_law_cuts_eq]
      rfl
    have es := shelf_ok (A := A) (B := B) (l := A.rows.filter onShelf) (Nat.le_trans (List.length_filter_le _ _) (by omega)) (fun r hr => (List.mem_filter.mp hr).2)
    simp only [filter_true] at e2
    simp [encOp, toldD, shelfAns, e1, e2, es]
  | read p =>
    simp [encOp, toldD, eqD_nil ho.1]
    by_cases z : p = []
    · simp [z, inFolder, textD]; rfl
    · have e := D_law_read_eq (B := B) h (o := nodeAt A.rule.alike A.rows (.s "folder") p) fun r e => (nodeAt_mem e).1
      simp [z, folder_law h ho.1, e, inFolder]
  | readShelf i =>
    have e := D_law_read_eq (B := B) h (o := nodeAt A.rule.alike A.rows (.i i) []) fun r e => (nodeAt_mem e).1
    simp [encOp, toldD, shelf_law h, e]
  | wasRead a b =>
    simp [encOp, toldD, wasD]
    cases z : A.rule.reads <;> simp [z, inLD_had]
  | _ => cases hr
end FK
set_option Elab.async false
set_option linter.all false
set_option maxRecDepth 100000
set_option maxHeartbeats 4000000
/-! The plain law: the law's change. -/
namespace FK
open PySem L2
theorem filter_thing : ∀ {rs : List Row} {r : Row}, (rs.map (·.thing)).Nodup → r ∈ rs → (rs.filter fun q => decide (q.thing = r.thing)) = [r]
  | z :: rs, r, nd, hr => by
    rw [List.map_cons, List.nodup_cons] at nd
    rcases List.mem_cons.mp hr with e | e
    · subst e
      rw [List.filter_cons_of_pos (by simp)]
      congr 1
      rw [List.filter_eq_nil_iff]
      intro q hq
      have : q.thing ≠ r.thing := fun w => nd.1 (by rw [← w]; exact List.mem_map_of_mem hq)
      simpa using this
    · have : z.thing ≠ r.thing := fun q => nd.1 (by rw [q]; exact List.mem_map_of_mem e)
      rw [List.filter_cons_of_neg (by simpa using this)]
      exact filter_thing nd.2 e
theorem D_law_carry_eq {L : Nat} {A B : HostSt} (h : StOk L A) (hL : L ≤ 200) (hk : KaAll A) {o : Op} (ho : OpOk o) (hr : match o with | .take _ _ => True | .give _ _ => True | .swap _ _ => True | .removeFolder _ => True | _ => False) : D__law_carry [encS A, .rule A.rule, encOp o] B = .ok (stD (change A o)) := by
  unfold D__law_carry b__law_carry
  cases o with
  | take p i =>
    simp [encOp, neD_nil ho.1, change, takeT, inFolder]
    have l0 := h.lim
    by_cases z : p = []
    · simp [z, shelf_law h]
    · simp [z, folder_law h ho.1, shelf_law h]
      cases q : nodeAt A.rule.alike A.rows (.s "folder") p with
      | none => simp
      | some r =>
        have hm := (nodeAt_mem q).1
        have ec : D__law_carried [encS A, encRow r, .int i, .tup []] B = .ok (encS (carryT A r (.i i) [])) := D_carried_eq h (h.rows r hm) (a := .i i) (p := []) (by simp; omega)
        cases q2 : nodeAt A.rule.alike A.rows (.i i) [] with
        | none => simp [ec]
        | some _ => simp
  | give i p =>
    have ef : D__law_free [rowsD A.rows, .rule A.rule, .str (Str.ofString "folder"), pathD p] B = .ok (optP (freePath A (.s "folder") p)) := D_law_free_eq h (a := .s "folder") (.inl rfl) ho.1
    have fin : ∀ r q, nodeAt A.rule.alike A.rows (.i i) [] = some r → freePath A (.s "folder") p = some q → D__law_carried [encS A, encRow r, .str (Str.ofString "folder"), pathD q] B = .ok (encS (carryT A r (.s "folder") q)) := by
      intro r q h1 h2
      obtain ⟨f1, f2, f3⟩ := freePath_ok h ho.1 h2
      exact D_carried_eq h (h.rows r (nodeAt_mem h1).1) (a := .s "folder") (p := q) (by omega)
    simp [encOp, neD_nil ho.1, change, giveT]
    by_cases z : p = []
    · subst z
      have e0 : D__law_free [rowsD A.rows, .rule A.rule, .str (Str.ofString "folder"), pathD []] B = .ok (optP (freePath A (.s "folder") [])) := ef
      simp [shelf_law h, e0]
      have : freePath A (.s "folder") [] = none := rfl
      cases q : nodeAt A.rule.alike A.rows (.i i) [] with
      | none => simp
      | some r => simp [this, optP]
    · simp [z, folder_law h ho.1, shelf_law h, ef]
      cases q : nodeAt A.rule.alike A.rows (.i i) [] with
      | none => simp
      | some r =>
        cases q2 : freePath A (.s "folder") p with
        | none => simp [optP]
        | some w => simp [optP, fin r w q q2]
  | swap i p =>
    simp [encOp, neD_nil ho.1, change, swapT, inFolder]
    by_cases z : p = []
    · simp [z, shelf_law h]
    · simp [z, folder_law h ho.1, shelf_law h]
      cases zs : A.rule.swaps with
      | false => simp
      | true =>
        cases q1 : nodeAt A.rule.alike A.rows (.i i) [] with
        | none => simp
        | some ly =>
          cases q2 : nodeAt A.rule.alike A.rows (.s "folder") p with
          | none => simp
          | some st =>
            obtain ⟨ml, al, pl⟩ := shelf_root q1
            obtain ⟨ms, as, _⟩ := nodeAt_mem q2
            have os := h.rows st ms
            have ol := h.rows ly ml
            have okB : PyData.strOk "away" = true := strOk_ofString _
            have c1 : D__law_carried [encS A, encRow st, .str (Str.ofString "away"), .tup []] B = .ok (encS (carryT A st (.s "away") [])) := D_carried_eq h os (a := .s "away") (p := []) (by simp; omega)
            have h1 : StOk L (carryT A st (.s "away") []) := carry_ok h okB pathOk_nil (by simp) h.lim
            have c2 : D__law_carried [encS (carryT A st (.s "away") []), encRow ly, .str (Str.ofString "folder"), pathD st.path] B = .ok (encS (carryT (carryT A st (.s "away") []) ly (.s "folder") st.path)) := D_carried_eq h1 ol (a := .s "folder") (p := st.path) (by have := os.plen; omega)
            have h2 : StOk (L + L) (carryT (carryT A st (.s "away") []) ly (.s "folder") st.path) := carry_ok h1 ok_folder os.path (by have := os.plen; omega) (by omega)
            have e1 : mv st (.s "away") [] st = mvRow st (.s "away") [] st.path.length := by unfold mv; rw [if_pos inW_self]
            have e2 : mv ly (.s "folder") st.path (mvRow st (.s "away") [] st.path.length) = mvRow st (.s "away") [] st.path.length := by
              unfold mv
              rw [if_neg]
              unfold inW
              rw [al]
              simp [mvRow]
            have ms2 : mvRow st (.s "away") [] st.path.length ∈ (carryT (carryT A st (.s "away") []) ly (.s "folder") st.path).rows := List.mem_map.mpr ⟨_, List.mem_map.mpr ⟨st, ms, e1⟩, e2⟩
            have o2 := h2.rows _ ms2
            have c3 : D__law_carried [encS (carryT (carryT A st (.s "away") []) ly (.s "folder") st.path), encRow (mvRow st (.s "away") [] st.path.length), .int i, .tup []] B = .ok (encS (carryT (carryT (carryT A st (.s "away") []) ly (.s "folder") st.path) (mvRow st (.s "away") [] st.path.length) (.i i) [])) := D_carried_eq h2 o2 (a := .i i) (p := []) (by simp; omega)
            have lc : ∀ v0 v1 v2 v3 v4 v5 v7 v8 v9 v10 v11 v12 : Option D, lcGo 13 (tOfV (vBin eqD (vBin ixD (vVar 13) (vC (.int 2))) (vBin ixD (vVar 6) (vC (.int 2))))) (vVar 13) [v0, v1, v2, v3, v4, v5, some (encRow st), v7, v8, v9, v10, v11, v12, none] B ((carryT (carryT A st (.s "away") []) ly (.s "folder") st.path).rows.map encRow) [] = .ok [encRow (mvRow st (.s "away") [] st.path.length)] := by
              intro v0 v1 v2 v3 v4 v5 v7 v8 v9 v10 v11 v12
              have := lc_map (i := 13) (t := tOfV (vBin eqD (vBin ixD (vVar 13) (vC (.int 2))) (vBin ixD (vVar 6) (vC (.int 2))))) (e := vVar 13) (ρ := [v0, v1, v2, v3, v4, v5, some (encRow st), v7, v8, v9, v10, v11, v12, none]) (A := B) encRow (fun q => decide (q.thing = st.thing)) encRow (l := (carryT (carryT A st (.s "away") []) ly (.s "folder") st.path).rows) (acc := []) (fun r hr => by simp) (fun r hr _ => by simp) (by have := h2.nr; simp at this ⊢; omega)
              rw [this]
              have ft : ((carryT (carryT A st (.s "away") []) ly (.s "folder") st.path).rows.filter fun q => decide (q.thing = st.thing)) = [mvRow st (.s "away") [] st.path.length] := filter_thing h2.nd ms2
              rw [ft]
              rfl
            have er : (carryT (carryT (carryT A st (.s "away") []) ly (.s "folder") st.path) (mvRow st (.s "away") [] st.path.length) (.i i) []).rows = A.rows.map (swapRow st ly i) := by
              unfold carryT
              dsimp only
              rw [List.map_map, List.map_map]
              apply List.map_congr_left
              intro q hq
              refine swap_three as al pl ?_ ?_
              · rcases hk q hq with e | e | ⟨j, e⟩ <;> rw [e] <;> simp [ofString_inj]
              · simp [ofString_inj]
            simp [c1, c2, lc, c3, er]
            rfl
  | removeFolder p =>
    simp [encOp, neD_nil ho.1, change, rmfT, inFolder]
    by_cases z : p = []
    · simp [z]
    · simp [z, folder_law h ho.1]
      cases q : nodeAt A.rule.alike A.rows (.s "folder") p with
      | none => simp
      | some r =>
        have hm := (nodeAt_mem q).1
        have o := h.rows r hm
        have hk := neD_kind (A := B) o ok_folder
        simp [hk, D_filled_eq h o]
        by_cases z1 : r.kind = "folder" <;> cases z2 : holds A r <;> simp [z1, D_gone_eq h]
  | _ => exact hr.elim
end FK
set_option Elab.async false
set_option linter.all false
set_option maxRecDepth 100000
set_option maxHeartbeats 4000000
/-! The plain law: the law's change, whole. -/
namespace FK
open PySem L2
theorem D_law_change_eq {L : Nat} {A B : HostSt} (h : StOk L A) (hL : L ≤ 200) (hk : KaAll A) {o : Op} (ho : OpOk o) (hr : isRead o = false) : D__law_change [encS A, .rule A.rule, encOp o] B = .ok (stD (change A o)) := by
  unfold D__law_change b__law_change
  cases o with
  | stage i x b =>
    simp [encOp, shelf_law h, change, stageT]
    cases q : nodeAt A.rule.alike A.rows (.i i) [] with
    | none =>
      have e : D__law_put [encS A, .int i, .tup [], .str (Str.ofString "file"), .str x, .bl b, .bl true] B = .ok (encS (makeT A (.i i) [] "file" x b true)) := D_put_eq h (a := .i i) (p := [])
      simp [e]
    | some r =>
      have hm := (nodeAt_mem q).1
      have o := h.rows r hm
      have l1 := o.tlen
      have l2 := ho.2
      have ea : addD (.str r.text) (.str x) B = .ok (.str (r.text ++ x)) := addD_str (by omega)
      have e := D_with_text_eq (B := B) h hm (x := r.text ++ x) (b := b) (c := 0)
      have e2 : ({ wr r (r.text ++ x) b with cuts := r.cuts + 0 } : Row) = wr r (r.text ++ x) b := by simp [wr]
      rw [e2] at e
      cases z : r.staged <;> simp [z, ea, e]
  | makeFolder p =>
    have ef : D__law_free [rowsD A.rows, .rule A.rule, .str (Str.ofString "folder"), pathD p] B = .ok (optP (freePath A (.s "folder") p)) := D_law_free_eq h (a := .s "folder") (.inl rfl) ho.1
    simp [encOp, ef, change, mkfT]
    cases q : freePath A (.s "folder") p with
    | none => simp [optP]
    | some w =>
      have e : D__law_put [encS A, .str (Str.ofString "folder"), pathD w, .str (Str.ofString "folder"), .str (Str.ofString ""), .bl false, .bl false] B = .ok (encS (makeT A (.s "folder") w "folder" "" false false)) := D_put_eq h (a := .s "folder") (p := w)
      simp [optP, e]
  | drop i n =>
    simp [encOp, shelf_law h, change, dropT]
    cases q : nodeAt A.rule.alike A.rows (.i i) [] with
    | none => simp
    | some r =>
      have hm := (nodeAt_mem q).1
      have o := h.rows r hm
      have hk := neD_kind (A := B) o ok_file
      simp [hk, inLD_ints]
      by_cases z : r.kind = "file" <;> by_cases z2 : r.count = n <;> by_cases z3 : r.thing ∈ A.opened <;> simp [z, z2, z3, D_gone_eq h, inLD_ints]
  | take p i =>
    have e := D_law_carry_eq (B := B) h hL hk (o := .take p i) ho trivial
    simp only [encOp] at e
    simp [encOp, e]
  | give i p =>
    have e := D_law_carry_eq (B := B) h hL hk (o := .give i p) ho trivial
    simp only [encOp] at e
    simp [encOp, e]
  | swap i p =>
    have e := D_law_carry_eq (B := B) h hL hk (o := .swap i p) ho trivial
    simp only [encOp] at e
    simp [encOp, e]
  | removeFolder p =>
    have e := D_law_carry_eq (B := B) h hL hk (o := .removeFolder p) ho trivial
    simp only [encOp] at e
    simp [encOp, e]
  | _ => cases hr
end FK
set_option Elab.async false
set_option linter.all false
set_option maxRecDepth 100000
set_option maxHeartbeats 1000000
/-! The plain law: the invariant of the rows. -/
namespace FK
open PySem L2
def bas (a : Area) : Prop := a = .s "folder" ∨ a = .s "outside"
def nP (al : List Str) (p : List Str) : List (List Nat) := p.map (normN al)
structure Core (al : List Str) (rows : List Row) : Prop where
  nd : (rows.map (·.thing)).Nodup
  dist : ∀ r ∈ rows, ∀ s ∈ rows, r.area = s.area → nP al r.path = nP al s.path → r = s
  closed : ∀ r ∈ rows, r.path ≠ [] → (r.path.dropLast = [] ∧ bas r.area) ∨ ∃ f ∈ rows, f.area = r.area ∧ f.path = r.path.dropLast ∧ f.kind = "folder"
  roots : ∀ r ∈ rows, r.path = [] → ¬ bas r.area
section
variable {al : List Str} {rows : List Row}
theorem take_dropLast {α : Type} {l : List α} {k : Nat} (h : k + 1 ≤ l.length) : l.dropLast.take k = l.take k := by
  rw [List.dropLast_eq_take, List.take_take, Nat.min_eq_left (by omega)]
/-- above a row stands a folder at each of its beginnings -/
theorem Core.up (c : Core al rows) : ∀ (m : Nat) {q : Row}, q ∈ rows → ∀ k, k + m + 1 = q.path.length → (k ≠ 0 ∨ ¬ bas q.area) → ∃ f ∈ rows, f.area = q.area ∧ f.path = q.path.take k ∧ f.kind = "folder" := by
  intro m
  induction m with
  | zero =>
    intro q hq k hk hb
    have hne : q.path ≠ [] := fun z => by rw [z] at hk; simp at hk
    have e : q.path.dropLast = q.path.take k := by rw [List.dropLast_eq_take]; congr 1; omega
    rcases c.closed q hq hne with ⟨h1, h2⟩ | ⟨f, hf, h1, h2, h3⟩
    · rcases hb with z | z
      · rw [e] at h1
        have := congrArg List.length h1
        rw [List.length_take, List.length_nil] at this
        omega
      · exact absurd h2 z
    · exact ⟨f, hf, h1, by rw [h2, e], h3⟩
  | succ m ih =>
    intro q hq k hk hb
    have hne : q.path ≠ [] := fun z => by rw [z] at hk; simp at hk
    rcases c.closed q hq hne with ⟨h1, h2⟩ | ⟨f, hf, h1, h2, h3⟩
    · have := congrArg List.length h1
      rw [List.length_dropLast, List.length_nil] at this
      omega
    · have hl : f.path.length = q.path.length - 1 := by rw [h2, List.length_dropLast]
      obtain ⟨g, hg, g1, g2, g3⟩ := ih hf k (by omega) (by rw [h1]; exact hb)
      refine ⟨g, hg, by rw [g1, h1], ?_, g3⟩
      rw [g2, h2]
      exact take_dropLast (by omega)
theorem Core.above (c : Core al rows) {q : Row} (hq : q ∈ rows) {k : Nat} (hk : k < q.path.length) (hb : k ≠ 0 ∨ ¬ bas q.area) : ∃ f ∈ rows, f.area = q.area ∧ f.path = q.path.take k ∧ f.kind = "folder" := c.up (q.path.length - k - 1) hq k (by omega) hb
theorem inW_iff {r : Row} {a : Area} {p : List Str} : inW r a p = true ↔ r.area = a ∧ r.path.take p.length = p := by
  unfold inW
  simp
/-- nothing lies in what is no folder -/
theorem Core.noKids (c : Core al rows) {r : Row} (hr : r ∈ rows) (hk : r.kind ≠ "folder") : ∀ q ∈ rows, inW q r.area r.path = true → q.path.length ≤ r.path.length := by
  intro q hq hw
  obtain ⟨h1, h2⟩ := inW_iff.mp hw
  apply Classical.byContradiction
  intro hl
  have hb : r.path.length ≠ 0 ∨ ¬ bas q.area := by
    by_cases z : r.path.length = 0
    · refine .inr ?_
      rw [h1]
      exact c.roots r hr (List.length_eq_zero_iff.mp z)
    · exact .inl z
  obtain ⟨f, hf, f1, f2, f3⟩ := c.above hq (k := r.path.length) (by omega) hb
  have : f = r := c.dist f hf r hr (by rw [f1, h1]) (by rw [f2, h2])
  rw [this] at f3
  exact hk f3
theorem count_lt {p q : Row → Bool} : ∀ {l : List Row}, (∀ r ∈ l, p r = true → q r = true) → (∃ r ∈ l, q r = true ∧ p r = false) → (l.filter p).length < (l.filter q).length
  | [], _, ⟨r, hr, _⟩ => by cases hr
  | x :: l, h, ⟨r, hr, h1, h2⟩ => by
    have hle : (l.filter p).length ≤ (l.filter q).length := by
      clear hr h1 h2
      have h' : ∀ r ∈ l, p r = true → q r = true := fun r hr => h r (List.mem_cons_of_mem _ hr)
      clear h
      induction l with
      | nil => simp
      | cons y l ih =>
        have h3 := h' y (by simp)
        have h4 := ih fun r hr => h' r (List.mem_cons_of_mem _ hr)
        rw [List.filter_cons, List.filter_cons]
        cases z : p y with
        | true => rw [h3 z]; simpa using h4
        | false => cases q y <;> simp <;> omega
    rcases List.mem_cons.mp hr with e | e
    · subst e
      rw [List.filter_cons, List.filter_cons, h1, h2]
      simp
      omega
    · have ih := count_lt (l := l) (fun r hr => h r (List.mem_cons_of_mem _ hr)) ⟨r, e, h1, h2⟩
      have h3 := h x (by simp)
      rw [List.filter_cons, List.filter_cons]
      cases z : p x with
      | true => rw [h3 z]; simpa using ih
      | false => cases q x <;> simp <;> omega
/-- paths are no longer than there are rows -/
theorem Core.short (c : Core al rows) {r : Row} (hr : r ∈ rows) : r.path.length ≤ rows.length := by
  have key : ∀ k, k ≤ r.path.length → k ≤ (rows.filter fun q => decide (q.area = r.area) && decide (q.path.length ≤ k)).length := by
    intro k
    induction k with
    | zero => intro _; omega
    | succ k ih =>
      intro hk
      have h1 := ih (by omega)
      have h2 : (rows.filter fun q => decide (q.area = r.area) && decide (q.path.length ≤ k)).length < (rows.filter fun q => decide (q.area = r.area) && decide (q.path.length ≤ k + 1)).length := by
        refine count_lt (fun q _ hq => ?_) ?_
        · simp at hq ⊢
          exact ⟨hq.1, by omega⟩
        · by_cases z : k + 1 = r.path.length
          · exact ⟨r, hr, by simp; omega, by simp; omega⟩
          · obtain ⟨f, hf, f1, f2, _⟩ := c.above hr (k := k + 1) (by omega) (.inl (by omega))
            have : f.path.length = k + 1 := by rw [f2, List.length_take]; omega
            exact ⟨f, hf, by simp [f1, this], by simp [this]⟩
      omega
  exact Nat.le_trans (key _ (Nat.le_refl _)) (List.length_filter_le _ _)
end
end FK
set_option Elab.async false
set_option linter.all false
set_option maxRecDepth 100000
set_option maxHeartbeats 1000000
/-! The plain law: the rows' invariant is kept. -/
namespace FK
open PySem L2
section
variable {al : List Str} {rows : List Row}
theorem nP_append {p q : List Str} : nP al (p ++ q) = nP al p ++ nP al q := List.map_append
theorem nP_len {p q : List Str} (h : nP al p = nP al q) : p.length = q.length := by
  have := congrArg List.length h
  unfold nP at this
  rw [List.length_map, List.length_map] at this
  exact this
theorem nP_nil {p : List Str} (h : nP al p = nP al []) : p = [] := List.length_eq_zero_iff.mp (nP_len h)
theorem sameP_iff {p q : List Str} : sameP al p q = true ↔ nP al p = nP al q := by
  unfold sameP nP
  exact decide_eq_true_iff
theorem nodeAt_none {a : Area} {p : List Str} (h : nodeAt al rows a p = none) : ∀ r ∈ rows, r.area = a → nP al r.path ≠ nP al p := by
  intro r hr ha he
  unfold nodeAt at h
  have := List.find?_eq_none.mp h r hr
  simp [ha, sameP_iff.mpr he] at this
/-- a place under which nobody is written -/
def Clear (al : List Str) (rows : List Row) (a : Area) (p : List Str) : Prop := ∀ w ∈ rows, w.area = a → nP al (w.path.take p.length) ≠ nP al p
theorem Core.clear (c : Core al rows) {a : Area} {p : List Str} (hb : p ≠ [] ∨ ¬ bas a) (h : ∀ w ∈ rows, w.area = a → nP al w.path ≠ nP al p) : Clear al rows a p := by
  intro w hw ha he
  have hl := nP_len he
  rw [List.length_take] at hl
  by_cases z : p.length < w.path.length
  · have hb' : p.length ≠ 0 ∨ ¬ bas w.area := by
      rcases hb with q | q
      · exact .inl fun e => q (List.length_eq_zero_iff.mp e)
      · exact .inr (by rw [ha]; exact q)
    obtain ⟨f, hf, f1, f2, _⟩ := c.above hw z hb'
    exact h f hf (by rw [f1, ha]) (by rw [f2, he])
  · have e : w.path.take p.length = w.path := List.take_of_length_le (by omega)
    rw [e] at he
    exact h w hw ha he
/-- where something may stand -/
def Seat (rows : List Row) (a : Area) (p : List Str) (ok : Row → Prop) : Prop := (p = [] ∧ ¬ bas a) ∨ (p ≠ [] ∧ p.dropLast = [] ∧ bas a) ∨ (p ≠ [] ∧ ∃ f ∈ rows, f.area = a ∧ f.path = p.dropLast ∧ f.kind = "folder" ∧ ok f)
theorem Core.seat (c : Core al rows) {r : Row} (hr : r ∈ rows) {ok : Row → Prop} (ho : ∀ f ∈ rows, f.area = r.area → f.path = r.path.dropLast → r.path ≠ [] → f.kind = "folder" → ok f) : Seat rows r.area r.path ok := by
  by_cases z : r.path = []
  · exact .inl ⟨z, c.roots r hr z⟩
  · rcases c.closed r hr z with ⟨h1, h2⟩ | ⟨f, hf, h1, h2, h3⟩
    · exact .inr (.inl ⟨z, h1, h2⟩)
    · exact .inr (.inr ⟨z, f, hf, h1, h2, h3, ho f hf h1 h2 z h3⟩)
theorem dropLast_lt {p : List Str} (h : p ≠ []) : p.dropLast.length < p.length := by
  have := List.length_pos_iff.mpr h
  rw [List.length_dropLast]
  omega
theorem inW_split {q : Row} {a : Area} {p : List Str} (h : inW q a p = true) : q.area = a ∧ q.path = p ++ q.path.drop p.length := by
  obtain ⟨h1, h2⟩ := inW_iff.mp h
  refine ⟨h1, ?_⟩
  have := List.take_append_drop p.length q.path
  rw [h2] at this
  exact this.symm
theorem inW_false {q : Row} {a : Area} {p : List Str} (h : q.area = a → q.path.take p.length ≠ p) : inW q a p = false := by
  cases z : inW q a p with
  | false => rfl
  | true => exact absurd (inW_iff.mp z).2 (h (inW_iff.mp z).1)
/-! ### a new row -/
theorem Core.put (c : Core al rows) {z : Row} (hn : ∀ r ∈ rows, r.thing ≠ z.thing) (hs : Seat rows z.area z.path fun _ => True) (hd : ∀ w ∈ rows, w.area = z.area → nP al w.path ≠ nP al z.path) : Core al (rows ++ [z]) := by
  refine ⟨?_, ?_, ?_, ?_⟩
  · rw [List.map_append, List.map_singleton, List.nodup_append]
    refine ⟨c.nd, by simp, fun y hy x hx => ?_⟩
    obtain ⟨r, hr, rfl⟩ := List.mem_map.mp hy
    rw [List.mem_singleton.mp hx]
    exact hn r hr
  · intro r hr s hs' ha hp
    rcases List.mem_append.mp hr with h1 | h1 <;> rcases List.mem_append.mp hs' with h2 | h2
    · exact c.dist r h1 s h2 ha hp
    · rw [List.mem_singleton.mp h2] at ha hp
      exact absurd hp (hd r h1 ha)
    · rw [List.mem_singleton.mp h1] at ha hp
      exact absurd hp.symm (hd s h2 ha.symm)
    · rw [List.mem_singleton.mp h1, List.mem_singleton.mp h2]
  · intro r hr hp
    rcases List.mem_append.mp hr with h1 | h1
    · rcases c.closed r h1 hp with h | ⟨f, hf, h⟩
      · exact .inl h
      · exact .inr ⟨f, List.mem_append_left _ hf, h⟩
    · rw [List.mem_singleton.mp h1] at hp ⊢
      rcases hs with ⟨q, _⟩ | ⟨_, q1, q2⟩ | ⟨_, f, hf, f1, f2, f3, _⟩
      · exact absurd q hp
      · exact .inl ⟨q1, q2⟩
      · exact .inr ⟨f, List.mem_append_left _ hf, f1, f2, f3⟩
  · intro r hr hp
    rcases List.mem_append.mp hr with h1 | h1
    · exact c.roots r h1 hp
    · rw [List.mem_singleton.mp h1] at hp ⊢
      rcases hs with ⟨_, q⟩ | ⟨q, _⟩ | ⟨q, _⟩
      · exact q
      · exact absurd hp q
      · exact absurd hp q
/-! ### a row less -/
theorem Core.gone (c : Core al rows) {r : Row} (hr : r ∈ rows) (hk : ∀ q ∈ rows, inW q r.area r.path = true → q.path.length ≤ r.path.length) : Core al (rows.filter fun q => !decide (q.thing = r.thing)) := by
  have sub : ∀ {q}, q ∈ rows.filter (fun q => !decide (q.thing = r.thing)) → q ∈ rows := fun h => (List.mem_filter.mp h).1
  refine ⟨(List.Sublist.map _ List.filter_sublist).nodup c.nd, fun x hx y hy => c.dist x (sub hx) y (sub hy), ?_, fun x hx => c.roots x (sub hx)⟩
  intro q hq hp
  rcases c.closed q (sub hq) hp with h | ⟨f, hf, f1, f2, f3⟩
  · exact .inl h
  · refine .inr ⟨f, List.mem_filter.mpr ⟨hf, ?_⟩, f1, f2, f3⟩
    rw [Bool.not_eq_true', decide_eq_false_iff_not]
    intro e
    have := row_unique c.nd hf hr e
    subst this
    have h1 := hk q (sub hq) (inW_iff.mpr ⟨f1.symm, by rw [f2, List.dropLast_eq_take, List.length_take, Nat.min_eq_left (by omega)]⟩)
    have h2 := dropLast_lt hp
    rw [f2] at h1
    omega
/-! ### rows written, where they stand -/
theorem Core.same (c : Core al rows) {f : Row → Row} (h : ∀ q ∈ rows, (f q).thing = q.thing ∧ (f q).area = q.area ∧ (f q).path = q.path ∧ (f q).kind = q.kind) : Core al (rows.map f) := by
  refine ⟨?_, ?_, ?_, ?_⟩
  · rw [List.map_map]
    have : rows.map ((·.thing) ∘ f) = rows.map (·.thing) := List.map_congr_left fun q hq => (h q hq).1
    rw [this]
    exact c.nd
  · intro x hx y hy ha hp
    obtain ⟨r, hr, rfl⟩ := List.mem_map.mp hx
    obtain ⟨s, hs, rfl⟩ := List.mem_map.mp hy
    rw [(h r hr).2.1, (h s hs).2.1] at ha
    rw [(h r hr).2.2.1, (h s hs).2.2.1] at hp
    rw [c.dist r hr s hs ha hp]
  · intro x hx hp
    obtain ⟨r, hr, rfl⟩ := List.mem_map.mp hx
    obtain ⟨_, e1, e2, _⟩ := h r hr
    rw [e2] at hp
    rw [e1, e2]
    rcases c.closed r hr hp with q | ⟨g, hg, g1, g2, g3⟩
    · exact .inl q
    · obtain ⟨_, d1, d2, d3⟩ := h g hg
      exact .inr ⟨f g, List.mem_map_of_mem hg, by rw [d1, g1], by rw [d2, g2], by rw [d3, g3]⟩
  · intro x hx hp
    obtain ⟨r, hr, rfl⟩ := List.mem_map.mp hx
    obtain ⟨_, e1, e2, _⟩ := h r hr
    rw [e2] at hp
    rw [e1]
    exact c.roots r hr hp
/-! ### a tree carried -/
theorem mv_in {r : Row} {a : Area} {p : List Str} {q : Row} (h : inW q r.area r.path = true) : (mv r a p q).area = a ∧ (mv r a p q).path = p ++ q.path.drop r.path.length ∧ (mv r a p q).kind = q.kind := by
  unfold mv
  rw [if_pos h]
  exact ⟨rfl, rfl, rfl⟩
theorem mv_out {r : Row} {a : Area} {p : List Str} {q : Row} (h : inW q r.area r.path = false) : mv r a p q = q := by
  unfold mv
  rw [if_neg (by rw [h]; simp)]
theorem Core.carry (c : Core al rows) {r : Row} (hr : r ∈ rows) {a : Area} {p : List Str} (c1 : Seat rows a p fun f => inW f r.area r.path = false) (c2 : ∀ w ∈ rows, w.area = a → inW w r.area r.path = false → nP al (w.path.take p.length) ≠ nP al p) : Core al (rows.map (mv r a p)) := by
  refine ⟨?_, ?_, ?_, ?_⟩
  · rw [List.map_map]
    have : rows.map ((·.thing) ∘ mv r a p) = rows.map (·.thing) := List.map_congr_left fun q hq => mv_thing
    rw [this]
    exact c.nd
  · intro x hx y hy ha hp
    obtain ⟨u, hu, rfl⟩ := List.mem_map.mp hx
    obtain ⟨v, hv, rfl⟩ := List.mem_map.mp hy
    have cross : ∀ u ∈ rows, ∀ v ∈ rows, inW u r.area r.path = true → inW v r.area r.path = false → (mv r a p u).area = (mv r a p v).area → nP al (mv r a p u).path = nP al (mv r a p v).path → False := by
      intro u hu v hv iu iv ha hp
      obtain ⟨u1, u2, _⟩ := mv_in (a := a) (p := p) iu
      rw [mv_out iv] at ha hp
      rw [u1] at ha
      rw [u2, nP_append] at hp
      refine c2 v hv ha.symm iv ?_
      have := congrArg (List.take p.length) hp
      rw [List.take_append_of_le_length (by simp [nP]), List.take_of_length_le (by simp [nP])] at this
      unfold nP at this ⊢
      rw [List.map_take]
      exact this.symm
    cases iu : inW u r.area r.path with
    | true =>
      cases iv : inW v r.area r.path with
      | true =>
        obtain ⟨u1, u2, _⟩ := mv_in (a := a) (p := p) iu
        obtain ⟨v1, v2, _⟩ := mv_in (a := a) (p := p) iv
        rw [u2, v2, nP_append, nP_append] at hp
        have hp := List.append_cancel_left hp
        obtain ⟨s1, s2⟩ := inW_split iu
        obtain ⟨t1, t2⟩ := inW_split iv
        have : u = v := c.dist u hu v hv (by rw [s1, t1]) (by rw [s2, t2, nP_append, nP_append, hp])
        rw [this]
      | false => exact (cross u hu v hv iu iv ha hp).elim
    | false =>
      cases iv : inW v r.area r.path with
      | true => exact (cross v hv u hu iv iu ha.symm hp.symm).elim
      | false =>
        rw [mv_out iu, mv_out iv] at ha hp ⊢
        exact c.dist u hu v hv ha hp
  · intro x hx hp
    obtain ⟨q, hq, rfl⟩ := List.mem_map.mp hx
    cases iq : inW q r.area r.path with
    | true =>
      obtain ⟨q1, q2, _⟩ := mv_in (a := a) (p := p) iq
      obtain ⟨s1, s2⟩ := inW_split iq
      rw [q1, q2]
      rw [q2] at hp
      generalize ht : q.path.drop r.path.length = t at hp s2 ⊢
      by_cases z : t = []
      · subst z
        rw [List.append_nil] at hp ⊢
        rcases c1 with ⟨e, _⟩ | ⟨_, e1, e2⟩ | ⟨_, f, hf, f1, f2, f3, f4⟩
        · exact absurd e hp
        · exact .inl ⟨e1, e2⟩
        · exact .inr ⟨f, List.mem_map.mpr ⟨f, hf, mv_out f4⟩, f1, f2, f3⟩
      · have hd : (p ++ t).dropLast = p ++ t.dropLast := List.dropLast_append_of_ne_nil z
        have hd2 : q.path.dropLast = r.path ++ t.dropLast := by rw [s2]; exact List.dropLast_append_of_ne_nil z
        have hq0 : q.path ≠ [] := by
          rw [s2]
          intro e
          exact z (List.append_eq_nil_iff.mp e).2
        rw [hd]
        rcases c.closed q hq hq0 with ⟨e1, e2⟩ | ⟨f, hf, f1, f2, f3⟩
        · rw [hd2] at e1
          have := c.roots r hr (List.append_eq_nil_iff.mp e1).1
          rw [s1] at e2
          exact absurd e2 this
        · rw [hd2] at f2
          have fi : inW f r.area r.path = true := inW_iff.mpr ⟨by rw [f1, s1], by rw [f2, List.take_left]⟩
          obtain ⟨m1, m2, m3⟩ := mv_in (a := a) (p := p) fi
          refine .inr ⟨mv r a p f, List.mem_map_of_mem hf, m1, ?_, by rw [m3, f3]⟩
          rw [m2, f2, List.drop_left]
    | false =>
      rw [mv_out iq] at hp ⊢
      rcases c.closed q hq hp with e | ⟨f, hf, f1, f2, f3⟩
      · exact .inl e
      · refine .inr ⟨f, List.mem_map.mpr ⟨f, hf, mv_out ?_⟩, f1, f2, f3⟩
        cases fi : inW f r.area r.path with
        | false => rfl
        | true =>
          obtain ⟨s1, s2⟩ := inW_iff.mp fi
          have := inW_false (q := q) (a := r.area) (p := r.path)
          have : inW q r.area r.path = true := by
            refine inW_iff.mpr ⟨by rw [← f1, s1], ?_⟩
            rw [f2, List.dropLast_eq_take, List.take_take] at s2
            have hl := congrArg List.length s2
            rw [List.length_take] at hl
            have : min r.path.length (q.path.length - 1) = r.path.length := by omega
            rw [this] at s2
            exact s2
          rw [iq] at this
          cases this
  · intro x hx hp
    obtain ⟨q, hq, rfl⟩ := List.mem_map.mp hx
    cases iq : inW q r.area r.path with
    | true =>
      obtain ⟨q1, q2, _⟩ := mv_in (a := a) (p := p) iq
      rw [q2] at hp
      have e := (List.append_eq_nil_iff.mp hp).1
      rw [q1]
      rcases c1 with ⟨_, h⟩ | ⟨h, _⟩ | ⟨h, _⟩
      · exact h
      · exact absurd e h
      · exact absurd e h
    | false =>
      rw [mv_out iq] at hp ⊢
      exact c.roots q hq hp
end
end FK
set_option Elab.async false
set_option linter.all false
set_option maxRecDepth 100000
set_option maxHeartbeats 1000000
/-! The plain law: the host's invariant, and what keeps it. -/
namespace FK
open PySem L2
structure RowI (n : Nat) (r : Row) : Prop where
  ka : KA r.area
  path : PathOk r.path
  kind : PyData.strOk r.kind = true
  text : PyData.strOk r.text = true
  tlen : r.text.length ≤ 20 * n
structure Inv (n : Nat) (A : HostSt) : Prop where
  rule : MenuR A.rule
  core : Core A.rule.alike A.rows
  rows : ∀ r ∈ A.rows, RowI n r
  lt : ∀ r ∈ A.rows, r.thing < A.next
  nr : A.rows.length ≤ n
  no : A.opened.length ≤ n
  nh : A.had.length ≤ n
theorem RowI.mono {n : Nat} {r : Row} (h : RowI n r) : RowI (n + 1) r := ⟨h.ka, h.path, h.kind, h.text, by have := h.tlen; omega⟩
section
variable {n : Nat} {A : HostSt}
theorem Inv.mono (h : Inv n A) : Inv (n + 1) A := ⟨h.rule, h.core, fun r hr => (h.rows r hr).mono, h.lt, by have := h.nr; omega, by have := h.no; omega, by have := h.nh; omega⟩
theorem Inv.ka (h : Inv n A) : KaAll A := fun r hr => (h.rows r hr).ka
theorem Inv.st (h : Inv n A) (hn : n ≤ 41) : StOk 200 A := by
  refine ⟨by decide, h.rule, fun r hr => ?_, h.core.nd, h.lt, by have := h.nr; omega, by have := h.no; omega, by have := h.nh; omega⟩
  have o := h.rows r hr
  exact ⟨o.ka.ok, o.path, by have := h.core.short hr; have := h.nr; omega, o.kind, o.text, by have := o.tlen; omega⟩
theorem Inv.dist (h : Inv n A) : Dist A := fun r hr s hs ha hp => h.core.dist r hr s hs ha (by rw [hp])
theorem Inv.noHolds (h : Inv n A) {r : Row} (hr : r ∈ A.rows) (hk : r.kind ≠ "folder") : holds A r = false := by
  unfold holds
  rw [Option.isSome_eq_false_iff, Option.isNone_iff_eq_none, List.find?_eq_none]
  intro q hq
  rw [Bool.and_eq_true, decide_eq_true_iff]
  rintro ⟨h1, h2⟩
  have := h.core.noKids hr hk q hq h1
  omega
theorem kids_of {r : Row} (h : holds A r = false) : ∀ q ∈ A.rows, inW q r.area r.path = true → q.path.length ≤ r.path.length := by
  intro q hq hw
  unfold holds at h
  rw [Option.isSome_eq_false_iff, Option.isNone_iff_eq_none, List.find?_eq_none] at h
  have := h q hq
  rw [hw, Bool.true_and, decide_eq_true_iff] at this
  omega
theorem Inv.make (h : Inv n A) {a : Area} {p : List Str} {k x : Str} {b s : Bool} (ka : KA a) (hp : PathOk p) (hk : PyData.strOk k = true) (hx : TxtOk x) (hs : Seat A.rows a p fun _ => True) (hd : ∀ w ∈ A.rows, w.area = a → nP A.rule.alike w.path ≠ nP A.rule.alike p) : Inv (n + 1) (makeT A a p k x b s) := by
  refine ⟨h.rule, h.core.put (z := ⟨a, p, A.next, k, x, b, 0, 0, s⟩) (fun r hr e => ?_) hs hd, fun r hr => ?_, fun r hr => ?_, ?_, by have := h.no; show A.opened.length ≤ n + 1; omega, by have := h.nh; show A.had.length ≤ n + 1; omega⟩
  · have := h.lt r hr
    have e : r.thing = A.next := e
    omega
  · rcases List.mem_append.mp hr with z | z
    · exact (h.rows r z).mono
    · rw [List.mem_singleton.mp z]
      exact ⟨ka, hp, hk, hx.1, by have := hx.2; show x.length ≤ 20 * (n + 1); omega⟩
  · show r.thing < A.next + 1
    rcases List.mem_append.mp hr with z | z
    · have := h.lt r z
      omega
    · rw [List.mem_singleton.mp z]
      show A.next < A.next + 1
      omega
  · show (A.rows ++ [_]).length ≤ n + 1
    have := h.nr
    simp
    omega
theorem Inv.gone (h : Inv n A) {r : Row} (hr : r ∈ A.rows) (hk : ∀ q ∈ A.rows, inW q r.area r.path = true → q.path.length ≤ r.path.length) : Inv n (goneT A r.thing) :=
  ⟨h.rule, h.core.gone hr hk, fun q hq => h.rows q (List.mem_filter.mp hq).1, fun q hq => h.lt q (List.mem_filter.mp hq).1, Nat.le_trans (List.length_filter_le _ _) h.nr, h.no, h.nh⟩
theorem Inv.moved (h : Inv n A) {f : Row → Row} (hc : Core A.rule.alike (A.rows.map f)) (hf : ∀ q ∈ A.rows, (f q).thing = q.thing ∧ RowI n (f q)) {t : Int} : Inv n { A with rows := A.rows.map f, turned := t } := by
  refine ⟨h.rule, hc, fun r hr => ?_, fun r hr => ?_, ?_, h.no, h.nh⟩
  · obtain ⟨q, hq, rfl⟩ := List.mem_map.mp hr
    exact (hf q hq).2
  · obtain ⟨q, hq, rfl⟩ := List.mem_map.mp hr
    rw [(hf q hq).1]
    exact h.lt q hq
  · show (A.rows.map f).length ≤ n
    rw [List.length_map]
    exact h.nr
theorem RowI.mvRow {r : Row} (h : RowI n r) {a : Area} {p : List Str} {m : Nat} (ka : KA a) (hp : PathOk p) : RowI n (mvRow r a p m) := ⟨ka, hp.append (h.path.drop m), h.kind, h.text, h.tlen⟩
theorem Inv.carry (h : Inv n A) {r : Row} (hr : r ∈ A.rows) {a : Area} {p : List Str} (ka : KA a) (hp : PathOk p) (c1 : Seat A.rows a p fun f => inW f r.area r.path = false) (c2 : ∀ w ∈ A.rows, w.area = a → inW w r.area r.path = false → nP A.rule.alike (w.path.take p.length) ≠ nP A.rule.alike p) : Inv n (carryT A r a p) := by
  refine h.moved (h.core.carry hr c1 c2) fun q hq => ⟨mv_thing, ?_⟩
  unfold mv
  split
  · exact (h.rows q hq).mvRow ka hp
  · exact h.rows q hq
theorem Inv.set (h : Inv n A) {r r' : Row} (hr : r ∈ A.rows) (e1 : r'.thing = r.thing) (e2 : r'.area = r.area) (e3 : r'.path = r.path) (e4 : r'.kind = r.kind) (ht : PyData.strOk r'.text = true) (hl : r'.text.length ≤ 20 * (n + 1)) : Inv (n + 1) (A.setRow r') := by
  have key : ∀ q ∈ A.rows, q.thing = r'.thing → q = r := fun q hq e => row_unique h.core.nd hq hr (by rw [e, e1])
  have o := h.rows r hr
  refine ⟨h.rule, ?_, fun z hz => ?_, fun z hz => ?_, ?_, by have := h.no; show A.opened.length ≤ n + 1; omega, by have := h.nh; show A.had.length ≤ n + 1; omega⟩
  · refine h.core.same fun q hq => ?_
    by_cases hh : q.thing = r'.thing
    · rw [if_pos hh, key q hq hh]
      exact ⟨e1, e2, e3, e4⟩
    · rw [if_neg hh]
      exact ⟨rfl, rfl, rfl, rfl⟩
  · obtain ⟨q, hq, rfl⟩ := List.mem_map.mp hz
    by_cases hh : q.thing = r'.thing
    · rw [if_pos hh]
      exact ⟨by rw [e2]; exact o.ka, by rw [e3]; exact o.path, by rw [e4]; exact o.kind, ht, hl⟩
    · rw [if_neg hh]
      exact (h.rows q hq).mono
  · obtain ⟨q, hq, rfl⟩ := List.mem_map.mp hz
    show (if q.thing = r'.thing then r' else q).thing < A.next
    by_cases hh : q.thing = r'.thing
    · rw [if_pos hh, ← hh]
      exact h.lt q hq
    · rw [if_neg hh]
      exact h.lt q hq
  · show (A.rows.map _).length ≤ n + 1
    rw [List.length_map]
    have := h.nr
    omega
/-! ### free places -/
theorem Seat.imp {rows : List Row} {a : Area} {p : List Str} {ok ok' : Row → Prop} (h : Seat rows a p ok) (hi : p ≠ [] → ∀ f ∈ rows, f.area = a → f.path = p.dropLast → ok f → ok' f) : Seat rows a p ok' := by
  rcases h with q | q | ⟨q, f, hf, f1, f2, f3, f4⟩
  · exact .inl q
  · exact .inr (.inl q)
  · exact .inr (.inr ⟨q, f, hf, f1, f2, f3, hi q f hf f1 f2 f4⟩)
theorem free_spec {a : Area} {p q : List Str} (ka : KA a) (e : freePath A a p = some q) : Seat A.rows a q (fun _ => True) ∧ (∀ w ∈ A.rows, w.area = a → nP A.rule.alike w.path ≠ nP A.rule.alike q) := by
  unfold freePath at e
  split at e
  · cases e
  · rename_i x hx
    split at e
    · cases e
    · rename_i hn
      rw [Option.map_eq_some_iff] at e
      obtain ⟨ab, e1, rfl⟩ := e
      have hp : p = p.dropLast ++ [x] := by
        rcases List.eq_nil_or_concat p with z | ⟨u, y, z⟩
        · subst z
          cases hx
        · rw [List.concat_eq_append] at z
          subst z
          simp at hx
          simp [hx]
      have hn1 : nodeAt A.rule.alike A.rows a p = none := by
        cases z : nodeAt A.rule.alike A.rows a p with
        | none => rfl
        | some _ => exact absurd (.inl (by rw [z]; rfl)) hn
      have fin : nP A.rule.alike ab = nP A.rule.alike p.dropLast → ∀ w ∈ A.rows, w.area = a → nP A.rule.alike w.path ≠ nP A.rule.alike (ab ++ [x]) := by
        intro hh w hw ha he
        refine nodeAt_none hn1 w hw ha ?_
        rw [he, nP_append, hh, ← nP_append, ← hp]
      unfold folderPath at e1
      split at e1
      · rename_i hb
        cases e1
        refine ⟨.inr (.inl ⟨by simp, by simp, ?_⟩), fin (by rw [hb.1])⟩
        rcases ka with z | z | ⟨i, z⟩
        · exact .inl z
        · exact .inr z
        · rw [z] at hb
          cases hb.2
      · split at e1
        · rename_i r hr
          split at e1
          · rename_i hk
            cases e1
            obtain ⟨h1, h2, h3⟩ := nodeAt_mem hr
            exact ⟨.inr (.inr ⟨by simp, r, h1, h2, by simp, hk, trivial⟩), fin (sameP_iff.mp h3)⟩
          · cases e1
        · cases e1
theorem shelf_free {i : Int} (e : nodeAt A.rule.alike A.rows (.i i) [] = none) {ok : Row → Prop} : Seat A.rows (.i i) [] ok ∧ (∀ w ∈ A.rows, w.area = .i i → nP A.rule.alike w.path ≠ nP A.rule.alike []) := by
  refine ⟨.inl ⟨rfl, ?_⟩, nodeAt_none e⟩
  rintro (z | z) <;> cases z
/-! ### texts -/
theorem cut_lens {z : Str} {m : Int} (hm : 0 ≤ m) (k : Nat) : (cutS z none (some m)).length + (cutS z (some (m + k)) none).length ≤ z.length := by
  obtain ⟨j, rfl⟩ := Int.eq_ofNat_of_zero_le hm
  have e : ((j : Int) + (k : Int)) = ((j + k : Nat) : Int) := by omega
  rw [e]
  have hle : j ≤ j + k := by omega
  generalize j + k = u at hle ⊢
  unfold cutS Str.length
  simp [HT.sIx_none, HT.sIx_nat]
  omega
theorem wtext_len {z x : Str} {m : Int} (hm : 0 ≤ m) : (wtext z m x).length ≤ z.length + x.length := by
  unfold wtext
  rw [app_len, app_len]
  have := cut_lens (z := z) hm x.length
  omega
theorem wtext_ok {z x : Str} {m : Int} (h1 : PyData.strOk z = true) (h2 : PyData.strOk x = true) : PyData.strOk (wtext z m x) = true := app_ok (app_ok (cutS_ok h1) h2) (cutS_ok h1)
end
end FK
set_option Elab.async false
set_option linter.all false
set_option maxRecDepth 100000
set_option maxHeartbeats 1000000
/-! The plain law: deeds and operations keep the invariant. -/
namespace FK
open PySem L2
theorem take_drop_last {q p : List Str} (h : q.dropLast.take p.length = p) : q.take p.length = p := by
  rw [List.dropLast_eq_take, List.take_take] at h
  have hl := congrArg List.length h
  rw [List.length_take] at hl
  have e : min p.length (q.length - 1) = p.length := by omega
  rw [e] at h
  exact h
section
variable {n : Nat} {A A' : HostSt}
theorem room_spec (h : Inv n A) (hn : n ≤ 41) {s : Spot} (hs : SpotOk s) {q : Area × List Str} (e : roomAt A s = some q) : KA q.1 ∧ PathOk q.2 ∧ Seat A.rows q.1 q.2 (fun _ => True) ∧ (∀ w ∈ A.rows, w.area = q.1 → nP A.rule.alike w.path ≠ nP A.rule.alike q.2) := by
  have st := h.st hn
  unfold roomAt at e
  rw [Option.bind_eq_some_iff] at e
  obtain ⟨⟨a, p⟩, hp, e⟩ := e
  obtain ⟨z, hz, rfl⟩ := Option.map_eq_some_iff.mp e
  have ka := spotPlace_ka h.ka hs hp
  obtain ⟨o, _⟩ := spotPlace_ok st hs hp
  obtain ⟨s1, s2⟩ := free_spec ka hz
  exact ⟨ka, (freePath_ok st o.path hz).1, s1, s2⟩
theorem Inv.rename (h : Inv n A) (hn : n ≤ 41) {s g : Spot} (hs : SpotOk s) (hg : SpotOk g) (e : renameT A s g = some A') : Inv n A' ∧ A'.rule = A.rule := by
  have st := h.st hn
  unfold renameT at e
  split at e
  · cases e
  · rename_i r hr
    have hm := thingAt_mem hr
    split at e
    · cases e
    · rename_i a p hp
      have ka := spotPlace_ka h.ka hg hp
      obtain ⟨o, hne⟩ := spotPlace_ok st hg hp
      have po : PathOk p := o.path
      split at e
      · rename_i hnone
        split at e
        · cases e
        · rename_i q hq
          split at e
          · cases e
          · rename_i hw
            cases e
            obtain ⟨s1, s2⟩ := free_spec ka hq
            obtain ⟨f1, f2, f3⟩ := freePath_ok st po hq
            refine ⟨h.carry hm ka f1 (s1.imp fun _ f hf fa fp _ => ?_) (fun w hw' ha _ => h.core.clear (.inl f3) s2 w hw' ha), rfl⟩
            refine inW_false fun z1 z2 => hw ⟨by rw [← fa, z1], ?_⟩
            rw [fp] at z2
            exact take_drop_last z2
      · rename_i o2 ho2
        obtain ⟨m1, m2, m3⟩ := nodeAt_mem ho2
        have m3 := sameP_iff.mp m3
        have hne2 : o2.path ≠ [] := by
          intro z
          rw [z] at m3
          exact hne (nP_nil m3.symm)
        split at e
        · rename_i et
          have eo : o2 = r := row_unique h.core.nd m1 hm et
          subst eo
          split at e
          · rename_i x hx
            split at e
            · cases e
              have hx : p.getLast? = some x := hx
              have ep : p = p.dropLast ++ [x] := by
                rcases List.eq_nil_or_concat p with z | ⟨u, y, z⟩
                · exact absurd z hne
                · rw [List.concat_eq_append] at z
                  subst z
                  simp at hx
                  simp [hx]
              have en : nP A.rule.alike (o2.path.dropLast ++ [x]) = nP A.rule.alike o2.path := by
                rw [m3]
                have h1 : nP A.rule.alike o2.path.dropLast = nP A.rule.alike p.dropLast := by
                  unfold nP at m3 ⊢
                  rw [List.map_dropLast, List.map_dropLast, m3]
                rw [nP_append, h1, ← nP_append, ← ep]
              have el : (o2.path.dropLast ++ [x]).length = o2.path.length := nP_len en
              have hseat := h.core.seat hm (ok := fun f => inW f o2.area o2.path = false) fun f hf fa fp _ _ => inW_false fun _ z2 => by
                have := congrArg List.length z2
                rw [List.length_take] at this
                have := dropLast_lt hne2
                rw [← fp] at this
                omega
              refine ⟨h.carry hm ka ?_ ?_ ?_, rfl⟩
              · refine (h.rows _ hm).path.init.append fun y hy => ?_
                rw [List.mem_singleton.mp hy]
                exact po x (List.mem_of_getLast? hx)
              · rw [← m2]
                rcases hseat with ⟨z, _⟩ | ⟨_, z1, z2⟩ | ⟨_, f, hf, f1, f2, f3, f4⟩
                · exact absurd z hne2
                · exact .inr (.inl ⟨by simp, by simp [z1], z2⟩)
                · exact .inr (.inr ⟨by simp, f, hf, f1, by simp [f2], f3, f4⟩)
              · intro w hw ha hi hh
                rw [el, en] at hh
                have hl := nP_len hh
                rw [List.length_take] at hl
                have fin : w.path.take o2.path.length = o2.path → False := by
                  intro z
                  have : inW w o2.area o2.path = true := inW_iff.mpr ⟨by rw [ha, m2], z⟩
                  rw [hi] at this
                  cases this
                by_cases z : o2.path.length < w.path.length
                · obtain ⟨f, hf, f1, f2, _⟩ := h.core.above hw z (.inl fun y => hne2 (List.length_eq_zero_iff.mp y))
                  have := h.core.dist f hf o2 hm (by rw [f1, ha, m2]) (by rw [f2, hh])
                  rw [this] at f2
                  exact fin f2.symm
                · have e5 : w.path.take o2.path.length = w.path := List.take_of_length_le (by omega)
                  rw [e5] at hh
                  have := h.core.dist w hw o2 hm (by rw [ha, m2]) hh
                  rw [this] at fin
                  exact fin (by simp)
            · cases e
          · cases e
        · rename_i et
          split at e
          · cases e
          · rename_i hk
            cases e
            have k1 : r.kind ≠ "folder" := fun z => hk (.inl z)
            have k2 : o2.kind ≠ "folder" := fun z => hk (.inr z)
            have h1 := h.gone m1 (h.core.noKids m1 k2)
            have mem1 : ∀ {f : Row}, f ∈ A.rows → f.thing ≠ o2.thing → f ∈ (goneT A o2.thing).rows := fun hf hh => List.mem_filter.mpr ⟨hf, by rw [Bool.not_eq_true', decide_eq_false_iff_not]; exact hh⟩
            have hseat := h.core.seat m1 (ok := fun f => inW f r.area r.path = false) fun f hf fa fp _ fk => by
              cases z : inW f r.area r.path with
              | false => rfl
              | true =>
                have l1 := h.core.noKids hm k1 f hf z
                obtain ⟨y1, y2⟩ := inW_iff.mp z
                have e6 : f.path.take r.path.length = f.path := List.take_of_length_le l1
                rw [e6] at y2
                have := h.core.dist f hf r hm y1 (by rw [y2])
                rw [this] at fk
                exact absurd fk k1
            refine ⟨h1.carry (mem1 hm fun z => et z.symm) ka (h.rows _ m1).path ?_ ?_, rfl⟩
            · rw [← m2]
              rcases hseat with z | z | ⟨z, f, hf, f1, f2, f3, f4⟩
              · exact .inl z
              · exact .inr (.inl z)
              · refine .inr (.inr ⟨z, f, mem1 hf fun y => ?_, f1, f2, f3, f4⟩)
                have := row_unique h.core.nd hf m1 y
                rw [this] at f3
                exact k2 f3
            · intro w hw ha _
              refine h1.core.clear (.inl hne2) (fun w hw ha hh => ?_) w hw ha
              obtain ⟨w1, w2⟩ := List.mem_filter.mp hw
              have := h.core.dist w w1 o2 m1 (by rw [ha, m2]) hh
              rw [this] at w2
              simp at w2
theorem Inv.step (h : Inv n A) (hn : n ≤ 41) {d : Deed} (hd : DeedOk d) (hw : NN d) (e : step A d = some A') : Inv (n + 1) A' ∧ A'.rule = A.rule := by
  cases d with
  | make s x b =>
    obtain ⟨q, hq, rfl⟩ := Option.map_eq_some_iff.mp e
    obtain ⟨a1, a2, a3, a4⟩ := room_spec h hn hd.1 hq
    exact ⟨h.make a1 a2 ok_file hd.2 a3 a4, rfl⟩
  | makeFolder s =>
    obtain ⟨q, hq, rfl⟩ := Option.map_eq_some_iff.mp e
    obtain ⟨a1, a2, a3, a4⟩ := room_spec h hn hd hq
    exact ⟨h.make a1 a2 ok_folder ⟨strOk_ofString _, by decide +kernel⟩ a3 a4, rfl⟩
  | makeOther s =>
    obtain ⟨q, hq, rfl⟩ := Option.map_eq_some_iff.mp e
    obtain ⟨a1, a2, a3, a4⟩ := room_spec h hn hd hq
    exact ⟨h.make a1 a2 (strOk_ofString _) ⟨strOk_ofString _, by decide +kernel⟩ a3 a4, rfl⟩
  | remove s =>
    have e : removeT A s = some A' := e
    unfold removeT at e
    split at e
    · rename_i r hr
      have hm := thingAt_mem hr
      split at e
      · cases e
      · rename_i hk
        cases e
        exact ⟨(h.gone hm (h.core.noKids hm hk)).mono, rfl⟩
    · cases e
  | removeFolder s =>
    have e : removeFT A s = some A' := e
    unfold removeFT at e
    split at e
    · rename_i r hr
      have hm := thingAt_mem hr
      split at e
      · rename_i hk
        cases e
        exact ⟨(h.gone hm (kids_of hk.2)).mono, rfl⟩
      · cases e
    · cases e
  | rename s g =>
    obtain ⟨h1, h2⟩ := h.rename hn hd.1 hd.2 e
    exact ⟨h1.mono, h2⟩
  | cut t =>
    have e : cutT A t = some A' := e
    unfold cutT at e
    split at e
    · cases e
    · rename_i r hr
      cases e
      refine ⟨h.set (fileNamed_mem hr).1 rfl rfl rfl rfl (strOk_ofString _) ?_, rfl⟩
      show (Str.ofString "").length ≤ _
      have : (Str.ofString "").length = 0 := by decide +kernel
      omega
  | write t m x =>
    have e : writeT A t m x = some A' := e
    unfold writeT at e
    split at e
    · cases e
    · rename_i r hr
      split at e
      · cases e
      · cases e
        have hm := (fileNamed_mem hr).1
        have o := h.rows r hm
        refine ⟨h.set hm rfl rfl rfl rfl (wtext_ok o.text hd.2.1) ?_, rfl⟩
        have := wtext_len (z := r.text) (x := x) hw
        have := o.tlen
        have := hd.2.2
        show (wtext r.text m x).length ≤ _
        omega
  | setRuns t b =>
    have e : runsT A t b = some A' := e
    unfold runsT at e
    split at e
    · cases e
    · rename_i r hr
      cases e
      have hm := (fileNamed_mem hr).1
      have o := h.rows r hm
      refine ⟨h.set hm rfl rfl rfl rfl o.text ?_, rfl⟩
      have := o.tlen
      show r.text.length ≤ _
      omega
  | read t =>
    have e : readT A t = some A' := e
    unfold readT at e
    split at e
    · cases e
    · cases e
      have m := h.mono
      exact ⟨⟨m.rule, m.core, m.rows, m.lt, m.nr, m.no, by have := h.nh; show (A.had ++ [_]).length ≤ n + 1; simp; omega⟩, rfl⟩
  | opens s =>
    have e : openT A s = some A' := e
    unfold openT at e
    split at e
    · cases e
    · cases e
      have m := h.mono
      exact ⟨⟨m.rule, m.core, m.rows, m.lt, m.nr, by have := h.no; show (_ :: A.opened).length ≤ n + 1; simp; omega, m.nh⟩, rfl⟩
  | close t =>
    have e : closeT A t = some A' := e
    unfold closeT at e
    split at e
    · cases e
      have m := h.mono
      exact ⟨⟨m.rule, m.core, m.rows, m.lt, m.nr, Nat.le_trans (List.length_erase_le) m.no, m.nh⟩, rfl⟩
    · cases e
end
end FK
set_option Elab.async false
set_option linter.all false
set_option maxRecDepth 100000
set_option maxHeartbeats 1000000
/-! The plain law: operations keep the invariant. -/
namespace FK
open PySem L2
section
variable {n : Nat} {A A' : HostSt}
theorem notbas_i {i : Int} : ¬ bas (.i i) := by rintro (z | z) <;> cases z
theorem notbas_b : ¬ bas (.s "between") := by
  rintro (z | z) <;> simp [ofString_inj] at z
theorem ka_f : KA (.s "folder") := .inl rfl
theorem swap_core (h : Inv n A) {st ly : Row} {i : Int} (ms : st ∈ A.rows) (as : st.area = .s "folder") (hne : st.path ≠ []) (ml : ly ∈ A.rows) (al : ly.area = .i i) (pl : ly.path = []) : Core A.rule.alike (A.rows.map (swapRow st ly i)) := by
  have hB : ∀ q ∈ A.rows, q.area ≠ .s "between" := by
    intro q hq
    rcases h.ka q hq with e | e | ⟨j, e⟩ <;> rw [e] <;> simp [ofString_inj]
  have FB : (.s "folder" : Area) ≠ .s "between" := by simp [ofString_inj]
  have c1 : Core A.rule.alike (A.rows.map (mv st (.s "between") [])) := h.core.carry ms (.inl ⟨rfl, notbas_b⟩) fun w hw ha _ => absurd ha (hB w hw)
  have ils : inW ly st.area st.path = false := inW_false fun z => by rw [al, as] at z; cases z
  have el : mv st (.s "between") [] ly = ly := mv_out ils
  have ml1 : ly ∈ A.rows.map (mv st (.s "between") []) := List.mem_map.mpr ⟨ly, ml, el⟩
  have keep : ∀ f : Row, f.area = .s "folder" → inW f ly.area ly.path = false := fun f z => inW_false fun y => by rw [z, al] at y; cases y
  have c2 : Core A.rule.alike ((A.rows.map (mv st (.s "between") [])).map (mv ly (.s "folder") st.path)) := by
    refine c1.carry ml1 ?_ ?_
    · have hseat := h.core.seat ms (ok := fun f => inW f st.area st.path = false) fun f hf fa fp _ _ => inW_false fun _ z2 => by
        have := congrArg List.length z2
        rw [List.length_take] at this
        have := dropLast_lt hne
        rw [← fp] at this
        omega
      rw [← as]
      rcases hseat with z | z | ⟨z, f, hf, f1, f2, f3, f4⟩
      · exact .inl z
      · exact .inr (.inl z)
      · exact .inr (.inr ⟨z, f, List.mem_map.mpr ⟨f, hf, mv_out f4⟩, f1, f2, f3, keep f (by rw [f1, as])⟩)
    · intro w hw ha _
      refine c1.clear (.inl hne) (fun w hw ha hh => ?_) w hw ha
      obtain ⟨q, hq, rfl⟩ := List.mem_map.mp hw
      cases z : inW q st.area st.path with
      | true =>
        rw [(mv_in z).1] at ha
        exact FB ha.symm
      | false =>
        rw [mv_out z] at ha hh
        have := h.core.dist q hq st ms (by rw [ha, as]) hh
        rw [this, inW_self] at z
        cases z
  have e1 : mv st (.s "between") [] st = mvRow st (.s "between") [] st.path.length := by unfold mv; rw [if_pos inW_self]
  have e2 : mv ly (.s "folder") st.path (mvRow st (.s "between") [] st.path.length) = mvRow st (.s "between") [] st.path.length := mv_out (inW_false fun z => by
    have z : (.s "between" : Area) = ly.area := z
    rw [al] at z
    cases z)
  have ms2 : mvRow st (.s "between") [] st.path.length ∈ (A.rows.map (mv st (.s "between") [])).map (mv ly (.s "folder") st.path) := List.mem_map.mpr ⟨_, List.mem_map.mpr ⟨st, ms, e1⟩, e2⟩
  have c3 := c2.carry ms2 (a := .i i) (p := []) (.inl ⟨rfl, notbas_i⟩) fun w hw ha _ => c2.clear (.inr notbas_i) (fun w hw ha hh => by
    obtain ⟨q1, hq1, rfl⟩ := List.mem_map.mp hw
    cases z : inW q1 ly.area ly.path with
    | true =>
      rw [(mv_in z).1] at ha
      cases ha
    | false =>
      rw [mv_out z] at ha
      have : inW q1 ly.area ly.path = true := inW_iff.mpr ⟨by rw [ha, al], by rw [pl]; rfl⟩
      rw [z] at this
      cases this) w hw ha
  rw [List.map_map, List.map_map] at c3
  have er : (A.rows.map ((mv (mvRow st (.s "between") [] st.path.length) (.i i) [] ∘ mv ly (.s "folder") st.path) ∘ mv st (.s "between") [])) = A.rows.map (swapRow st ly i) := by
    apply List.map_congr_left
    intro q hq
    exact swap_three as al pl (hB q hq) FB
  rw [er] at c3
  exact c3
theorem Inv.change (h : Inv n A) (hn : n ≤ 41) {o : Op} (ho : OpOk o) (e : change A o = some A') : Inv (n + 1) A' ∧ A'.rule = A.rule := by
  have st := h.st hn
  cases o with
  | stage i x b =>
    have e : stageT A i x b = some A' := e
    unfold stageT at e
    split at e
    · rename_i hq
      cases e
      obtain ⟨s1, s2⟩ := shelf_free (ok := fun _ => True) hq
      exact ⟨h.make (.inr (.inr ⟨i, rfl⟩)) pathOk_nil ok_file ho s1 s2, rfl⟩
    · rename_i r hr
      split at e
      · cases e
        have hm := (nodeAt_mem hr).1
        have o := h.rows r hm
        refine ⟨h.set hm rfl rfl rfl rfl (app_ok o.text ho.1) ?_, rfl⟩
        have := o.tlen
        have := ho.2
        show (r.text ++ x).length ≤ _
        rw [app_len]
        omega
      · cases e
  | take p i =>
    have e : takeT A p i = some A' := e
    unfold takeT at e
    split at e
    · cases e
    · rename_i r hr
      obtain ⟨hm, ha⟩ := inFolder_mem hr
      split at e
      · cases e
      · rename_i hq
        cases e
        have hq : nodeAt A.rule.alike A.rows (.i i) [] = none := by
          cases z : nodeAt A.rule.alike A.rows (.i i) [] with
          | none => rfl
          | some _ => exact absurd (by rw [z]; rfl) hq
        obtain ⟨s1, s2⟩ := shelf_free hq
        exact ⟨(h.carry hm (.inr (.inr ⟨i, rfl⟩)) pathOk_nil s1 fun w hw ha _ => h.core.clear (.inr notbas_i) s2 w hw ha).mono, rfl⟩
  | give i p =>
    have e : giveT A i p = some A' := e
    unfold giveT at e
    split at e
    · rename_i r q hr hq
      cases e
      obtain ⟨hm, ha, hp⟩ := shelf_root hr
      obtain ⟨s1, s2⟩ := free_spec ka_f hq
      obtain ⟨f1, f2, f3⟩ := freePath_ok st ho.1 hq
      refine ⟨(h.carry hm ka_f f1 (s1.imp fun _ f hf fa fp _ => ?_) fun w hw ha _ => h.core.clear (.inl f3) s2 w hw ha).mono, rfl⟩
      exact inW_false fun z => by rw [fa, ha] at z; cases z
    · cases e
  | swap i p =>
    have e : swapT A i p = some A' := e
    unfold swapT at e
    split at e
    · split at e
      · rename_i ly st hl hs
        cases e
        obtain ⟨ml, al, pl⟩ := shelf_root hl
        obtain ⟨ms, as⟩ := inFolder_mem hs
        have hne : st.path ≠ [] := by
          unfold inFolder at hs
          split at hs
          · cases hs
          · rename_i hp
            intro z
            have := sameP_iff.mp (nodeAt_mem hs).2.2
            rw [z] at this
            exact hp (nP_nil this.symm)
        refine ⟨(h.moved (swap_core h ms as hne ml al pl) fun q hq => ?_).mono, rfl⟩
        have oq := h.rows q hq
        unfold swapRow
        split
        · exact ⟨rfl, oq.mvRow (.inr (.inr ⟨i, rfl⟩)) pathOk_nil⟩
        · split
          · exact ⟨rfl, oq.mvRow ka_f (h.rows st ms).path⟩
          · exact ⟨rfl, oq⟩
      · cases e
    · cases e
  | makeFolder p =>
    obtain ⟨q, hq, rfl⟩ := Option.map_eq_some_iff.mp e
    obtain ⟨s1, s2⟩ := free_spec ka_f hq
    exact ⟨h.make ka_f (freePath_ok st ho.1 hq).1 ok_folder ⟨strOk_ofString _, by decide +kernel⟩ s1 s2, rfl⟩
  | removeFolder p =>
    have e : rmfT A p = some A' := e
    unfold rmfT at e
    split at e
    · cases e
    · rename_i r hr
      split at e
      · rename_i hk
        cases e
        exact ⟨(h.gone (inFolder_mem hr).1 (kids_of hk.2)).mono, rfl⟩
      · cases e
  | drop i m =>
    have e : dropT A i m = some A' := e
    unfold dropT at e
    split at e
    · cases e
    · rename_i r hr
      split at e
      · rename_i hk
        cases e
        have hm := (nodeAt_mem hr).1
        exact ⟨(h.gone hm (h.core.noKids hm (by rw [hk.1]; simp [ofString_inj]))).mono, rfl⟩
      · cases e
  | _ => cases e
/-! ### answers may be compared -/
theorem shD_two {B : HostSt} {m : Nat} {x y : D} (hx : ShD B m x) (hy : ShD B m y) : ShD B (m + 1) (.tup [x, y]) := shD_tup fun z hz => by
  simp only [List.mem_cons, List.not_mem_nil, or_false] at hz
  rcases hz with rfl | rfl
  · exact hx
  · exact hy
theorem shD_word {B : HostSt} {m : Nat} {s : String} : ShD B m (.str (Str.ofString s)) := ⟨_, (sh_str (strOk_ofString s)).mono (by omega)⟩
theorem shD_int {B : HostSt} {m : Nat} {i : Int} : ShD B m (.int i) := ⟨_, sh_int.mono (by omega)⟩
theorem shD_bl {B : HostSt} {m : Nat} {i : Bool} : ShD B m (.bl i) := ⟨_, sh_bl.mono (by omega)⟩
theorem shD_str {B : HostSt} {m : Nat} {s : Str} (h : PyData.strOk s = true) : ShD B m (.str s) := ⟨_, (sh_str h).mono (by omega)⟩
theorem shD_refused {B : HostSt} {m : Nat} : ShD B (m + 1) refused := shD_tup fun z hz => by
  rw [List.mem_singleton.mp hz]
  exact shD_word
theorem shD_done {B : HostSt} {m : Nat} : ShD B (m + 1) done := shD_tup fun z hz => by
  rw [List.mem_singleton.mp hz]
  exact shD_word
theorem last_ok {p : List Str} (h : PathOk p) : PyData.strOk (p.getLast?.getD "") = true := by
  cases z : p.getLast? with
  | none => exact strOk_ofString _
  | some x => exact menu_ok x (h x (List.mem_of_getLast? z))
theorem shD_sorted {B C : HostSt} {m : Nat} {l : List D} (h : ∀ d ∈ l, ShD C m d) : ShD C (m + 1) (sorted B l) := by
  unfold sorted
  exact shD_lst fun x hx => h x ((List.mergeSort_perm _ _).mem_iff.mp hx)
theorem shD_text {L : Nat} {C : HostSt} (h : StOk L A) {o : Option Row} (ho : ∀ r, o = some r → r ∈ A.rows) : ShD C 3 (textD A o) := by
  unfold textD
  split
  · exact shD_refused
  · rename_i r
    have o := h.rows r (ho r rfl)
    split
    · refine shD_tup fun x hx => ?_
      simp only [List.mem_cons, List.not_mem_nil, or_false] at hx
      rcases hx with rfl | rfl | rfl | rfl | rfl | rfl
      · exact shD_word
      · exact shD_int
      · exact shD_int
      · exact shD_int
      · exact shD_str o.text
      · exact shD_bl
    · exact shD_refused
theorem shD_told {L : Nat} {B C : HostSt} (h : StOk L A) {o : Op} (hr : isRead o = true) : ShD C 3 (toldD A B o) := by
  cases o with
  | names p =>
    show ShD C 3 (namesD A B p)
    unfold namesD
    split
    · exact shD_refused
    · refine shD_two shD_word (shD_sorted (m := 1) fun d hd => ?_)
      obtain ⟨r, hr, rfl⟩ := List.mem_map.mp hd
      have o := h.rows r (List.mem_filter.mp hr).1
      unfold nameD
      refine shD_tup fun x hx => ?_
      simp only [List.mem_cons, List.not_mem_nil, or_false] at hx
      rcases hx with rfl | rfl | rfl | rfl | rfl
      · exact shD_str (last_ok o.path)
      · exact shD_int
      · exact shD_str o.kind
      · exact shD_int
      · exact shD_int
  | total =>
    show ShD C 3 (totalD A)
    unfold totalD
    refine shD_two shD_word ?_
    split
    · exact shD_int
    · exact ⟨_, sh_non.mono (by omega)⟩
  | shelf =>
    show ShD C 3 (shelfAns A B)
    unfold shelfAns
    refine shD_two shD_word (shD_sorted (m := 1) fun d hd => ?_)
    obtain ⟨r, hr, rfl⟩ := List.mem_map.mp hd
    have o := h.rows r (List.mem_filter.mp hr).1
    unfold onShelfD
    refine shD_tup fun x hx => ?_
    simp only [List.mem_cons, List.not_mem_nil, or_false] at hx
    rcases hx with rfl | rfl | rfl | rfl | rfl | rfl
    · obtain ⟨e, he⟩ := sh_area (A := C) o.area
      exact ⟨e, he⟩
    · exact shD_int
    · exact shD_str o.kind
    · exact shD_int
    · exact shD_int
    · exact shD_int
  | wasRead a b =>
    show ShD C 3 (wasD A a b)
    unfold wasD
    refine shD_two shD_word ?_
    split
    · exact shD_bl
    · exact ⟨_, sh_non.mono (by omega)⟩
  | read p => exact shD_text h fun r e => (inFolder_mem e).1
  | readShelf i => exact shD_text h fun r e => (nodeAt_mem e).1
  | _ => cases hr
end
end FK
set_option Elab.async false
set_option linter.all false
set_option maxRecDepth 100000
set_option maxHeartbeats 4000000
/-! The plain law: forty steps. -/
namespace FK
open PySem L2
noncomputable def loopB : Se :=
      (eSeq (eIf (tvOr (tOfV (vBin ltD (vVar 5) (vC (.int 15)))) (tOfV (vBin eqD (vBin modD (vBin ixD (vVar 1) (vVar 5)) (vC (.int 3))) (vC (.int 0)))))
      (eSeq (lift (sSet 6 (vCall 2 D__law_deed (vCons (vBin fdivD (vBin ixD (vVar 1) (vVar 5)) (vC (.int 3))) (vCons (vVar 3) vNil)))))
    (eSeq (lift (sSet 7 (vCall 3 D__law_done (vCons (vVar 4) (vCons (vVar 2) (vCons (vVar 6) vNil))))))
    (eSeq (lift (sIf (tOfV (vBin notND (vVar 7) (vC .non)))
      (sSet 4 (vVar 7))
      sNil))
    (eDrop (eCall 2 D__law_does (vCons (vVar 3) (vCons (vVar 6) vNil)))))))
      (eSeq (lift (sSet 8 (vCall 2 D__law_operation (vCons (vBin fdivD (vBin ixD (vVar 1) (vVar 5)) (vC (.int 3))) (vCons (vVar 3) vNil)))))
    (eSeq (lift (sIf (tOfV (vBin inTD (vBin ixD (vVar 8) (vC (.int 0))) (vTup (vCons (vC (.str "names")) (vCons (vC (.str "total")) (vCons (vC (.str "read")) (vCons (vC (.str "read_shelf")) (vCons (vC (.str "was_read")) (vCons (vC (.str "shelf")) vNil)))))))))
      (sSet 9 (vCall 3 D__law_told (vCons (vVar 4) (vCons (vVar 2) (vCons (vVar 8) vNil)))))
      (seqS (sSet 7 (vCall 3 D__law_change (vCons (vVar 4) (vCons (vVar 2) (vCons (vVar 8) vNil)))))
    (seqS (sSet 9 (vTup (vCons (vC (.str "refused")) vNil)))
    (sIf (tOfV (vBin notND (vVar 7) (vC .non)))
      (seqS (sSet 9 (vTup (vCons (vC (.str "done")) vNil)))
    (sSet 4 (vVar 7)))
      sNil)))))
    (eIfNe (eMeth 2 D_Host_ask (vVar 3) (vCons (vVar 8) vNil)) (vVar 9)
      (lift (sRet (vC (.bl false))))
      eNil))))
    (lift (sIf (tvNot (tOfV (vCall 2 D__law_is (vCons (vVar 3) (vCons (vVar 4) vNil)))))
      (sRet (vC (.bl false)))
      sNil)))
theorem b_law_eq : b_law =   (eSeq (lift (sSet 4 (vLst (vCons (vLst vNil) (vCons (vLst vNil) (vCons (vC (.int 1)) (vCons (vC (.int 0)) (vCons (vLst vNil) vNil))))))))
    (eSeq (eForR 5 1 40 loopB)
    (lift (sRet (vC (.bl true)))))) := rfl
def envL (cells : List Int) (r : RuleD) (A : HostSt) (k s6 s7 s8 s9 : Option D) : Env := [none, some (.lst (cells.map .int)), some (.rule r), some .host, some (encS A), k, s6, s7, s8, s9]
def neK (r : Res D) (k : Bool → OutE) : OutE := match r with
  | .ok (.bl c) => k c
  | _ => .bad
@[simp] theorem neK_ok {c : Bool} {k : Bool → OutE} : neK (.ok (.bl c)) k = k c := (rfl)
def neKz (r : Res D) (k : Bool → OutE) (w : Wit k := {}) : OutE := neK r k
@[simp] theorem neKz_ok {c : Bool} {k : Bool → OutE} : neKz (.ok (.bl c)) k = k c := (rfl)
@[simp low] theorem neKz_wake {r : Res D} {k : Bool → OutE} : neKz r k = neK r k := (rfl)
@[simp] theorem eIfNe_eq {a : Ee} {b : Ev} {x y : Se} {ρ : Env} {A : HostSt} : eIfNe a b x y ρ A = dEz (a ρ A) fun d A' => cEz A' (b ρ A') fun e => neKz (neD d e A') fun c => iteZ c (fun _ => x ρ A') fun _ => y ρ A' := by
  unfold eIfNe dEz dE cEz cE neKz neK iteZ iteL
  cases a ρ A with
  | ok d A' =>
    dsimp only
    cases b ρ A' with
    | ok e =>
      first
        | rfl
        | (dsimp only
           cases neD d e A' with
           | ok z => cases z <;> rfl
           | exc => rfl
           | bad => rfl)
    | exc => rfl
    | bad => rfl
  | exc A' => rfl
  | bad => rfl
theorem op_word {o : Op} {B : HostSt} : ∃ w : String, ixD (encOp o) (.int 0) B = .ok (.str (Str.ofString w)) ∧ (decide ("names" = w) || (decide ("total" = w) || (decide ("read" = w) || (decide ("read_shelf" = w) || (decide ("was_read" = w) || decide ("shelf" = w)))))) = isRead o := by
  cases o with
  | names p => exact ⟨"names", ix_tup0, by simp [isRead]⟩
  | total => exact ⟨"total", ix_tup0, by simp [isRead]⟩
  | shelf => exact ⟨"shelf", ix_tup0, by simp [isRead]⟩
  | read p => exact ⟨"read", ix_tup0, by simp [isRead]⟩
  | readShelf p => exact ⟨"read_shelf", ix_tup0, by simp [isRead]⟩
  | wasRead a b => exact ⟨"was_read", ix_tup0, by simp [isRead]⟩
  | stage i x b => exact ⟨"stage", ix_tup0, by simp [isRead]⟩
  | take i x => exact ⟨"take", ix_tup0, by simp [isRead]⟩
  | give i x => exact ⟨"give", ix_tup0, by simp [isRead]⟩
  | swap i x => exact ⟨"swap", ix_tup0, by simp [isRead]⟩
  | makeFolder x => exact ⟨"make_folder", ix_tup0, by simp [isRead]⟩
  | removeFolder x => exact ⟨"remove_folder", ix_tup0, by simp [isRead]⟩
  | drop i x => exact ⟨"drop", ix_tup0, by simp [isRead]⟩
theorem does_eq {L : Nat} {A : HostSt} (h : StOk L A) (hL : L ≤ 200) {d : Deed} (hd : DeedOk d) : D__law_does [.host, encDeed d] A = match step A d with
  | some A' => .ok (.bl true) A'
  | none => .ok (.bl false) A := by
  unfold D__law_does
  dsimp only
  rw [D_program_eq h hL hd]
  cases step A d <;> rfl
theorem loop_ok {n : Nat} {cells : List Int} {r : RuleD} {A : HostSt} {s6 s7 s8 s9 : Option D} {k : Nat} (h : Inv n A) (hn : n ≤ 40) (er : A.rule = r) (hk : k < cells.length) : ∃ A' s6' s7' s8' s9', loopB (envL cells r A (some (.int (k : Int))) s6 s7 s8 s9) A = .next (envL cells r A' (some (.int (k : Int))) s6' s7' s8' s9') A' ∧ Inv (n + 1) A' ∧ A'.rule = r := by
  subst er
  have st := h.st (by omega)
  have ex : ixD (.lst (cells.map .int)) (.int (k : Int)) A = .ok (.int cells[k]) := ix_lst (by simp [hk])
  generalize cells[k] = c at ex
  have keep : ∀ {A' : HostSt}, Inv (n + 1) A' → D__law_is [.host, encS A'] A' = .ok (.bl true) := fun h' => D_law_is_eq (h'.st (by omega)) h'.dist
  obtain ⟨d, hd, hw, ed⟩ := law_deed (c.fdiv 3) A
  have edn := D_done_eq (B := A) st (by decide) h.ka (fun q hq hk => h.noHolds hq hk) hd
  have eds := does_eq st (by decide) hd
  obtain ⟨o, ho, eo⟩ := law_operation st (by decide) (c.fdiv 3)
  obtain ⟨w, ew, hwr⟩ := op_word (o := o) (B := A)
  unfold loopB envL
  by_cases q : (k : Int) < 15 ∨ c.fmod 3 = 0
  · have eq : (decide ((k : Int) < 15) || decide (c.fmod 3 = 0)) = true := by
      rcases q with q | q <;> simp [q]
    cases hs : step A d with
    | none =>
      rw [hs] at edn eds
      refine ⟨A, some (encDeed d), some .non, s8, s9, ?_, h.mono, rfl⟩
      simp [ex, eq, ed, edn, eds, keep h.mono]
    | some A' =>
      rw [hs] at edn eds
      obtain ⟨h', er'⟩ := h.step (by omega) hd hw hs
      refine ⟨A', some (encDeed d), some (encS A'), s8, s9, ?_, h', er'⟩
      simp [ex, eq, ed, edn, eds, keep h']
  · have q1 : ¬ (k : Int) < 15 := fun z => q (.inl z)
    have q2 : ¬ c.fmod 3 = 0 := fun z => q (.inr z)
    have ea := D_ask_eq st (by decide) (by have := h.nr; omega) h.ka ho
    have hin : inTD (.str (Str.ofString w)) (.tup [.str (Str.ofString "names"), .str (Str.ofString "total"), .str (Str.ofString "read"), .str (Str.ofString "read_shelf"), .str (Str.ofString "was_read"), .str (Str.ofString "shelf")]) A = .ok (.bl (isRead o)) := by
      rw [inTD_6, hwr]
    cases hr : isRead o with
    | true =>
      rw [hr] at ea hin
      have ea : D_Host_ask [.host, encOp o] A = .ok (toldD A A o) A := ea
      have et := D_told_eq (B := A) st ho hr
      have en := neD_self (shD_told (C := A) (B := A) st hr)
      refine ⟨A, s6, s7, some (encOp o), some (toldD A A o), ?_, h.mono, rfl⟩
      simp [-inTD_6, hin, ex, q1, q2, eo, ew, ea, et, en, keep h.mono]
    | false =>
      rw [hr] at ea hin
      have ea : D_Host_ask [.host, encOp o] A = ansE (change A o) A := ea
      have et := D_law_change_eq (B := A) st (by decide) h.ka ho hr
      have w1 : D.tup [.str (Str.ofString "refused")] = refused := rfl
      have w2 : D.tup [.str (Str.ofString "done")] = done := rfl
      have n1 := neD_self (shD_refused (B := A) (m := 0))
      cases hs : change A o with
      | none =>
        rw [hs] at ea et
        have ea : D_Host_ask [.host, encOp o] A = .ok refused A := ea
        refine ⟨A, s6, some .non, some (encOp o), some refused, ?_, h.mono, rfl⟩
        simp [-inTD_6, hin, ex, q1, q2, eo, ew, ea, et, w1, w2, n1, keep h.mono]
      | some A' =>
        rw [hs] at ea et
        have ea : D_Host_ask [.host, encOp o] A = .ok done A' := ea
        obtain ⟨h', er'⟩ := h.change (by omega) ho hs
        have n2 := neD_self (shD_done (B := A') (m := 0))
        refine ⟨A', s6, some (encS A'), some (encOp o), some done, ?_, h', er'⟩
        simp [-inTD_6, hin, ex, q1, q2, eo, ew, ea, et, w1, w2, n2, keep h']
end FK
set_option Elab.async false
set_option linter.all false
set_option maxRecDepth 100000
set_option maxHeartbeats 4000000
/-! The plain law: all of it. -/
namespace FK
open PySem L2
theorem loop_all {cells : List Int} {r : RuleD} (hc : cells.length = 41) : ∀ (ks : List Nat) (n : Nat) (A : HostSt) (s5 s6 s7 s8 s9 : Option D), Inv n A → A.rule = r → n + ks.length ≤ 40 → (∀ k ∈ ks, k < 41) →
    ∃ ρ' A', forR 5 loopB (ks.map fun (k : Nat) => D.int (k : Int)) (envL cells r A s5 s6 s7 s8 s9) A = .next ρ' A'
  | [], n, A, s5, s6, s7, s8, s9, h, er, hn, hk => ⟨_, _, rfl⟩
  | k :: ks, n, A, s5, s6, s7, s8, s9, h, er, hn, hk => by
    rw [List.length_cons] at hn
    obtain ⟨A', t6, t7, t8, t9, e, h', er'⟩ := loop_ok (cells := cells) (s6 := s6) (s7 := s7) (s8 := s8) (s9 := s9) (k := k) h (by omega) er (by rw [hc]; exact hk k (by simp))
    obtain ⟨ρ2, A2, e2⟩ := loop_all hc ks (n + 1) A' (some (.int (k : Int))) t6 t7 t8 t9 h' er' (by omega) fun q hq => hk q (List.mem_cons_of_mem _ hq)
    refine ⟨ρ2, A2, ?_⟩
    rw [List.map_cons]
    unfold forR
    have hs : (envL cells r A s5 s6 s7 s8 s9).set 5 (some (D.int (k : Int))) = envL cells r A (some (D.int (k : Int))) s6 s7 s8 s9 := rfl
    rw [hs, e]
    exact e2
theorem inv0 {r : RuleD} (h : MenuR r) : Inv 0 (A0 r) := by
  refine ⟨h, ⟨List.nodup_nil, ?_, ?_, ?_⟩, ?_, ?_, Nat.le_refl _, Nat.le_refl _, Nat.le_refl _⟩
  · intro x hx
    cases hx
  · intro x hx
    cases hx
  · intro x hx
    cases hx
  · intro x hx
    cases hx
  · intro x hx
    cases hx
theorem law_true : LawTrue := by
  intro cells r hc hm
  have hr : (List.range 40).map (fun (j : Nat) => D.int (1 + (j : Int))) = (((List.range 40).map (· + 1)).map fun (k : Nat) => D.int (k : Int)) := by
    rw [List.map_map]
    apply List.map_congr_left
    intro j _
    show D.int (1 + (j : Int)) = D.int ((j + 1 : Nat) : Int)
    congr 1
    omega
  obtain ⟨ρ', A', e⟩ := loop_all (r := r) hc ((List.range 40).map (· + 1)) 0 (A0 r) none none none none none (inv0 hm) rfl (by simp) (by
    intro k hk
    obtain ⟨j, hj, rfl⟩ := List.mem_map.mp hk
    have := List.mem_range.mp hj
    omega)
  refine ⟨A', ?_⟩
  rw [b_law_eq]
  have e1 : lift (sSet 4 (vLst (vCons (vLst vNil) (vCons (vLst vNil) (vCons (vC (.int 1)) (vCons (vC (.int 0)) (vCons (vLst vNil) vNil))))))) (rho0 cells r) (A0 r) = .next (envL cells r (A0 r) none none none none none) (A0 r) := rfl
  have e2 : eForR 5 1 40 loopB (envL cells r (A0 r) none none none none none) (A0 r) = .next ρ' A' := by
    unfold eForR
    rw [hr]
    exact e
  rw [eSeq_eq, e1, bEz_next, eSeq_eq, e2, bEz_next]
  simp
theorem law_holds : PySem.Challenge.rw_foldkeep_k07_operations_on_a_host.Holds := holds_of law_true
end FK
theorem PySem.Challenge.cw_foldkeep_k07_operations_on_a_host_holds : PySem.Challenge.rw_foldkeep_k07_operations_on_a_host.Holds :=
  FK.law_holds
