import PyProof.Rows.All
import Wide.All
import OpenK.AllK
import Wide.FinOn
import HandS.ForMost
import HandS.Exc
import HandS.ExcInit
import HandS.CallSlots
import HandS.More
import HandS.Deep
import HandS.IsInst
import HandS.Conv
import HandS.StrMore
import HandS.TupAny
import HandS.TupMul
import HandS.Zip
import HandS.ExcField
import HandS.Defaults
import HandS.HeadHook1
import HandS.HeadHook2
import HandS.HeadHook3
import HandS.TryOnly
import HandS.ExcIs
import HandS.Lambda
import KE.KExcIs
import HandS.SetFor
import HandS.Small
import HandS.Words
import HandS.Head0
import HandS.Head1
import HandS.Head2
import HandS.HeadEnd
import HandS.HeadWalk
import KE.GoesMore
import HandS.Replace
import HandS.RaiseMore
import HandS.ReplaceLit
import KE.KDflt
import PySem.Challenge.RW_portaldesk_k14_written_and_read
set_option Elab.async false
set_option linter.all false
set_option maxRecDepth 100000
set_option maxHeartbeats 2000000
/-! Ev1: data values, the evaluator's states, how they stand in the layer's heap. -/
namespace Ev
open PySem PySem.Spec PyProof.Rows L2

/-- data: what an expression comes to. tup, lst, dic: never changed; tab: a text table of the top; ref: the n-th object that may be changed -/
inductive D where
  | non | bl (b : Bool) | int (i : Int) | str (s : String)
  | tup (xs : List D) | lst (xs : List D) | dic (ks : List String) (vs : List D) | tab (kvs : List (String × String))
  | ref (n : Nat) | scr (ns : List Int) | lam (k : String) (cap : List D)
  deriving Inhabited
/-- a key of a dict that may be changed -/
abbrev KY := Sum Int String
def toKey : KY → Key
  | .inl i => .inl i
  | .inr s => .inr (Str.ofString s)
/-- what a slot holds: nothing, a value, a list | a dict that no one else knows, a caught exception -/
inductive SV where
  | un | val (d : D) | ul (xs : List D) | ud (kvs : List (KY × D)) | ex (c : String) (fs : List (String × D)) | lm (cap : List D)
  deriving Inhabited
/-- an object that may be changed -/
inductive MO where
  | lst (xs : List D) | dic (kvs : List (KY × D)) | ins (C : String) (fs : List (String × D))
  deriving Inhabited
structure S where
  σ : List SV
  M : List MO
inductive Out (α : Type) where
  | ok (a : α) (s : S) | exc (c : String) (fs : List (String × D)) (s : S) | bad
def PM (α : Type) := S → Out α
def Out.bind {α β : Type} (o : Out α) (f : α → S → Out β) : Out β := match o with
  | .ok a s => f a s
  | .exc c fs s => .exc c fs s
  | .bad => .bad
instance : Monad PM where
  pure a := fun s => .ok a s
  bind m f := fun s => (m s).bind fun a s => f a s
theorem bind_eq {α β : Type} (m : PM α) (f : α → PM β) (s : S) : (m >>= f) s = (m s).bind fun a s => f a s := rfl
theorem pure_eq {α : Type} (a : α) (s : S) : (pure a : PM α) s = .ok a s := rfl
def stuck {α : Type} : PM α := fun _ => .bad
def raise {α : Type} (c : String) (fs : List (String × D)) : PM α := fun s => .exc c fs s

/-- ghosts: which addresses are never changed, where the n-th object stands -/
structure GW where
  F : Addr → Prop
  hp : List Addr
inductive OutC where
  | ok (d : D) (M : List MO) | exc (c : String) (fs : List (String × D)) (M : List MO) | bad
/-- a lambda that a def has got: its maker's slots, its function object, its code object, its name, the slots that it captures -/
structure LamC where
  σ : L2.St
  f : Addr
  c : Addr
  q : Str
  is : List Nat
/-- what is fixed through a def's run: the written part, the world, the heap and the ghosts at its entry -/
structure Cn where
  K : PySem.W.Frag
  w : World
  H0 : Hp
  hp0 : List Addr
  F0 : Addr → Prop
  /-- the exception that an except suite holds: the object, its class, its dict -/
  ex : Option (Addr × Value × Option Addr) := none
  lam : Option LamC := none
  /-- the tables of code objects -/
  T : List (Addr × Str) := []

/-- a text table of the top -/
def KTab (K : PySem.W.Frag) (w : World) (a : Addr) (kvs : List (String × String)) : Prop :=
  ∃ es n, KDict K w a es n ∧ (∀ z : String, match kvs.lookup z with
    | some s => ∃ t, PySem.W.nsIn K a (Str.ofString z) = some (some (.str (Str.ofString s) t))
    | none => PySem.W.nsIn K a (Str.ofString z) = some none) ∧
    Paired (fun (q : String × String) (e : DictEntry) => (∃ t, e.key = .str (Str.ofString q.1) t) ∧ e.hash = PyData.keyHash w.params (Str.ofString q.1) ∧ ∃ t, e.val = .str (Str.ofString q.2) t) kvs es.toList ∧ (kvs.map (·.1)).Nodup

mutual
def RD (c : Cn) (G : GW) (H : Hp) : D → V → Prop
  | .non, v => v = .non
  | .bl b, v => v = .bl b
  | .int i, v => v = .int i
  | .str s, v => v = .str (Str.ofString s)
  | .tup ds, v => ∃ a vs, v = V.ref a ∧ G.F a ∧ H a = some (.tup vs) ∧ RDs c G H ds vs
  | .lst ds, v => ∃ a vs, v = V.ref a ∧ G.F a ∧ H a = some (.lst vs) ∧ RDs c G H ds vs
  | .dic ks ds, v => ∃ a vs, v = V.ref a ∧ G.F a ∧ H a = some (.dK ((ks.map fun s => Sum.inr (Str.ofString s)).zip vs)) ∧ ks.length = ds.length ∧ RDs c G H ds vs
  | .tab kvs, v => ∃ a, v = V.ref a ∧ KTab c.K c.w a kvs
  | .ref n, v => ∃ a, v = V.ref a ∧ G.hp[n]? = some a
  | .scr ns, v => ∃ a o, v = V.ref a ∧ G.F a ∧ H a = some (.frz o (.lst (ns.map V.int)))
  | .lam _ _, _ => False
def RDs (c : Cn) (G : GW) (H : Hp) : List D → List V → Prop
  | [], vs => vs = []
  | d :: ds, vs => ∃ v r, vs = v :: r ∧ RD c G H d v ∧ RDs c G H ds r
end
def RDo (c : Cn) (G : GW) (H : Hp) : List (String × D) → List (Str × V) → Prop := Paired fun p q => q.1 = Str.ofString p.1 ∧ RD c G H p.2 q.2
def RDk (c : Cn) (G : GW) (H : Hp) : List (KY × D) → List (Key × V) → Prop := Paired fun p q => q.1 = toKey p.1 ∧ RD c G H p.2 q.2
/-- where the class x stands -/
def cAd (c : Cn) (x : String) : Addr := He.ga c.K (Str.ofString x)
def RO (c : Cn) (G : GW) (H : Hp) (a : Addr) : MO → Prop
  | .lst ds => ∃ vs, H a = some (.lst vs) ∧ RDs c G H ds vs
  | .dic kvs => ∃ ws, H a = some (.dK ws) ∧ RDk c G H kvs ws
  | .ins C fs => ∃ dx gs, H a = some (.ins (cAd c C) dx gs) ∧ RDo c G H fs gs
/-- an exception of the class x with these fields, its dict at dd -/
def RX (c : Cn) (G : GW) (H : Hp) (x : String) (fs : List (String × D)) (cls : Value) (dd : Option Addr) : Prop :=
  cls = .ref (cAd c x) ∧ match dd with
    | none => fs = []
    | some d => ∃ gs, G.F d ∧ H d = some (.xd gs) ∧ RDo c G H fs gs
def RSV (c : Cn) (G : GW) (H : Hp) : SV → Option (Option V) → Prop
  | .un, o => ∃ x, o = some x
  | .val d, o => ∃ v, o = some (some v) ∧ RD c G H d v
  | .ul ds, o => ∃ a vs, o = some (some (V.ref a)) ∧ H a = some (.lst vs) ∧ RDs c G H ds vs ∧ ¬ G.F a ∧ a ∉ G.hp ∧ c.H0 a = none
  | .ud kvs, o => ∃ a ws, o = some (some (V.ref a)) ∧ H a = some (.dK ws) ∧ RDk c G H kvs ws ∧ ¬ G.F a ∧ a ∉ G.hp ∧ c.H0 a = none
  | .lm cap, o => ∃ l vs, c.lam = some l ∧ o = some (some (V.ref l.f)) ∧ H l.c = some (LamX.CodeO l.c l.q) ∧ RDs c G H cap vs ∧ l.is.map (fun i => l.σ[i]?) = vs.map fun v => some (some v)
  | .ex x fs, o => ∃ a cls dd, c.ex = some (a, cls, dd) ∧ o = some (some (V.ref a)) ∧ RX c G H x fs cls dd
def SV.own : SV → Bool
  | .ul _ => true
  | .ud _ => true
  | _ => false
/-- the evaluator's state s stands in the slots σ and the heap H -/
structure Rs (c : Cn) (G : GW) (s : S) (σ : L2.St) (H : Hp) : Prop where
  len : s.σ.length = σ.length
  at_ : ∀ (i : Nat) (v : SV), s.σ[i]? = some v → RSV c G H v σ[i]?
  sep : ∀ (i j : Nat) (v w : SV) (a : Addr), s.σ[i]? = some v → s.σ[j]? = some w → v.own = true → w.own = true → σ[i]? = some (some (V.ref a)) → σ[j]? = some (some (V.ref a)) → i = j
  hlen : G.hp.length = s.M.length
  nd : G.hp.Nodup
  obj : ∀ (n : Nat) (a : Addr) (o : MO), G.hp[n]? = some a → s.M[n]? = some o → RO c G H a o
  dis : ∀ a ∈ G.hp, ¬ G.F a
  live : ∀ (a : Addr), G.F a → ∃ o, H a = some o
  keep : ∀ (a : Addr) (o : HO), c.H0 a = some o → a ∉ c.hp0 → H a = some o
  pre : c.hp0 <+: G.hp
  new : ∀ a ∈ G.hp, a ∈ c.hp0 ∨ c.H0 a = none
  newF : ∀ (a : Addr), G.F a → c.F0 a ∨ c.H0 a = none
  nF : ∀ (a : Addr) (ps : Array Value), G.F a → H a ≠ some (.tbl ps)
  nt : ∀ (a : Addr) (ps : Array Value), c.H0 a ≠ some (.tbl ps)
  tabs : LamX.Tabs c.T H
/-- what was said of values is still so -/
structure Ext (G : GW) (H : Hp) (G' : GW) (H' : Hp) : Prop where
  F : ∀ a, G.F a → G'.F a
  hp : G.hp <+: G'.hp
  st : ∀ a, G.F a → H' a = H a
  code : ∀ a q, H a = some (LamX.CodeO a q) → H' a = some (LamX.CodeO a q)
theorem Ext.refl (G : GW) (H : Hp) : Ext G H G H := ⟨fun _ h => h, List.prefix_refl _, fun _ _ => rfl, fun _ _ h => h⟩
theorem Ext.trans {G G1 G2 : GW} {H H1 H2 : Hp} (a : Ext G H G1 H1) (b : Ext G1 H1 G2 H2) : Ext G H G2 H2 :=
  ⟨fun x h => b.F x (a.F x h), a.hp.trans b.hp, fun x h => (b.st x (a.F x h)).trans (a.st x h), fun x q h => b.code x q (a.code x q h)⟩
theorem prefix_get {α : Type} {l l' : List α} (h : l <+: l') {n : Nat} {x : α} (e : l[n]? = some x) : l'[n]? = some x := by
  obtain ⟨t, rfl⟩ := h
  rw [List.getElem?_append_left (List.getElem?_eq_some_iff.mp e).1]
  exact e
theorem rd_eq {H H' : Hp} {a : Addr} {u : HO} (h : Rd H a u) (e : H' a = H a) : Rd H' a u := by
  rcases h with h | ⟨o, h⟩
  · exact .inl (e.trans h)
  · exact .inr ⟨o, e.trans h⟩
section
variable {c : Cn} {G G' : GW} {H H' : Hp}
mutual
theorem RD.mono (x : Ext G H G' H') : ∀ (d : D) {v : V}, RD c G H d v → RD c G' H' d v
  | .non, _, h => h
  | .bl _, _, h => h
  | .int _, _, h => h
  | .str _, _, h => h
  | .tup ds, _, h => by
    unfold RD at h ⊢
    obtain ⟨a, vs, e, f, t, r⟩ := h
    exact ⟨a, vs, e, x.F a f, (x.st a f).trans t, RDs.mono x ds r⟩
  | .lst ds, _, h => by
    unfold RD at h ⊢
    obtain ⟨a, vs, e, f, t, r⟩ := h
    exact ⟨a, vs, e, x.F a f, (x.st a f).trans t, RDs.mono x ds r⟩
  | .dic ks ds, _, h => by
    unfold RD at h ⊢
    obtain ⟨a, vs, e, f, t, l, r⟩ := h
    exact ⟨a, vs, e, x.F a f, (x.st a f).trans t, l, RDs.mono x ds r⟩
  | .tab _, _, h => h
  | .ref n, _, h => by
    unfold RD at h ⊢
    obtain ⟨a, e, q⟩ := h
    exact ⟨a, e, prefix_get x.hp q⟩
  | .scr _, _, h => by
    unfold RD at h ⊢
    obtain ⟨a, o, e, f, t⟩ := h
    exact ⟨a, o, e, x.F a f, (x.st a f).trans t⟩
  | .lam _ _, _, h => by
    unfold RD at h
    exact h.elim
theorem RDs.mono (x : Ext G H G' H') : ∀ (ds : List D) {vs : List V}, RDs c G H ds vs → RDs c G' H' ds vs
  | [], _, h => h
  | d :: ds, _, h => by
    unfold RDs at h ⊢
    obtain ⟨v, r, e, h1, h2⟩ := h
    exact ⟨v, r, e, RD.mono x d h1, RDs.mono x ds h2⟩
end
mutual
theorem RD.re {c' : Cn} (hK : c.K = c'.K) (hw : c.w = c'.w) : ∀ (d : D) {v : V}, RD c G H d v → RD c' G H d v
  | .non, _, h => h
  | .bl _, _, h => h
  | .int _, _, h => h
  | .str _, _, h => h
  | .tup ds, _, h => by
    unfold RD at h ⊢
    obtain ⟨a, vs, e, f, t, r⟩ := h
    exact ⟨a, vs, e, f, t, RDs.re hK hw ds r⟩
  | .lst ds, _, h => by
    unfold RD at h ⊢
    obtain ⟨a, vs, e, f, t, r⟩ := h
    exact ⟨a, vs, e, f, t, RDs.re hK hw ds r⟩
  | .dic ks ds, _, h => by
    unfold RD at h ⊢
    obtain ⟨a, vs, e, f, t, l, r⟩ := h
    exact ⟨a, vs, e, f, t, l, RDs.re hK hw ds r⟩
  | .tab _, _, h => by
    unfold RD at h ⊢
    rw [← hK, ← hw]
    exact h
  | .ref n, _, h => by
    unfold RD at h ⊢
    exact h
  | .scr _, _, h => by
    unfold RD at h ⊢
    exact h
  | .lam _ _, _, h => by
    unfold RD at h
    exact h.elim
theorem RDs.re {c' : Cn} (hK : c.K = c'.K) (hw : c.w = c'.w) : ∀ (ds : List D) {vs : List V}, RDs c G H ds vs → RDs c' G H ds vs
  | [], _, h => by
    unfold RDs at h ⊢
    exact h
  | d :: ds, _, h => by
    unfold RDs at h ⊢
    obtain ⟨v, r, e, h1, h2⟩ := h
    exact ⟨v, r, e, RD.re hK hw d h1, RDs.re hK hw ds h2⟩
end
theorem RDo.re {c' : Cn} (hK : c.K = c'.K) (hw : c.w = c'.w) {fs : List (String × D)} {gs : List (Str × V)} (h : RDo c G H fs gs) : RDo c' G H fs gs := Paired.mapP h fun _ _ z => ⟨z.1, z.2.re hK hw⟩
theorem RDk.re {c' : Cn} (hK : c.K = c'.K) (hw : c.w = c'.w) {fs : List (KY × D)} {gs : List (Key × V)} (h : RDk c G H fs gs) : RDk c' G H fs gs := Paired.mapP h fun _ _ z => ⟨z.1, z.2.re hK hw⟩
theorem RDo.mono (x : Ext G H G' H') {fs : List (String × D)} {gs : List (Str × V)} (h : RDo c G H fs gs) : RDo c G' H' fs gs := Paired.mapP h fun _ _ z => ⟨z.1, z.2.mono x⟩
theorem RDk.mono (x : Ext G H G' H') {fs : List (KY × D)} {gs : List (Key × V)} (h : RDk c G H fs gs) : RDk c G' H' fs gs := Paired.mapP h fun _ _ z => ⟨z.1, z.2.mono x⟩
theorem RX.mono {x : String} {fs : List (String × D)} {cls : Value} {dd : Option Addr} (e : Ext G H G' H') (h : RX c G H x fs cls dd) : RX c G' H' x fs cls dd := by
  obtain ⟨h1, h2⟩ := h
  refine ⟨h1, ?_⟩
  cases dd with
  | none => exact h2
  | some d =>
    obtain ⟨gs, k0, k1, k2⟩ := h2
    exact ⟨gs, e.F d k0, (e.st d k0).trans k1, k2.mono e⟩
theorem RX.re {c' : Cn} {x : String} {fs : List (String × D)} {cls : Value} {dd : Option Addr} (hK : c.K = c'.K) (hw : c.w = c'.w) (h : RX c G H x fs cls dd) : RX c' G H x fs cls dd := by
  obtain ⟨h1, h2⟩ := h
  refine ⟨by unfold cAd at h1 ⊢; rw [← hK]; exact h1, ?_⟩
  cases dd with
  | none => exact h2
  | some d =>
    obtain ⟨gs, k0, k1, k2⟩ := h2
    exact ⟨gs, k0, k1, k2.re hK hw⟩
end
end Ev

set_option maxHeartbeats 2000000
/-! Ev2: the judgements: what an expression's, a statement's denotation says of the layer's reading. -/
namespace Ev
open PySem PySem.Spec PyProof.Rows L2

/-- a run of m from s: what is wanted of its end; values are told by R -/
def Run {α β : Type} (R : Cn → GW → Hp → α → β → Prop) (c : Cn) (W : WX) (m : PM α) (G : GW) (s : S) (σ : L2.St) (H : Hp) (Q : β → Hp → Prop) : Prop := match m s with
  | .ok a s' => ∀ (G' : GW) (H' : Hp) (b : β), Ext G H G' H' → Rs c G' s' σ H' → R c G' H' a b → Q b H'
  | .exc x fs s' => ∀ (G' : GW) (H' : Hp) (cls : Value) (dd : Option Addr), Ext G H G' H' → Rs c G' s' σ H' → RX c G' H' x fs cls dd → W cls dd σ H'
  | .bad => False
def REq {β : Type} : Cn → GW → Hp → β → β → Prop := fun _ _ _ a b => a = b
/-- the layer's readings by a denotation -/
def tE (c : Cn) (W : WX) (m : PM D) : TE := fun σ H Q => ∃ G s, Rs c G s σ H ∧ Run RD c W m G s σ H Q
def tA (c : Cn) (W : WX) (m : PM (List D)) : TA := fun σ H Q => ∃ G s, Rs c G s σ H ∧ Run RDs c W m G s σ H Q
def tT (c : Cn) (W : WX) (m : PM Bool) : TT := fun σ H Q => ∃ G s, Rs c G s σ H ∧ Run REq c W m G s σ H Q
section
variable {α β γ δ : Type} {R : Cn → GW → Hp → α → β → Prop} {R' : Cn → GW → Hp → γ → δ → Prop} {c : Cn} {W : WX} {G G' : GW} {s : S} {σ : L2.St} {H H' : Hp}
theorem Run.ext {m : PM α} {Q : β → Hp → Prop} (x : Ext G H G' H') (h : Run R c W m G s σ H Q) : Run R c W m G' s σ H' Q := by
  unfold Run at h ⊢
  cases e : m s with
  | ok a s' =>
    rw [e] at h
    exact fun G2 H2 b y r q => h G2 H2 b (x.trans y) r q
  | exc n fs s' =>
    rw [e] at h
    exact fun G2 H2 cl dd y r q => h G2 H2 cl dd (x.trans y) r q
  | bad =>
    rw [e] at h
    exact h
/-- m, then f -/
theorem Run.bind {m : PM α} {f : α → PM γ} {Q : δ → Hp → Prop} (h : Run R' c W (m >>= f) G s σ H Q) :
    Run R c W m G s σ H fun b H1 => ∃ G1 s1 a, Ext G H G1 H1 ∧ Rs c G1 s1 σ H1 ∧ R c G1 H1 a b ∧ Run R' c W (f a) G1 s1 σ H1 Q := by
  unfold Run at h ⊢
  rw [bind_eq] at h
  cases e : m s with
  | ok a s' =>
    rw [e] at h
    intro G1 H1 b x r q
    refine ⟨G1, s', a, x, r, q, ?_⟩
    have h' : Run R' c W (f a) G s' σ H Q := h
    exact h'.ext x
  | exc n fs s' =>
    rw [e] at h
    exact h
  | bad =>
    rw [e] at h
    exact h
theorem Run.ok {m : PM α} {Q : β → Hp → Prop} {a : α} {s' : S} {b : β} (e : m s = .ok a s') (h : Run R c W m G s σ H Q) (x : Ext G H G' H') (r : Rs c G' s' σ H') (q : R c G' H' a b) : Q b H' := by
  unfold Run at h
  rw [e] at h
  exact h G' H' b x r q
theorem Run.same {m : PM α} {Q : β → Hp → Prop} {a : α} {b : β} (e : m s = .ok a s) (h : Run R c W m G s σ H Q) (r : Rs c G s σ H) (q : R c G H a b) : Q b H := h.ok e (.refl _ _) r q
theorem Run.mono {m : PM α} {Q Q' : β → Hp → Prop} (h : Run R c W m G s σ H Q) (k : ∀ b H', Q b H' → Q' b H') : Run R c W m G s σ H Q' := by
  unfold Run at h ⊢
  cases e : m s with
  | ok a s' =>
    rw [e] at h
    exact fun G2 H2 b y r q => k _ _ (h G2 H2 b y r q)
  | exc n fs s' =>
    rw [e] at h
    exact h
  | bad =>
    rw [e] at h
    exact h
end
/-- the program, its world, its written part -/
structure Pg where
  P : Program
  w : World
  K : PySem.W.Frag
  mg : Str → Option Value
  base : Heap
  ex : Option (Addr × Value × Option Addr) := none
  lam : Option LamC := none
  T : List (Addr × Str) := []
  /-- the lambda's name in the def that got it; what its call does, by what it captured -/
  an : Str := Str.ofString ""
  act : List D → List MO → OutC := fun _ _ => .bad
  /-- the code object of the def at hand, its qualified name -/
  cod : Option (Addr × Str) := none
/-- a def by values -/
abbrev Fn := List D → List MO → OutC
def callM (F : Fn) (ds : List D) : PM D := fun s => match F ds s.M with
  | .ok d M => .ok d { s with M := M }
  | .exc x fs M => .exc x fs { s with M := M }
  | .bad => .bad
/-- the call of the lambda that slot 0 holds -/
def eAct (act : List D → List MO → OutC) : PM D := fun s => match s.σ[(0 : Nat)]? with
  | some (.lm cap) => callM (fun _ M => act cap M) [] s
  | _ => .bad
structure Cn.of (p : Pg) (c : Cn) : Prop where
  K : c.K = p.K
  w : c.w = p.w
  ex : c.ex = p.ex
  lam : c.lam = p.lam
  T : c.T = p.T
/-- a def's names by slots; those of the slots that the code at hand sees; the module's names that it sees; whether nothing is being handled; how deep calls may go -/
structure NE where
  N : List Str
  see : List Nat
  st : List Nat
  glo : List Str
  calm : Bool
  k : Nat
  /-- those that no inner block captures; the names that an inner block may capture -/
  lo : List Nat
  cap : List Str
  /-- a def's own frame, no inner block -/
  own : Bool
structure XOk (p : Pg) (Γ : NE) (X : Cx) : Prop where
  prog : X.prog = p.P
  w : X.w = p.w
  K : X.K = p.K
  mg : X.mg = p.mg
  base : X.base = p.base
  N : X.N = Γ.N
  nd : Γ.N.Nodup
  vis : ∀ i ∈ Γ.see, ∀ x, Γ.N[i]? = some x → Vis X.env.scope x ∧ (x == ("__debug__" : Str)) = false ∧ (x == ("__classdict__" : Str)) = false
  sto : ∀ i ∈ Γ.st, ∀ x, Γ.N[i]? = some x → Loc X.env.scope x ∧ (X.fn x = true ∨ X.env.scope.names.lookup x = some .local)
  glo : ∀ x ∈ Γ.glo, Gl X x ∧ (x == ("__debug__" : Str)) = false ∧ x ≠ "__name__"
  calm : Γ.calm = true → X.calm = true ∧ X.A.handled = none
  dp : X.A.depth + 3 * (2 * Γ.k + 1) + 5 < recursionLimit
  un : X.A.units + 16 * (2 * Γ.k + 1) + 200 < cLine
  loc : ∀ i ∈ Γ.lo, ∀ x, Γ.N[i]? = some x → X.env.scope.names.lookup x = some .local
  kind : X.env.scope.kind = .function
  own : Γ.own = true → X.stack = X.env :: X.outer ∧ X.env.frame = some X.env.locals
  hot : ∀ a cls dd, p.ex = some (a, cls, dd) → ∃ (X0 : Cx) (oe : Obj) (pn : List (Addr × Obj)), X = X0.suite a ((a, oe) :: pn) ∧ Zc cls dd oe ∧ ∃ vs, oe.data = .fields vs
  act : Γ.calm = true → ∀ l, p.lam = some l → ∀ (pn : List (Addr × Obj)) (xe : Value → Shared → Prop) (W : WX), Takes (X.tr pn xe) W → ∀ (p1 p2 : Pos) (c : Cn), Cn.of p c → PE (X.tr pn xe) (.Call (.Name p.an p1) [] [] p2) (tE c W (eAct p.act))
  cod : ∀ a q, p.cod = some (a, q) → X.env.code = .ref a ∧ X.env.qual = q
  cap : ∀ x ∈ Γ.cap, X.env.scope.names.lookup x = some .cell ∨ X.env.scope.names.lookup x = some .free
  pass : PassesOwn (model X.prog X.w) X.A X.env X.xe
theorem XOk.room {p : Pg} {Γ : NE} {X : Cx} (x : XOk p Γ X) (h : Γ.calm = true) : Room (2 * Γ.k + 1) X.A := ⟨(x.calm h).2, x.dp, x.un⟩
/-- e's denotation is m -/
def SE (p : Pg) (Γ : NE) (e : Expr) (m : PM D) : Prop := ∀ X, XOk p Γ X → ∀ W, Takes X W → ∀ c, Cn.of p c → PE X e (tE c W m)
def SA (p : Pg) (Γ : NE) (es : List Expr) (m : PM (List D)) : Prop := ∀ X, XOk p Γ X → ∀ W, Takes X W → ∀ c, Cn.of p c → PA X es (tA c W m)
def ST (p : Pg) (Γ : NE) (e : Expr) (m : PM Bool) : Prop := ∀ X, XOk p Γ X → ∀ W, Takes X W → ∀ c, Cn.of p c → PT X e (tT c W m)
def SW (p : Pg) (Γ : NE) (e : Expr) (m : PM Bool) : Prop := ∀ X, XOk p Γ X → ∀ W, Takes X W → ∀ c, Cn.of p c → PW X e (tT c W m)
section
variable {X : Cx} {e : Expr} {es : List Expr}
theorem _root_.L2.PE.weak {t t' : TE} (h : PE X e t) (k : ∀ σ H Q, t' σ H Q → t σ H Q) : PE X e t' := ⟨fun pins s σ H Q I q => h.run pins s σ H Q I (k σ H Q q)⟩
theorem _root_.L2.PA.weak {t t' : TA} (h : PA X es t) (k : ∀ σ H Q, t' σ H Q → t σ H Q) : PA X es t' := ⟨fun pos pins s σ H Q I q => h.run pos pins s σ H Q I (k σ H Q q)⟩
theorem _root_.L2.PT.weak {t t' : TT} (h : PT X e t) (k : ∀ σ H Q, t' σ H Q → t σ H Q) : PT X e t' := ⟨fun pins s σ H Q I q => h.run pins s σ H Q I (k σ H Q q)⟩
theorem _root_.L2.PW.weak {t t' : TT} (h : PW X e t) (k : ∀ σ H Q, t' σ H Q → t σ H Q) : PW X e t' := ⟨fun wh pins s σ H Q I q => h.run wh pins s σ H Q I (k σ H Q q)⟩
end
/-! ### slots -/
def getSlot (i : Nat) : PM SV := fun s => match s.σ[i]? with
  | some v => .ok v s
  | none => .bad
/-- a name as a value: a list, a dict that no one else knew is from now on never changed -/
def eVar (i : Nat) : PM D := fun s => match s.σ[i]? with
  | some (.val d) => .ok d s
  | some (.ul xs) => .ok (.lst xs) { s with σ := s.σ.set i (.val (.lst xs)) }
  | _ => .bad
/-- a name as it is looked at now -/
def ePeek (i : Nat) : PM D := fun s => match s.σ[i]? with
  | some (.val d) => .ok d s
  | some (.ul xs) => .ok (.lst xs) s
  | _ => .bad
section
variable {c : Cn} {G G' : GW} {s : S} {σ : L2.St} {H H' : Hp}
theorem RSV.mono_val {v : SV} {o : Option (Option V)} (x : Ext G H G' H') (hv : v.own = false) (h : RSV c G H v o) : RSV c G' H' v o := by
  cases v with
  | un => exact h
  | val d =>
    obtain ⟨y, e, r⟩ := h
    exact ⟨y, e, r.mono x⟩
  | ul _ => cases hv
  | ud _ => cases hv
  | ex _ _ =>
    obtain ⟨a, cls, dd, h1, h2, h3⟩ := h
    exact ⟨a, cls, dd, h1, h2, h3.mono x⟩
  | lm _ =>
    obtain ⟨l, vs, h1, h2, h3, h4, h5⟩ := h
    exact ⟨l, vs, h1, h2, x.code _ _ h3, RDs.mono x _ h4, h5⟩
/-- one address more is never changed from now on -/
def GW.fz (G : GW) (a : Addr) : GW := ⟨fun b => G.F b ∨ b = a, G.hp⟩
theorem Ext.fz (G : GW) (H : Hp) (a : Addr) : Ext G H (G.fz a) H := ⟨fun _ h => .inl h, List.prefix_refl _, fun _ _ => rfl, fun _ _ h => h⟩
theorem RO.mono {a : Addr} {o : MO} (x : Ext G H G' H') (e : H' a = H a) (h : RO c G H a o) : RO c G' H' a o := by
  cases o with
  | lst ds =>
    obtain ⟨vs, h1, h2⟩ := h
    exact ⟨vs, e.trans h1, h2.mono x⟩
  | dic kvs =>
    obtain ⟨ws, h1, h2⟩ := h
    exact ⟨ws, e.trans h1, h2.mono x⟩
  | ins C fs =>
    obtain ⟨dx, gs, h1, h2⟩ := h
    exact ⟨dx, gs, e.trans h1, h2.mono x⟩
/-- the list in slot i is let go: it's never changed from now on -/
theorem Rs.freeze {i : Nat} {xs : List D} (r : Rs c G s σ H) (e : s.σ[i]? = some (.ul xs)) :
    ∃ a vs, σ[i]? = some (some (V.ref a)) ∧ H a = some (.lst vs) ∧ RDs c (G.fz a) H xs vs ∧ Rs c (G.fz a) { s with σ := s.σ.set i (.val (.lst xs)) } σ H := by
  obtain ⟨a, vs, h1, h2, h3, h4, h5, h6⟩ := r.at_ i _ e
  have x := Ext.fz G H a
  have hi : i < s.σ.length := (List.getElem?_eq_some_iff.mp e).1
  refine ⟨a, vs, h1, h2, h3.mono x, ?_⟩
  refine { len := by simp only [List.length_set]; exact r.len, at_ := fun j v ej => ?_, sep := fun j k v w b ej ek ov ow hj hk => ?_, hlen := r.hlen, nd := r.nd, obj := fun n b o hb ho => (r.obj n b o hb ho).mono x rfl, dis := fun b hb z => ?_, live := fun b z => ?_, keep := r.keep, pre := r.pre, new := r.new, newF := fun b z => z.elim (r.newF b) fun z => .inr (z ▸ h6), nF := fun b ps z e => z.elim (fun z => r.nF b ps z e) (fun z => by rw [z, h2] at e; cases e), nt := r.nt, tabs := r.tabs }
  · have ej : (s.σ.set i (.val (.lst xs)))[j]? = some v := ej
    by_cases hj : i = j
    · subst hj
      rw [List.getElem?_set_self hi] at ej
      cases ej
      refine ⟨V.ref a, h1, ?_⟩
      unfold RD
      exact ⟨a, vs, rfl, .inr rfl, h2, h3.mono x⟩
    · rw [List.getElem?_set_ne hj] at ej
      have q := r.at_ j v ej
      cases hv : v.own with
      | false => exact q.mono_val x hv
      | true =>
        cases v with
        | ul ys =>
          obtain ⟨b, ws, q1, q2, q3, q4, q5, q6⟩ := q
          refine ⟨b, ws, q1, q2, q3.mono x, fun z => z.elim q4 fun z => ?_, q5, q6⟩
          subst z
          exact hj (r.sep i j _ _ _ e ej rfl rfl h1 q1)
        | ud ys =>
          obtain ⟨b, ws, q1, q2, q3, q4, q5, q6⟩ := q
          refine ⟨b, ws, q1, q2, q3.mono x, fun z => z.elim q4 fun z => ?_, q5, q6⟩
          subst z
          exact hj (r.sep i j _ _ _ e ej rfl rfl h1 q1)
        | _ => cases hv
  · have ej : (s.σ.set i (.val (.lst xs)))[j]? = some v := ej
    have ek : (s.σ.set i (.val (.lst xs)))[k]? = some w := ek
    have nj : i ≠ j := fun z => by
      subst z
      rw [List.getElem?_set_self hi] at ej
      cases ej
      cases ov
    have nk : i ≠ k := fun z => by
      subst z
      rw [List.getElem?_set_self hi] at ek
      cases ek
      cases ow
    rw [List.getElem?_set_ne nj] at ej
    rw [List.getElem?_set_ne nk] at ek
    exact r.sep j k v w b ej ek ov ow hj hk
  · rcases z with z | z
    · exact r.dis b hb z
    · subst z
      exact h5 hb
  · rcases z with z | z
    · exact r.live b z
    · subst z
      exact ⟨_, h2⟩
end
section
variable {p : Pg} {Γ : NE}
theorem se_var {i : Nat} {x : Str} {pos : Pos} (hN : Γ.N[i]? = some x) (hi : i ∈ Γ.see) : SE p Γ (.Name x pos) (eVar i) := by
  intro X ok W tk c hc
  obtain ⟨v1, v2, v3⟩ := ok.vis i hi x hN
  refine (pe_var (i := i) (by rw [ok.N]; exact hN) v1 v2 v3).weak fun σ H Q h => ?_
  obtain ⟨G, s, r, h⟩ := h
  cases e : s.σ[i]? with
  | none =>
    unfold Run eVar at h
    rw [e] at h
    exact h.elim
  | some v =>
    cases v with
    | val d =>
      obtain ⟨y, q, rd⟩ := r.at_ i _ e
      exact ⟨y, q, h.same (by unfold eVar; rw [e]) r rd⟩
    | ul xs =>
      obtain ⟨a, vs, h1, h2, h3, r'⟩ := r.freeze e
      refine ⟨V.ref a, h1, h.ok (by unfold eVar; rw [e]) (Ext.fz G H a) r' ?_⟩
      unfold RD
      exact ⟨a, vs, rfl, .inr rfl, h2, h3⟩
    | _ =>
      unfold Run eVar at h
      rw [e] at h
      exact h.elim
theorem se_int {i : Int} {j : Nat} {pos : Pos} : SE p Γ (.Constant (.int i) j pos) (pure (.int i)) := by
  intro X ok W tk c hc
  refine pe_int.weak fun σ H Q h => ?_
  obtain ⟨G, s, r, h⟩ := h
  exact h.same (a := D.int i) (b := V.int i) rfl r (by unfold RD; rfl)
theorem se_bl {b : Bool} {j : Nat} {pos : Pos} : SE p Γ (.Constant (.bool b) j pos) (pure (.bl b)) := by
  intro X ok W tk c hc
  refine pe_bl.weak fun σ H Q h => ?_
  obtain ⟨G, s, r, h⟩ := h
  exact h.same (a := D.bl b) (b := V.bl b) rfl r (by unfold RD; rfl)
theorem se_non {j : Nat} {pos : Pos} : SE p Γ (.Constant .none j pos) (pure .non) := by
  intro X ok W tk c hc
  refine pe_non.weak fun σ H Q h => ?_
  obtain ⟨G, s, r, h⟩ := h
  exact h.same (a := D.non) (b := V.non) rfl r (by unfold RD; rfl)
theorem se_str {x : String} {j : Nat} {pos : Pos} : SE p Γ (.Constant (.str (Str.ofString x)) j pos) (pure (.str x)) := by
  intro X ok W tk c hc
  refine pe_str.weak fun σ H Q h => ?_
  obtain ⟨G, s, r, h⟩ := h
  exact h.same (a := D.str x) (b := V.str (Str.ofString x)) rfl r (by unfold RD; rfl)
end
/-! ### argument lists -/
def aNil : PM (List D) := pure []
def aCons (m : PM D) (ms : PM (List D)) : PM (List D) := m >>= fun d => ms >>= fun ds => pure (d :: ds)
section
variable {p : Pg} {Γ : NE}
theorem sa_nil : SA p Γ [] aNil := by
  intro X ok W tk c hc
  refine pa_nil.weak fun σ H Q h => ?_
  obtain ⟨G, s, r, h⟩ := h
  exact h.same (a := []) (b := []) rfl r (by unfold RDs; rfl)
theorem sa_cons {e : Expr} {es : List Expr} {m : PM D} {ms : PM (List D)} (he : SE p Γ e m) (hs : SA p Γ es ms) (hst : ∀ env, starEach (e :: es) env = (false, eval e env) :: starEach es env) : SA p Γ (e :: es) (aCons m ms) := by
  intro X ok W tk c hc
  refine (pa_cons (he X ok W tk c hc) (hs X ok W tk c hc) (hst X.env)).weak fun σ H Q h => ?_
  obtain ⟨G, s, r, h⟩ := h
  refine ⟨G, s, r, (Run.bind (R := RD) h).mono fun v H1 ⟨G1, s1, d, x1, r1, q1, h1⟩ => ?_⟩
  refine ⟨G1, s1, r1, (Run.bind (R := RDs) h1).mono fun vs H2 ⟨G2, s2, ds, x2, r2, q2, h2⟩ => ?_⟩
  exact h2.same (a := d :: ds) (b := v :: vs) rfl r2 (by unfold RDs; exact ⟨v, vs, rfl, q1.mono x2, q2⟩)
end
end Ev

set_option maxHeartbeats 2000000
/-! Ev3: views of values, equality of data, new objects, displays, operators. -/
namespace Ev
open PySem PySem.Spec PyProof.Rows L2

/-! ### texts -/
theorem ofString_cps (s : String) : (Str.ofString s).cps.toList = s.toList.map Char.toNat := by
  unfold Str.ofString
  rw [cpsOfBytes_string]
theorem ofString_inj {s t : String} (h : Str.ofString s = Str.ofString t) : s = t := by
  have e := congrArg (fun z : Str => z.cps.toList) h
  simp only [ofString_cps] at e
  have inj : ∀ l l' : List Char, l.map Char.toNat = l'.map Char.toNat → l = l' := by
    intro l
    induction l with
    | nil =>
      intro l' h
      cases l' with
      | nil => rfl
      | cons _ _ => cases h
    | cons a l ih =>
      intro l' h
      cases l' with
      | nil => cases h
      | cons b l' =>
        simp only [List.map_cons, List.cons.injEq] at h
        have : a = b := Char.toNat_inj.mp h.1
        rw [this, ih l' h.2]
  exact String.toList_inj.mp (inj _ _ e)
theorem ofString_beq (s t : String) : (Str.ofString s == Str.ofString t) = (s == t) := by
  by_cases e : s = t
  · subst e
    simp
  · have : Str.ofString s ≠ Str.ofString t := fun h => e (ofString_inj h)
    rw [beq_eq_false_iff_ne.mpr this, beq_eq_false_iff_ne.mpr e]
theorem ofString_ok (s : String) : PySem.PyData.strOk (Str.ofString s) = true := by
  unfold PySem.PyData.strOk
  rw [← Array.all_toList, ofString_cps, List.all_eq_true]
  intro n hn
  obtain ⟨ch, _, rfl⟩ := List.mem_map.mp hn
  have h := ch.valid
  simp only [UInt32.isValidChar, Nat.isValidChar] at h
  have : ch.toNat = ch.val.toNat := rfl
  exact decide_eq_true (by omega)
theorem ofString_len (s : String) : (Str.ofString s).length = s.length := by
  show (Str.ofString s).cps.size = _
  rw [← Array.length_toList, ofString_cps, List.length_map, String.length_toList]
theorem ofString_app (s t : String) : Str.ofString s ++ Str.ofString t = Str.ofString (s ++ t) := by
  have e : (Str.ofString s ++ Str.ofString t).cps.toList = (Str.ofString (s ++ t)).cps.toList := by
    show ((Str.ofString s).cps ++ (Str.ofString t).cps).toList = _
    rw [Array.toList_append, ofString_cps, ofString_cps, ofString_cps, String.toList_append, List.map_append]
  have e2 : (Str.ofString s ++ Str.ofString t).cps = (Str.ofString (s ++ t)).cps := Array.toList_inj.mp e
  cases h1 : (Str.ofString s ++ Str.ofString t)
  cases h2 : Str.ofString (s ++ t)
  rw [h1, h2] at e2
  rw [show ∀ a b : Array Nat, a = b → (⟨a⟩ : Str) = ⟨b⟩ from fun _ _ h => by rw [h]]
  exact e2

/-! ### views: what a value is right now -/
def vw (M : List MO) : D → D
  | .ref n => match M[n]? with
    | some (.lst xs) => .lst xs
    | _ => .ref n
  | d => d
def view (d : D) : PM D := fun s => .ok (vw s.M d) s
/-- as RD, but the list itself may be changed later on -/
def RDw (c : Cn) (G : GW) (H : Hp) : D → V → Prop
  | .lst ds, v => ∃ a vs, v = V.ref a ∧ H a = some (.lst vs) ∧ RDs c G H ds vs
  | d, v => RD c G H d v
theorem RD.w {c : Cn} {G : GW} {H : Hp} {d : D} {v : V} (h : RD c G H d v) : RDw c G H d v := by
  cases d with
  | lst ds =>
    unfold RD at h
    obtain ⟨a, vs, e, _, h1, h2⟩ := h
    exact ⟨a, vs, e, h1, h2⟩
  | _ => exact h
theorem Rs.view {c : Cn} {G : GW} {H : Hp} {s : S} {σ : L2.St} {d : D} {v : V} (r : Rs c G s σ H) (h : RD c G H d v) : RDw c G H (vw s.M d) v := by
  cases d with
  | ref n =>
    show RDw c G H (match s.M[n]? with | some (.lst xs) => .lst xs | _ => .ref n) v
    cases e : s.M[n]? with
    | none => exact h.w
    | some o =>
      cases o with
      | lst xs =>
        have h' := h
        unfold RD at h'
        obtain ⟨a, e1, e2⟩ := h'
        obtain ⟨vs, q1, q2⟩ := r.obj n a _ e2 e
        exact ⟨a, vs, e1, q1, q2⟩
      | _ => exact h.w
  | _ => exact h.w
theorem Rs.peek {c : Cn} {G : GW} {H : Hp} {s : S} {σ : L2.St} {i : Nat} {xs : List D} (r : Rs c G s σ H) (e : s.σ[i]? = some (.ul xs)) : ∃ v, σ[i]? = some (some v) ∧ RDw c G H (.lst xs) v := by
  obtain ⟨a, vs, h1, h2, h3, _⟩ := r.at_ i _ e
  exact ⟨_, h1, a, vs, rfl, h2, h3⟩

/-! ### data as a whole -/
mutual
def py : D → Option PyData
  | .non => some .none
  | .bl b => some (.bool b)
  | .int i => some (.int i)
  | .str s => some (.str (Str.ofString s))
  | .tup xs => (pys xs).map .tuple
  | .lst xs => (pys xs).map .list
  | _ => none
def pys : List D → Option (List PyData)
  | [] => some []
  | d :: ds => match py d with
    | some p => (pys ds).map (p :: ·)
    | none => none
end
mutual
/-- refs of lists told by what stands there -/
def res (rf : Nat → Option D) : D → Option D
  | .non => some .non
  | .bl b => some (.bl b)
  | .int i => some (.int i)
  | .str s => some (.str s)
  | .tup xs => (ress rf xs).map .tup
  | .lst xs => (ress rf xs).map .lst
  | .ref n => rf n
  | _ => none
def ress (rf : Nat → Option D) : List D → Option (List D)
  | [] => some []
  | d :: ds => match res rf d with
    | some p => (ress rf ds).map (p :: ·)
    | none => none
end
def rfM (M : List MO) : Nat → Nat → Option D
  | 0, _ => none
  | k + 1, n => match M[n]? with
    | some (.lst xs) => (ress (rfM M k) xs).map .lst
    | _ => none
/-- what a value is as a whole, lists told by their items -/
def whole (M : List MO) (d : D) : Option D := res (rfM M 4) d
mutual
def eqvD : D → D → Bool
  | .non, .non => true
  | .bl a, .bl b => a == b
  | .bl a, .int j => (if a then 1 else 0) == j
  | .int i, .bl b => i == (if b then 1 else 0)
  | .int i, .int j => i == j
  | .str x, .str y => x == y
  | .lst xs, .lst ys => eqvDs xs ys
  | .tup xs, .tup ys => eqvDs xs ys
  | _, _ => false
def eqvDs : List D → List D → Bool
  | [], [] => true
  | x :: xs, y :: ys => eqvD x y && eqvDs xs ys
  | _, _ => false
end
mutual
def depD : D → Nat
  | .tup xs => depDs xs + 1
  | .lst xs => depDs xs + 1
  | _ => 0
def depDs : List D → Nat
  | [] => 0
  | d :: ds => max (depD d) (depDs ds)
end
mutual
theorem py_eqv : ∀ (a b : D) {p q : PyData}, py a = some p → py b = some q → PyData.eqv p q = eqvD a b := by
  intro a b p q ha hb
  cases a with
  | non =>
    cases ha
    cases b with
    | tup ys => simp only [py, Option.map_eq_some_iff] at hb; obtain ⟨z, _, rfl⟩ := hb; rfl
    | lst ys => simp only [py, Option.map_eq_some_iff] at hb; obtain ⟨z, _, rfl⟩ := hb; rfl
    | _ => cases hb <;> rfl
  | bl x =>
    cases ha
    cases b with
    | tup ys => simp only [py, Option.map_eq_some_iff] at hb; obtain ⟨z, _, rfl⟩ := hb; rfl
    | lst ys => simp only [py, Option.map_eq_some_iff] at hb; obtain ⟨z, _, rfl⟩ := hb; rfl
    | _ => cases hb <;> rfl
  | int x =>
    cases ha
    cases b with
    | tup ys => simp only [py, Option.map_eq_some_iff] at hb; obtain ⟨z, _, rfl⟩ := hb; rfl
    | lst ys => simp only [py, Option.map_eq_some_iff] at hb; obtain ⟨z, _, rfl⟩ := hb; rfl
    | _ => cases hb <;> rfl
  | str x =>
    cases ha
    cases b with
    | tup ys => simp only [py, Option.map_eq_some_iff] at hb; obtain ⟨z, _, rfl⟩ := hb; rfl
    | lst ys => simp only [py, Option.map_eq_some_iff] at hb; obtain ⟨z, _, rfl⟩ := hb; rfl
    | str y =>
      cases hb
      simp only [PyData.eqv, eqvD]
      exact ofString_beq x y
    | _ => cases hb <;> rfl
  | tup xs =>
    simp only [py, Option.map_eq_some_iff] at ha
    obtain ⟨z, hz, rfl⟩ := ha
    cases b with
    | tup ys =>
      simp only [py, Option.map_eq_some_iff] at hb
      obtain ⟨w, hw, rfl⟩ := hb
      simp only [PyData.eqv, eqvD]
      exact pys_eqv xs ys hz hw
    | lst ys => simp only [py, Option.map_eq_some_iff] at hb; obtain ⟨z, _, rfl⟩ := hb; rfl
    | _ => cases hb <;> rfl
  | lst xs =>
    simp only [py, Option.map_eq_some_iff] at ha
    obtain ⟨z, hz, rfl⟩ := ha
    cases b with
    | lst ys =>
      simp only [py, Option.map_eq_some_iff] at hb
      obtain ⟨w, hw, rfl⟩ := hb
      simp only [PyData.eqv, eqvD]
      exact pys_eqv xs ys hz hw
    | tup ys => simp only [py, Option.map_eq_some_iff] at hb; obtain ⟨z, _, rfl⟩ := hb; rfl
    | _ => cases hb <;> rfl
  | _ => cases ha
theorem pys_eqv : ∀ (a b : List D) {p q : List PyData}, pys a = some p → pys b = some q → PyData.eqvAll p q = eqvDs a b := by
  intro a b p q ha hb
  cases a with
  | nil =>
    cases ha
    cases b with
    | nil => cases hb; rfl
    | cons y ys =>
      simp only [pys] at hb
      split at hb
      · simp only [Option.map_eq_some_iff] at hb
        obtain ⟨z, _, rfl⟩ := hb
        rfl
      · cases hb
  | cons x xs =>
    simp only [pys] at ha
    cases e : py x with
    | none => rw [e] at ha; cases ha
    | some px =>
      rw [e] at ha
      simp only [Option.map_eq_some_iff] at ha
      obtain ⟨z, hz, rfl⟩ := ha
      cases b with
      | nil => cases hb; rfl
      | cons y ys =>
        simp only [pys] at hb
        cases e2 : py y with
        | none => rw [e2] at hb; cases hb
        | some py' =>
          rw [e2] at hb
          simp only [Option.map_eq_some_iff] at hb
          obtain ⟨w, hw, rfl⟩ := hb
          simp only [PyData.eqvAll, eqvDs]
          rw [py_eqv x y e e2, pys_eqv xs ys hz hw]
end
mutual
theorem py_lay : ∀ (a : D) {p : PyData}, py a = some p → p.canLay0 = true ∧ p.depth = depD a := by
  intro a p ha
  cases a with
  | str x =>
    cases ha
    exact ⟨ofString_ok x, rfl⟩
  | tup xs =>
    simp only [py, Option.map_eq_some_iff] at ha
    obtain ⟨z, hz, rfl⟩ := ha
    obtain ⟨h1, h2⟩ := pys_lay xs hz
    exact ⟨h1, by simp only [PyData.depth, depD, h2]⟩
  | lst xs =>
    simp only [py, Option.map_eq_some_iff] at ha
    obtain ⟨z, hz, rfl⟩ := ha
    obtain ⟨h1, h2⟩ := pys_lay xs hz
    exact ⟨h1, by simp only [PyData.depth, depD, h2]⟩
  | non => cases ha; exact ⟨rfl, rfl⟩
  | bl _ => cases ha; exact ⟨rfl, rfl⟩
  | int _ => cases ha; exact ⟨rfl, rfl⟩
  | _ => cases ha
theorem pys_lay : ∀ (a : List D) {p : List PyData}, pys a = some p → PyData.canLayAll0 p = true ∧ PyData.depthAll p = depDs a := by
  intro a p ha
  cases a with
  | nil => cases ha; exact ⟨rfl, rfl⟩
  | cons x xs =>
    simp only [pys] at ha
    cases e : py x with
    | none => rw [e] at ha; cases ha
    | some px =>
      rw [e] at ha
      simp only [Option.map_eq_some_iff] at ha
      obtain ⟨z, hz, rfl⟩ := ha
      obtain ⟨h1, h2⟩ := py_lay x e
      obtain ⟨h3, h4⟩ := pys_lay xs hz
      exact ⟨by simp only [PyData.canLayAll0, h1, h3]; rfl, by simp only [PyData.depthAll, depDs, h2, h4]⟩
end
section
variable {c : Cn} {G : GW} {H : Hp}
mutual
theorem dp_of {rf : Nat → Option D} (hrf : ∀ (n : Nat) (d : D) (a : Addr), rf n = some d → G.hp[n]? = some a → ∃ q, py d = some q ∧ Dp c.K H (V.ref a) q) : ∀ (d e : D) {v : V}, res rf d = some e → RD c G H d v → ∃ q, py e = some q ∧ Dp c.K H v q := by
  intro d e v he hd
  cases d with
  | non => cases he; unfold RD at hd; subst hd; exact ⟨_, rfl, .non⟩
  | bl b => cases he; unfold RD at hd; subst hd; exact ⟨_, rfl, .bl b⟩
  | int i => cases he; unfold RD at hd; subst hd; exact ⟨_, rfl, .int i⟩
  | str x => cases he; unfold RD at hd; subst hd; exact ⟨_, rfl, .str _⟩
  | tup xs =>
    simp only [res, Option.map_eq_some_iff] at he
    obtain ⟨ys, hy, rfl⟩ := he
    unfold RD at hd
    obtain ⟨a, vs, rfl, _, h1, h2⟩ := hd
    obtain ⟨qs, q1, q2⟩ := dps_of hrf xs ys hy h2
    exact ⟨.tuple qs, by simp only [py, q1, Option.map_some], .tup (SqT.of h1) q2⟩
  | lst xs =>
    simp only [res, Option.map_eq_some_iff] at he
    obtain ⟨ys, hy, rfl⟩ := he
    unfold RD at hd
    obtain ⟨a, vs, rfl, _, h1, h2⟩ := hd
    obtain ⟨qs, q1, q2⟩ := dps_of hrf xs ys hy h2
    exact ⟨.list qs, by simp only [py, q1, Option.map_some], .lst (SqL.of h1) q2⟩
  | ref n =>
    unfold RD at hd
    obtain ⟨a, rfl, h1⟩ := hd
    exact hrf n e a he h1
  | _ => cases he
theorem dps_of {rf : Nat → Option D} (hrf : ∀ (n : Nat) (d : D) (a : Addr), rf n = some d → G.hp[n]? = some a → ∃ q, py d = some q ∧ Dp c.K H (V.ref a) q) : ∀ (ds es : List D) {vs : List V}, ress rf ds = some es → RDs c G H ds vs → ∃ qs, pys es = some qs ∧ DpAll c.K H vs qs := by
  intro ds es vs he hd
  cases ds with
  | nil =>
    cases he
    unfold RDs at hd
    subst hd
    exact ⟨[], rfl, .nil⟩
  | cons d ds =>
    simp only [ress] at he
    cases e1 : res rf d with
    | none => rw [e1] at he; cases he
    | some d' =>
      rw [e1] at he
      simp only [Option.map_eq_some_iff] at he
      obtain ⟨ys, hy, rfl⟩ := he
      unfold RDs at hd
      obtain ⟨v, r, rfl, h1, h2⟩ := hd
      obtain ⟨q, q1, q2⟩ := dp_of hrf d d' e1 h1
      obtain ⟨qs, q3, q4⟩ := dps_of hrf ds ys hy h2
      exact ⟨q :: qs, by simp only [pys, q1, q3, Option.map_some], .cons q2 q4⟩
end
theorem Rs.rf {s : S} {σ : L2.St} (r : Rs c G s σ H) : ∀ (k n : Nat) (d : D) (a : Addr), rfM s.M k n = some d → G.hp[n]? = some a → ∃ q, py d = some q ∧ Dp c.K H (V.ref a) q
  | 0, _, _, _, h, _ => by cases h
  | k + 1, n, d, a, h, ha => by
    unfold rfM at h
    cases e : s.M[n]? with
    | none => rw [e] at h; cases h
    | some o =>
      rw [e] at h
      cases o with
      | lst xs =>
        simp only [Option.map_eq_some_iff] at h
        obtain ⟨ys, hy, rfl⟩ := h
        obtain ⟨vs, q1, q2⟩ := r.obj n a _ ha e
        obtain ⟨qs, q3, q4⟩ := dps_of (Rs.rf r k) xs ys hy q2
        exact ⟨.list qs, by simp only [py, q3, Option.map_some], .lst (SqL.of q1) q4⟩
      | _ => cases h
theorem Rs.dp {s : S} {σ : L2.St} {d e : D} {v : V} (r : Rs c G s σ H) (he : whole s.M d = some e) (hd : RDw c G H d v) : ∃ q, py e = some q ∧ Dp c.K H v q := by
  cases d with
  | lst xs =>
    simp only [whole, res, Option.map_eq_some_iff] at he
    obtain ⟨ys, hy, rfl⟩ := he
    obtain ⟨a, vs, rfl, h1, h2⟩ := hd
    obtain ⟨qs, q3, q4⟩ := dps_of (r.rf 4) xs ys hy h2
    exact ⟨.list qs, by simp only [py, q3, Option.map_some], .lst (SqL.of h1) q4⟩
  | _ => exact dp_of (r.rf 4) _ e he hd
end
theorem shaped_of {e : D} {q : PyData} (h : py e = some q) (hd : depD e ≤ 64) : SeqAt.shaped q = true := by
  obtain ⟨h1, h2⟩ := py_lay e h
  unfold SeqAt.shaped
  rw [h1, h2, decide_eq_true hd]
  rfl
end Ev

set_option maxHeartbeats 2000000
/-! Ev4: new objects; displays; operators; comparisons; tests; subscripts. -/
namespace Ev
open PySem PySem.Spec PyProof.Rows L2

section
variable {c : Cn} {G G' : GW} {s : S} {σ : L2.St} {H H' : Hp}
/-- the heap has more than it had, what stood stands -/
theorem Rs.grow (r : Rs c G s σ H) (hs : ∀ a o, H a = some o → H' a = some o) : Rs c G s σ H' := by
  have x : Ext G H G H' := ⟨fun _ h => h, List.prefix_refl _, fun a h => by
    obtain ⟨o, e⟩ := r.live a h
    rw [e, hs a o e], fun a q h => hs a _ h⟩
  refine { len := r.len, at_ := fun i v e => ?_, sep := r.sep, hlen := r.hlen, nd := r.nd, obj := fun n a o h1 h2 => ?_, dis := r.dis, live := fun a h => ?_, keep := fun a o h1 h2 => hs a o (r.keep a o h1 h2), pre := r.pre, new := r.new, newF := r.newF, nF := fun a ps h e => r.nF a ps h ((x.st a h).symm.trans e), nt := r.nt, tabs := r.tabs.ext hs }
  · have q := r.at_ i v e
    cases v with
    | un => exact q
    | val d => exact q.mono_val x rfl
    | ul xs =>
      obtain ⟨a, vs, h1, h2, h3, h4⟩ := q
      exact ⟨a, vs, h1, hs _ _ h2, h3.mono x, h4⟩
    | ud xs =>
      obtain ⟨a, vs, h1, h2, h3, h4⟩ := q
      exact ⟨a, vs, h1, hs _ _ h2, h3.mono x, h4⟩
    | ex _ _ => exact q.mono_val x rfl
    | lm _ => exact q.mono_val x rfl
  · have q := r.obj n a o h1 h2
    cases o with
    | lst ds =>
      obtain ⟨vs, q1, q2⟩ := q
      exact ⟨vs, hs _ _ q1, q2.mono x⟩
    | dic kvs =>
      obtain ⟨vs, q1, q2⟩ := q
      exact ⟨vs, hs _ _ q1, q2.mono x⟩
    | ins C fs =>
      obtain ⟨dx, vs, q1, q2⟩ := q
      exact ⟨dx, vs, hs _ _ q1, q2.mono x⟩
  · obtain ⟨o, e⟩ := r.live a h
    exact ⟨o, hs a o e⟩
theorem upd_grow {p : Addr} {o : HO} (h : H p = none) : ∀ a o', H a = some o' → upd H p o a = some o' := fun a o' e => by
  rw [upd_ne (ne_of_none e h)]
  exact e
theorem Rs.ext_of (r : Rs c G s σ H) (hs : ∀ a o, H a = some o → H' a = some o) : Ext G H G H' := ⟨fun _ h => h, List.prefix_refl _, fun a h => by
    obtain ⟨o, e⟩ := r.live a h
    rw [e, hs a o e], fun a q h => hs a _ h⟩
/-- an address that no one knows is never changed from now on -/
theorem Rs.mark {p : Addr} {o : HO} (r : Rs c G s σ H) (hp : H p = some o) (hn : p ∉ G.hp) (hnt : ∀ ps, o ≠ .tbl ps) (h0 : c.H0 p = none) (hu : ∀ (i : Nat) (v : SV), s.σ[i]? = some v → v.own = true → σ[i]? ≠ some (some (V.ref p))) : Rs c (G.fz p) s σ H := by
  have x := Ext.fz G H p
  refine { len := r.len, at_ := fun i v e => ?_, sep := r.sep, hlen := r.hlen, nd := r.nd, obj := fun n a o h1 h2 => (r.obj n a o h1 h2).mono x rfl, dis := fun a ha h => ?_, live := fun a h => ?_, keep := r.keep, pre := r.pre, new := r.new, newF := fun b z => z.elim (r.newF b) (fun z => .inr (z ▸ h0)), nF := fun b ps z e => z.elim (fun z => r.nF b ps z e) (fun z => by rw [z, hp] at e; exact hnt ps (Option.some.inj e)), nt := r.nt, tabs := r.tabs }
  · have q := r.at_ i v e
    cases hv : v.own with
    | false => exact q.mono_val x hv
    | true =>
      cases v with
      | ul xs =>
        obtain ⟨a, vs, h1, h2, h3, h4, h5⟩ := q
        refine ⟨a, vs, h1, h2, h3.mono x, fun z => z.elim h4 fun z => ?_, h5⟩
        subst z
        exact hu i _ e rfl h1
      | ud xs =>
        obtain ⟨a, vs, h1, h2, h3, h4, h5⟩ := q
        refine ⟨a, vs, h1, h2, h3.mono x, fun z => z.elim h4 fun z => ?_, h5⟩
        subst z
        exact hu i _ e rfl h1
      | _ => cases hv
  · rcases h with h | h
    · exact r.dis a ha h
    · subst h
      exact hn ha
  · rcases h with h | h
    · exact r.live a h
    · subst h
      exact ⟨_, hp⟩
theorem Rs.hp_some (r : Rs c G s σ H) {a : Addr} (h : a ∈ G.hp) : ∃ o, H a = some o := by
  obtain ⟨n, hn, e⟩ := List.mem_iff_getElem.mp h
  have e1 : G.hp[n]? = some a := by rw [List.getElem?_eq_getElem hn, e]
  have hm : n < s.M.length := by rw [← r.hlen]; exact hn
  have q := r.obj n a _ e1 (List.getElem?_eq_getElem hm)
  cases e2 : s.M[n] with
  | lst _ => rw [e2] at q; obtain ⟨_, q, _⟩ := q; exact ⟨_, q⟩
  | dic _ => rw [e2] at q; obtain ⟨_, q, _⟩ := q; exact ⟨_, q⟩
  | ins _ _ => rw [e2] at q; obtain ⟨_, _, q, _⟩ := q; exact ⟨_, q⟩
theorem Rs.own_some (r : Rs c G s σ H) {i : Nat} {v : SV} {a : Addr} (e : s.σ[i]? = some v) (hv : v.own = true) (h : σ[i]? = some (some (V.ref a))) : ∃ o, H a = some o := by
  have q := r.at_ i v e
  cases v with
  | ul xs =>
    obtain ⟨b, vs, h1, h2, _⟩ := q
    rw [h] at h1
    injection h1 with h1
    injection h1 with h1
    injection h1 with h1
    subst h1
    exact ⟨_, h2⟩
  | ud xs =>
    obtain ⟨b, vs, h1, h2, _⟩ := q
    rw [h] at h1
    injection h1 with h1
    injection h1 with h1
    injection h1 with h1
    subst h1
    exact ⟨_, h2⟩
  | _ => cases hv
theorem Rs.h0_none (r : Rs c G s σ H) {p : Addr} (h : H p = none) : c.H0 p = none := by
  cases e : c.H0 p with
  | none => rfl
  | some u =>
    by_cases hm : p ∈ c.hp0
    · obtain ⟨o, e⟩ := r.hp_some (r.pre.subset hm)
      rw [h] at e
      cases e
    · have := r.keep p u e hm
      rw [h] at this
      cases this
/-- a new object that is never changed -/
theorem Rs.push (r : Rs c G s σ H) {p : Addr} (o : HO) (hp : H p = none) (hnt : ∀ ps, o ≠ .tbl ps := by intro _ h; cases h) : Ext G H (G.fz p) (upd H p o) ∧ Rs c (G.fz p) s σ (upd H p o) := by
  have hs := upd_grow (o := o) hp
  refine ⟨(r.ext_of hs).trans (Ext.fz _ _ _), (r.grow hs).mark upd_same (fun h => ?_) hnt (r.h0_none hp) fun i v e hv h => ?_⟩
  · obtain ⟨o', e⟩ := r.hp_some h
    rw [hp] at e
    cases e
  · obtain ⟨o', e⟩ := r.own_some e hv h
    rw [hp] at e
    cases e
/-- a new object that may be changed, known to all -/
def GW.add (G : GW) (a : Addr) : GW := ⟨G.F, G.hp ++ [a]⟩
theorem Ext.add (G : GW) (H : Hp) (a : Addr) : Ext G H (G.add a) H := ⟨fun _ h => h, List.prefix_append _ _, fun _ _ => rfl, fun _ _ h => h⟩
theorem Rs.alloc (r : Rs c G s σ H) {p : Addr} {o : HO} {mo : MO} (hp : H p = none) (hro : RO c (G.add p) (upd H p o) p mo) :
    Ext G H (G.add p) (upd H p o) ∧ Rs c (G.add p) { s with M := s.M ++ [mo] } σ (upd H p o) := by
  have hs := upd_grow (o := o) hp
  have x : Ext G H (G.add p) (upd H p o) := (r.ext_of hs).trans (Ext.add _ _ _)
  have hnew : p ∉ G.hp := fun h => by
    obtain ⟨o', e⟩ := r.hp_some h
    rw [hp] at e
    cases e
  refine ⟨x, { len := r.len, at_ := fun i v e => ?_, sep := r.sep, hlen := by simp [GW.add, r.hlen], nd := ?_, obj := fun n a o' h1 h2 => ?_, dis := fun a ha h => ?_, live := fun a h => ?_, keep := fun a o' h1 h2 => hs a o' (r.keep a o' h1 h2), pre := r.pre.trans (List.prefix_append _ _), new := fun a ha => ?_, newF := r.newF, nF := fun a ps h e => r.nF a ps h ((x.st a h).symm.trans e), nt := r.nt, tabs := r.tabs.ext hs }⟩
  · have q := r.at_ i v e
    cases hv : v.own with
    | false => exact q.mono_val x hv
    | true =>
      cases v with
      | ul xs =>
        obtain ⟨a, vs, h1, h2, h3, h4, h5, h6⟩ := q
        refine ⟨a, vs, h1, hs _ _ h2, h3.mono x, h4, fun z => ?_, h6⟩
        rcases List.mem_append.mp z with z | z
        · exact h5 z
        · rw [List.mem_singleton.mp z, hp] at h2
          cases h2
      | ud xs =>
        obtain ⟨a, vs, h1, h2, h3, h4, h5, h6⟩ := q
        refine ⟨a, vs, h1, hs _ _ h2, h3.mono x, h4, fun z => ?_, h6⟩
        rcases List.mem_append.mp z with z | z
        · exact h5 z
        · rw [List.mem_singleton.mp z, hp] at h2
          cases h2
      | _ => cases hv
  · refine List.nodup_append.mpr ⟨r.nd, by simp, fun a ha b hb => ?_⟩
    rw [List.mem_singleton.mp hb]
    exact fun z => hnew (z ▸ ha)
  · by_cases hn : n < G.hp.length
    · have h1' : G.hp[n]? = some a := by
        have h1 : (G.hp ++ [p])[n]? = some a := h1
        rw [List.getElem?_append_left hn] at h1
        exact h1
      have h2' : s.M[n]? = some o' := by
        rw [List.getElem?_append_left (by rw [← r.hlen]; exact hn)] at h2
        exact h2
      have q := r.obj n a o' h1' h2'
      exact q.mono x (by
        obtain ⟨u, e⟩ := r.hp_some (List.mem_of_getElem? h1')
        rw [e]
        exact hs _ _ e)
    · have h1 : (G.hp ++ [p])[n]? = some a := h1
      have h2 : (s.M ++ [mo])[n]? = some o' := h2
      rw [List.getElem?_append_right (by omega)] at h1
      rw [List.getElem?_append_right (by rw [← r.hlen]; omega)] at h2
      rw [← r.hlen] at h2
      cases q : n - G.hp.length with
      | zero =>
        rw [q] at h1 h2
        cases h1
        cases h2
        exact hro
      | succ m =>
        rw [q] at h1
        simp at h1
  · rcases List.mem_append.mp ha with z | z
    · exact r.dis a z h
    · rw [List.mem_singleton.mp z] at h
      obtain ⟨u, e⟩ := r.live p h
      rw [hp] at e
      cases e
  · obtain ⟨u, e⟩ := r.live a h
    exact ⟨u, hs _ _ e⟩
  · rcases List.mem_append.mp ha with z | z
    · exact r.new a z
    · rw [List.mem_singleton.mp z]
      cases e : c.H0 p with
      | none => exact .inr rfl
      | some u =>
        by_cases hm : p ∈ c.hp0
        · exact .inl hm
        · have := r.keep p u e hm
          rw [hp] at this
          cases this
end
theorem RDs.length {c : Cn} {G : GW} {H : Hp} : ∀ {ds : List D} {vs : List V}, RDs c G H ds vs → vs.length = ds.length
  | [], _, h => by unfold RDs at h; subst h; rfl
  | d :: ds, _, h => by
    unfold RDs at h
    obtain ⟨v, r, rfl, _, h2⟩ := h
    rw [List.length_cons, List.length_cons, RDs.length h2]
theorem RDs.get {c : Cn} {G : GW} {H : Hp} : ∀ {ds : List D} {vs : List V} {i : Nat} {d : D}, RDs c G H ds vs → ds[i]? = some d → ∃ v, vs[i]? = some v ∧ RD c G H d v
  | [], _, _, _, _, e => by simp at e
  | d :: ds, _, i, x, h, e => by
    unfold RDs at h
    obtain ⟨v, r, rfl, h1, h2⟩ := h
    cases i with
    | zero =>
      simp at e
      subst e
      exact ⟨v, rfl, h1⟩
    | succ i =>
      obtain ⟨w, q1, q2⟩ := RDs.get (i := i) h2 (by simpa using e)
      exact ⟨w, by simpa using q1, q2⟩
theorem RDs.cons {c : Cn} {G : GW} {H : Hp} {d : D} {ds : List D} {v : V} {vs : List V} (h1 : RD c G H d v) (h2 : RDs c G H ds vs) : RDs c G H (d :: ds) (v :: vs) := by
  unfold RDs
  exact ⟨v, vs, rfl, h1, h2⟩
theorem RDs.nil {c : Cn} {G : GW} {H : Hp} : RDs c G H [] [] := by unfold RDs; rfl
theorem RDs.app {c : Cn} {G : GW} {H : Hp} : ∀ {ds : List D} {vs : List V} {es : List D} {ws : List V}, RDs c G H ds vs → RDs c G H es ws → RDs c G H (ds ++ es) (vs ++ ws)
  | [], _, _, _, h, k => by unfold RDs at h; subst h; exact k
  | d :: ds, _, _, _, h, k => by
    unfold RDs at h
    obtain ⟨v, r, rfl, h1, h2⟩ := h
    exact RDs.cons h1 (h2.app k)
theorem RDs.take {c : Cn} {G : GW} {H : Hp} : ∀ {ds : List D} {vs : List V} (n : Nat), RDs c G H ds vs → RDs c G H (ds.take n) (vs.take n)
  | ds, vs, 0, _ => by simp; exact RDs.nil
  | [], _, n + 1, h => by unfold RDs at h; subst h; exact RDs.nil
  | d :: ds, _, n + 1, h => by
    unfold RDs at h
    obtain ⟨v, r, rfl, h1, h2⟩ := h
    exact RDs.cons h1 (h2.take n)
theorem RDs.drop {c : Cn} {G : GW} {H : Hp} : ∀ {ds : List D} {vs : List V} (n : Nat), RDs c G H ds vs → RDs c G H (ds.drop n) (vs.drop n)
  | _, _, 0, h => h
  | [], _, n + 1, h => by unfold RDs at h; subst h; exact RDs.nil
  | d :: ds, _, n + 1, h => by
    unfold RDs at h
    obtain ⟨v, r, rfl, h1, h2⟩ := h
    exact h2.drop n
theorem RDs.set {c : Cn} {G : GW} {H : Hp} {d : D} {v : V} (hd : RD c G H d v) : ∀ {ds : List D} {vs : List V} (n : Nat), RDs c G H ds vs → RDs c G H (ds.set n d) (vs.set n v)
  | [], _, _, h => by unfold RDs at h; subst h; exact RDs.nil
  | _ :: ds, _, 0, h => by
    unfold RDs at h
    obtain ⟨v, r, rfl, h1, h2⟩ := h
    exact RDs.cons hd h2
  | _ :: ds, _, n + 1, h => by
    unfold RDs at h
    obtain ⟨v, r, rfl, h1, h2⟩ := h
    exact RDs.cons h1 (RDs.set hd n h2)

/-! ### what an operator comes to, by values: f tells it of the views -/
/-- the answer d of an operation, wanted: at once, or as a new object -/
def Gives (c : Cn) (G : GW) (s : S) (σ : L2.St) (H : Hp) (d : D) (Q : VK) : Prop := ∀ (G' : GW) (H' : Hp) (v : V), Ext G H G' H' → Rs c G' s σ H' → RD c G' H' d v → Q v H'
section
variable {c : Cn} {G : GW} {s : S} {σ : L2.St} {H : Hp} {Q : VK} {d : D}
theorem Gives.here {v : V} (g : Gives c G s σ H d Q) (r : Rs c G s σ H) (h : RD c G H d v) : Q v H := g G H v (.refl _ _) r h
theorem Gives.tup {ds : List D} {vs : List V} (g : Gives c G s σ H (.tup ds) Q) (r : Rs c G s σ H) (h : RDs c G H ds vs) {p : Addr} (hp : H p = none) : Q (V.ref p) (upd H p (.tup vs)) := by
  obtain ⟨x, r'⟩ := r.push (.tup vs) hp
  refine g _ _ _ x r' ?_
  unfold RD
  exact ⟨p, vs, rfl, .inr rfl, upd_same, h.mono x⟩
theorem Gives.lst {ds : List D} {vs : List V} (g : Gives c G s σ H (.lst ds) Q) (r : Rs c G s σ H) (h : RDs c G H ds vs) {p : Addr} (hp : H p = none) : Q (V.ref p) (upd H p (.lst vs)) := by
  obtain ⟨x, r'⟩ := r.push (.lst vs) hp
  refine g _ _ _ x r' ?_
  unfold RD
  exact ⟨p, vs, rfl, .inr rfl, upd_same, h.mono x⟩
end
def Op2 (f : List MO → D → D → Option D) (r : Cn → R2) : Prop := ∀ (c : Cn) (G : GW) (s : S) (σ : L2.St) (H : Hp) (x y d : D) (v w : V) (Q : VK), Rs c G s σ H → RDw c G H x v → RDw c G H y w → f s.M x y = some d → Gives c G s σ H d Q → r c v w H Q
/-- neither a table nor a code object -/
def NoCode (o : Option HO) : Prop := ∃ u, o = some u ∧ (∀ ps, u ≠ .tbl ps) ∧ ∀ c q, u ≠ LamX.CodeO c q
theorem NoCode.ne {o : Option HO} (n : NoCode o) {c : Addr} {q : Str} : o ≠ some (LamX.CodeO c q) := fun z => by
  obtain ⟨u, e, _, n2⟩ := n
  rw [e] at z
  exact n2 c q (Option.some.inj z)
theorem nc_lst {vs : List V} : NoCode (some (.lst vs)) := ⟨_, rfl, (fun _ h => by cases h), (fun _ _ h => by unfold LamX.CodeO at h; cases h)⟩
theorem nc_dK {vs : List (Key × V)} : NoCode (some (.dK vs)) := ⟨_, rfl, (fun _ h => by cases h), (fun _ _ h => by unfold LamX.CodeO at h; cases h)⟩
theorem nc_ins {C dx : Addr} {gs : List (Str × V)} : NoCode (some (.ins C dx gs)) := ⟨_, rfl, (fun _ h => by cases h), (fun _ _ h => by unfold LamX.CodeO at h; cases h)⟩
theorem _root_.LamX.Tabs.updN {T : List (Addr × Str)} {H : Hp} {a : Addr} {o : HO} (t : LamX.Tabs T H) (n : NoCode (H a)) : LamX.Tabs T (upd H a o) := by
  intro p hp
  obtain ⟨ps, h1, h2, h3⟩ := t p hp
  obtain ⟨u, e, n1, n2⟩ := n
  refine ⟨ps, by rw [upd_ne (fun z => by rw [z, e] at h1; exact n1 ps (Option.some.inj h1))]; exact h1, h2, fun pos cv hc => ?_⟩
  obtain ⟨c, e1, e2⟩ := h3 pos cv hc
  exact ⟨c, e1, by rw [upd_ne (fun z => by rw [z, e] at e2; exact n2 _ _ (Option.some.inj e2))]; exact e2⟩
/-! ### displays -/
def eTup (ms : PM (List D)) : PM D := ms >>= fun ds => fun s => if ds.length ≤ 1000 then .ok (.tup ds) s else .bad
def eLst (ms : PM (List D)) : PM D := ms >>= fun ds => fun s => if ds.length ≤ 1000 then .ok (.lst ds) s else .bad
/-- a list that may be changed later on, known by a number -/
def eLstM (ms : PM (List D)) : PM D := ms >>= fun ds => fun s => if ds.length ≤ 1000 then .ok (.ref s.M.length) { s with M := s.M ++ [.lst ds] } else .bad
theorem line1000 {n : Nat} (h : n ≤ 1000) : n ≤ sizeLine := by rw [sizeLine_eq]; omega
section
variable {p : Pg} {Γ : NE} {es : List Expr} {ms : PM (List D)} {k : Nat} {pos : Pos}
theorem se_tup (h : SA p Γ es ms) : SE p Γ (.Tuple es k pos) (eTup ms) := by
  intro X ok W tk c hc
  refine (pe_tup (h X ok W tk c hc)).weak fun σ H Q h => ?_
  obtain ⟨G, s, r, h⟩ := h
  refine ⟨G, s, r, (Run.bind (R := RDs) h).mono fun vs H1 ⟨G1, s1, ds, x1, r1, q1, h1⟩ => ?_⟩
  unfold Run at h1
  split at h1
  · rename_i e
    dsimp only at e
    split at e
    · cases e
      rename_i hl
      exact ⟨by rw [q1.length]; exact line1000 hl, fun p hp => Gives.tup h1 r1 q1 hp⟩
    · cases e
  · rename_i e
    dsimp only at e
    split at e <;> cases e
  · exact h1.elim
theorem se_lst (h : SA p Γ es ms) : SE p Γ (.List es pos) (eLst ms) := by
  intro X ok W tk c hc
  refine (pe_lst (h X ok W tk c hc)).weak fun σ H Q h => ?_
  obtain ⟨G, s, r, h⟩ := h
  refine ⟨G, s, r, (Run.bind (R := RDs) h).mono fun vs H1 ⟨G1, s1, ds, x1, r1, q1, h1⟩ => ?_⟩
  unfold Run at h1
  split at h1
  · rename_i e
    dsimp only at e
    split at e
    · cases e
      rename_i hl
      exact ⟨by rw [q1.length]; exact line1000 hl, fun p hp => Gives.lst h1 r1 q1 hp⟩
    · cases e
  · rename_i e
    dsimp only at e
    split at e <;> cases e
  · exact h1.elim
theorem se_lstM (h : SA p Γ es ms) : SE p Γ (.List es pos) (eLstM ms) := by
  intro X ok W tk c hc
  refine (pe_lst (h X ok W tk c hc)).weak fun σ H Q h => ?_
  obtain ⟨G, s, r, h⟩ := h
  refine ⟨G, s, r, (Run.bind (R := RDs) h).mono fun vs H1 ⟨G1, s1, ds, x1, r1, q1, h1⟩ => ?_⟩
  unfold Run at h1
  split at h1
  · rename_i e
    dsimp only at e
    split at e
    · cases e
      rename_i hl
      refine ⟨by rw [q1.length]; exact line1000 hl, fun p hp => ?_⟩
      obtain ⟨x, r'⟩ := r1.alloc (o := .lst vs) (mo := .lst ds) hp ⟨vs, upd_same, q1.mono (((r1.ext_of (upd_grow hp))).trans (Ext.add _ _ _))⟩
      refine h1 _ _ _ x r' ?_
      unfold RD
      exact ⟨p, rfl, by rw [← r1.hlen]; simp [GW.add]⟩
    · cases e
  · rename_i e
    dsimp only at e
    split at e <;> cases e
  · exact h1.elim
end
/-! ### operators -/
/-- the name in slot i has a value -/
def chk (i : Nat) : PM Unit := fun s => match s.σ[i]? with
  | some (.val _) => .ok () s
  | some (.ul _) => .ok () s
  | some (.ud _) => .ok () s
  | _ => .bad
theorem chk_run {α β : Type} {R : Cn → GW → Hp → α → β → Prop} {c : Cn} {W : WX} {G : GW} {s : S} {σ : L2.St} {H : Hp} {Q : β → Hp → Prop} {i : Nat} {g : Unit → PM α} (r : Rs c G s σ H) (h : Run R c W (chk i >>= g) G s σ H Q) :
    ∃ y, σ[i]? = some (some y) ∧ Run R c W (g ()) G s σ H Q := by
  unfold Run at h
  rw [bind_eq] at h
  unfold chk at h
  cases e : s.σ[i]? with
  | none => rw [e] at h; exact h.elim
  | some v =>
    rw [e] at h
    cases v with
    | val d =>
      obtain ⟨y, q1, q2⟩ := r.at_ i _ e
      exact ⟨y, q1, h⟩
    | ul xs =>
      obtain ⟨a, vs, q1, q2⟩ := r.at_ i _ e
      exact ⟨_, q1, h⟩
    | ud xs =>
      obtain ⟨a, vs, q1, q2⟩ := r.at_ i _ e
      exact ⟨_, q1, h⟩
    | _ => exact h.elim
/-- an operator of two values -/
def ap2 (f : List MO → D → D → Option D) (x y : D) : PM D := fun s => match f s.M (vw s.M x) (vw s.M y) with
  | some d => .ok d s
  | none => .bad
def eBin (f : List MO → D → D → Option D) (ma mb : PM D) : PM D := ma >>= fun x => mb >>= fun y => ap2 f x y
/-- .. the left one the name in slot i -/
def eBinP (f : List MO → D → D → Option D) (i : Nat) (mb : PM D) : PM D := chk i >>= fun _ => mb >>= fun y => ePeek i >>= fun x => ap2 f x y
theorem ap2_run {c : Cn} {W : WX} {G : GW} {s : S} {σ : L2.St} {H : Hp} {Q : VK} {f : List MO → D → D → Option D} {x y : D} (h : Run RD c W (ap2 f x y) G s σ H Q) : ∃ d, f s.M (vw s.M x) (vw s.M y) = some d ∧ Gives c G s σ H d Q := by
  unfold Run ap2 at h
  cases e : f s.M (vw s.M x) (vw s.M y) with
  | none => rw [e] at h; exact h.elim
  | some d =>
    rw [e] at h
    exact ⟨d, rfl, h⟩
/-- what a name holds as the frame sees it -/
theorem ePeek_run {c : Cn} {W : WX} {G : GW} {s : S} {σ : L2.St} {H : Hp} {Q : VK} {i : Nat} {g : D → PM D} (r : Rs c G s σ H) (h : Run RD c W (ePeek i >>= g) G s σ H Q) : ∃ x y, σ[i]? = some (some y) ∧ RDw c G H (vw s.M x) y ∧ Run RD c W (g x) G s σ H Q := by
  unfold Run at h
  rw [bind_eq] at h
  unfold ePeek at h
  cases e : s.σ[i]? with
  | none => rw [e] at h; exact h.elim
  | some v =>
    rw [e] at h
    cases v with
    | val d =>
      obtain ⟨y, q1, q2⟩ := r.at_ i _ e
      exact ⟨d, y, q1, r.view q2, h⟩
    | ul xs =>
      obtain ⟨y, q1, q2⟩ := r.peek e
      exact ⟨.lst xs, y, q1, q2, h⟩
    | _ => exact h.elim
section
variable {p : Pg} {Γ : NE} {a b : Expr} {ma mb : PM D} {pos : Pos}
/-- any expression of two operands that the layer reads by a rule r -/
def Two (p : Pg) (Γ : NE) (e a b : Expr) (r : Cn → R2) : Prop := ∀ X, XOk p Γ X → ∀ c, Cn.of p c → ∀ ta tb, PE X a ta → PE X b tb → PE X e (tOp (r c) ta tb)
theorem se_two {e : Expr} {f : List MO → D → D → Option D} {r : Cn → R2} (t : Two p Γ e a b r) (o : Op2 f r) (ha : SE p Γ a ma) (hb : SE p Γ b mb) : SE p Γ e (eBin f ma mb) := by
  intro X ok W tk c hc
  refine (t X ok c hc _ _ (ha X ok W tk c hc) (hb X ok W tk c hc)).weak fun σ H Q h => ?_
  obtain ⟨G, s, r, h⟩ := h
  refine ⟨G, s, r, (Run.bind (R := RD) h).mono fun v H1 ⟨G1, s1, x, x1, r1, q1, h1⟩ => ?_⟩
  refine ⟨G1, s1, r1, (Run.bind (R := RD) h1).mono fun w H2 ⟨G2, s2, y, x2, r2, q2, h2⟩ => ?_⟩
  obtain ⟨d, e, g⟩ := ap2_run h2
  exact o c G2 s2 σ H2 _ _ d v w Q r2 (r2.view (q1.mono x2)) (r2.view q2) e g
theorem se_twoP {e : Expr} {f : List MO → D → D → Option D} {r : Cn → R2} {i : Nat} {x : Str} {pos' : Pos} (t : Two p Γ e (.Name x pos') b r) (o : Op2 f r) (hN : Γ.N[i]? = some x) (hi : i ∈ Γ.see) (hb : SE p Γ b mb) : SE p Γ e (eBinP f i mb) := by
  intro X ok W tk c hc
  obtain ⟨v1, v2, v3⟩ := ok.vis i hi x hN
  refine (t X ok c hc _ _ (pe_var (i := i) (by rw [ok.N]; exact hN) v1 v2 v3) (hb X ok W tk c hc)).weak fun σ H Q h => ?_
  obtain ⟨G, s, r, h⟩ := h
  obtain ⟨v, hv, h⟩ := chk_run r h
  refine ⟨v, hv, G, s, r, (Run.bind (R := RD) h).mono fun w H2 ⟨G2, s2, y, x2, r2, q2, h2⟩ => ?_⟩
  obtain ⟨d0, v', hv', q, h3⟩ := ePeek_run r2 h2
  have e0 : v' = v := by
    rw [hv] at hv'
    exact (Option.some.inj (Option.some.inj hv')).symm
  subst e0
  obtain ⟨d, e, g⟩ := ap2_run h3
  exact o c G2 s2 σ H2 _ _ d v' w Q r2 q (r2.view q2) e g
end
end Ev

set_option maxHeartbeats 2000000
/-! Ev5: the operators, comparisons, subscripts that the programs use. -/
namespace Ev
open PySem PySem.Spec PyProof.Rows L2

def small : Nat := 100000
theorem smallLine {n : Nat} (h : n ≤ small) : n ≤ sizeLine := by rw [sizeLine_eq]; unfold small at h; omega
def oAdd (_ : List MO) : D → D → Option D
  | .int i, .int j => some (.int (i + j))
  | .str a, .str b => if a.length + b.length ≤ small then some (.str (a ++ b)) else none
  | .lst a, .lst b => if a.length + b.length ≤ small then some (.lst (a ++ b)) else none
  | .tup a, .tup b => if a.length + b.length ≤ small then some (.tup (a ++ b)) else none
  | _, _ => none
def oSub (_ : List MO) : D → D → Option D
  | .int i, .int j => some (.int (i - j))
  | _, _ => none
def oMul (_ : List MO) : D → D → Option D
  | .int i, .int j => if i.natAbs < 2 ^ 64 ∨ j.natAbs < 2 ^ 64 then some (.int (i * j)) else none
  | .lst a, .int k => if k.natAbs ≤ 1000 ∧ a.length ≤ 1000 then some (.lst (List.replicate k.toNat a).flatten) else none
  | .tup a, .int k => if a ≠ [] ∧ 2 ≤ k ∧ k ≤ 1000 ∧ a.length ≤ 1000 then some (.tup (List.replicate k.toNat a).flatten) else none
  | _, _ => none
instance (a : List D) : Decidable (a ≠ []) := match a with
  | [] => isFalse (fun h => h rfl)
  | _ :: _ => isTrue (fun h => nomatch h)
def oDiv (_ : List MO) : D → D → Option D
  | .int i, .int j => if j ≠ 0 ∧ j.natAbs < 1073741824 then some (.int (i.fdiv j)) else none
  | _, _ => none
def oMod (_ : List MO) : D → D → Option D
  | .int i, .int j => if j ≠ 0 then some (.int (i.fmod j)) else none
  | _, _ => none
def oPow (_ : List MO) : D → D → Option D
  | .int i, .int j => if 0 ≤ j ∧ j ≤ 1000000 ∧ i.natAbs < 2 ^ 64 then some (.int (i ^ j.toNat)) else none
  | _, _ => none
def rInt (C : Int → Int → Prop) (g : Int → Int → V) : Cn → R2 := fun _ => rI C g
def rAddA : Cn → R2 := fun c x y H Q => (rI0 fun i j => .int (i + j)) x y H Q ∨ (∃ i j, x = .str i ∧ y = .str j ∧ i.length + j.length ≤ sizeLine ∧ Q (.str (i ++ j)) H) ∨ rCat x y H Q ∨ rCatA c.K x y H Q
def rMulA : Cn → R2 := fun c x y H Q => rI CMul (fun i j => .int (i * j)) x y H Q ∨ rRep x y H Q ∨ rRepT c.K x y H Q
theorem RDs.eq_nil {c : Cn} {G : GW} {H : Hp} {vs : List V} (h : RDs c G H [] vs) : vs = [] := by unfold RDs at h; exact h
theorem RDs.nil_iff {c : Cn} {G : GW} {H : Hp} {ds : List D} {vs : List V} (h : RDs c G H ds vs) : vs = [] ↔ ds = [] := by
  rw [← List.length_eq_zero_iff, ← List.length_eq_zero_iff, h.length]
theorem RDs.rep {c : Cn} {G : GW} {H : Hp} {ds : List D} {vs : List V} (h : RDs c G H ds vs) : ∀ k : Nat, RDs c G H (List.replicate k ds).flatten (List.replicate k vs).flatten
  | 0 => RDs.nil
  | k + 1 => by
    rw [List.replicate_succ, List.replicate_succ, List.flatten_cons, List.flatten_cons]
    exact h.app (h.rep k)
theorem o_add : Op2 oAdd rAddA := by
  intro c G s σ H x y d v w Q r hx hy e g
  unfold oAdd at e
  split at e
  · cases e
    simp only [RDw, RD] at hx hy
    exact .inl ⟨_, _, hx, hy, g.here r (by unfold RD; rfl)⟩
  · split at e
    · rename_i hl
      cases e
      simp only [RDw, RD] at hx hy
      exact .inr (.inl ⟨_, _, hx, hy, by rw [ofString_len, ofString_len]; exact smallLine hl, g.here r (by unfold RD; rw [ofString_app])⟩)
    · cases e
  · split at e
    · rename_i hl
      cases e
      obtain ⟨a, vs, rfl, h1, h2⟩ := hx
      obtain ⟨b, ws, rfl, k1, k2⟩ := hy
      exact .inr (.inr (.inl ⟨a, b, vs, ws, rfl, rfl, h1, k1, by rw [h2.length, k2.length]; exact smallLine hl, fun p hp => g.lst r (h2.app k2) hp⟩))
    · cases e
  · split at e
    · rename_i hl
      cases e
      have hx' := hx
      have hy' := hy
      simp only [RDw] at hx' hy'
      unfold RD at hx' hy'
      obtain ⟨a, vs, rfl, f1, h1, h2⟩ := hx'
      obtain ⟨b, ws, rfl, f2, k1, k2⟩ := hy'
      refine .inr (.inr (.inr ⟨a, b, vs, ws, rfl, rfl, SqT.of h1, SqT.of k1, by rw [h2.length, k2.length]; exact smallLine hl, fun z => ?_, fun z1 z2 => ?_, fun _ _ p hp => g.tup r (h2.app k2) hp⟩))
      · rw [h2.nil_iff.mp z] at g
        exact g.here r hy
      · rw [k2.nil_iff.mp z2, List.append_nil] at g
        exact g.here r hx
    · cases e
  · cases e
theorem o_sub : Op2 oSub (fun _ => rI0 fun i j => .int (i - j)) := by
  intro c G s σ H x y d v w Q r hx hy e g
  unfold oSub at e
  split at e
  · cases e
    simp only [RDw, RD] at hx hy
    exact ⟨_, _, hx, hy, g.here r (by unfold RD; rfl)⟩
  · cases e
theorem mul_small {n : Nat} {k : Int} (h1 : k.natAbs ≤ 1000) (h2 : n ≤ 1000) : n * k.toNat ≤ sizeLine := by
  have : k.toNat ≤ 1000 := by omega
  have := Nat.mul_le_mul h2 this
  rw [sizeLine_eq]
  omega
theorem o_mul : Op2 oMul rMulA := by
  intro c G s σ H x y d v w Q r hx hy e g
  unfold oMul at e
  split at e
  · split at e
    · rename_i hl
      cases e
      simp only [RDw, RD] at hx hy
      refine .inl ⟨_, _, hx, hy, ?_, g.here r (by unfold RD; rfl)⟩
      unfold CMul
      rcases hl with hl | hl
      · left; omega
      · right; omega
    · cases e
  · split at e
    · rename_i hl
      cases e
      obtain ⟨a, vs, rfl, h1, h2⟩ := hx
      simp only [RDw, RD] at hy
      exact .inr (.inl ⟨a, _, vs, rfl, hy, h1, by omega, by omega, mul_small hl.1 (by rw [h2.length]; exact hl.2), fun p hp => g.lst r (h2.rep _) hp⟩)
    · cases e
  · split at e
    · rename_i hl
      cases e
      simp only [RDw] at hx hy
      unfold RD at hx hy
      obtain ⟨a, vs, rfl, f1, h1, h2⟩ := hx
      obtain ⟨l1, l2, l3, l4⟩ := hl
      exact .inr (.inr ⟨a, _, vs, rfl, hy, SqT.of h1, fun z => l1 (h2.nil_iff.mp z), l2, l3, by rw [h2.length]; exact l4, fun p hp => g.tup r (h2.rep _) hp⟩)
    · cases e
  · cases e
theorem o_div : Op2 oDiv (rInt CDivN fun i j => .int (i.fdiv j)) := by
  intro c G s σ H x y d v w Q r hx hy e g
  unfold oDiv at e
  split at e
  · split at e
    · rename_i hl
      cases e
      simp only [RDw, RD] at hx hy
      exact ⟨_, _, hx, hy, hl, g.here r (by unfold RD; rfl)⟩
    · cases e
  · cases e
theorem o_mod : Op2 oMod (rInt (fun _ j => j ≠ 0) fun i j => .int (i.fmod j)) := by
  intro c G s σ H x y d v w Q r hx hy e g
  unfold oMod at e
  split at e
  · split at e
    · rename_i hl
      cases e
      simp only [RDw, RD] at hx hy
      exact ⟨_, _, hx, hy, hl, g.here r (by unfold RD; rfl)⟩
    · cases e
  · cases e
theorem o_pow : Op2 oPow (rInt CPow fun i j => .int (i ^ j.toNat)) := by
  intro c G s σ H x y d v w Q r hx hy e g
  unfold oPow at e
  split at e
  · split at e
    · rename_i hl
      cases e
      simp only [RDw, RD] at hx hy
      exact ⟨_, _, hx, hy, hl, g.here r (by unfold RD; rfl)⟩
    · cases e
  · cases e
section
variable {p : Pg} {Γ : NE} {a b : Expr} {pos : Pos}
theorem two_op {op : Operator} {r : Cn → R2} (h : ∀ X : Cx, XOk p Γ X → ∀ c, Cn.of p c → OpR X (binaryOp op) (r c)) : Two p Γ (.BinOp a op b pos) a b r := fun X ok c hc _ _ ha hb => pe_op (h X ok c hc) ha hb
theorem two_add : Two p Γ (.BinOp a .Add b pos) a b rAddA := two_op fun X ok c hc => by
  have e : c.K = X.K := hc.K.trans ok.K.symm
  unfold rAddA
  rw [e]
  exact op_add.or (op_add_str.or (op_cat.or op_catA))
theorem two_sub : Two p Γ (.BinOp a .Sub b pos) a b (fun _ => rI0 fun i j => .int (i - j)) := two_op fun X ok c hc => op_sub
theorem two_mul : Two p Γ (.BinOp a .Mult b pos) a b rMulA := two_op fun X ok c hc => by
  have e : c.K = X.K := hc.K.trans ok.K.symm
  unfold rMulA
  rw [e]
  exact op_mul.or (op_rep.or op_repT)
theorem two_div : Two p Γ (.BinOp a .FloorDiv b pos) a b (rInt CDivN fun i j => .int (i.fdiv j)) := two_op fun X ok c hc => op_fdivN
theorem two_mod : Two p Γ (.BinOp a .Mod b pos) a b (rInt (fun _ j => j ≠ 0) fun i j => .int (i.fmod j)) := two_op fun X ok c hc => op_modN
theorem two_pow : Two p Γ (.BinOp a .Pow b pos) a b (rInt CPow fun i j => .int (i ^ j.toNat)) := two_op fun X ok c hc => op_pow
end
/-! ### comparisons -/
def eqWhole (M : List MO) (x y : D) : Option Bool := match whole M x, whole M y with
  | some a, some b => if depD a ≤ 64 ∧ depD b ≤ 64 then some (eqvD a b) else none
  | _, _ => none
def oEq (M : List MO) (x y : D) : Option D := (eqWhole M x y).map .bl
def oNe (M : List MO) (x y : D) : Option D := (eqWhole M x y).map fun b => .bl (!b)
def oCmp (f : Int → Int → Bool) (_ : List MO) : D → D → Option D
  | .int i, .int j => some (.bl (f i j))
  | _, _ => none
theorem o_eq : Op2 oEq (fun c => rEqD c.K) := by
  intro c G s σ H x y d v w Q r hx hy e g
  unfold oEq eqWhole at e
  cases e1 : whole s.M x with
  | none => rw [e1] at e; cases e
  | some a =>
    cases e2 : whole s.M y with
    | none => rw [e1, e2] at e; cases e
    | some b =>
      rw [e1, e2] at e
      dsimp only at e
      split at e
      · rename_i hl
        cases e
        obtain ⟨q, q1, q2⟩ := r.dp e1 hx
        obtain ⟨q', q3, q4⟩ := r.dp e2 hy
        refine ⟨q, q', q2, q4, shaped_of q1 hl.1, shaped_of q3 hl.2, g.here r ?_⟩
        unfold RD
        rw [py_eqv _ _ q1 q3]
      · cases e
theorem o_ne : Op2 oNe (fun c => rNeD c.K) := by
  intro c G s σ H x y d v w Q r hx hy e g
  unfold oNe eqWhole at e
  cases e1 : whole s.M x with
  | none => rw [e1] at e; cases e
  | some a =>
    cases e2 : whole s.M y with
    | none => rw [e1, e2] at e; cases e
    | some b =>
      rw [e1, e2] at e
      dsimp only at e
      split at e
      · rename_i hl
        cases e
        obtain ⟨q, q1, q2⟩ := r.dp e1 hx
        obtain ⟨q', q3, q4⟩ := r.dp e2 hy
        refine ⟨q, q', q2, q4, shaped_of q1 hl.1, shaped_of q3 hl.2, g.here r ?_⟩
        unfold RD
        rw [py_eqv _ _ q1 q3]
      · cases e
theorem o_cmp {f : Int → Int → Bool} : Op2 (oCmp f) (fun _ => rI0 fun i j => .bl (f i j)) := by
  intro c G s σ H x y d v w Q r hx hy e g
  unfold oCmp at e
  split at e
  · cases e
    simp only [RDw, RD] at hx hy
    exact ⟨_, _, hx, hy, g.here r (by unfold RD; rfl)⟩
  · cases e
abbrev oLt := oCmp fun i j => decide (i < j)
abbrev oLe := oCmp fun i j => decide (i ≤ j)
abbrev oGt := oCmp fun i j => decide (j < i)
abbrev oGe := oCmp fun i j => decide (j ≤ i)
/-- x in y: y a text of signs (x one sign), a list, a tuple, a dict -/
def keyOf : D → Option KY
  | .int i => some (.inl i)
  | .str s => some (.inr s)
  | _ => none
def inSeq (M : List MO) (x : D) (ys : List D) : Option Bool := match whole M x, ress (rfM M 4) ys with
  | some a, some bs => if depD a ≤ 64 ∧ depDs bs < 64 then some (bs.any fun b => eqvD b a) else none
  | _, _ => none
def oInB (M : List MO) (x : D) : D → Option Bool
  | .str t => match x with
    | .str z => match z.toList with
      | [ch] => some (t.toList.contains ch)
      | _ => none
    | _ => none
  | .lst ys => inSeq M x ys
  | .tup ys => inSeq M x ys
  | .tab kvs => match x with
    | .str z => some ((kvs.lookup z).isSome)
    | _ => none
  | .dic ks vs => match x with
    | .str z => some ((ks.zip vs).any fun q => decide (q.1 = z))
    | _ => none
  | .ref n => match M[n]? with
    | some (.dic kvs) => match keyOf x with
      | some k => some (kvs.any fun q => decide (q.1 = k))
      | none => none
    | _ => none
  | _ => none
def oIn (M : List MO) (x y : D) : Option D := (oInB M x y).map .bl
def oNotIn (M : List MO) (x y : D) : Option D := (oInB M x y).map fun b => .bl (!b)
/-- x in y, by values: the answer k -/
def inR (c : Cn) (x y : V) (H : Hp) (k : Bool) : Prop :=
  (∃ (n : Nat) (z : Str), x = .str ⟨#[n]⟩ ∧ y = .str z ∧ k = decide (n ∈ z.cps.toList)) ∨
  (∃ (d : PyData) (ds : List PyData), Dp c.K H x d ∧ (Dp c.K H y (.list ds) ∨ Dp c.K H y (.tuple ds)) ∧ SeqAt.shaped d = true ∧ PyData.canLayAll0 ds = true ∧ k = ds.any fun z => PyData.eqv z d) ∨
  (∃ (a : Addr) (o : Option V), y = .ref a ∧ DGet H a x o ∧ k = o.isSome) ∨
  ∃ (a : Addr) (es : Array DictEntry) (n : Nat) (z : Str) (r : Option Value), KDict c.K c.w a es n ∧ x = .str z ∧ y = .ref a ∧ PySem.W.nsIn c.K a z = some r ∧ k = r.isSome
def rInA : Cn → R2 := fun c x y H Q => ∃ k, inR c x y H k ∧ Q (.bl k) H
def rNotInA : Cn → R2 := fun c x y H Q => ∃ k, inR c x y H k ∧ Q (.bl (!k)) H
section
variable {X : Cx} {c : Cn}
theorem op_inA (hK : c.K = X.K) (hw : c.w = X.w) (hu : X.A.units + 65 < cLine) : OpR X (compareOp .In) (rInA c) := by
  intro pins s σ H x y v u Q I rx ry h
  obtain ⟨k, h, q⟩ := h
  rcases h with ⟨n, z, rfl, rfl, rfl⟩ | ⟨d, ds, h1, h2, h3, h4, rfl⟩ | ⟨a, o, rfl, g, rfl⟩ | ⟨a, es, n, z, r, kd, rfl, rfl, e, rfl⟩
  · exact op_in_sign pins s σ H _ _ v u Q I rx ry ⟨n, z, rfl, rfl, q⟩
  · rw [hK] at h1 h2
    obtain ⟨as, r1⟩ := Dp.reads I d x v h1 rx
    rcases h2 with h2 | h2
    · obtain ⟨bs, r2⟩ := Dp.reads I (.list ds) y u h2 ry
      exact SeqAt.in_list_reads r2 r1 h4 (SeqAt.canLay_of_shaped h3) (room_in_shaped h3 hu) ⟨.bl _, H, I, rfl, q⟩
    · obtain ⟨bs, r2⟩ := Dp.reads I (.tuple ds) y u h2 ry
      exact SeqAt.in_tuple_reads r2 r1 h4 (SeqAt.canLay_of_shaped h3) (room_in_shaped h3 hu) ⟨.bl _, H, I, rfl, q⟩
  · cases (show u = Value.ref a from ry)
    exact d_in (by omega) I g rx fun s' J => ⟨.bl _, H, J, rfl, q⟩
  · rw [hK, hw] at kd
    rw [hK] at e
    exact op_in_kd kd pins s σ H _ _ v u Q I rx ry ⟨z, r, rfl, rfl, e, q⟩
theorem op_notInA (hK : c.K = X.K) (hw : c.w = X.w) (hu : X.A.units + 65 < cLine) : OpR X (compareOp .NotIn) (rNotInA c) := by
  intro pins s σ H x y v u Q I rx ry h
  obtain ⟨k, h, q⟩ := h
  rcases h with ⟨n, z, rfl, rfl, rfl⟩ | ⟨d, ds, h1, h2, h3, h4, rfl⟩ | ⟨a, o, rfl, g, rfl⟩ | ⟨a, es, n, z, r, kd, rfl, rfl, e, rfl⟩
  · exact op_notIn_sign pins s σ H _ _ v u Q I rx ry ⟨n, z, rfl, rfl, q⟩
  · rw [hK] at h1 h2
    obtain ⟨as, r1⟩ := Dp.reads I d x v h1 rx
    rcases h2 with h2 | h2
    · obtain ⟨bs, r2⟩ := Dp.reads I (.list ds) y u h2 ry
      exact SeqAt.notIn_list_reads r2 r1 h4 (SeqAt.canLay_of_shaped h3) (room_in_shaped h3 hu) ⟨.bl _, H, I, rfl, q⟩
    · obtain ⟨bs, r2⟩ := Dp.reads I (.tuple ds) y u h2 ry
      exact SeqAt.notIn_tuple_reads r2 r1 h4 (SeqAt.canLay_of_shaped h3) (room_in_shaped h3 hu) ⟨.bl _, H, I, rfl, q⟩
  · cases (show u = Value.ref a from ry)
    exact d_notIn (by omega) I g rx fun s' J => ⟨.bl _, H, J, rfl, q⟩
  · rw [hK, hw] at kd
    rw [hK] at e
    exact op_notIn_kd kd pins s σ H _ _ v u Q I rx ry ⟨z, r, rfl, rfl, e, q⟩
end
theorem any_eqv (a : D) {q : PyData} (ha : py a = some q) : ∀ (bs : List D) {qs : List PyData}, pys bs = some qs → (qs.any fun z => PyData.eqv z q) = bs.any fun b => eqvD b a
  | [], _, h => by cases h; rfl
  | b :: bs, qs, h => by
    simp only [pys] at h
    cases e : py b with
    | none => rw [e] at h; cases h
    | some pb =>
      rw [e] at h
      simp only [Option.map_eq_some_iff] at h
      obtain ⟨z, hz, rfl⟩ := h
      rw [List.any_cons, List.any_cons, any_eqv a ha bs hz, py_eqv b a e ha]
theorem valV_zip {k : String} : ∀ (ks : List String) (vs : List V), ks.length = vs.length →
    (valV ((ks.map fun s => (Sum.inr (Str.ofString s) : Key)).zip vs) (.inr (Str.ofString k))) = ((ks.zip vs).find? fun q => decide (q.1 = k)).map (·.2)
  | [], _, _ => rfl
  | _ :: _, [], h => by cases h
  | x :: ks, v :: vs, h => by
    show valV ((_, v) :: _) _ = (((x, v) :: ks.zip vs).find? _).map _
    by_cases e : x = k
    · subst e
      rw [valV_pos rfl]
      simp
    · rw [valV_neg (fun z => e (ofString_inj (Sum.inr.inj z)))]
      rw [List.find?_cons_of_neg (by simpa using e)]
      exact valV_zip ks vs (by simpa using h)
theorem toKey_inj {a b : KY} (h : toKey a = toKey b) : a = b := by
  cases a with
  | inl i =>
    cases b with
    | inl j => cases h; rfl
    | inr t => cases h
  | inr x =>
    cases b with
    | inl j => cases h
    | inr t => rw [ofString_inj (Sum.inr.inj h)]
theorem keyOf_rel {c : Cn} {G : GW} {H : Hp} {x : D} {k : KY} {v : V} (e : keyOf x = some k) (h : RDw c G H x v) : v = kV (toKey k) := by
  unfold keyOf at e
  split at e
  · cases e
    simp only [RDw, RD] at h
    exact h
  · cases e
    simp only [RDw, RD] at h
    exact h
  · cases e
/-- what a dict holds at a key -/
def dGet (kvs : List (KY × D)) (k : KY) : Option D := (kvs.find? fun q => decide (q.1 = k)).map (·.2)
theorem RDk.get {c : Cn} {G : GW} {H : Hp} {k : KY} : ∀ {kvs : List (KY × D)} {ws : List (Key × V)}, RDk c G H kvs ws → (match dGet kvs k with
    | some d => ∃ v, valV ws (toKey k) = some v ∧ RD c G H d v
    | none => valV ws (toKey k) = none)
  | [], _, .nil => rfl
  | (k', d) :: kvs, (kk, v) :: ws, .cons h t => by
    obtain ⟨h1, h2⟩ := h
    dsimp only at h1 h2
    subst h1
    unfold dGet
    by_cases e : k' = k
    · subst e
      rw [List.find?_cons_of_pos (by simp)]
      exact ⟨v, valV_pos rfl, h2⟩
    · rw [List.find?_cons_of_neg (by simpa using e), valV_neg (fun z => e (toKey_inj z))]
      exact RDk.get t
theorem zip_any {z : String} : ∀ (ks : List String) (vs : List D) (ws : List V), ks.length = vs.length → ws.length = vs.length → ((ks.zip vs).any fun q => decide (q.1 = z)) = ((ks.zip ws).find? fun q => decide (q.1 = z)).isSome
  | [], _, _, _, _ => rfl
  | _ :: _, [], _, h, _ => by cases h
  | _ :: _, _ :: _, [], _, h => by cases h
  | x :: ks, v :: vs, w :: ws, h, h' => by
    rw [List.zip_cons_cons, List.zip_cons_cons, List.any_cons, List.find?_cons]
    by_cases hx : x = z
    · subst hx; simp
    · rw [zip_any ks vs ws (by simpa using h) (by simpa using h')]
      simp [hx]
theorem in_ok {c : Cn} {G : GW} {s : S} {σ : L2.St} {H : Hp} {x y : D} {v w : V} {k : Bool} (r : Rs c G s σ H) (hx : RDw c G H x v) (hy : RDw c G H y w) (e : oInB s.M x y = some k) : inR c v w H k := by
  have seq : ∀ {ys : List D} {ws : List V}, RDs c G H ys ws → inSeq s.M x ys = some k → ∃ (d : PyData) (ds : List PyData), Dp c.K H v d ∧ DpAll c.K H ws ds ∧ SeqAt.shaped d = true ∧ PyData.canLayAll0 ds = true ∧ k = ds.any fun z => PyData.eqv z d := fun {ys ws} h e => by
    unfold inSeq at e
    cases e1 : whole s.M x with
    | none => rw [e1] at e; cases e
    | some a =>
      cases e2 : ress (rfM s.M 4) ys with
      | none => rw [e1, e2] at e; cases e
      | some bs =>
        rw [e1, e2] at e
        dsimp only at e
        split at e
        · rename_i hl
          cases e
          obtain ⟨q, q1, q2⟩ := r.dp e1 hx
          obtain ⟨qs, q3, q4⟩ := dps_of (r.rf 4) ys bs e2 h
          exact ⟨q, qs, q2, q4, shaped_of q1 hl.1, (pys_lay bs q3).1, (any_eqv a q1 bs q3).symm⟩
        · cases e
  unfold oInB at e
  split at e
  · rename_i t
    split at e
    · rename_i z
      split at e
      · rename_i ch hz
        cases e
        simp only [RDw, RD] at hx hy
        refine .inl ⟨ch.toNat, Str.ofString t, ?_, hy, ?_⟩
        · rw [hx]
          have e1 := ofString_cps z
          rw [hz] at e1
          have e2 : (Str.ofString z).cps = #[ch.toNat] := Array.toList_inj.mp (by rw [e1]; rfl)
          cases h2 : Str.ofString z
          rw [h2] at e2
          rw [show ∀ a b : Array Nat, a = b → (⟨a⟩ : Str) = ⟨b⟩ from fun _ _ h => by rw [h]]
          exact e2
        · rw [ofString_cps]
          by_cases hm : ch ∈ t.toList
          · rw [decide_eq_true (List.mem_map.mpr ⟨ch, hm, rfl⟩)]
            simpa using hm
          · rw [decide_eq_false (fun h => by
              obtain ⟨c', h1, h2⟩ := List.mem_map.mp h
              rw [Char.toNat_inj.mp h2] at h1
              exact hm h1)]
            simpa using hm
      · cases e
    · cases e
  · rename_i ys
    obtain ⟨a, ws, rfl, h1, h2⟩ := hy
    obtain ⟨d, ds, q1, q2, q3, q4, q5⟩ := seq h2 e
    exact .inr (.inl ⟨d, ds, q1, .inl (.lst (SqL.of h1) q2), q3, q4, q5⟩)
  · rename_i ys
    simp only [RDw] at hy
    unfold RD at hy
    obtain ⟨a, ws, rfl, f, h1, h2⟩ := hy
    obtain ⟨d, ds, q1, q2, q3, q4, q5⟩ := seq h2 e
    exact .inr (.inl ⟨d, ds, q1, .inr (.tup (SqT.of h1) q2), q3, q4, q5⟩)
  · rename_i kvs
    split at e
    · rename_i z
      cases e
      simp only [RDw, RD] at hx hy
      obtain ⟨a, rfl, es, n, kd, hz, _⟩ := hy
      have h := hz z
      split at h
      · rename_i t hk
        obtain ⟨tk, h⟩ := h
        exact .inr (.inr (.inr ⟨a, es, n, _, _, kd, hx, rfl, h, by rw [hk] <;> rfl⟩))
      · rename_i hk
        exact .inr (.inr (.inr ⟨a, es, n, _, _, kd, hx, rfl, h, by rw [hk] <;> rfl⟩))
    · cases e
  · rename_i ks vs
    split at e
    · rename_i z
      cases e
      simp only [RDw, RD] at hx
      simp only [RDw] at hy
      unfold RD at hy
      obtain ⟨a, ws, rfl, f, h1, hl, h2⟩ := hy
      refine .inr (.inr (.inl ⟨a, _, rfl, .inl ⟨_, .inr (Str.ofString z), .inl h1, hx, rfl⟩, ?_⟩))
      rw [valV_zip ks ws (by rw [h2.length]; exact hl), Option.isSome_map]
      exact zip_any ks vs ws hl h2.length
    · cases e
  · rename_i n
    cases hm : s.M[n]? with
    | none => rw [hm] at e; cases e
    | some o =>
      rw [hm] at e
      cases o with
      | dic kvs =>
        dsimp only at e
        cases hk : keyOf x with
        | none => rw [hk] at e; cases e
        | some ky =>
          rw [hk] at e
          cases e
          simp only [RDw] at hy
          unfold RD at hy
          obtain ⟨a, rfl, h1⟩ := hy
          obtain ⟨ws, q1, q2⟩ := r.obj n a _ h1 hm
          have hv := keyOf_rel hk hx
          refine .inr (.inr (.inl ⟨a, _, rfl, .inl ⟨ws, toKey ky, .inl q1, hv, rfl⟩, ?_⟩))
          have g := RDk.get (k := ky) q2
          unfold dGet at g
          cases hf : kvs.find? fun q => decide (q.1 = ky) with
          | none =>
            rw [hf] at g
            rw [g]
            have := List.find?_eq_none.mp hf
            rw [List.any_eq_false.mpr (fun q hq => by simpa using this q hq)]
            rfl
          | some q =>
            rw [hf] at g
            obtain ⟨v', g1, _⟩ := g
            rw [g1]
            rw [List.any_eq_true.mpr ⟨q, List.mem_of_find?_eq_some hf, by simpa using List.find?_some hf⟩]
            rfl
      | _ => cases e
  · cases e
end Ev

set_option maxHeartbeats 2000000
/-! Ev6: tests, and, or, not, if; subscripts, slices. -/
namespace Ev
open PySem PySem.Spec PyProof.Rows L2

section
variable {p : Pg} {Γ : NE} {a b : Expr} {pos : Pos}
theorem two_cmp {op : CmpOp} {r : Cn → R2} (h : ∀ X : Cx, XOk p Γ X → ∀ c, Cn.of p c → OpR X (compareOp op) (r c)) (hm : behindInMarks op b = false) : Two p Γ (.Compare a [op] [b] pos) a b r := fun X ok c hc _ _ ha hb => pe_cmpR (h X ok c hc) ha hb hm
theorem XOk.u64 {X : Cx} (ok : XOk p Γ X) : X.A.units + 65 < cLine := by have := ok.un; omega
theorem two_eq : Two p Γ (.Compare a [.Eq] [b] pos) a b (fun c => rEqD c.K) := two_cmp (fun X ok c hc => by
  have e : c.K = X.K := hc.K.trans ok.K.symm
  rw [e]
  exact op_eqD (by have := ok.u64; omega)) (nomark b)
theorem two_ne : Two p Γ (.Compare a [.NotEq] [b] pos) a b (fun c => rNeD c.K) := two_cmp (fun X ok c hc => by
  have e : c.K = X.K := hc.K.trans ok.K.symm
  rw [e]
  exact op_neD (by have := ok.u64; omega)) (nomark b)
theorem two_lt : Two p Γ (.Compare a [.Lt] [b] pos) a b (fun _ => rI0 fun i j => .bl (decide (i < j))) := two_cmp (fun X ok c hc => op_lt) (nomark b)
theorem two_le : Two p Γ (.Compare a [.LtE] [b] pos) a b (fun _ => rI0 fun i j => .bl (decide (i ≤ j))) := two_cmp (fun X ok c hc => op_le) (nomark b)
theorem two_gt : Two p Γ (.Compare a [.Gt] [b] pos) a b (fun _ => rI0 fun i j => .bl (decide (j < i))) := two_cmp (fun X ok c hc => op_gt) (nomark b)
theorem two_ge : Two p Γ (.Compare a [.GtE] [b] pos) a b (fun _ => rI0 fun i j => .bl (decide (j ≤ i))) := two_cmp (fun X ok c hc => op_ge) (nomark b)
theorem two_in (hm : behindInMarks .In b = false) : Two p Γ (.Compare a [.In] [b] pos) a b rInA := two_cmp (fun X ok c hc => op_inA (hc.K.trans ok.K.symm) (hc.w.trans ok.w.symm) ok.u64) hm
theorem two_notin (hm : behindInMarks .NotIn b = false) : Two p Γ (.Compare a [.NotIn] [b] pos) a b rNotInA := two_cmp (fun X ok c hc => op_notInA (hc.K.trans ok.K.symm) (hc.w.trans ok.w.symm) ok.u64) hm
theorem o_in : Op2 oIn rInA := by
  intro c G s σ H x y d v w Q r hx hy e g
  unfold oIn at e
  simp only [Option.map_eq_some_iff] at e
  obtain ⟨k, e, rfl⟩ := e
  exact ⟨k, in_ok r hx hy e, g.here r (by unfold RD; rfl)⟩
theorem o_notin : Op2 oNotIn rNotInA := by
  intro c G s σ H x y d v w Q r hx hy e g
  unfold oNotIn at e
  simp only [Option.map_eq_some_iff] at e
  obtain ⟨k, e, rfl⟩ := e
  exact ⟨k, in_ok r hx hy e, g.here r (by unfold RD; rfl)⟩
/-- is None, is not None -/
def isNon : D → Bool
  | .non => true
  | _ => false
def eIsN (m : PM D) : PM D := m >>= fun d => pure (.bl (isNon d))
def eNotN (m : PM D) : PM D := m >>= fun d => pure (.bl (!isNon d))
theorem RD.non_iff {c : Cn} {G : GW} {H : Hp} {d : D} {v : V} (h : RD c G H d v) : decide (v = .non) = isNon d := by
  cases d <;> unfold RD at h
  · subst h; rfl
  · subst h; rfl
  · subst h; rfl
  · subst h; rfl
  · obtain ⟨_, _, rfl, _⟩ := h; rfl
  · obtain ⟨_, _, rfl, _⟩ := h; rfl
  · obtain ⟨_, _, rfl, _⟩ := h; rfl
  · obtain ⟨_, rfl, _⟩ := h; rfl
  · obtain ⟨_, rfl, _⟩ := h; rfl
  · obtain ⟨_, _, rfl, _⟩ := h; rfl
  · exact h.elim
theorem se_isN {m : PM D} {j : Nat} {pos' : Pos} (ha : SE p Γ a m) : SE p Γ (.Compare a [.Is] [.Constant .none j pos'] pos) (eIsN m) := by
  intro X ok W tk c hc
  refine (pe_cmp (pc_isN (ha X ok W tk c hc))).weak fun σ H Q h => ?_
  obtain ⟨G, s, r, h⟩ := h
  refine ⟨G, s, r, (Run.bind (R := RD) h).mono fun v H1 ⟨G1, s1, d, x1, r1, q1, h1⟩ => ?_⟩
  refine h1.same (b := V.bl (decide (v = .non))) rfl r1 ?_
  unfold RD
  rw [q1.non_iff]
theorem se_notN {m : PM D} {j : Nat} {pos' : Pos} (ha : SE p Γ a m) : SE p Γ (.Compare a [.IsNot] [.Constant .none j pos'] pos) (eNotN m) := by
  intro X ok W tk c hc
  refine (pe_cmp (pc_notN (ha X ok W tk c hc))).weak fun σ H Q h => ?_
  obtain ⟨G, s, r, h⟩ := h
  refine ⟨G, s, r, (Run.bind (R := RD) h).mono fun v H1 ⟨G1, s1, d, x1, r1, q1, h1⟩ => ?_⟩
  refine h1.same (b := V.bl (!decide (v = .non))) rfl r1 ?_
  unfold RD
  rw [q1.non_iff]
/-- a < b <= c .. -/
def eChain (f f' : List MO → D → D → Option D) (ma mb mc : PM D) : PM D := ma >>= fun x => mb >>= fun y => ap2 f x y >>= fun z => match z with
  | .bl true => mc >>= fun w => ap2 f' y w
  | .bl false => pure (.bl false)
  | _ => stuck
theorem stuck_run {α β : Type} {R : Cn → GW → Hp → α → β → Prop} {c : Cn} {W : WX} {G : GW} {s : S} {σ : L2.St} {H : Hp} {Q : β → Hp → Prop} {P : Prop} (h : Run R c W (stuck : PM α) G s σ H Q) : P := by
  unfold Run stuck at h
  exact h.elim
theorem RD.bl_inv {c : Cn} {G : GW} {H : Hp} {b : Bool} {v : V} (h : RD c G H (.bl b) v) : v = .bl b := by unfold RD at h; exact h
/-- what ap2 gives is an answer of the view -/
theorem ap2_bind {c : Cn} {W : WX} {G : GW} {s : S} {σ : L2.St} {H : Hp} {Q : VK} {f : List MO → D → D → Option D} {x y : D} {g : D → PM D} (h : Run RD c W (ap2 f x y >>= g) G s σ H Q) : ∃ d, f s.M (vw s.M x) (vw s.M y) = some d ∧ Run RD c W (g d) G s σ H Q := by
  unfold Run at h
  rw [bind_eq] at h
  unfold ap2 at h
  cases e : f s.M (vw s.M x) (vw s.M y) with
  | none => rw [e] at h; exact h.elim
  | some d =>
    rw [e] at h
    exact ⟨d, rfl, h⟩
theorem se_chain {cE : Expr} {op op' : CmpOp} {f f' : List MO → D → D → Option D} {r r' : Cn → R2} {ma mb mc : PM D} (t : ∀ X : Cx, XOk p Γ X → ∀ c, Cn.of p c → OpR X (compareOp op) (r c)) (t' : ∀ X : Cx, XOk p Γ X → ∀ c, Cn.of p c → OpR X (compareOp op') (r' c))
    (o : Op2 f r) (o' : Op2 f' r') (ha : SE p Γ a ma) (hb : SE p Γ b mb) (hcE : SE p Γ cE mc) (hm : lastMarks [op, op'] [b, cE] = false) : SE p Γ (.Compare a [op, op'] [b, cE] pos) (eChain f f' ma mb mc) := by
  intro X ok W tk c hc
  refine (pe_chain (t X ok c hc) (t' X ok c hc) (ha X ok W tk c hc) (hb X ok W tk c hc) (hcE X ok W tk c hc) hm).weak fun σ H Q h => ?_
  obtain ⟨G, s, r0, h⟩ := h
  refine ⟨G, s, r0, (Run.bind (R := RD) h).mono fun v H1 ⟨G1, s1, x, x1, r1, q1, h1⟩ => ?_⟩
  refine ⟨G1, s1, r1, (Run.bind (R := RD) h1).mono fun w H2 ⟨G2, s2, y, x2, r2, q2, h2⟩ => ?_⟩
  obtain ⟨z, e, h3⟩ := ap2_bind h2
  refine o c G2 s2 σ H2 _ _ z v w _ r2 (r2.view (q1.mono x2)) (r2.view q2) e fun G3 H3 zv x3 r3 q3 => ?_
  cases z with
  | bl k =>
    refine ⟨k, q3.bl_inv, ?_⟩
    have h3' := h3.ext x3
    cases k with
    | false =>
      rw [if_neg (by decide)]
      exact h3'.same (b := V.bl false) rfl r3 (by unfold RD; rfl)
    | true =>
      rw [if_pos rfl]
      refine ⟨G3, s2, r3, (Run.bind (R := RD) h3').mono fun u H4 ⟨G4, s4, w', x4, r4, q4, h4⟩ => ?_⟩
      obtain ⟨d, e, g⟩ := ap2_run h4
      exact o' c G4 s4 σ H4 _ _ d w u Q r4 (r4.view (q2.mono (x3.trans x4))) (r4.view q4) e g
  | _ => exact stuck_run h3
theorem opr_lt : ∀ X : Cx, XOk p Γ X → ∀ c, Cn.of p c → OpR X (compareOp .Lt) (rI0 fun i j => .bl (decide (i < j))) := fun _ _ _ _ => op_lt
theorem opr_le : ∀ X : Cx, XOk p Γ X → ∀ c, Cn.of p c → OpR X (compareOp .LtE) (rI0 fun i j => .bl (decide (i ≤ j))) := fun _ _ _ _ => op_le
end
/-! ### tests -/
def asB (m : PM D) : PM Bool := m >>= fun d => match d with
  | .bl b => pure b
  | _ => stuck
def tNotM (m : PM Bool) : PM Bool := m >>= fun b => pure (!b)
def tAndM (m n : PM Bool) : PM Bool := m >>= fun b => if b then n else pure false
def tOrM (m n : PM Bool) : PM Bool := m >>= fun b => if b then pure true else n
def eIf {α : Type} (t : PM Bool) (m n : PM α) : PM α := t >>= fun b => if b then m else n
def eAnd (m n : PM D) : PM D := m >>= fun d => match d with
  | .bl true => n
  | .bl false => pure (.bl false)
  | _ => stuck
def eOr (m n : PM D) : PM D := m >>= fun d => match d with
  | .bl true => pure (.bl true)
  | .bl false => n
  | _ => stuck
def eNot (m : PM D) : PM D := m >>= fun d => match d with
  | .bl b => pure (.bl (!b))
  | _ => stuck
section
variable {p : Pg} {Γ : NE} {a b e : Expr} {es : List Expr} {pos : Pos} {m n : PM D} {t u : PM Bool}
theorem asB_run {c : Cn} {W : WX} {G : GW} {s : S} {σ : L2.St} {H : Hp} {Q : Bool → Hp → Prop} {d : D} {v : V} (r : Rs c G s σ H) (q : RD c G H d v) (h : Run REq c W (match d with | .bl b => pure b | _ => stuck) G s σ H Q) : ∃ k, v = .bl k ∧ Q k H := by
  cases d with
  | bl k => exact ⟨k, q.bl_inv, h.same (R := REq) (b := k) rfl r rfl⟩
  | _ => exact stuck_run h
theorem st_val (h : SE p Γ e m) (he : ∀ env whole, isTrue e env whole = (do let v ← whole; standAt e.pos; holding [v] (truthy v))) : ST p Γ e (asB m) := by
  intro X ok W tk c hc
  refine (pt_val (h X ok W tk c hc) (he X.env)).weak fun σ H Q h => ?_
  obtain ⟨G, s, r, h⟩ := h
  exact ⟨G, s, r, (Run.bind (R := RD) h).mono fun v H1 ⟨G1, s1, d, x1, r1, q1, h1⟩ => asB_run r1 q1 h1⟩
/-- a comparison as a test -/
def TwoT (p : Pg) (Γ : NE) (e a b : Expr) (r : Cn → R2) : Prop := ∀ X, XOk p Γ X → ∀ c, Cn.of p c → ∀ ta tb, PE X a ta → PE X b tb → PT X e (tTest (tOp (r c) ta tb))
theorem twoT {op : CmpOp} {r : Cn → R2} (t : ∀ X : Cx, XOk p Γ X → ∀ c, Cn.of p c → OpR X (compareOp op) (r c)) (hm : behindInMarks op b = false) : TwoT p Γ (.Compare a [op] [b] pos) a b r := fun X ok c hc _ _ ha hb => pt_cmpR (t X ok c hc) ha hb hm
theorem st_two {e : Expr} {f : List MO → D → D → Option D} {r : Cn → R2} {ma mb : PM D} (t : TwoT p Γ e a b r) (o : Op2 f r) (ha : SE p Γ a ma) (hb : SE p Γ b mb) : ST p Γ e (asB (eBin f ma mb)) := by
  intro X ok W tk c hc
  refine (t X ok c hc _ _ (ha X ok W tk c hc) (hb X ok W tk c hc)).weak fun σ H Q h => ?_
  obtain ⟨G, s, r, h⟩ := h
  have h0 := Run.bind (R := RD) h
  refine ⟨G, s, r, (Run.bind (R := RD) h0).mono fun v H1 ⟨G1, s1, x, x1, r1, q1, h1⟩ => ?_⟩
  refine ⟨G1, s1, r1, (Run.bind (R := RD) h1).mono fun w H2 ⟨G2, s2, y, x2, r2, q2, h2⟩ => ?_⟩
  obtain ⟨d, e, g⟩ := ap2_run h2
  refine o c G2 s2 σ H2 _ _ d v w _ r2 (r2.view (q1.mono x2)) (r2.view q2) e fun G3 H3 zv x3 r3 q3 => ?_
  obtain ⟨G4, s4, d4, x4, r4, q4, h4⟩ := g G3 H3 zv x3 r3 q3
  exact asB_run r4 q4 h4
theorem st_twoP {e : Expr} {f : List MO → D → D → Option D} {r : Cn → R2} {mb : PM D} {i : Nat} {x : Str} {pos' : Pos} (t : TwoT p Γ e (.Name x pos') b r) (o : Op2 f r) (hN : Γ.N[i]? = some x) (hi : i ∈ Γ.see) (hb : SE p Γ b mb) : ST p Γ e (asB (eBinP f i mb)) := by
  intro X ok W tk c hc
  obtain ⟨v1, v2, v3⟩ := ok.vis i hi x hN
  refine (t X ok c hc _ _ (pe_var (i := i) (by rw [ok.N]; exact hN) v1 v2 v3) (hb X ok W tk c hc)).weak fun σ H Q h => ?_
  obtain ⟨G, s, r, h⟩ := h
  have h0 := Run.bind (R := RD) h
  obtain ⟨v, hv, h0⟩ := chk_run r h0
  refine ⟨v, hv, G, s, r, (Run.bind (R := RD) h0).mono fun w H2 ⟨G2, s2, y, x2, r2, q2, h2⟩ => ?_⟩
  obtain ⟨d0, v', hv', q, h3⟩ := ePeek_run r2 h2
  have e0 : v' = v := by
    rw [hv] at hv'
    exact (Option.some.inj (Option.some.inj hv')).symm
  subst e0
  obtain ⟨d, e, g⟩ := ap2_run h3
  refine o c G2 s2 σ H2 _ _ d v' w _ r2 q (r2.view q2) e fun G3 H3 zv x3 r3 q3 => ?_
  obtain ⟨G4, s4, d4, x4, r4, q4, h4⟩ := g G3 H3 zv x3 r3 q3
  exact asB_run r4 q4 h4
theorem sw_and1 (h : ST p Γ a t) : SW p Γ (.BoolOp .And [a] pos) t := fun X ok W tk c hc => pw_and1 (h X ok W tk c hc)
theorem sw_or1 (h : ST p Γ a t) : SW p Γ (.BoolOp .Or [a] pos) t := fun X ok W tk c hc => pw_or1 (h X ok W tk c hc)
theorem ite_run {α β : Type} {R : Cn → GW → Hp → α → β → Prop} {c : Cn} {W : WX} {G : GW} {s : S} {σ : L2.St} {H : Hp} {Q : β → Hp → Prop} {k : Bool} {m n : PM α} (h : Run R c W (if k = true then m else n) G s σ H Q) : if k = true then Run R c W m G s σ H Q else Run R c W n G s σ H Q := by
  cases k <;> exact h
theorem sw_and {rest : List Expr} (ha : ST p Γ a t) (hb : SW p Γ (.BoolOp .And (b :: rest) pos) u) : SW p Γ (.BoolOp .And (a :: b :: rest) pos) (tAndM t u) := by
  intro X ok W tk c hc
  refine (pw_and (ha X ok W tk c hc) (hb X ok W tk c hc)).weak fun σ H Q h => ?_
  obtain ⟨G, s, r, h⟩ := h
  refine ⟨G, s, r, (Run.bind (R := REq) h).mono fun v H1 ⟨G1, s1, d, x1, r1, q1, h1⟩ => ?_⟩
  cases q1
  cases v with
  | true => exact ⟨G1, s1, r1, h1⟩
  | false => exact h1.same (R := REq) (b := false) rfl r1 rfl
theorem sw_or {rest : List Expr} (ha : ST p Γ a t) (hb : SW p Γ (.BoolOp .Or (b :: rest) pos) u) : SW p Γ (.BoolOp .Or (a :: b :: rest) pos) (tOrM t u) := by
  intro X ok W tk c hc
  refine (pw_or (ha X ok W tk c hc) (hb X ok W tk c hc)).weak fun σ H Q h => ?_
  obtain ⟨G, s, r, h⟩ := h
  refine ⟨G, s, r, (Run.bind (R := REq) h).mono fun v H1 ⟨G1, s1, d, x1, r1, q1, h1⟩ => ?_⟩
  cases q1
  cases v with
  | true => exact h1.same (R := REq) (b := true) rfl r1 rfl
  | false => exact ⟨G1, s1, r1, h1⟩
theorem sw_st (h : SW p Γ e t) : ST p Γ e t := fun X ok W tk c hc => (h X ok W tk c hc).pt
theorem st_not (h : ST p Γ a t) : ST p Γ (.UnaryOp .Not a pos) (tNotM t) := by
  intro X ok W tk c hc
  refine (pt_not (h X ok W tk c hc)).weak fun σ H Q h => ?_
  obtain ⟨G, s, r, h⟩ := h
  refine ⟨G, s, r, (Run.bind (R := REq) h).mono fun v H1 ⟨G1, s1, d, x1, r1, q1, h1⟩ => ?_⟩
  cases q1
  exact h1.same (R := REq) (b := !v) rfl r1 rfl
theorem se_if {ce : Expr} (ht : ST p Γ ce t) (ha : SE p Γ a m) (hb : SE p Γ b n) : SE p Γ (.IfExp ce a b pos) (eIf t m n) := by
  intro X ok W tk c hc
  refine (pe_ifExp (ht X ok W tk c hc) (ha X ok W tk c hc) (hb X ok W tk c hc)).weak fun σ H Q h => ?_
  obtain ⟨G, s, r, h⟩ := h
  refine ⟨G, s, r, (Run.bind (R := REq) h).mono fun v H1 ⟨G1, s1, d, x1, r1, q1, h1⟩ => ?_⟩
  cases q1
  cases v with
  | true =>
    rw [if_pos rfl]
    exact ⟨G1, s1, r1, h1⟩
  | false =>
    rw [if_neg (by decide)]
    exact ⟨G1, s1, r1, h1⟩
/-- and, or, not as values -/
theorem se_one {op : BoolOp} (h : SE p Γ a m) : SE p Γ (.BoolOp op [a] pos) m := fun X ok W tk c hc => pe_one (h X ok W tk c hc)
theorem se_and {rest : List Expr} (ha : SE p Γ a m) (hb : SE p Γ (.BoolOp .And (b :: rest) pos) n) : SE p Γ (.BoolOp .And (a :: b :: rest) pos) (eAnd m n) := by
  intro X ok W tk c hc
  refine (pe_and (ha X ok W tk c hc) (hb X ok W tk c hc)).weak fun σ H Q h => ?_
  obtain ⟨G, s, r, h⟩ := h
  refine ⟨G, s, r, (Run.bind (R := RD) h).mono fun v H1 ⟨G1, s1, d, x1, r1, q1, h1⟩ => ?_⟩
  cases d with
  | bl k =>
    refine ⟨k, q1.bl_inv, ?_⟩
    cases k with
    | true =>
      rw [if_pos rfl]
      exact ⟨G1, s1, r1, h1⟩
    | false =>
      rw [if_neg (by decide)]
      exact h1.same (b := V.bl false) rfl r1 (by unfold RD; rfl)
  | _ => exact stuck_run h1
theorem se_or {rest : List Expr} (ha : SE p Γ a m) (hb : SE p Γ (.BoolOp .Or (b :: rest) pos) n) : SE p Γ (.BoolOp .Or (a :: b :: rest) pos) (eOr m n) := by
  intro X ok W tk c hc
  refine (pe_or (ha X ok W tk c hc) (hb X ok W tk c hc)).weak fun σ H Q h => ?_
  obtain ⟨G, s, r, h⟩ := h
  refine ⟨G, s, r, (Run.bind (R := RD) h).mono fun v H1 ⟨G1, s1, d, x1, r1, q1, h1⟩ => ?_⟩
  cases d with
  | bl k =>
    refine ⟨k, q1.bl_inv, ?_⟩
    cases k with
    | true =>
      rw [if_pos rfl]
      exact h1.same (b := V.bl true) rfl r1 (by unfold RD; rfl)
    | false =>
      rw [if_neg (by decide)]
      exact ⟨G1, s1, r1, h1⟩
  | _ => exact stuck_run h1
theorem se_not (ha : SE p Γ a m) : SE p Γ (.UnaryOp .Not a pos) (eNot m) := by
  intro X ok W tk c hc
  refine (pe_not (ha X ok W tk c hc)).weak fun σ H Q h => ?_
  obtain ⟨G, s, r, h⟩ := h
  refine ⟨G, s, r, (Run.bind (R := RD) h).mono fun v H1 ⟨G1, s1, d, x1, r1, q1, h1⟩ => ?_⟩
  cases d with
  | bl k => exact ⟨k, q1.bl_inv, h1.same (b := V.bl (!k)) rfl r1 (by unfold RD; rfl)⟩
  | _ => exact stuck_run h1
end
/-! ### subscripts -/
/-- the place of an int in a sequence -/
def oIx (M : List MO) : D → D → Option D
  | .lst xs, .int i => atI xs i
  | .tup xs, .int i => atI xs i
  | .scr ns, .int i => (atI ns i).map .int
  | .str s, .int i => if s.length ≤ small then (atI s.toList i).map fun ch => .str (String.singleton ch) else none
  | .tab kvs, .str k => (kvs.lookup k).map .str
  | .dic ks vs, .str k => ((ks.zip vs).find? fun q => decide (q.1 = k)).map (·.2)
  | .ref n, k => match M[n]?, keyOf k with
    | some (.dic kvs), some k => dGet kvs k
    | _, _ => none
  | _, _ => none
def rIxA : Cn → R2 := fun c x y H Q => rIx c.K x y H Q ∨ (∃ (a : Addr) (v : V), x = .ref a ∧ DGet H a y (some v) ∧ Q v H) ∨ rIxD c.K c.w x y H Q
theorem ix_dget {X : Cx} (hu : X.A.units + 1 < cLine) : IxR X (fun x y H Q => ∃ (a : Addr) (v : V), x = .ref a ∧ DGet H a y (some v) ∧ Q v H) := by
  intro value slice pins s σ H x y v u Q I rx ry h hs
  obtain ⟨a, w, rfl, g, q⟩ := h
  obtain rfl : v = Value.ref a := rx
  exact tail_any (dict_typeIs I g) slot_dict_getitem.lookup (d_getItem hu I g ry fun w' s' J rw' => ⟨w, H, J, rw', q⟩) hs
theorem ixN_map {α β : Type} (f : α → β) (xs : List α) (i : Int) : atI (xs.map f) i = (atI xs i).map f := by
  unfold atI
  rw [List.length_map]
  cases ixN xs.length i with
  | none => rfl
  | some j => simp
theorem RDs.atI {c : Cn} {G : GW} {H : Hp} {ds : List D} {vs : List V} {i : Int} {d : D} (h : RDs c G H ds vs) (e : atI ds i = some d) : ∃ v, L2.atI vs i = some v ∧ RD c G H d v := by
  unfold L2.atI at e ⊢
  rw [h.length]
  cases q : ixN ds.length i with
  | none => rw [q] at e; cases e
  | some j =>
    rw [q] at e
    exact h.get e
theorem cps_one (ch : Char) : Str.ofString (String.singleton ch) = ⟨#[ch.toNat]⟩ := by
  have e1 := ofString_cps (String.singleton ch)
  have e2 : (Str.ofString (String.singleton ch)).cps = #[ch.toNat] := Array.toList_inj.mp (by rw [e1, String.toList_singleton]; rfl)
  cases h2 : Str.ofString (String.singleton ch)
  rw [h2] at e2
  rw [show ∀ a b : Array Nat, a = b → (⟨a⟩ : Str) = ⟨b⟩ from fun _ _ h => by rw [h]]
  exact e2
theorem o_ix : Op2 oIx rIxA := by
  intro c G s σ H x y d v w Q r hx hy e g
  unfold oIx at e
  split at e
  · obtain ⟨a, vs, rfl, h1, h2⟩ := hx
    simp only [RDw, RD] at hy
    obtain ⟨u, q1, q2⟩ := h2.atI e
    exact .inl (.inl ⟨a, vs, _, u, rfl, hy, SqL.of h1, q1, g.here r q2⟩)
  · simp only [RDw] at hx hy
    unfold RD at hx hy
    obtain ⟨a, vs, rfl, f, h1, h2⟩ := hx
    obtain ⟨u, q1, q2⟩ := h2.atI e
    exact .inl (.inr (.inl ⟨a, vs, _, u, rfl, hy, SqT.of h1, q1, g.here r q2⟩))
  · simp only [RDw] at hx hy
    unfold RD at hx hy
    obtain ⟨a, o, rfl, f, h1⟩ := hx
    simp only [Option.map_eq_some_iff] at e
    obtain ⟨n, e, rfl⟩ := e
    exact .inl (.inl ⟨a, _, _, V.int n, rfl, hy, .inl (.inr ⟨o, h1⟩), by rw [ixN_map, e]; rfl, g.here r (by unfold RD; rfl)⟩)
  · split at e
    · rename_i hl
      simp only [RDw, RD] at hx hy
      simp only [Option.map_eq_some_iff] at e
      obtain ⟨ch, e, rfl⟩ := e
      refine .inl (.inr (.inr ⟨_, _, ch.toNat, hx, hy, by rw [ofString_len]; exact smallLine hl, ?_, ?_⟩))
      · rw [ofString_cps, ixN_map, e]
        rfl
      · exact g.here r (by unfold RD; rw [cps_one])
    · cases e
  · simp only [RDw, RD] at hx hy
    simp only [Option.map_eq_some_iff] at e
    obtain ⟨t, e, rfl⟩ := e
    obtain ⟨a, rfl, es, n, kd, hz, hw⟩ := hx
    rename_i kvs k
    have h := hz k
    rw [e] at h
    obtain ⟨tk, h⟩ := h
    exact .inr (.inr ⟨a, _, .str (Str.ofString t), rfl, hy, ⟨es, n, _, kd.at_, kd.lit, h, ⟨tk, rfl⟩⟩, g.here r (by unfold RD; rfl)⟩)
  · rename_i ks ds k
    simp only [RDw] at hx hy
    unfold RD at hx hy
    obtain ⟨a, vs, rfl, f, h1, hl, h2⟩ := hx
    have key : ∀ (ks : List String) (ds : List D) (vs : List V), RDs c G H ds vs → ((ks.zip ds).find? fun q => decide (q.1 = k)).map (·.2) = some d → ∃ u, ((ks.zip vs).find? fun q => decide (q.1 = k)).map (·.2) = some u ∧ RD c G H d u := by
      intro ks
      induction ks with
      | nil => intro ds vs _ h; cases h
      | cons x ks ih =>
        intro ds vs h q
        cases ds with
        | nil => cases q
        | cons d0 ds =>
          unfold RDs at h
          obtain ⟨u, rs, rfl, k1, k2⟩ := h
          rw [List.zip_cons_cons, List.find?_cons] at q ⊢
          by_cases hxk : x = k
          · subst hxk
            simp only [decide_true, Option.map_some, Option.some.injEq] at q ⊢
            subst q
            exact ⟨u, rfl, k1⟩
          · simp only [hxk, decide_false] at q ⊢
            exact ih ds rs k2 q
    obtain ⟨u, q1, q2⟩ := key ks ds vs h2 e
    refine .inr (.inl ⟨a, u, rfl, .inl ⟨_, .inr (Str.ofString k), .inl h1, hy, ?_⟩, g.here r q2⟩)
    rw [valV_zip ks vs (by rw [h2.length]; exact hl), q1]
  · split at e
    · rename_i kvs ky hm hk
      simp only [RDw] at hx
      unfold RD at hx
      obtain ⟨a, rfl, h1⟩ := hx
      obtain ⟨ws, q1, q2⟩ := r.obj _ a _ h1 hm
      have g1 := RDk.get (k := ky) q2
      rw [e] at g1
      obtain ⟨u, g2, g3⟩ := g1
      exact .inr (.inl ⟨a, u, rfl, .inl ⟨ws, toKey ky, .inl q1, keyOf_rel hk hy, g2.symm⟩, g.here r g3⟩)
    · cases e
  · cases e
section
variable {p : Pg} {Γ : NE} {a b : Expr} {pos : Pos}
theorem two_ix (hs : PlainIx b) : Two p Γ (.Subscript a b pos) a b rIxA := fun X ok c hc _ _ ha hb => by
  have e : c.K = X.K := hc.K.trans ok.K.symm
  have e2 : c.w = X.w := hc.w.trans ok.w.symm
  refine pe_ix ?_ ha hb hs
  unfold rIxA
  rw [e, e2]
  exact ix_seq.or ((ix_dget (by have := ok.u64; omega)).or ix_kdict)
end
end Ev

set_option maxHeartbeats 2000000
/-! Ev7: statements: blocks, assignments to names, return, if; lists that no one else knows. -/
namespace Ev
open PySem PySem.Spec PyProof.Rows L2

/-- a statement: none: on to the next; some d: it returns d -/
abbrev SM := PM (Option D)
def RunS (c : Cn) (W : WX) (m : SM) (G : GW) (s : S) (H : Hp) (E : Ends) : Prop := match m s with
  | .ok none s' => ∀ (G' : GW) (σ' : L2.St) (H' : Hp), Ext G H G' H' → Rs c G' s' σ' H' → E.nx σ' H'
  | .ok (some d) s' => ∀ (G' : GW) (σ' : L2.St) (H' : Hp) (v : V), Ext G H G' H' → Rs c G' s' σ' H' → RD c G' H' d v → E.rt v H'
  | .exc x fs s' => ∀ (G' : GW) (σ' : L2.St) (H' : Hp) (cls : Value) (dd : Option Addr), Ext G H G' H' → Rs c G' s' σ' H' → RX c G' H' x fs cls dd → W cls dd σ' H'
  | .bad => False
def tS (c : Cn) (W : WX) (m : SM) : TS := fun E σ H => ∃ G s, Rs c G s σ H ∧ RunS c W m G s H E
def SS (p : Pg) (Γ : NE) (st : Stmt) (m : SM) : Prop := ∀ X, XOk p Γ X → ∀ W, Takes X W → ∀ c, Cn.of p c → PS X st (tS c W m)
def SSs (p : Pg) (Γ : NE) (st : List Stmt) (m : SM) : Prop := ∀ X, XOk p Γ X → ∀ W, Takes X W → ∀ c, Cn.of p c → PSs X st (tS c W m)
theorem _root_.L2.PS.weak {X : Cx} {st : Stmt} {t t' : TS} (h : PS X st t) (k : ∀ E σ H, t' E σ H → t E σ H) : PS X st t' := ⟨fun pins s σ H D I q => h.run pins s σ H D I (k D σ H q)⟩
theorem _root_.L2.PSs.weak {X : Cx} {st : List Stmt} {t t' : TS} (h : PSs X st t) (k : ∀ E σ H, t' E σ H → t E σ H) : PSs X st t' := ⟨fun pins s σ H D I q => h.run pins s σ H D I (k D σ H q)⟩
section
variable {c : Cn} {W : WX} {G G' : GW} {s : S} {σ : L2.St} {H H' : Hp} {E : Ends}
theorem RunS.ext {m : SM} (x : Ext G H G' H') (h : RunS c W m G s H E) : RunS c W m G' s H' E := by
  unfold RunS at h ⊢
  cases e : m s with
  | ok a s' =>
    rw [e] at h
    cases a with
    | none => exact fun G2 σ2 H2 y r => h G2 σ2 H2 (x.trans y) r
    | some d => exact fun G2 σ2 H2 v y r q => h G2 σ2 H2 v (x.trans y) r q
  | exc n fs s' =>
    rw [e] at h
    exact fun G2 σ2 H2 cl dd y r q => h G2 σ2 H2 cl dd (x.trans y) r q
  | bad =>
    rw [e] at h
    exact h
/-- an expression ahead -/
theorem RunS.bind {α β : Type} {R : Cn → GW → Hp → α → β → Prop} {m : PM α} {f : α → SM} (h : RunS c W (m >>= f) G s H E) :
    Run R c W m G s σ H fun b H1 => ∃ G1 s1 a, Ext G H G1 H1 ∧ Rs c G1 s1 σ H1 ∧ R c G1 H1 a b ∧ RunS c W (f a) G1 s1 H1 E := by
  unfold Run
  unfold RunS at h
  rw [bind_eq] at h
  cases e : m s with
  | ok a s' =>
    rw [e] at h
    intro G1 H1 b x r q
    refine ⟨G1, s', a, x, r, q, ?_⟩
    have h' : RunS c W (f a) G s' H E := h
    exact h'.ext x
  | exc n fs s' =>
    rw [e] at h
    exact fun G1 H1 cl dd x r q => h G1 σ H1 cl dd x r q
  | bad =>
    rw [e] at h
    exact h
theorem RunS.next {m : SM} {s' : S} (e : m s = .ok none s') (h : RunS c W m G s H E) (x : Ext G H G' H') {σ' : L2.St} (r : Rs c G' s' σ' H') : E.nx σ' H' := by
  unfold RunS at h
  rw [e] at h
  exact h G' σ' H' x r
theorem RunS.ret {m : SM} {s' : S} {d : D} {v : V} (e : m s = .ok (some d) s') (h : RunS c W m G s H E) (x : Ext G H G' H') {σ' : L2.St} (r : Rs c G' s' σ' H') (q : RD c G' H' d v) : E.rt v H' := by
  unfold RunS at h
  rw [e] at h
  exact h G' σ' H' v x r q
end
/-! ### blocks -/
def sNil : SM := pure none
def sSeq (m n : SM) : SM := m >>= fun o => match o with
  | none => n
  | some d => pure (some d)
section
variable {p : Pg} {Γ : NE} {st : Stmt} {rest : List Stmt} {m n : SM}
theorem seq_run {c : Cn} {W : WX} {G : GW} {s : S} {H : Hp} {E : Ends} {m n : SM} (h : RunS c W (sSeq m n) G s H E) : RunS c W m G s H { E with nx := tS c W n E } := by
  unfold RunS sSeq at h
  unfold RunS
  rw [bind_eq] at h
  cases e : m s with
  | ok a s' =>
    rw [e] at h
    cases a with
    | none =>
      intro G1 σ1 H1 x r
      refine ⟨G1, s', r, ?_⟩
      have h' : RunS c W n G s' H E := h
      exact h'.ext x
    | some d => exact h
  | exc x fs s' =>
    rw [e] at h
    exact h
  | bad =>
    rw [e] at h
    exact h
theorem ss_nil : SSs p Γ [] sNil := by
  intro X ok W tk c hc
  refine pss_nil.weak fun E σ H h => ?_
  obtain ⟨G, s, r, h⟩ := h
  exact h.next rfl (.refl _ _) r
theorem ss_cons (h1 : SS p Γ st m) (h2 : SSs p Γ rest n) : SSs p Γ (st :: rest) (sSeq m n) := by
  intro X ok W tk c hc
  refine (pss_cons (h1 X ok W tk c hc) (h2 X ok W tk c hc)).weak fun E σ H h => ?_
  obtain ⟨G, s, r, h⟩ := h
  exact ⟨G, s, r, seq_run h⟩
theorem ss_one (h1 : SS p Γ st m) : SSs p Γ [st] m := fun X ok W tk c hc => pss_one (h1 X ok W tk c hc)
theorem ss_pass {pos : Pos} : SS p Γ (.Pass pos) sNil := by
  intro X ok W tk c hc
  refine ps_pass.weak fun E σ H h => ?_
  obtain ⟨G, s, r, h⟩ := h
  exact h.next rfl (.refl _ _) r
def sRet (m : PM D) : SM := m >>= fun d => pure (some d)
theorem ss_ret {e : Expr} {pos : Pos} {m : PM D} (h : SE p Γ e m) : SS p Γ (.Return (some e) pos) (sRet m) := by
  intro X ok W tk c hc
  refine (ps_ret (h X ok W tk c hc)).weak fun E σ H h => ?_
  obtain ⟨G, s, r, h⟩ := h
  exact ⟨G, s, r, (RunS.bind (R := RD) h).mono fun v H1 ⟨G1, s1, d, x1, r1, q1, h1⟩ => h1.ret rfl (.refl _ _) r1 q1⟩
def sRetN : SM := pure (some .non)
theorem ss_retN {pos : Pos} : SS p Γ (.Return none pos) sRetN := by
  intro X ok W tk c hc
  refine ps_retN.weak fun E σ H h => ?_
  obtain ⟨G, s, r, h⟩ := h
  exact h.ret rfl (.refl _ _) r (by unfold RD; rfl)
def sExpr (m : PM D) : SM := m >>= fun _ => pure none
theorem ss_expr {e : Expr} {pos : Pos} {m : PM D} (h : SE p Γ e m) (hs : ∀ env, swapsWith e none pos.line env = pure false) : SS p Γ (.Expr e pos) (sExpr m) := by
  intro X ok W tk c hc
  refine (ps_expr (h X ok W tk c hc) (hs X.env)).weak fun E σ H h => ?_
  obtain ⟨G, s, r, h⟩ := h
  exact ⟨G, s, r, (RunS.bind (R := RD) h).mono fun v H1 ⟨G1, s1, d, x1, r1, q1, h1⟩ => h1.next rfl (.refl _ _) r1⟩
theorem ss_if {ce : Expr} {a b : List Stmt} {pos : Pos} {t : PM Bool} (ht : ST p Γ ce t) (ha : SSs p Γ a m) (hb : SSs p Γ b n) : SS p Γ (.If ce a b pos) (eIf t m n) := by
  intro X ok W tk c hc
  refine (ps_if (ht X ok W tk c hc) (ha X ok W tk c hc) (hb X ok W tk c hc)).weak fun E σ H h => ?_
  obtain ⟨G, s, r, h⟩ := h
  refine ⟨G, s, r, (RunS.bind (R := REq) h).mono fun v H1 ⟨G1, s1, d, x1, r1, q1, h1⟩ => ?_⟩
  cases q1
  cases v with
  | true =>
    rw [if_pos rfl]
    exact ⟨G1, s1, r1, h1⟩
  | false =>
    rw [if_neg (by decide)]
    exact ⟨G1, s1, r1, h1⟩
end
/-! ### a name is given a value -/
def setSlot (i : Nat) (v : SV) : PM Unit := fun s => if i < s.σ.length then .ok () { s with σ := s.σ.set i v } else .bad
section
variable {c : Cn} {G G' : GW} {s : S} {σ : L2.St} {H H' : Hp}
/-- no one knows the object at p -/
structure Unk (c : Cn) (G : GW) (s : S) (σ : L2.St) (p : Addr) : Prop where
  F : ¬ G.F p
  hp : p ∉ G.hp
  H0 : c.H0 p = none
  own : ∀ (i : Nat) (v : SV), s.σ[i]? = some v → v.own = true → σ[i]? ≠ some (some (V.ref p))
theorem Rs.setSlot {i : Nat} {v : SV} {y : V} (r : Rs c G s σ H) (hi : i < s.σ.length) (hv : RSV c G H v (some (some y))) (hu : v.own = true → ∀ p, y = V.ref p → Unk c G s σ p) : Rs c G { s with σ := s.σ.set i v } (σ.set i (some y)) H := by
  have hi' : i < σ.length := by rw [← r.len]; exact hi
  refine { len := by simp only [List.length_set]; exact r.len, at_ := fun j w ej => ?_, sep := fun j k w z b ej ek ow oz hj hk => ?_, hlen := r.hlen, nd := r.nd, obj := r.obj, dis := r.dis, live := r.live, keep := r.keep, pre := r.pre, new := r.new, newF := r.newF, nF := r.nF, nt := r.nt, tabs := r.tabs }
  · have ej : (s.σ.set i v)[j]? = some w := ej
    by_cases hj : i = j
    · subst hj
      rw [List.getElem?_set_self hi] at ej
      cases ej
      rw [List.getElem?_set_self hi']
      exact hv
    · rw [List.getElem?_set_ne hj] at ej
      rw [List.getElem?_set_ne hj]
      exact r.at_ j w ej
  · have ej : (s.σ.set i v)[j]? = some w := ej
    have ek : (s.σ.set i v)[k]? = some z := ek
    by_cases nj : i = j
    · by_cases nk : i = k
      · exact nj.symm.trans nk
      · subst nj
        rw [List.getElem?_set_self hi] at ej
        cases ej
        rw [List.getElem?_set_self hi'] at hj
        rw [List.getElem?_set_ne nk] at ek hk
        injection hj with hj
        injection hj with hj
        exact absurd hk ((hu ow b hj).own k z ek oz)
    · by_cases nk : i = k
      · subst nk
        rw [List.getElem?_set_self hi] at ek
        cases ek
        rw [List.getElem?_set_self hi'] at hk
        rw [List.getElem?_set_ne nj] at ej hj
        injection hk with hk
        injection hk with hk
        exact absurd hj ((hu oz b hk).own j w ej ow)
      · rw [List.getElem?_set_ne nj] at ej hj
        rw [List.getElem?_set_ne nk] at ek hk
        exact r.sep j k w z b ej ek ow oz hj hk
theorem Rs.fresh_unk (r : Rs c G s σ H) {p : Addr} (h : H p = none) : Unk c G s σ p where
  F := fun z => by
    obtain ⟨o, e⟩ := r.live p z
    rw [h] at e
    cases e
  hp := fun z => by
    obtain ⟨o, e⟩ := r.hp_some z
    rw [h] at e
    cases e
  H0 := by
    cases e : c.H0 p with
    | none => rfl
    | some u =>
      by_cases hm : p ∈ c.hp0
      · obtain ⟨o, e⟩ := r.hp_some (r.pre.subset hm)
        rw [h] at e
        cases e
      · have := r.keep p u e hm
        rw [h] at this
        cases this
  own := fun i v e hv z => by
    obtain ⟨o, e⟩ := r.own_some e hv z
    rw [h] at e
    cases e
end
def sSet (i : Nat) (m : PM D) : SM := m >>= fun d => setSlot i (.val d) >>= fun _ => pure none
theorem setSlot_run {c : Cn} {W : WX} {G : GW} {s : S} {σ : L2.St} {H : Hp} {E : Ends} {i : Nat} {v : SV} {y : V} {f : SM} (r : Rs c G s σ H) (hv : RSV c G H v (some (some y))) (hu : v.own = true → ∀ p, y = V.ref p → Unk c G s σ p) (h : RunS c W (setSlot i v >>= fun _ => f) G s H E) :
    ∃ s', Rs c G s' (σ.set i (some y)) H ∧ RunS c W f G s' H E := by
  unfold RunS at h
  rw [bind_eq] at h
  unfold setSlot at h
  by_cases hi : i < s.σ.length
  · rw [if_pos hi] at h
    exact ⟨_, r.setSlot hi hv hu, h⟩
  · rw [if_neg hi] at h
    exact h.elim
section
variable {p : Pg} {Γ : NE}
theorem ss_set {i : Nat} {x : Str} {e : Expr} {m : PM D} {pos pos' : Pos} (hN : Γ.N[i]? = some x) (hi : i ∈ Γ.st) (he : SE p Γ e m) (hs : ∀ env, swapsWith e (some (.Name x pos')) pos.line env = pure false) :
    SS p Γ (.Assign [.Name x pos'] e pos) (sSet i m) := by
  intro X ok W tk c hc
  obtain ⟨l1, l2⟩ := ok.sto i hi x hN
  refine (ps_set (i := i) (by rw [ok.N]; exact ok.nd) (by rw [ok.N]; exact hN) l1 (he X ok W tk c hc) (hs X.env) l2).weak fun E σ H h => ?_
  obtain ⟨G, s, r, h⟩ := h
  refine ⟨G, s, r, (RunS.bind (R := RD) h).mono fun v H1 ⟨G1, s1, d, x1, r1, q1, h1⟩ => ?_⟩
  obtain ⟨s', r', h'⟩ := setSlot_run r1 (v := .val d) (y := v) ⟨v, rfl, q1⟩ (fun z => by cases z) h1
  exact h'.next rfl (.refl _ _) r'
end
end Ev

set_option maxHeartbeats 2000000
/-! Ev8: new lists, what becomes of them; lists that are changed by methods. -/
namespace Ev
open PySem PySem.Spec PyProof.Rows L2

section
variable {c : Cn} {G G' : GW} {s : S} {σ : L2.St} {H H' : Hp}
theorem Unk.of_eq {s' : S} {p : Addr} (u : Unk c G s σ p) (e : s'.σ = s.σ) : Unk c G s' σ p := ⟨u.F, u.hp, u.H0, fun i v h => u.own i v (e ▸ h)⟩
/-- an object that no one knows gets a number -/
theorem Rs.adopt (r : Rs c G s σ H) {p : Addr} {mo : MO} (u : Unk c G s σ p) (hro : RO c (G.add p) H p mo) :
    Ext G H (G.add p) H ∧ Rs c (G.add p) { s with M := s.M ++ [mo] } σ H := by
  have x : Ext G H (G.add p) H := Ext.add _ _ _
  refine ⟨x, { len := r.len, at_ := fun i v e => ?_, sep := r.sep, hlen := by simp [GW.add, r.hlen], nd := ?_, obj := fun n a o' h1 h2 => ?_, dis := fun a ha h => ?_, live := r.live, keep := r.keep, pre := r.pre.trans (List.prefix_append _ _), new := fun a ha => ?_, newF := r.newF, nF := r.nF, nt := r.nt, tabs := r.tabs }⟩
  · have q := r.at_ i v e
    cases hv : v.own with
    | false => exact q.mono_val x hv
    | true =>
      cases v with
      | ul xs =>
        obtain ⟨a, vs, h1, h2, h3, h4, h5, h6⟩ := q
        refine ⟨a, vs, h1, h2, h3.mono x, h4, fun z => ?_, h6⟩
        rcases List.mem_append.mp z with z | z
        · exact h5 z
        · rw [List.mem_singleton.mp z] at h1
          exact u.own i _ e rfl h1
      | ud xs =>
        obtain ⟨a, vs, h1, h2, h3, h4, h5, h6⟩ := q
        refine ⟨a, vs, h1, h2, h3.mono x, h4, fun z => ?_, h6⟩
        rcases List.mem_append.mp z with z | z
        · exact h5 z
        · rw [List.mem_singleton.mp z] at h1
          exact u.own i _ e rfl h1
      | _ => cases hv
  · refine List.nodup_append.mpr ⟨r.nd, by simp, fun a ha b hb => ?_⟩
    rw [List.mem_singleton.mp hb]
    exact fun z => u.hp (z ▸ ha)
  · by_cases hn : n < G.hp.length
    · have h1' : G.hp[n]? = some a := by
        have h1 : (G.hp ++ [p])[n]? = some a := h1
        rw [List.getElem?_append_left hn] at h1
        exact h1
      have h2' : s.M[n]? = some o' := by
        rw [List.getElem?_append_left (by rw [← r.hlen]; exact hn)] at h2
        exact h2
      exact (r.obj n a o' h1' h2').mono x rfl
    · have h1 : (G.hp ++ [p])[n]? = some a := h1
      have h2 : (s.M ++ [mo])[n]? = some o' := h2
      rw [List.getElem?_append_right (by omega)] at h1
      rw [List.getElem?_append_right (by rw [← r.hlen]; omega)] at h2
      rw [← r.hlen] at h2
      cases q : n - G.hp.length with
      | zero =>
        rw [q] at h1 h2
        cases h1
        cases h2
        exact hro
      | succ m =>
        rw [q] at h1
        simp at h1
  · rcases List.mem_append.mp ha with z | z
    · exact r.dis a z h
    · rw [List.mem_singleton.mp z] at h
      exact u.F h
  · rcases List.mem_append.mp ha with z | z
    · exact r.new a z
    · rw [List.mem_singleton.mp z]
      exact .inr u.H0
/-- the object in slot i is changed -/
theorem Rs.updU {i : Nat} {v v' : SV} {a : Addr} {o : HO} (r : Rs c G s σ H) (e : s.σ[i]? = some v) (hv : v.own = true) (hv' : v'.own = true) (ha : σ[i]? = some (some (V.ref a))) (hF : ¬ G.F a) (hh : a ∉ G.hp) (h0 : c.H0 a = none) (hnt : NoCode (H a))
    (new : ∀ x : Ext G H G (upd H a o), RSV c G (upd H a o) v' (some (some (V.ref a)))) : Ext G H G (upd H a o) ∧ Rs c G { s with σ := s.σ.set i v' } σ (upd H a o) := by
  have x : Ext G H G (upd H a o) := ⟨fun _ h => h, List.prefix_refl _, fun b hb => upd_ne (fun z => hF (z ▸ hb)), fun b q e => by rw [upd_ne (fun z => hnt.ne (z ▸ e))]; exact e⟩
  have hi : i < s.σ.length := (List.getElem?_eq_some_iff.mp e).1
  refine ⟨x, { len := by simp only [List.length_set]; exact r.len, at_ := fun j w ej => ?_, sep := fun j k w z b ej ek ow oz hj hk => ?_, hlen := r.hlen, nd := r.nd, obj := fun n b mo h1 h2 => ?_, dis := r.dis, live := fun b hb => ?_, keep := fun b u h1 h2 => ?_, pre := r.pre, new := r.new, newF := r.newF, nF := fun b ps h e => r.nF b ps h ((x.st b h).symm.trans e), nt := r.nt, tabs := r.tabs.updN hnt }⟩
  · have ej : (s.σ.set i v')[j]? = some w := ej
    by_cases hj : i = j
    · subst hj
      rw [List.getElem?_set_self hi] at ej
      cases ej
      rw [ha]
      exact new x
    · rw [List.getElem?_set_ne hj] at ej
      have q := r.at_ j w ej
      cases hw : w.own with
      | false => exact q.mono_val x hw
      | true =>
        cases w with
        | ul ys =>
          obtain ⟨b, vs, q1, q2, q3, q4⟩ := q
          have nb : b ≠ a := fun z => hj (r.sep i j _ _ a e ej hv rfl ha (z ▸ q1))
          exact ⟨b, vs, q1, (upd_ne nb).trans q2, q3.mono x, q4⟩
        | ud ys =>
          obtain ⟨b, vs, q1, q2, q3, q4⟩ := q
          have nb : b ≠ a := fun z => hj (r.sep i j _ _ a e ej hv rfl ha (z ▸ q1))
          exact ⟨b, vs, q1, (upd_ne nb).trans q2, q3.mono x, q4⟩
        | _ => cases hw
  · have ej : (s.σ.set i v')[j]? = some w := ej
    have ek : (s.σ.set i v')[k]? = some z := ek
    have old : ∀ {j : Nat} {w : SV}, (s.σ.set i v')[j]? = some w → w.own = true → ∃ w', s.σ[j]? = some w' ∧ w'.own = true := fun {j w} ej ow => by
      by_cases hj : i = j
      · subst hj
        exact ⟨v, e, hv⟩
      · rw [List.getElem?_set_ne hj] at ej
        exact ⟨w, ej, ow⟩
    obtain ⟨w', k1, k2⟩ := old ej ow
    obtain ⟨z', k3, k4⟩ := old ek oz
    exact r.sep j k w' z' b k1 k3 k2 k4 hj hk
  · have nb : b ≠ a := fun z => hh (z ▸ List.mem_of_getElem? h1)
    exact (r.obj n b mo h1 h2).mono x (upd_ne nb)
  · obtain ⟨u, e'⟩ := r.live b hb
    exact ⟨u, (x.st b hb).trans e'⟩
  · have nb : b ≠ a := fun z => by
      rw [z, h0] at h1
      cases h1
    exact (upd_ne nb).trans (r.keep b u h1 h2)
/-- the n-th object is changed -/
theorem Rs.updM {n : Nat} {mo : MO} {a : Addr} {o : HO} (r : Rs c G s σ H) (ha : G.hp[n]? = some a) (hn : n < s.M.length) (hnt : NoCode (H a))
    (new : ∀ x : Ext G H G (upd H a o), RO c G (upd H a o) a mo) : Ext G H G (upd H a o) ∧ Rs c G { s with M := s.M.set n mo } σ (upd H a o) := by
  have ham : a ∈ G.hp := List.mem_of_getElem? ha
  have hF : ¬ G.F a := r.dis a ham
  have x : Ext G H G (upd H a o) := ⟨fun _ h => h, List.prefix_refl _, fun b hb => upd_ne (fun z => hF (z ▸ hb)), fun b q e => by rw [upd_ne (fun z => hnt.ne (z ▸ e))]; exact e⟩
  refine ⟨x, { len := r.len, at_ := fun j w ej => ?_, sep := r.sep, hlen := by simp [r.hlen], nd := r.nd, obj := fun m b mo' h1 h2 => ?_, dis := r.dis, live := fun b hb => ?_, keep := fun b u h1 h2 => ?_, pre := r.pre, new := r.new, newF := r.newF, nF := fun b ps h e => r.nF b ps h ((x.st b h).symm.trans e), nt := r.nt, tabs := r.tabs.updN hnt }⟩
  · have q := r.at_ j w ej
    cases hw : w.own with
    | false => exact q.mono_val x hw
    | true =>
      cases w with
      | ul ys =>
        obtain ⟨b, vs, q1, q2, q3, q4, q5, q6⟩ := q
        have nb : b ≠ a := fun z => q5 (z ▸ ham)
        exact ⟨b, vs, q1, (upd_ne nb).trans q2, q3.mono x, q4, q5, q6⟩
      | ud ys =>
        obtain ⟨b, vs, q1, q2, q3, q4, q5, q6⟩ := q
        have nb : b ≠ a := fun z => q5 (z ▸ ham)
        exact ⟨b, vs, q1, (upd_ne nb).trans q2, q3.mono x, q4, q5, q6⟩
      | _ => cases hw
  · have h2 : (s.M.set n mo)[m]? = some mo' := h2
    by_cases hm : n = m
    · subst hm
      rw [List.getElem?_set_self hn] at h2
      cases h2
      rw [ha] at h1
      cases h1
      exact new x
    · rw [List.getElem?_set_ne hm] at h2
      have nb : b ≠ a := fun z => by
        subst z
        obtain ⟨l1, e1⟩ := List.getElem?_eq_some_iff.mp h1
        obtain ⟨l2, e2⟩ := List.getElem?_eq_some_iff.mp ha
        exact hm ((List.getElem_inj r.nd).mp (e2.trans e1.symm))
      exact (r.obj m b mo' h1 h2).mono x (upd_ne nb)
  · obtain ⟨u, e'⟩ := r.live b hb
    exact ⟨u, (x.st b hb).trans e'⟩
  · have nb : b ≠ a := fun z => by
      subst z
      rcases r.new b ham with z | z
      · exact h2 z
      · rw [z] at h1
        cases h1
    exact (upd_ne nb).trans (r.keep b u h1 h2)
end
/-! ### new lists -/
def RunF (c : Cn) (W : WX) (m : PM (List D)) (G : GW) (s : S) (σ : L2.St) (H : Hp) (Q : VK) : Prop := match m s with
  | .ok xs s' => ∀ (G' : GW) (H' : Hp) (p : Addr) (vs : List V), Ext G H G' H' → Rs c G' s' σ H' → H' p = some (.lst vs) → RDs c G' H' xs vs → Unk c G' s' σ p → Q (.ref p) H'
  | .exc x fs s' => ∀ (G' : GW) (H' : Hp) (cls : Value) (dd : Option Addr), Ext G H G' H' → Rs c G' s' σ H' → RX c G' H' x fs cls dd → W cls dd σ H'
  | .bad => False
def tF (c : Cn) (W : WX) (m : PM (List D)) : TE := fun σ H Q => ∃ G s, Rs c G s σ H ∧ RunF c W m G s σ H Q
/-- e makes a new list -/
def SF (p : Pg) (Γ : NE) (e : Expr) (m : PM (List D)) : Prop := ∀ X, XOk p Γ X → ∀ W, Takes X W → ∀ c, Cn.of p c → PE X e (tF c W m)
section
variable {c : Cn} {W : WX} {G G' : GW} {s : S} {σ : L2.St} {H H' : Hp} {E : Ends} {Q : VK}
theorem RunF.new {m : PM (List D)} {xs : List D} {vs : List V} {p : Addr} (e : m s = .ok xs s) (h : RunF c W m G s σ H Q) (r : Rs c G s σ H) (q : RDs c G H xs vs) (hp : H p = none) : Q (.ref p) (upd H p (.lst vs)) := by
  unfold RunF at h
  rw [e] at h
  have hs := upd_grow (o := .lst vs) hp
  exact h G _ p vs (r.ext_of hs) (r.grow hs) upd_same (q.mono (r.ext_of hs)) (r.fresh_unk hp)
/-- an expression ahead -/
theorem RunF.bind {α β : Type} {R : Cn → GW → Hp → α → β → Prop} {m : PM α} {f : α → PM (List D)} (h : RunF c W (m >>= f) G s σ H Q) :
    Run R c W m G s σ H fun b H1 => ∃ G1 s1 a, Ext G H G1 H1 ∧ Rs c G1 s1 σ H1 ∧ R c G1 H1 a b ∧ RunF c W (f a) G1 s1 σ H1 Q := by
  unfold Run
  unfold RunF at h
  rw [bind_eq] at h
  cases e : m s with
  | ok a s' =>
    rw [e] at h
    intro G1 H1 b x r q
    refine ⟨G1, s', a, x, r, q, ?_⟩
    have h' : RunF c W (f a) G s' σ H Q := h
    unfold RunF at h' ⊢
    cases e2 : f a s' with
    | ok xs s2 =>
      rw [e2] at h'
      exact fun G2 H2 p vs y => h' G2 H2 p vs (x.trans y)
    | exc n fs s2 =>
      rw [e2] at h'
      exact fun G2 H2 cl dd y => h' G2 H2 cl dd (x.trans y)
    | bad =>
      rw [e2] at h'
      exact h'
  | exc n fs s' =>
    rw [e] at h
    exact h
  | bad =>
    rw [e] at h
    exact h
theorem Unk.fz_rs {p : Addr} {vs : List V} {xs : List D} (u : Unk c G s σ p) (r : Rs c G s σ H) (hp : H p = some (.lst vs)) (q : RDs c G H xs vs) : Ext G H (G.fz p) H ∧ Rs c (G.fz p) s σ H ∧ RD c (G.fz p) H (.lst xs) (V.ref p) := by
  have x := Ext.fz G H p
  refine ⟨x, r.mark hp u.hp (by intro _ h; cases h) u.H0 u.own, ?_⟩
  unfold RD
  exact ⟨p, vs, rfl, .inr rfl, hp, q.mono x⟩
end
/-- the new list is never changed -/
def eFz (m : PM (List D)) : PM D := m >>= fun xs => pure (.lst xs)
/-- the new list may be changed later on, known by a number -/
def newRef (o : MO) : PM D := fun s => .ok (.ref s.M.length) { s with M := s.M ++ [o] }
def eHp (m : PM (List D)) : PM D := m >>= fun xs => newRef (.lst xs)
/-- the new list is a name's alone -/
def sSetU (i : Nat) (m : PM (List D)) : SM := m >>= fun xs => setSlot i (.ul xs) >>= fun _ => pure none
section
variable {p : Pg} {Γ : NE} {e : Expr} {m : PM (List D)}
theorem se_fz (h : SF p Γ e m) : SE p Γ e (eFz m) := by
  intro X ok W tk c hc
  refine (h X ok W tk c hc).weak fun σ H Q h => ?_
  obtain ⟨G, s, r, h⟩ := h
  refine ⟨G, s, r, ?_⟩
  unfold Run eFz at h
  rw [bind_eq] at h
  unfold RunF
  cases e : m s with
  | ok xs s' =>
    rw [e] at h
    intro G1 H1 q vs x r1 hp hq u
    obtain ⟨x2, r2, d2⟩ := u.fz_rs r1 hp hq
    exact h _ _ _ (x.trans x2) r2 d2
  | exc n fs s' =>
    rw [e] at h
    exact h
  | bad =>
    rw [e] at h
    exact h
theorem se_hp (h : SF p Γ e m) : SE p Γ e (eHp m) := by
  intro X ok W tk c hc
  refine (h X ok W tk c hc).weak fun σ H Q h => ?_
  obtain ⟨G, s, r, h⟩ := h
  refine ⟨G, s, r, ?_⟩
  unfold Run eHp at h
  rw [bind_eq] at h
  unfold RunF
  cases e : m s with
  | ok xs s' =>
    rw [e] at h
    intro G1 H1 q vs x r1 hp hq u
    have x2 : Ext G1 H1 (G1.add q) H1 := Ext.add _ _ _
    obtain ⟨_, r2⟩ := r1.adopt (mo := .lst xs) u ⟨vs, hp, hq.mono x2⟩
    refine h _ _ _ (x.trans x2) r2 ?_
    unfold RD
    exact ⟨q, rfl, by rw [← r1.hlen]; simp [GW.add]⟩
  | exc n fs s' =>
    rw [e] at h
    exact h
  | bad =>
    rw [e] at h
    exact h
theorem ss_setU {i : Nat} {x : Str} {pos pos' : Pos} (hN : Γ.N[i]? = some x) (hi : i ∈ Γ.st) (he : SF p Γ e m) (hs : ∀ env, swapsWith e (some (.Name x pos')) pos.line env = pure false) :
    SS p Γ (.Assign [.Name x pos'] e pos) (sSetU i m) := by
  intro X ok W tk c hc
  obtain ⟨l1, l2⟩ := ok.sto i hi x hN
  refine (ps_set (i := i) (by rw [ok.N]; exact ok.nd) (by rw [ok.N]; exact hN) l1 (he X ok W tk c hc) (hs X.env) l2).weak fun E σ H h => ?_
  obtain ⟨G, s, r, h⟩ := h
  refine ⟨G, s, r, ?_⟩
  unfold RunS sSetU at h
  rw [bind_eq] at h
  unfold RunF
  cases e : m s with
  | ok xs s' =>
    rw [e] at h
    intro G1 H1 q vs x r1 hp hq u
    have h' : RunS c W (setSlot i (.ul xs) >>= fun _ => pure none) G s' H E := h
    obtain ⟨s2, r2, h2⟩ := setSlot_run r1 (v := .ul xs) (y := V.ref q) ⟨q, vs, rfl, hp, hq, u.F, u.hp, u.H0⟩ (fun _ b hb => by cases hb; exact u) (h'.ext x)
    exact h2.next rfl (.refl _ _) r2
  | exc n fs s' =>
    rw [e] at h
    exact fun G1 H1 cl dd x r q => h G1 σ H1 cl dd x r q
  | bad =>
    rw [e] at h
    exact h
end
/-- [a, b, ..] -/
def sized (ds : List D) : PM (List D) := fun s => if ds.length ≤ 1000 then .ok ds s else .bad
def fLst (ms : PM (List D)) : PM (List D) := ms >>= sized
/-- x + y -/
def fCat (x y : D) : PM (List D) := fun s => match vw s.M x, vw s.M y with
  | .lst a, .lst b => if a.length + b.length ≤ small then .ok (a ++ b) s else .bad
  | _, _ => .bad
def fAdd (ma mb : PM D) : PM (List D) := ma >>= fun x => mb >>= fun y => fCat x y
def fAddP (i : Nat) (mb : PM D) : PM (List D) := chk i >>= fun _ => mb >>= fun y => ePeek i >>= fun x => fCat x y
section
variable {p : Pg} {Γ : NE} {a b : Expr} {es : List Expr} {ms : PM (List D)} {ma mb : PM D} {pos : Pos}
theorem sf_lst (h : SA p Γ es ms) : SF p Γ (.List es pos) (fLst ms) := by
  intro X ok W tk c hc
  refine (pe_lst (h X ok W tk c hc)).weak fun σ H Q h => ?_
  obtain ⟨G, s, r, h⟩ := h
  refine ⟨G, s, r, (RunF.bind (R := RDs) h).mono fun vs H1 ⟨G1, s1, ds, x1, r1, q1, h1⟩ => ?_⟩
  by_cases hl : ds.length ≤ 1000
  · exact ⟨by rw [q1.length]; exact line1000 hl, fun p hp => h1.new (by unfold sized; rw [if_pos hl]) r1 q1 hp⟩
  · unfold RunF sized at h1
    rw [if_neg hl] at h1
    exact h1.elim
theorem fCat_run {c : Cn} {W : WX} {G : GW} {s : S} {σ : L2.St} {H : Hp} {Q : VK} {x y : D} {v w : V} (r : Rs c G s σ H) (hx : RDw c G H (vw s.M x) v) (hy : RDw c G H (vw s.M y) w) (h : RunF c W (fCat x y) G s σ H Q) : rCat v w H Q := by
  have h0 := h
  unfold RunF fCat at h
  split at h
  · rename_i e
    split at e
    · rename_i xs ys ex ey
      split at e
      · rename_i hl
        rw [ex] at hx
        rw [ey] at hy
        obtain ⟨a, vs, rfl, h1, h2⟩ := hx
        obtain ⟨b, ws, rfl, k1, k2⟩ := hy
        exact ⟨a, b, vs, ws, rfl, rfl, h1, k1, by rw [h2.length, k2.length]; exact smallLine hl, fun p hp => h0.new (by unfold fCat; rw [ex, ey]; dsimp only; rw [if_pos hl]) r (h2.app k2) hp⟩
      · cases e
    · cases e
  · rename_i e
    split at e
    · split at e <;> cases e
    · cases e
  · exact h.elim
theorem sf_add (ha : SE p Γ a ma) (hb : SE p Γ b mb) : SF p Γ (.BinOp a .Add b pos) (fAdd ma mb) := by
  intro X ok W tk c hc
  refine (pe_op op_cat (ha X ok W tk c hc) (hb X ok W tk c hc)).weak fun σ H Q h => ?_
  obtain ⟨G, s, r, h⟩ := h
  refine ⟨G, s, r, (RunF.bind (R := RD) h).mono fun v H1 ⟨G1, s1, x, x1, r1, q1, h1⟩ => ?_⟩
  refine ⟨G1, s1, r1, (RunF.bind (R := RD) h1).mono fun w H2 ⟨G2, s2, y, x2, r2, q2, h2⟩ => ?_⟩
  exact fCat_run r2 (r2.view (q1.mono x2)) (r2.view q2) h2
theorem chk_runF {c : Cn} {W : WX} {G : GW} {s : S} {σ : L2.St} {H : Hp} {Q : VK} {i : Nat} {g : Unit → PM (List D)} (r : Rs c G s σ H) (h : RunF c W (chk i >>= g) G s σ H Q) : ∃ y, σ[i]? = some (some y) ∧ RunF c W (g ()) G s σ H Q := by
  unfold RunF at h
  rw [bind_eq] at h
  unfold chk at h
  cases e : s.σ[i]? with
  | none => rw [e] at h; exact h.elim
  | some v =>
    rw [e] at h
    cases v with
    | val d =>
      obtain ⟨y, q1, q2⟩ := r.at_ i _ e
      exact ⟨y, q1, h⟩
    | ul xs =>
      obtain ⟨a, vs, q1, q2⟩ := r.at_ i _ e
      exact ⟨_, q1, h⟩
    | ud xs =>
      obtain ⟨a, vs, q1, q2⟩ := r.at_ i _ e
      exact ⟨_, q1, h⟩
    | _ => exact h.elim
theorem ePeek_runF {c : Cn} {W : WX} {G : GW} {s : S} {σ : L2.St} {H : Hp} {Q : VK} {i : Nat} {g : D → PM (List D)} (r : Rs c G s σ H) (h : RunF c W (ePeek i >>= g) G s σ H Q) : ∃ x y, σ[i]? = some (some y) ∧ RDw c G H (vw s.M x) y ∧ RunF c W (g x) G s σ H Q := by
  unfold RunF at h
  rw [bind_eq] at h
  unfold ePeek at h
  cases e : s.σ[i]? with
  | none => rw [e] at h; exact h.elim
  | some v =>
    rw [e] at h
    cases v with
    | val d =>
      obtain ⟨y, q1, q2⟩ := r.at_ i _ e
      exact ⟨d, y, q1, r.view q2, h⟩
    | ul xs =>
      obtain ⟨y, q1, q2⟩ := r.peek e
      exact ⟨.lst xs, y, q1, q2, h⟩
    | _ => exact h.elim
theorem sf_addP {i : Nat} {x : Str} {pos' : Pos} (hN : Γ.N[i]? = some x) (hi : i ∈ Γ.see) (hb : SE p Γ b mb) : SF p Γ (.BinOp (.Name x pos') .Add b pos) (fAddP i mb) := by
  intro X ok W tk c hc
  obtain ⟨v1, v2, v3⟩ := ok.vis i hi x hN
  refine (pe_op op_cat (pe_var (i := i) (by rw [ok.N]; exact hN) v1 v2 v3) (hb X ok W tk c hc)).weak fun σ H Q h => ?_
  obtain ⟨G, s, r, h⟩ := h
  obtain ⟨v, hv, h⟩ := chk_runF r h
  refine ⟨v, hv, G, s, r, (RunF.bind (R := RD) h).mono fun w H2 ⟨G2, s2, y, x2, r2, q2, h2⟩ => ?_⟩
  obtain ⟨d0, v', hv', q, h3⟩ := ePeek_runF r2 h2
  have e0 : v' = v := by
    rw [hv] at hv'
    exact (Option.some.inj (Option.some.inj hv')).symm
  subst e0
  exact fCat_run r2 q (r2.view q2) h3
end
/-! ### lists changed by methods -/
/-- the n-th object, a list, is changed by f -/
def mutR (n : Nat) (f : List D → Option (List D × D)) : PM D := fun s => match s.M[n]? with
  | some (.lst xs) => match f xs with
    | some (ys, d) => .ok d { s with M := s.M.set n (.lst ys) }
    | none => .bad
  | _ => .bad
/-- the list of the name in slot i is changed by f -/
def mutN (i : Nat) (f : List D → Option (List D × D)) : PM D := fun s => match s.σ[i]? with
  | some (.ul xs) => match f xs with
    | some (ys, d) => .ok d { s with σ := s.σ.set i (.ul ys) }
    | none => .bad
  | some (.val (.ref n)) => mutR n f s
  | _ => .bad
def mutV (x : D) (f : List D → Option (List D × D)) : PM D := match x with
  | .ref n => mutR n f
  | _ => stuck
/-- what a change of the list at a comes to -/
def Muts (c : Cn) (G : GW) (σ : L2.St) (H : Hp) (a : Addr) (f : List D → Option (List D × D)) (Q : VK) : Prop :=
  ∃ (vs : List V) (xs ys : List D) (d : D), H a = some (.lst vs) ∧ RDs c G H xs vs ∧ f xs = some (ys, d) ∧ ∀ (ws : List V) (v : V), RDs c G H ys ws → (∀ x : Ext G H G (upd H a (.lst ws)), RD c G (upd H a (.lst ws)) d v) → Q v (upd H a (.lst ws))
section
variable {c : Cn} {W : WX} {G : GW} {s : S} {σ : L2.St} {H : Hp} {Q : VK} {f : List D → Option (List D × D)}
theorem mutR_run {n : Nat} (r : Rs c G s σ H) {a : Addr} (ha : G.hp[n]? = some a) (h : Run RD c W (mutR n f) G s σ H Q) : Muts c G σ H a f Q := by
  unfold Run mutR at h
  cases e : s.M[n]? with
  | none => rw [e] at h; exact h.elim
  | some o =>
    rw [e] at h
    cases o with
    | lst xs =>
      dsimp only at h
      cases e2 : f xs with
      | none => rw [e2] at h; exact h.elim
      | some q =>
        obtain ⟨ys, d⟩ := q
        rw [e2] at h
        obtain ⟨vs, h1, h2⟩ := r.obj n a _ ha e
        refine ⟨vs, xs, ys, d, h1, h2, e2, fun ws v k1 k2 => ?_⟩
        obtain ⟨x, r'⟩ := r.updM (o := .lst ws) (mo := .lst ys) ha (List.getElem?_eq_some_iff.mp e).1 (h1 ▸ nc_lst) (fun x => ⟨ws, upd_same, k1.mono x⟩)
        exact h _ _ _ x r' (k2 x)
    | _ => exact h.elim
theorem mutN_run {i : Nat} (r : Rs c G s σ H) (h : Run RD c W (mutN i f) G s σ H Q) : ∃ a, σ[i]? = some (some (V.ref a)) ∧ Muts c G σ H a f Q := by
  cases e : s.σ[i]? with
  | none =>
    unfold Run mutN at h
    rw [e] at h
    exact h.elim
  | some v =>
    cases v with
    | ul xs =>
      unfold Run mutN at h
      rw [e] at h
      dsimp only at h
      cases e2 : f xs with
      | none => rw [e2] at h; exact h.elim
      | some q =>
        obtain ⟨ys, d⟩ := q
        rw [e2] at h
        obtain ⟨a, vs, h1, h2, h3, h4, h5, h6⟩ := r.at_ i _ e
        refine ⟨a, h1, vs, xs, ys, d, h2, h3, e2, fun ws v k1 k2 => ?_⟩
        obtain ⟨x, r'⟩ := r.updU (v' := .ul ys) (o := .lst ws) e rfl rfl h1 h4 h5 h6 (h2 ▸ nc_lst) (fun x => ⟨a, ws, rfl, upd_same, k1.mono x, h4, h5, h6⟩)
        exact h _ _ _ x r' (k2 x)
    | val d =>
      cases d with
      | ref n =>
        obtain ⟨y, q1, q2⟩ := r.at_ i _ e
        unfold RD at q2
        obtain ⟨a, rfl, ha⟩ := q2
        have h' : Run RD c W (mutR n f) G s σ H Q := by
          unfold Run mutN at h
          rw [e] at h
          exact h
        exact ⟨a, q1, mutR_run r ha h'⟩
      | _ =>
        unfold Run mutN at h
        rw [e] at h
        exact h.elim
    | _ =>
      unfold Run mutN at h
      rw [e] at h
      exact h.elim
theorem mutV_run {x : D} {v : V} (r : Rs c G s σ H) (hx : RD c G H x v) (h : Run RD c W (mutV x f) G s σ H Q) : ∃ a, v = V.ref a ∧ Muts c G σ H a f Q := by
  cases x with
  | ref n =>
    unfold RD at hx
    obtain ⟨a, rfl, ha⟩ := hx
    exact ⟨a, rfl, mutR_run r ha h⟩
  | _ => exact stuck_run h
end
def fAppend (d : D) (xs : List D) : Option (List D × D) := if xs.length < small then some (xs ++ [d], .non) else none
/-- x.append(e), x a name; any other list -/
def eAppendN (i : Nat) (m : PM D) : PM D := chk i >>= fun _ => m >>= fun d => mutN i (fAppend d)
def eAppendV (mo m : PM D) : PM D := mo >>= fun x => m >>= fun d => mutV x (fAppend d)
end Ev

set_option maxHeartbeats 2000000
/-! Ev9: defs: what they promise, their calls; methods; new instances. -/
namespace Ev
open PySem PySem.Spec PyProof.Rows L2

/-- without the tables of code objects -/
def noTbl (H : Hp) : Hp := fun a => match H a with
  | some (.tbl _) => none
  | o => o
theorem noTbl_some {H : Hp} {a : Addr} {o : HO} (h : noTbl H a = some o) : H a = some o ∧ ∀ ps, o ≠ .tbl ps := by
  unfold noTbl at h
  split at h
  · cases h
  · rename_i e
    exact ⟨h, fun ps z => e ps (by rw [h, z])⟩
theorem noTbl_of {H : Hp} {a : Addr} {o : HO} (h : H a = some o) (n : ∀ ps, o ≠ .tbl ps) : noTbl H a = some o := by
  unfold noTbl
  split
  · rename_i ps e
    rw [h] at e
    exact absurd (Option.some.inj e) (n ps)
  · exact h
theorem noTbl_none {H : Hp} {a : Addr} (h : noTbl H a = none) : H a = none ∨ ∃ ps, H a = some (.tbl ps) := by
  unfold noTbl at h
  split at h
  · rename_i ps e
    exact .inr ⟨ps, e⟩
  · exact .inl h
def ent (p : Pg) (G : GW) (H : Hp) : Cn := ⟨p.K, p.w, noTbl H, G.hp, G.F, none, p.lam, p.T⟩
def spOf (p : Pg) (F : Fn) : Sp := fun vs H Q E => ∃ (G : GW) (M : List MO) (ds : List D), Rs (ent p G H) G ⟨[], M⟩ [] H ∧ RDs (ent p G H) G H ds vs ∧ match F ds M with
  | .ok d M' => ∀ (G' : GW) (H' : Hp) (v : V), Ext G H G' H' → Rs (ent p G H) G' ⟨[], M'⟩ [] H' → RD (ent p G H) G' H' d v → Q v H'
  | .exc x fs M' => ∀ (G' : GW) (H' : Hp) (cls : Value) (dd : Option Addr), Ext G H G' H' → Rs (ent p G H) G' ⟨[], M'⟩ [] H' → RX (ent p G H) G' H' x fs cls dd → E cls dd H'
  | .bad => False
section
variable {p : Pg} {c : Cn} {W : WX} {G G' : GW} {s : S} {σ : L2.St} {H H' : Hp} {M' : List MO}
theorem RO.re {c' : Cn} {a : Addr} {o : MO} (hK : c.K = c'.K) (hw : c.w = c'.w) (h : RO c G H a o) : RO c' G H a o := by
  cases o with
  | lst ds =>
    obtain ⟨vs, h1, h2⟩ := h
    exact ⟨vs, h1, RDs.re hK hw _ h2⟩
  | dic kvs =>
    obtain ⟨ws, h1, h2⟩ := h
    exact ⟨ws, h1, h2.re hK hw⟩
  | ins C fs =>
    obtain ⟨dx, gs, h1, h2⟩ := h
    refine ⟨dx, gs, ?_, h2.re hK hw⟩
    unfold cAd at h1 ⊢
    rw [← hK]
    exact h1
theorem Rs.enter (r : Rs c G s σ H) (hc : Cn.of p c) : Rs (ent p G H) G ⟨[], s.M⟩ [] H where
  len := rfl
  at_ := fun i v e => by simp at e
  sep := fun i j v w a e => by simp at e
  hlen := r.hlen
  nd := r.nd
  obj := fun n a o h1 h2 => (r.obj n a o h1 h2).re hc.K hc.w
  dis := r.dis
  live := r.live
  keep := fun a o h _ => (noTbl_some h).1
  pre := List.prefix_refl _
  new := fun a h => .inl h
  newF := fun a h => .inl h
  nF := r.nF
  nt := fun a ps h => (noTbl_some h).2 ps rfl
  tabs := (show LamX.Tabs p.T H by rw [← hc.T]; exact r.tabs)
theorem Rs.h0_noTbl (r : Rs c G s σ H) {a : Addr} (h : noTbl H a = none) : c.H0 a = none := by
  rcases noTbl_none h with h | ⟨ps, h⟩
  · exact r.h0_none h
  · cases e : c.H0 a with
    | none => rfl
    | some u =>
      by_cases hm : a ∈ c.hp0
      · obtain ⟨o, e1⟩ := r.hp_some (r.pre.subset hm)
        have hm2 := r.pre.subset hm
        obtain ⟨n, hn, en⟩ := List.mem_iff_getElem.mp hm2
        have e2 : G.hp[n]? = some a := by rw [List.getElem?_eq_getElem hn, en]
        have hM : n < s.M.length := by rw [← r.hlen]; exact hn
        have q := r.obj n a _ e2 (List.getElem?_eq_getElem hM)
        cases e3 : s.M[n] with
        | lst _ => rw [e3] at q; obtain ⟨_, q, _⟩ := q; rw [h] at q; cases q
        | dic _ => rw [e3] at q; obtain ⟨_, q, _⟩ := q; rw [h] at q; cases q
        | ins _ _ => rw [e3] at q; obtain ⟨_, _, q, _⟩ := q; rw [h] at q; cases q
      · have := r.keep a u e hm
        rw [h] at this
        cases this
        exact absurd e (r.nt a ps)
theorem Rs.back (r : Rs c G s σ H) (hc : Cn.of p c) (x : Ext G H G' H') (r' : Rs (ent p G H) G' ⟨[], M'⟩ [] H') : Rs c G' { s with M := M' } σ H' := by
  have own : ∀ {a : Addr} {o : HO}, H a = some o → (∀ ps, o ≠ .tbl ps) → ¬ G.F a → a ∉ G.hp → H' a = some o ∧ ¬ G'.F a ∧ a ∉ G'.hp := fun {a o} h1 hn h2 h3 => by
    have h1' := noTbl_of h1 hn
    refine ⟨r'.keep a o h1' h3, fun z => ?_, fun z => ?_⟩
    · rcases r'.newF a z with z | z
      · exact h2 z
      · have z : noTbl H a = none := z
        rw [h1'] at z
        cases z
    · rcases r'.new a z with z | z
      · exact h3 z
      · have z : noTbl H a = none := z
        rw [h1'] at z
        cases z
  refine { len := r.len, at_ := fun i v e => ?_, sep := r.sep, hlen := r'.hlen, nd := r'.nd, obj := fun n a o h1 h2 => (r'.obj n a o h1 h2).re hc.K.symm hc.w.symm, dis := r'.dis, live := r'.live, keep := fun a o h1 h2 => ?_, pre := r.pre.trans x.hp, new := fun a h => ?_, newF := fun a h => ?_, nF := r'.nF, nt := r.nt, tabs := (show LamX.Tabs c.T H' by rw [hc.T]; exact r'.tabs) }
  · have q := r.at_ i v e
    cases hv : v.own with
    | false => exact q.mono_val x hv
    | true =>
      cases v with
      | ul xs =>
        obtain ⟨a, vs, h1, h2, h3, h4, h5, h6⟩ := q
        obtain ⟨k1, k2, k3⟩ := own h2 (by intro _ h; cases h) h4 h5
        exact ⟨a, vs, h1, k1, h3.mono x, k2, k3, h6⟩
      | ud xs =>
        obtain ⟨a, vs, h1, h2, h3, h4, h5, h6⟩ := q
        obtain ⟨k1, k2, k3⟩ := own h2 (by intro _ h; cases h) h4 h5
        exact ⟨a, vs, h1, k1, h3.mono x, k2, k3, h6⟩
      | _ => cases hv
  · -- what stood at the def's entry: not among what may be changed, or known since
    have e := r.keep a o h1 h2
    by_cases hm : a ∈ G.hp
    · rcases r.new a hm with z | z
      · exact absurd z h2
      · rw [z] at h1
        cases h1
    · exact r'.keep a o (noTbl_of e fun ps z => r.nt a ps (by rw [← z]; exact h1)) hm
  · rcases r'.new a h with z | z
    · exact r.new a z
    · exact .inr (r.h0_noTbl z)
  · rcases r'.newF a h with z | z
    · exact r.newF a z
    · exact .inr (r.h0_noTbl z)
/-- a call's promise, from what the caller wants -/
theorem callM_run {F : Fn} {ds : List D} {vs : List V} {Q : VK} (hc : Cn.of p c) (r : Rs c G s σ H) (q : RDs c G H ds vs) (h : Run RD c W (callM F ds) G s σ H Q) : spOf p F vs H Q (fun cls dd H' => W cls dd σ H') := by
  refine ⟨G, s.M, ds, r.enter hc, RDs.re hc.K hc.w _ q, ?_⟩
  unfold Run callM at h
  cases e : F ds s.M with
  | ok d M =>
    rw [e] at h
    exact fun G' H' v x r' q' => h G' H' v x (r.back hc x r') (q'.re hc.K.symm hc.w.symm)
  | exc n fs M =>
    rw [e] at h
    exact fun G' H' cl dd x r' q' => h G' H' cl dd x (r.back hc x r') (q'.re hc.K.symm hc.w.symm)
  | bad =>
    rw [e] at h
    exact h
end
/-! ### calls -/
section
variable {X : Cx} {pins : List (Addr × Obj)} {σ : L2.St} {H : Hp} {s : Shared} {k : Nat} {f : Addr} {sp : Sp} {W : WX} {Q : VK} {us : List Value} {vs : List V}
theorem run_R (F : FnR X.prog X.w X.K X.mg X.base (L2.CX X.prog X.w) k f sp) (hr : Room k X.A) (tk : Takes X W) (I : Inv X pins σ H s) (r : Vals vs us) (h : sp vs H Q (fun cls dd H' => W cls dd σ H')) :
    wpAny (model X.prog X.w) X.A (call (.ref f) us) (EP X pins σ Q) X.xe s := by
  refine wpAny_call (codeAny_mono (F X.A X.stack s H us vs Q _ hr I.env0 r h) fun r s' hq => ?_)
  cases r with
  | error e => exact tk e s' (XE.of_call I (fun cls d H' h => h) hq)
  | ok fl =>
    cases fl with
    | ret u => exact I.after hq
    | next => exact False.elim hq
    | brk => exact False.elim hq
    | cont => exact False.elim hq
theorem run_Mk {C : Addr} (M : Mk X.K C f) (F : FnR X.prog X.w X.K X.mg X.base (L2.CX X.prog X.w) k f sp) (hr : Room (k + 1) X.A) (tk : Takes X W) (I : Inv X pins σ H s) (r : Vals vs us)
    (h : ∀ x dx, H x = none → H dx = none → dx ≠ x → sp (.ref x :: vs) (upd (upd H dx (.own x)) x (.ins C dx [])) (fun v H2 => v = .non ∧ Q (.ref x) H2) (fun cls dd H' => W cls dd σ H')) :
    wpAny (model X.prog X.w) X.A (call (.ref C) us) (EP X pins σ Q) X.xe s := by
  have hq := h (s.heap.objs.size + 1) s.heap.objs.size (I.hok.fresh (Nat.le_succ _)) (I.hok.fresh (Nat.le_refl _)) (Nat.ne_of_lt (Nat.lt_succ_self _))
  have I2 := Inv.made (C := C) I
  have r2 : Vals (V.ref (s.heap.objs.size + 1) :: vs) (Value.ref (s.heap.objs.size + 1) :: us) := .cons rfl r
  refine wpAny_call (make_map (f := f) I.kIn M.makes M.init (beq_iff_eq.mp M.fn) (codeAny_mono (F _ X.stack _ _ (Value.ref (s.heap.objs.size + 1) :: us) _ _ _ (hr.make C us [])
    (I2.env0.make C us []) r2 hq) fun r s' hq' => ?_))
  cases r with
  | error e => exact tk e s' (XE.of_call I2 (fun cls d H' h => h) hq')
  | ok fl =>
    cases fl with
    | ret u =>
      obtain ⟨v, H', I3, rv, ev, q3⟩ := I2.after hq'
      subst ev
      exact ⟨rv, ⟨V.ref (s.heap.objs.size + 1), H', I3, rfl, q3⟩⟩
    | next => exact False.elim hq'
    | brk => exact False.elim hq'
    | cont => exact False.elim hq'
end
/-- the def that the module's name x stands for -/
def FnAt (p : Pg) (k : Nat) (x : Str) (F : Fn) : Prop := ∃ f, p.mg x = some (.ref f) ∧ PySem.W.keepIn p.K (.ref f) = true ∧ FnR p.P p.w p.K p.mg p.base (L2.CX p.P p.w) (2 * k) f (spOf p F)
theorem vals_nil {vs : List V} {us : List Value} (h : Vals vs us) (e : vs = []) : us = [] := by
  subst e
  cases h
  rfl
def eCall (F : Fn) (ms : PM (List D)) : PM D := ms >>= fun ds => callM F ds
section
variable {p : Pg} {Γ : NE} {x : Str} {e : Expr} {es : List Expr} {F : Fn} {ms : PM (List D)} {p' pos : Pos}
theorem se_call (hx : x ∈ Γ.glo) (hcm : Γ.calm = true) (hF : FnAt p Γ.k x F) (ha : SA p Γ (e :: es) ms) (he : ∀ env, starEach (e :: es) env = (false, eval e env) :: starEach es env) (hpl : ∀ env, (backTo pos (starEach es env)).any (·.1) = false) :
    SE p Γ (.Call (.Name x p') (e :: es) [] pos) (eCall F ms) := by
  intro X ok W tk c hc
  obtain ⟨f, hm, hk, FF⟩ := hF
  obtain ⟨g1, g2, g3⟩ := ok.glo x hx
  refine ⟨fun pins s σ H Q I h => ?_⟩
  obtain ⟨G, es', r, h⟩ := h
  have h0 := Run.bind (R := RDs) h
  refine wpAny_Call_Name_kw (ld_glob I g1 (by rw [ok.mg]; exact hm) ?_ g2)
  refine PySem.W.callWith_K (h₀ := X.base) I.ok.mod.kin (by rw [ok.K]; exact hk) (thn ((ha X ok W tk c hc).run pos pins s σ H _ I ⟨G, es', r, h0⟩) fun us s1 ⟨vs, H1, I1, rv, q⟩ => ⟨I1.kIn, ?_⟩) (he X.env) (hpl X.env)
  obtain ⟨G1, s2, ds, x1, r1, q1, h1⟩ := q
  exact run_R (k := 2 * Γ.k) (by rw [ok.prog, ok.w, ok.K, ok.mg, ok.base]; exact FF) ((ok.room hcm).mono (by omega)) tk I1 rv (callM_run hc r1 q1 h1)
theorem se_call0 (hx : x ∈ Γ.glo) (hcm : Γ.calm = true) (hF : FnAt p Γ.k x F) : SE p Γ (.Call (.Name x p') [] [] pos) (eCall F (pure [])) := by
  intro X ok W tk c hc
  obtain ⟨f, hm, hk, FF⟩ := hF
  obtain ⟨g1, g2, g3⟩ := ok.glo x hx
  refine ⟨fun pins s σ H Q I h => ?_⟩
  obtain ⟨G, es', r, h⟩ := h
  refine wpAny_Call_Name_kw (ld_glob I g1 (by rw [ok.mg]; exact hm) ?_ g2)
  refine PySem.W.callWith_K0 I.kIn (by rw [ok.K]; exact hk) ?_
  exact run_R (k := 2 * Γ.k) (by rw [ok.prog, ok.w, ok.K, ok.mg, ok.base]; exact FF) ((ok.room hcm).mono (by omega)) tk I .nil (callM_run (ds := []) hc r RDs.nil h)
end
/-! ### methods of own classes -/
/-- the method m of the class C -/
def MtAt (p : Pg) (k : Nat) (C : String) (m : Str) (F : Fn) : Prop := ∃ f, Cls p.K (He.ga p.K (Str.ofString C)) ∧ Meth p.K (He.ga p.K (Str.ofString C)) m f ∧ FnR p.P p.w p.K p.mg p.base (L2.CX p.P p.w) (2 * k) f (spOf p F)
/-- what stands at the n-th place is of one of the classes that have the method; no field is called so -/
def metOf (ts : List (String × Fn)) (m : String) (x : D) : PM Fn := fun s => match x with
  | .ref n => match s.M[n]? with
    | some (.ins C fs) => match ts.lookup C with
      | some F => if (fs.lookup m).isNone then .ok F s else .bad
      | none => .bad
    | _ => .bad
  | _ => .bad
def eMeth (ts : List (String × Fn)) (m : String) (mo : PM D) (ms : PM (List D)) : PM D := mo >>= fun x => metOf ts m x >>= fun F => ms >>= fun ds => callM F (x :: ds)
theorem RDo.lookup {c : Cn} {G : GW} {H : Hp} {m : String} : ∀ {fs : List (String × D)} {gs : List (Str × V)}, RDo c G H fs gs → (match fs.lookup m with
    | some d => ∃ v, gs.lookup (Str.ofString m) = some v ∧ RD c G H d v
    | none => gs.lookup (Str.ofString m) = none)
  | [], _, .nil => rfl
  | (x, d) :: fs, (y, v) :: gs, .cons h t => by
    obtain ⟨h1, h2⟩ := h
    dsimp only at h1 h2
    subst h1
    by_cases e : m = x
    · subst e
      rw [List.lookup_cons_self, List.lookup_cons_self]
      exact ⟨v, rfl, h2⟩
    · have e1 : (m == x) = false := beq_eq_false_iff_ne.mpr e
      have e2 : (Str.ofString m == Str.ofString x) = false := beq_eq_false_iff_ne.mpr fun h => e (ofString_inj h)
      rw [List.lookup_cons, e1, List.lookup_cons, e2]
      exact RDo.lookup t
section
variable {p : Pg} {Γ : NE} {o e : Expr} {es : List Expr} {ts : List (String × Fn)} {m : String} {mo : PM D} {ms : PM (List D)} {apos pos : Pos}
/-- the tree of a method's call -/
def MTree (o : Expr) (m : Str) (apos pos : Pos) (es : List Expr) (pl : Env → Sem Bool) : Prop := ∀ env, eval (.Call (.Attribute o m apos) es [] pos) env = (do
      let ov ← eval o env
      standAt apos.atName
      let (f, first) ← holding [ov] (getMethod ov m (pl env))
      callWith pos f first (backTo pos (starEach es env)) (backToKw pos (keywordEach [] env)))
theorem metOf_run {c : Cn} {W : WX} {G : GW} {s : S} {σ : L2.St} {H : Hp} {Q : VK} {x : D} {v : V} {g : Fn → PM D} (r : Rs c G s σ H) (hx : RD c G H x v) (h : Run RD c W (metOf ts m x >>= g) G s σ H Q) :
    ∃ a C dx gs F, v = V.ref a ∧ H a = some (.ins (cAd c C) dx gs) ∧ gs.lookup (Str.ofString m) = none ∧ ts.lookup C = some F ∧ Run RD c W (g F) G s σ H Q := by
  cases x with
  | ref n =>
    unfold RD at hx
    obtain ⟨a, rfl, ha⟩ := hx
    unfold Run at h
    rw [bind_eq] at h
    unfold metOf at h
    cases e : s.M[n]? with
    | none => dsimp only at h; rw [e] at h; exact h.elim
    | some ob =>
      dsimp only at h
      rw [e] at h
      cases ob with
      | ins C fs =>
        dsimp only at h
        cases e2 : ts.lookup C with
        | none => rw [e2] at h; exact h.elim
        | some F =>
          rw [e2] at h
          dsimp only at h
          by_cases hl : (fs.lookup m).isNone = true
          · rw [if_pos hl] at h
            obtain ⟨dx, gs, q1, q2⟩ := r.obj n a _ ha e
            have q3 := RDo.lookup (m := m) q2
            rw [Option.isNone_iff_eq_none.mp hl] at q3
            exact ⟨a, C, dx, gs, F, rfl, q1, q3, e2, h⟩
          · rw [if_neg hl] at h
            exact h.elim
      | _ => exact h.elim
  | _ =>
    unfold Run at h
    rw [bind_eq] at h
    exact h.elim
theorem se_meth {pl : Env → Sem Bool} (hcm : Γ.calm = true) (hT : ∀ C F, ts.lookup C = some F → MtAt p Γ.k C (Str.ofString m) F) (ho : SE p Γ o mo) (ha : SA p Γ (e :: es) ms)
    (hst : ∀ env, starEach (e :: es) env = (false, eval e env) :: starEach es env) (hpl : ∀ env, (backTo pos (starEach es env)).any (·.1) = false) (ht : MTree o (Str.ofString m) apos pos (e :: es) pl) :
    SE p Γ (.Call (.Attribute o (Str.ofString m) apos) (e :: es) [] pos) (eMeth ts m mo ms) := by
  intro X ok W tk c hc
  refine ⟨fun pins s σ H Q I h => ?_⟩
  obtain ⟨G, es', r, h⟩ := h
  have h0 := Run.bind (R := RD) h
  refine PySem.W.methodCall_KW (pl := pl X.env) (thn ((ho X ok W tk c hc).run pins s σ H _ I ⟨G, es', r, h0⟩) fun u s1 ⟨v, H1, I1, rx, G1, s2, d, x1, r1, q1, h1⟩ => ?_) (ht X.env)
  obtain ⟨a, C, dx, gs, F, rfl, ha1, hl, hC, h2⟩ := metOf_run r1 q1 h1
  obtain rfl : u = Value.ref a := rx
  obtain ⟨f, c1, c2, FF⟩ := hT C F hC
  have hCe : cAd c C = He.ga X.K (Str.ofString C) := by unfold cAd; rw [hc.K, ok.K]
  rw [hCe] at ha1
  rw [← ok.K] at c1 c2
  refine getmeth_ok I1 ha1 c1 c2 hl ?_
  have h3 := Run.bind (R := RDs) h2
  refine PySem.W.callWith_K (first := [.ref a]) (h₀ := X.base) I.ok.mod.kin c2.kp (thn ((ha X ok W tk c hc).run pos pins s1 σ H1 _ I1 ⟨G1, s2, r1, h3⟩) fun us s3 ⟨vs, H2, I2, rv, G2, s4, ds, x2, r2, q2, h4⟩ => ⟨I2.kIn, ?_⟩) (hst X.env) (hpl X.env)
  exact run_R (k := 2 * Γ.k) (us := .ref a :: us) (vs := .ref a :: vs) (by rw [ok.prog, ok.w, ok.K, ok.mg, ok.base]; exact FF) ((ok.room hcm).mono (by omega)) tk I2 (.cons rfl rv) (callM_run hc r2 (RDs.cons (q1.mono x2) q2) h4)
theorem se_meth0 {pl : Env → Sem Bool} (hcm : Γ.calm = true) (hT : ∀ C F, ts.lookup C = some F → MtAt p Γ.k C (Str.ofString m) F) (ho : SE p Γ o mo) (ht : MTree o (Str.ofString m) apos pos [] pl) :
    SE p Γ (.Call (.Attribute o (Str.ofString m) apos) [] [] pos) (eMeth ts m mo (pure [])) := by
  intro X ok W tk c hc
  refine ⟨fun pins s σ H Q I h => ?_⟩
  obtain ⟨G, es', r, h⟩ := h
  have h0 := Run.bind (R := RD) h
  refine PySem.W.methodCall_KW (pl := pl X.env) (thn ((ho X ok W tk c hc).run pins s σ H _ I ⟨G, es', r, h0⟩) fun u s1 ⟨v, H1, I1, rx, G1, s2, d, x1, r1, q1, h1⟩ => ?_) (ht X.env)
  obtain ⟨a, C, dx, gs, F, rfl, ha1, hl, hC, h2⟩ := metOf_run r1 q1 h1
  obtain rfl : u = Value.ref a := rx
  obtain ⟨f, c1, c2, FF⟩ := hT C F hC
  have hCe : cAd c C = He.ga X.K (Str.ofString C) := by unfold cAd; rw [hc.K, ok.K]
  rw [hCe] at ha1
  rw [← ok.K] at c1 c2
  refine getmeth_ok I1 ha1 c1 c2 hl ?_
  refine PySem.W.callWith_K0 (first := [.ref a]) I1.kIn c2.kp ?_
  exact run_R (k := 2 * Γ.k) (us := [.ref a]) (vs := [.ref a]) (by rw [ok.prog, ok.w, ok.K, ok.mg, ok.base]; exact FF) ((ok.room hcm).mono (by omega)) tk I1 (.cons rfl .nil) (callM_run (ds := [d]) hc r1 (RDs.cons q1 RDs.nil) h2)
end
/-! ### new instances -/
/-- the class that the module's name x stands for, its __init__ -/
def MkAt (p : Pg) (k : Nat) (x : String) (F : Fn) : Prop := ∃ f, p.mg (Str.ofString x) = some (.ref (He.ga p.K (Str.ofString x))) ∧ Mk p.K (He.ga p.K (Str.ofString x)) f ∧ FnR p.P p.w p.K p.mg p.base (L2.CX p.P p.w) (2 * k) f (spOf p F)
/-- a new instance, given to its __init__ -/
def makeM (x : String) (F : Fn) (ds : List D) : PM D := newRef (.ins x []) >>= fun o => callM F (o :: ds) >>= fun d => match d with
  | .non => pure o
  | _ => stuck
def eMake (x : String) (F : Fn) (ms : PM (List D)) : PM D := ms >>= fun ds => makeM x F ds
theorem makeM_run {p : Pg} {c : Cn} {W : WX} {G : GW} {s : S} {σ : L2.St} {H : Hp} {Q : VK} {x : String} {F : Fn} {ds : List D} {vs : List V} (hc : Cn.of p c) (r : Rs c G s σ H) (q : RDs c G H ds vs) (h : Run RD c W (makeM x F ds) G s σ H Q)
    {a dx : Addr} (ha : H a = none) (hd : H dx = none) (ne : dx ≠ a) : spOf p F (.ref a :: vs) (upd (upd H dx (.own a)) a (.ins (cAd c x) dx [])) (fun v H2 => v = .non ∧ Q (.ref a) H2) (fun cls dd H' => W cls dd σ H') := by
  have g1 := upd_grow (o := .own a) hd
  have r1 := r.grow g1
  have x1 := r.ext_of g1
  have ha' : upd H dx (.own a) a = none := by rw [upd_ne (Ne.symm ne)]; exact ha
  obtain ⟨x2, r2⟩ := r1.alloc (o := .ins (cAd c x) dx []) (mo := .ins x []) ha' ⟨dx, [], upd_same, .nil⟩
  have h' : Run RD c W (callM F (.ref s.M.length :: ds) >>= fun d => match d with | .non => pure (.ref s.M.length) | _ => stuck) G { s with M := s.M ++ [.ins x []] } σ H Q := h
  have h2 := h'.ext (x1.trans x2)
  have h3 := Run.bind (R := RD) h2
  have q0 : RD c (G.add a) (upd (upd H dx (.own a)) a (.ins (cAd c x) dx [])) (.ref s.M.length) (V.ref a) := by
    unfold RD
    exact ⟨a, rfl, by rw [← r.hlen]; simp [GW.add]⟩
  have sp := callM_run hc r2 (RDs.cons q0 (RDs.mono (x1.trans x2) _ q)) h3
  obtain ⟨G0, M0, ds0, k1, k2, k3⟩ := sp
  refine ⟨G0, M0, ds0, k1, k2, ?_⟩
  cases e : F ds0 M0 with
  | ok d M' =>
    rw [e] at k3
    intro G' H' v y r' q'
    obtain ⟨G3, s3, d3, x3, r3, q3, h4⟩ := k3 G' H' v y r' q'
    cases d3 with
    | non =>
      refine ⟨by unfold RD at q3; exact q3, ?_⟩
      exact h4.same (a := D.ref s.M.length) (b := V.ref a) rfl r3 (q0.mono x3)
    | _ => exact stuck_run h4
  | exc n fs M' =>
    rw [e] at k3
    exact k3
  | bad =>
    rw [e] at k3
    exact k3
section
variable {p : Pg} {Γ : NE} {x : String} {e : Expr} {es : List Expr} {F : Fn} {ms : PM (List D)} {p' pos : Pos}
theorem se_make (hx : Str.ofString x ∈ Γ.glo) (hcm : Γ.calm = true) (hF : MkAt p Γ.k x F) (ha : SA p Γ (e :: es) ms) (he : ∀ env, starEach (e :: es) env = (false, eval e env) :: starEach es env) (hpl : ∀ env, (backTo pos (starEach es env)).any (·.1) = false) :
    SE p Γ (.Call (.Name (Str.ofString x) p') (e :: es) [] pos) (eMake x F ms) := by
  intro X ok W tk c hc
  obtain ⟨f, hm, hk, FF⟩ := hF
  obtain ⟨g1, g2, g3⟩ := ok.glo _ hx
  refine ⟨fun pins s σ H Q I h => ?_⟩
  obtain ⟨G, es', r, h⟩ := h
  have h0 := Run.bind (R := RDs) h
  rw [← ok.K] at hk hm
  refine wpAny_Call_Name_kw (ld_glob I g1 (by rw [ok.mg]; exact hm) ?_ g2)
  refine PySem.W.callWith_K (h₀ := X.base) I.ok.mod.kin hk.kp (thn ((ha X ok W tk c hc).run pos pins s σ H _ I ⟨G, es', r, h0⟩) fun us s1 ⟨vs, H1, I1, rv, q⟩ => ⟨I1.kIn, ?_⟩) (he X.env) (hpl X.env)
  obtain ⟨G1, s2, ds, x1, r1, q1, h1⟩ := q
  refine run_Mk (k := 2 * Γ.k) hk (by rw [ok.prog, ok.w, ok.K, ok.mg, ok.base]; exact FF) (ok.room hcm) tk I1 rv fun a dx ha hd ne => ?_
  have hCe : cAd c x = He.ga X.K (Str.ofString x) := by unfold cAd; rw [hc.K, ok.K]
  have k := makeM_run hc r1 q1 h1 ha hd ne
  rw [hCe] at k
  exact k
end
end Ev

set_option maxHeartbeats 2000000
/-! Ev10: a def by its body. -/
namespace Ev
open PySem PySem.Spec PyProof.Rows L2

def endOf : Out (Option D) → OutC
  | .ok (some d) s => .ok d s.M
  | .ok none s => .ok .non s.M
  | .exc x fs s => .exc x fs s.M
  | .bad => .bad
/-- a def of n parameters, nN slots, by its body m -/
def mkFn (nN n : Nat) (m : SM) : Fn := fun ds M => if ds.length = n ∧ n ≤ nN then endOf (m ⟨ds.map .val ++ List.replicate (nN - n) .un, M⟩) else .bad
/-- what the written scope must say -/
structure ScOk (Γ : NE) (sc : Scope) : Prop where
  vis : ∀ i ∈ Γ.see, ∀ x, Γ.N[i]? = some x → Vis sc x ∧ (x == ("__debug__" : Str)) = false ∧ (x == ("__classdict__" : Str)) = false
  sto : ∀ i ∈ Γ.st, ∀ x, Γ.N[i]? = some x → L2.Loc sc x
  glo : ∀ x ∈ Γ.glo, sc.names.lookup x = some .globalImplicit ∧ (x == ("__debug__" : Str)) = false ∧ x ≠ "__name__"
  loc : ∀ i ∈ Γ.lo, ∀ x, Γ.N[i]? = some x → sc.names.lookup x = some .local
  cap : ∀ x ∈ Γ.cap, sc.names.lookup x = some .cell ∨ sc.names.lookup x = some .free
def isCap : Option NameKind → Bool
  | some .cell => true
  | some .free => true
  | _ => false
def isLoc : Option NameKind → Bool
  | some .local => true
  | _ => false
def visB (sc : Scope) (x : Str) : Bool := match sc.names.lookup x with
  | some .local => true
  | some .cell => true
  | some .free => true
  | _ => false
def locB (sc : Scope) (x : Str) : Bool := match sc.names.lookup x with
  | some .local => true
  | some .cell => true
  | _ => false
def gloB (sc : Scope) (x : Str) : Bool := match sc.names.lookup x with
  | some .globalImplicit => true
  | _ => false
def scOkB (Γ : NE) (sc : Scope) : Bool :=
  (Γ.see.all fun i => match Γ.N[i]? with
    | some x => visB sc x && (!(x == ("__debug__" : Str)) && !(x == ("__classdict__" : Str)))
    | none => true) &&
  ((Γ.st.all fun i => match Γ.N[i]? with
    | some x => locB sc x
    | none => true) &&
  ((Γ.lo.all fun i => match Γ.N[i]? with
    | some x => isLoc (sc.names.lookup x)
    | none => true) &&
  ((Γ.cap.all fun x => isCap (sc.names.lookup x)) &&
  Γ.glo.all fun x => gloB sc x && (!(x == ("__debug__" : Str)) && !(x == ("__name__" : Str))))))
theorem scOkB_ok {Γ : NE} {sc : Scope} (h : scOkB Γ sc = true) : ScOk Γ sc := by
  unfold scOkB at h
  simp only [Bool.and_eq_true, List.all_eq_true] at h
  obtain ⟨h1, h2, h4, h5, h3⟩ := h
  refine ⟨fun i hi x e => ?_, fun i hi x e => ?_, fun x hx => ?_, fun i hi x e => ?_, fun x hx => ?_⟩
  · have q := h1 i hi
    rw [e] at q
    simp only [Bool.and_eq_true, Bool.not_eq_true'] at q
    obtain ⟨q1, q2, q3⟩ := q
    refine ⟨?_, q2, q3⟩
    unfold visB at q1
    unfold Vis
    split at q1
    · rename_i e; exact .inl e
    · rename_i e; exact .inr (.inl e)
    · rename_i e; exact .inr (.inr e)
    · cases q1
  · have q := h2 i hi
    rw [e] at q
    dsimp only at q
    unfold locB at q
    unfold L2.Loc
    split at q
    · rename_i e; exact .inl e
    · rename_i e; exact .inr e
    · cases q
  · have q := h3 x hx
    simp only [Bool.not_eq_true'] at q
    obtain ⟨q1, q2, q3⟩ := q
    refine ⟨?_, q2, by intro z; rw [z] at q3; revert q3; decide +kernel⟩
    unfold gloB at q1
    split at q1
    · rename_i e; exact e
    · cases q1
  · have q := h4 i hi
    rw [e] at q
    dsimp only at q
    unfold isLoc at q
    split at q
    · rename_i e; exact e
    · cases q
  · have q := h5 x hx
    unfold isCap at q
    split at q
    · rename_i e; exact .inl e
    · rename_i e; exact .inr e
    · cases q
section
variable {p : Pg} {Γ : NE} {f : Addr} {fd : FuncData} {name qual : Str} {params : Arguments} {body : List Stmt} {scope : Scope} {ps : List Str} {m : SM}
theorem startS {c : Cn} {G : GW} {H : Hp} {M : List MO} {ds : List D} {vs : List V} {nN : Nat} (r : Rs c G ⟨[], M⟩ [] H) (q : RDs c G H ds vs) : Rs c G ⟨ds.map .val ++ List.replicate (nN - ds.length) .un, M⟩ (vs.map some ++ List.replicate (nN - vs.length) none) H := by
  have hl := q.length
  refine { len := by simp [hl], at_ := fun i v e => ?_, sep := fun i j v w a e _ ov => ?_, hlen := r.hlen, nd := r.nd, obj := r.obj, dis := r.dis, live := r.live, keep := r.keep, pre := r.pre, new := r.new, newF := r.newF, nF := r.nF, nt := r.nt, tabs := r.tabs }
  · have e : (ds.map SV.val ++ List.replicate (nN - ds.length) SV.un)[i]? = some v := e
    by_cases hi : i < ds.length
    · rw [List.getElem?_append_left (by simpa using hi), List.getElem?_map] at e
      cases ed : ds[i]? with
      | none => rw [ed] at e; cases e
      | some d =>
        rw [ed] at e
        cases e
        obtain ⟨y, hy, rd⟩ := q.get ed
        refine ⟨y, ?_, rd⟩
        rw [List.getElem?_append_left (by simp [hl]; exact hi), List.getElem?_map, hy]
        rfl
    · rw [List.getElem?_append_right (by simpa using hi)] at e
      rw [List.getElem?_append_right (by simp [hl]; omega)]
      rw [List.getElem?_replicate] at e ⊢
      simp only [List.length_map] at e ⊢
      split at e
      · cases e
        rw [if_pos (by omega)]
        exact ⟨none, rfl⟩
      · cases e
  · have e : (ds.map SV.val ++ List.replicate (nN - ds.length) SV.un)[i]? = some v := e
    have : v ∈ ds.map SV.val ++ List.replicate (nN - ds.length) SV.un := List.mem_of_getElem? e
    rcases List.mem_append.mp this with z | z
    · obtain ⟨d, _, rfl⟩ := List.mem_map.mp z
      cases ov
    · rw [List.eq_of_mem_replicate z] at ov
      cases ov
theorem Rs.forget {c : Cn} {G : GW} {H : Hp} {s : S} {σ : L2.St} (r : Rs c G s σ H) : Rs c G ⟨[], s.M⟩ [] H where
  len := rfl
  at_ := fun i v e => by simp at e
  sep := fun i j v w a e => by simp at e
  hlen := r.hlen
  nd := r.nd
  obj := r.obj
  dis := r.dis
  live := r.live
  keep := r.keep
  pre := r.pre
  new := r.new
  newF := r.newF
  nF := r.nF
  nt := r.nt
  tabs := r.tabs
theorem fn_okV (F : FunD p.K name qual params body scope [] [] f fd) (S : FnScope Γ.N ps scope) (sc : ScOk Γ scope) (hcm : Γ.calm = true) (hex : p.ex = none) (hlam : p.lam = none) (hcod : ∀ a q, p.cod = some (a, q) → fd.code = .ref a ∧ qual ++ ".<locals>." = q) (hm : SSs p Γ body m) :
    FnOk p.P p.w p.K p.mg p.base (L2.CX p.P p.w) (2 * Γ.k + 1 + 1) f fd ps (fun vs H Q E => vs.length = ps.length ∧ spOf p (mkFn Γ.N.length ps.length m) vs H Q E) := by
  obtain ⟨oc, od, dV, kV, doc, pm, an, cdv, ct, osl, rfl, lk, hcd, _, _⟩ := F.ex
  refine fn_of lk hcd S (fun vs H Q E h => h.1) fun A outer s H vs Q E hr h => ?_
  obtain ⟨hl, G, M, ds, r, q, h⟩ := h
  have ok : XOk p Γ (cxOf (L2.CX p.P p.w) p.P p.w p.K p.mg p.base Γ.N qual scope f cdv A outer s H E) :=
    { prog := rfl, w := rfl, K := rfl, mg := rfl, base := rfl, N := rfl, nd := S.nd, vis := sc.vis, sto := fun i hi x e => ⟨sc.sto i hi x e, .inl rfl⟩, glo := fun x hx => ⟨(sc.glo x hx).1, (sc.glo x hx).2.1, (sc.glo x hx).2.2⟩,
      calm := fun _ => ⟨rfl, hr.hd⟩, dp := hr.dp, un := hr.un, pass := passes_of rfl, loc := sc.loc, kind := S.kind, cap := sc.cap, own := fun _ => ⟨rfl, rfl⟩, act := (fun _ l e => by rw [hlam] at e; cases e), cod := (fun a q e => ⟨(hcod a q e).1, (hcod a q e).2⟩), hot := fun a cls dd e => by rw [hex] at e; cases e }
  refine ⟨_, hm _ ok _ (takes_of rfl rfl rfl rfl) (ent p G H) ⟨rfl, rfl, hex.symm, rfl, rfl⟩, ?_⟩
  refine ⟨G, _, startS (nN := Γ.N.length) r q, ?_⟩
  unfold mkFn at h
  have hd : ds.length = ps.length := by rw [← q.length]; exact hl
  by_cases hn : ds.length = ps.length ∧ ps.length ≤ Γ.N.length
  · rw [if_pos hn] at h
    unfold RunS
    rw [hd]
    cases e : m ⟨ds.map SV.val ++ List.replicate (Γ.N.length - ps.length) SV.un, M⟩ with
    | ok o s' =>
      rw [e] at h
      cases o with
      | none => exact fun G' σ' H' x r' => h G' H' .non x r'.forget (by unfold RD; rfl)
      | some d => exact fun G' σ' H' v x r' q' => h G' H' v x r'.forget q'
    | exc n fs s' =>
      rw [e] at h
      exact fun G' σ' H' cls dd x r' q' => h G' H' cls dd x r'.forget q'
    | bad =>
      rw [e] at h
      exact h
  · rw [if_neg hn] at h
    exact h.elim
theorem fn_at (F : FunD p.K name qual params body scope [] [] f fd) (S : FnScope Γ.N ps scope) (hb : Binds p.K fd ps []) (sc : ScOk Γ scope) (hcm : Γ.calm = true) (hex : p.ex = none) (hlam : p.lam = none) (hcod : ∀ a q, p.cod = some (a, q) → fd.code = .ref a ∧ qual ++ ".<locals>." = q) (hm : SSs p Γ body m) :
    FnR p.P p.w p.K p.mg p.base (L2.CX p.P p.w) (2 * (Γ.k + 1)) f (spOf p (mkFn Γ.N.length ps.length m)) := by
  have main := fn_okV F S sc hcm hex hlam hcod hm
  have raw := main.raw hb .nil
  refine raw.imp fun vs H Q E h => ?_
  rw [List.append_nil]
  refine ⟨?_, h⟩
  obtain ⟨G, M, ds, r, q, h⟩ := h
  unfold mkFn at h
  by_cases hn : ds.length = ps.length ∧ ps.length ≤ Γ.N.length
  · rw [q.length]
    exact hn.1
  · rw [if_neg hn] at h
    exact h.elim
end
end Ev

set_option maxHeartbeats 2000000
/-! Ev11: built-in functions. -/
namespace Ev
open PySem PySem.Spec PyProof.Rows L2

/-! ### what an expression is at this moment -/
def tV (c : Cn) (W : WX) (m : PM D) : TE := fun σ H Q => ∃ G s, Rs c G s σ H ∧ Run RDw c W m G s σ H Q
def SL (p : Pg) (Γ : NE) (e : Expr) (m : PM D) : Prop := ∀ X, XOk p Γ X → ∀ W, Takes X W → ∀ c, Cn.of p c → PE X e (tV c W m)
def vVal (m : PM D) : PM D := m >>= view
def vName (i : Nat) : PM D := ePeek i >>= view
section
variable {p : Pg} {Γ : NE} {e : Expr} {m : PM D}
theorem sl_val (h : SE p Γ e m) : SL p Γ e (vVal m) := by
  intro X ok W tk c hc
  refine (h X ok W tk c hc).weak fun σ H Q h => ?_
  obtain ⟨G, s, r, h⟩ := h
  refine ⟨G, s, r, (Run.bind (R := RD) h).mono fun v H1 ⟨G1, s1, x, x1, r1, q1, h1⟩ => ?_⟩
  exact Run.same (W := W) (m := view x) (a := vw s1.M x) (b := v) rfl h1 r1 (r1.view q1)
theorem sl_name {i : Nat} {x : Str} {pos : Pos} (hN : Γ.N[i]? = some x) (hi : i ∈ Γ.see) : SL p Γ (.Name x pos) (vName i) := by
  intro X ok W tk c hc
  obtain ⟨v1, v2, v3⟩ := ok.vis i hi x hN
  refine (pe_var (i := i) (by rw [ok.N]; exact hN) v1 v2 v3).weak fun σ H Q h => ?_
  obtain ⟨G, s, r, h⟩ := h
  unfold Run vName at h
  rw [bind_eq] at h
  unfold ePeek at h
  cases e : s.σ[i]? with
  | none => rw [e] at h; exact h.elim
  | some v =>
    rw [e] at h
    cases v with
    | val d =>
      obtain ⟨y, q1, q2⟩ := r.at_ i _ e
      exact ⟨y, q1, h G H y (.refl _ _) r (r.view q2)⟩
    | ul xs =>
      obtain ⟨y, q1, q2⟩ := r.peek e
      exact ⟨y, q1, h G H y (.refl _ _) r q2⟩
    | _ => exact h.elim
end
/-! ### a call of a built-in, by its one argument -/
def One (p : Pg) (Γ : NE) (e a : Expr) (r : Cn → V → Hp → VK → Prop) : Prop := ∀ X, XOk p Γ X → ∀ c, Cn.of p c → ∀ ta, PE X a ta → PE X e (tThen ta (r c))
def Op1 (f : List MO → D → Option D) (r : Cn → V → Hp → VK → Prop) : Prop := ∀ (c : Cn) (G : GW) (s : S) (σ : L2.St) (H : Hp) (x d : D) (v : V) (Q : VK), Rs c G s σ H → RDw c G H x v → f s.M x = some d → Gives c G s σ H d Q → r c v H Q
def ap1 (f : List MO → D → Option D) (x : D) : PM D := fun s => match f s.M x with
  | some d => .ok d s
  | none => .bad
def e1 (f : List MO → D → Option D) (m : PM D) : PM D := m >>= ap1 f
/-- a new list -/
def Op1F (f : List MO → D → Option (List D)) (r : Cn → V → Hp → VK → Prop) : Prop := ∀ (c : Cn) (G : GW) (s : S) (σ : L2.St) (H : Hp) (x : D) (xs : List D) (v : V) (Q : VK), Rs c G s σ H → RDw c G H x v → f s.M x = some xs → (∀ (p : Addr) (vs : List V), H p = none → RDs c G H xs vs → Q (.ref p) (upd H p (.lst vs))) → r c v H Q
def ap1F (f : List MO → D → Option (List D)) (x : D) : PM (List D) := fun s => match f s.M x with
  | some d => .ok d s
  | none => .bad
def f1 (f : List MO → D → Option (List D)) (m : PM D) : PM (List D) := m >>= ap1F f
theorem ap1_run {c : Cn} {W : WX} {G : GW} {s : S} {σ : L2.St} {H : Hp} {Q : VK} {f : List MO → D → Option D} {x : D} (h : Run RD c W (ap1 f x) G s σ H Q) : ∃ d, f s.M x = some d ∧ Gives c G s σ H d Q := by
  unfold Run ap1 at h
  cases e : f s.M x with
  | none => rw [e] at h; exact h.elim
  | some d =>
    rw [e] at h
    exact ⟨d, rfl, h⟩
section
variable {p : Pg} {Γ : NE} {e a : Expr} {m : PM D} {r : Cn → V → Hp → VK → Prop}
theorem se_o1 {f : List MO → D → Option D} (t : One p Γ e a r) (o : Op1 f r) (ha : SL p Γ a m) : SE p Γ e (e1 f m) := by
  intro X ok W tk c hc
  refine (t X ok c hc _ (ha X ok W tk c hc)).weak fun σ H Q h => ?_
  obtain ⟨G, s, r, h⟩ := h
  refine ⟨G, s, r, (Run.bind (R := RDw) h).mono fun v H1 ⟨G1, s1, x, x1, r1, q1, h1⟩ => ?_⟩
  obtain ⟨d, e, g⟩ := ap1_run h1
  exact o c G1 s1 σ H1 _ d v Q r1 q1 e g
theorem sf_o1 {f : List MO → D → Option (List D)} (t : One p Γ e a r) (o : Op1F f r) (ha : SL p Γ a m) : SF p Γ e (f1 f m) := by
  intro X ok W tk c hc
  refine (t X ok c hc _ (ha X ok W tk c hc)).weak fun σ H Q h => ?_
  obtain ⟨G, s, r, h⟩ := h
  refine ⟨G, s, r, (RunF.bind (R := RDw) h).mono fun v H1 ⟨G1, s1, x, x1, r1, q1, h1⟩ => ?_⟩
  have h2 := h1
  unfold RunF ap1F at h1
  cases e : f s1.M x with
  | none => rw [e] at h1; exact h1.elim
  | some d =>
    exact o c G1 s1 σ H1 x d v Q r1 q1 e fun p vs hp q => h2.new (by unfold ap1F; rw [e]) r1 q hp
/-- a built-in function, a built-in type of one argument -/
def rOf (r : Cn → List V → Hp → VK → Prop) : Cn → V → Hp → VK → Prop := fun c x => r c [x]
theorem one_blt {x : Str} {id : String} {r : Cn → List V → Hp → VK → Prop} {p' pos : Pos} (hr : ∀ X, XOk p Γ X → ∀ c, Cn.of p c → CallR X (.builtin id) (r c)) (hv : bootBuiltins x = some (.builtin id)) (hx : x ∈ Γ.glo) (hm : p.mg x = none)
    (he : ∀ env, starEach [a] env = (false, eval a env) :: starEach [] env) (hpl : ∀ env, (backTo pos (starEach [] env)).any (·.1) = false := by intro _; rfl) : One p Γ (.Call (.Name x p') [a] [] pos) a (rOf r) := by
  intro X ok c hc ta ha
  obtain ⟨g1, g2, g3⟩ := ok.glo x hx
  exact (pe_callB (hr X ok c hc) g1 (by rw [ok.mg]; exact hm) hv (pa_cons ha pa_nil (he X.env)) g3 g2 (he X.env) (hpl X.env)).weak fun σ H Q h => h
theorem one_ty {x : Str} {id : String} {r : Cn → List V → Hp → VK → Prop} {p' pos : Pos} (hr : ∀ X, XOk p Γ X → ∀ c, Cn.of p c → CallR X (.type id) (r c)) (hv : bootBuiltins x = some (.type id)) (hx : x ∈ Γ.glo) (hm : p.mg x = none)
    (he : ∀ env, starEach [a] env = (false, eval a env) :: starEach [] env) (hpl : ∀ env, (backTo pos (starEach [] env)).any (·.1) = false := by intro _; rfl) : One p Γ (.Call (.Name x p') [a] [] pos) a (rOf r) := by
  intro X ok c hc ta ha
  obtain ⟨g1, g2, g3⟩ := ok.glo x hx
  exact (pe_callTy (hr X ok c hc) g1 (by rw [ok.mg]; exact hm) hv (pa_cons ha pa_nil (he X.env)) g3 g2 (he X.env) (hpl X.env)).weak fun σ H Q h => h
end
/-! ### len -/
def oLen (_ : List MO) : D → Option D
  | .str s => if s.length ≤ small then some (.int s.length) else none
  | .tup xs => some (.int xs.length)
  | .lst xs => some (.int xs.length)
  | .scr ns => some (.int ns.length)
  | _ => none
def rLenA : Cn → List V → Hp → VK → Prop := fun c xs H Q => ∃ x n, xs = [x] ∧ LenV c.K x H n ∧ Q (.int n) H
theorem o_len : Op1 oLen (rOf rLenA) := by
  intro c G s σ H x d v Q r hx e g
  cases x with
  | str z =>
    simp only [oLen] at e
    split at e
    · rename_i hl
      cases e
      have hx : v = .str (Str.ofString z) := by unfold RDw RD at hx; exact hx
      subst hx
      exact ⟨_, z.length, rfl, ⟨by rw [ofString_len]; exact smallLine hl, (ofString_len z).symm⟩, g.here r (by unfold RD; rfl)⟩
    · cases e
  | tup xs =>
    cases e
    have hx : RD c G H (.tup xs) v := hx
    unfold RD at hx
    obtain ⟨a, vs, rfl, _, h1, h2⟩ := hx
    exact ⟨_, xs.length, rfl, .inr ⟨vs, SqT.of h1, h2.length.symm⟩, g.here r (by unfold RD; rfl)⟩
  | lst xs =>
    cases e
    obtain ⟨a, vs, rfl, h1, h2⟩ := hx
    exact ⟨_, xs.length, rfl, .inl ⟨vs, SqL.of h1, h2.length.symm⟩, g.here r (by unfold RD; rfl)⟩
  | scr ns =>
    cases e
    have hx : RD c G H (.scr ns) v := hx
    unfold RD at hx
    obtain ⟨a, o, rfl, _, h1⟩ := hx
    exact ⟨_, ns.length, rfl, .inl ⟨ns.map V.int, .inl (.inr ⟨o, h1⟩), by simp⟩, g.here r (by unfold RD; rfl)⟩
  | _ => cases e
section
variable {p : Pg} {Γ : NE} {a : Expr} {m : PM D} {p' pos : Pos}
theorem se_len (hx : ("len" : Str) ∈ Γ.glo) (hm : p.mg "len" = none) (ha : SL p Γ a m) (he : ∀ env, starEach [a] env = (false, eval a env) :: starEach [] env) : SE p Γ (.Call (.Name "len" p') [a] [] pos) (e1 oLen m) :=
  se_o1 (one_blt (r := rLenA) (fun X ok c hc => by have := call_len (X := X); unfold rLenA; rw [hc.K, ← ok.K]; exact this) boot_len hx hm he) o_len ha
end
/-! ### list(x), tuple(x) -/
def seqOf (_ : List MO) : D → Option (List D)
  | .tup xs => if xs.length ≤ small then some xs else none
  | .lst xs => if xs.length ≤ small then some xs else none
  | .scr ns => if ns.length ≤ small then some (ns.map .int) else none
  | _ => none
theorem RDs.ints {c : Cn} {G : GW} {H : Hp} : ∀ ns : List Int, RDs c G H (ns.map .int) (ns.map V.int)
  | [] => RDs.nil
  | n :: ns => RDs.cons (by unfold RD; rfl) (RDs.ints ns)
def rListA : Cn → List V → Hp → VK → Prop := fun c xs H Q => ∃ p ys, xs = [.ref p] ∧ (SqL c.K H p ys ∨ SqT c.K H p ys) ∧ ∀ l, H l = none → Q (.ref l) (upd H l (.lst ys))
theorem o_list : Op1F seqOf (rOf rListA) := by
  intro c G s σ H x xs v Q r hx e g
  cases x with
  | tup ys =>
    simp only [seqOf] at e
    split at e
    · cases e
      have hx : RD c G H (.tup xs) v := hx
      unfold RD at hx
      obtain ⟨a, vs, rfl, _, h1, h2⟩ := hx
      exact ⟨a, vs, rfl, .inr (SqT.of h1), fun l hl => g l vs hl h2⟩
    · cases e
  | lst ys =>
    simp only [seqOf] at e
    split at e
    · cases e
      obtain ⟨a, vs, rfl, h1, h2⟩ := hx
      exact ⟨a, vs, rfl, .inl (SqL.of h1), fun l hl => g l vs hl h2⟩
    · cases e
  | scr ns =>
    simp only [seqOf] at e
    split at e
    · cases e
      have hx : RD c G H (.scr ns) v := hx
      unfold RD at hx
      obtain ⟨a, o, rfl, _, h1⟩ := hx
      exact ⟨a, _, rfl, .inl (.inl (.inr ⟨o, h1⟩)), fun l hl => g l _ hl (RDs.ints ns)⟩
    · cases e
  | _ => cases e
section
variable {p : Pg} {Γ : NE} {a : Expr} {m : PM D} {p' pos : Pos}
theorem sf_list (hx : ("list" : Str) ∈ Γ.glo) (hm : p.mg "list" = none) (ha : SL p Γ a m) (he : ∀ env, starEach [a] env = (false, eval a env) :: starEach [] env) : SF p Γ (.Call (.Name "list" p') [a] [] pos) (f1 seqOf m) :=
  sf_o1 (one_ty (r := rListA) (fun X ok c hc => by have := call_list_of (X := X); unfold rListA; rw [hc.K, ← ok.K]; exact this) (by decide +kernel) hx hm he) o_list ha
end
def oTup (M : List MO) (x : D) : Option D := (seqOf M x).map .tup
theorem o_tup : Op1 oTup (fun c => kTup c.K) := by
  intro c G s σ H x d v Q r hx e g
  simp only [oTup, Option.map_eq_some_iff] at e
  obtain ⟨xs, e, rfl⟩ := e
  cases x with
  | tup ys =>
    simp only [seqOf] at e
    split at e
    · cases e
      have hx : RD c G H (.tup xs) v := hx
      have hx0 := hx
      unfold RD at hx
      obtain ⟨a, vs, rfl, _, h1, h2⟩ := hx
      exact .inr ⟨a, vs, rfl, SqT.of h1, g.here r hx0⟩
    · cases e
  | lst ys =>
    simp only [seqOf] at e
    split at e
    · cases e
      obtain ⟨a, vs, rfl, h1, h2⟩ := hx
      exact .inl ⟨a, vs, rfl, SqL.of h1, fun q hq => g.tup r h2 hq⟩
    · cases e
  | scr ns =>
    simp only [seqOf] at e
    split at e
    · cases e
      have hx : RD c G H (.scr ns) v := hx
      unfold RD at hx
      obtain ⟨a, o, rfl, _, h1⟩ := hx
      exact .inl ⟨a, _, rfl, .inl (.inr ⟨o, h1⟩), fun q hq => g.tup r (RDs.ints ns) hq⟩
    · cases e
  | _ => cases e
section
variable {p : Pg} {Γ : NE} {a : Expr} {m : PM D} {p' pos : Pos}
theorem se_tuple (hx : ("tuple" : Str) ∈ Γ.glo) (hm : p.mg "tuple" = none) (ha : SL p Γ a m) (he : ∀ env, starEach [a] env = (false, eval a env) :: starEach [] env) : SE p Γ (.Call (.Name "tuple" p') [a] [] pos) (e1 oTup m) :=
  se_o1 (fun X ok c hc ta ha => by
    obtain ⟨g1, g2, g3⟩ := ok.glo _ hx
    rw [hc.K, ← ok.K]
    exact pe_tupleOf g1 (by rw [ok.mg]; exact hm) ha (he X.env)) o_tup ha
end
/-! ### int(x), str(x) -/
def oInt (_ : List MO) : D → Option D
  | .int i => some (.int i)
  | .bl b => some (.int (if b then 1 else 0))
  | _ => none
def rIntA : Cn → List V → Hp → VK → Prop := fun _ xs H Q => (∃ i, xs = [.int i] ∧ Q (.int i) H) ∨ ∃ k, xs = [.bl k] ∧ Q (.int (if k then 1 else 0)) H
theorem o_int : Op1 oInt (rOf rIntA) := by
  intro c G s σ H x d v Q r hx e g
  cases x with
  | int i =>
    cases e
    have hx : RD c G H (.int i) v := hx
    unfold RD at hx
    subst hx
    exact .inl ⟨i, rfl, g.here r (by unfold RD; rfl)⟩
  | bl b =>
    cases e
    have hx : RD c G H (.bl b) v := hx
    unfold RD at hx
    subst hx
    exact .inr ⟨b, rfl, g.here r (by unfold RD; rfl)⟩
  | _ => cases e
section
variable {p : Pg} {Γ : NE} {a : Expr} {m : PM D} {p' pos : Pos}
theorem se_int1 (hx : ("int" : Str) ∈ Γ.glo) (hm : p.mg "int" = none) (ha : SL p Γ a m) (he : ∀ env, starEach [a] env = (false, eval a env) :: starEach [] env) : SE p Γ (.Call (.Name "int" p') [a] [] pos) (e1 oInt m) :=
  se_o1 (one_ty (r := rIntA) (fun X ok c hc => call_int1) (by decide +kernel) hx hm he) o_int ha
end
/-! ### sum(x), max(x) of ints -/
def intsOf : List D → Option (List Int)
  | [] => some []
  | .int i :: ds => (intsOf ds).map (i :: ·)
  | _ => none
theorem ints_of {c : Cn} {G : GW} {H : Hp} : ∀ {ds : List D} {ns : List Int} {vs : List V}, intsOf ds = some ns → RDs c G H ds vs → vs = ns.map V.int
  | [], _, _, e, h => by
    cases e
    unfold RDs at h
    exact h
  | d :: ds, _, _, e, h => by
    unfold RDs at h
    obtain ⟨v, r, rfl, h1, h2⟩ := h
    cases d with
    | int i =>
      simp only [intsOf, Option.map_eq_some_iff] at e
      obtain ⟨ns, e, rfl⟩ := e
      unfold RD at h1
      subst h1
      rw [ints_of e h2]
      rfl
    | _ => cases e
def oSum (_ : List MO) : D → Option D
  | .lst xs => (intsOf xs).map fun ns => .int ns.sum
  | _ => none
def maxI : List Int → Int
  | [] => 0
  | [a] => a
  | a :: b :: r => max a (maxI (b :: r))
theorem maxI_le : ∀ (l : List Int) (m : Int), (∀ y ∈ l, y ≤ m) → m ∈ l → maxI l = m
  | [], _, _, h => by cases h
  | [a], m, h1, h2 => by
    rw [List.mem_singleton] at h2
    exact h2.symm
  | a :: b :: r, m, h1, h2 => by
    unfold maxI
    have k1 : a ≤ m := h1 a (by simp)
    have up : ∀ (l : List Int) (m : Int), l ≠ [] → (∀ y ∈ l, y ≤ m) → maxI l ≤ m := by
      intro l
      induction l with
      | nil => intro m h; exact absurd rfl h
      | cons a t ih =>
        intro m _ h
        cases t with
        | nil => exact h a (by simp)
        | cons b r =>
          unfold maxI
          exact Int.max_le.mpr ⟨h a (by simp), ih m (by simp) fun y hy => h y (List.mem_cons_of_mem _ hy)⟩
    have k2 := up (b :: r) m (by simp) fun y hy => h1 y (List.mem_cons_of_mem _ hy)
    rcases List.mem_cons.mp h2 with e | e
    · subst e
      exact Int.max_eq_left k2
    · rw [maxI_le (b :: r) m (fun y hy => h1 y (List.mem_cons_of_mem _ hy)) e]
      exact Int.max_eq_right k1
def oMax (_ : List MO) : D → Option D
  | .lst xs => match intsOf xs with
    | some ns => if 0 < ns.length then some (.int (maxI ns)) else none
    | none => none
  | _ => none
def rSumA : Cn → List V → Hp → VK → Prop := fun c => rSum c.K
def rMaxA : Cn → List V → Hp → VK → Prop := fun c => rMax c.K
theorem o_sum : Op1 oSum (rOf rSumA) := by
  intro c G s σ H x d v Q r hx e g
  cases x with
  | lst xs =>
    simp only [oSum, Option.map_eq_some_iff] at e
    obtain ⟨ns, e, rfl⟩ := e
    obtain ⟨a, vs, rfl, h1, h2⟩ := hx
    have := ints_of e h2
    subst this
    exact ⟨a, ns, rfl, SqL.of h1, g.here r (by unfold RD; rfl)⟩
  | _ => cases e
theorem o_max : Op1 oMax (rOf rMaxA) := by
  intro c G s σ H x d v Q r hx e g
  cases x with
  | lst xs =>
    simp only [oMax] at e
    cases e2 : intsOf xs with
    | none => rw [e2] at e; cases e
    | some ns =>
      rw [e2] at e
      dsimp only at e
      split at e
      · rename_i hl
        cases e
        obtain ⟨a, vs, rfl, h1, h2⟩ := hx
        have := ints_of e2 h2
        subst this
        exact ⟨a, ns, rfl, SqL.of h1, hl, fun m h3 h4 => g.here r (by unfold RD; rw [maxI_le ns m h4 h3])⟩
      · cases e
  | _ => cases e
section
variable {p : Pg} {Γ : NE} {a : Expr} {m : PM D} {p' pos : Pos}
theorem se_sum (hcm : Γ.calm = true) (hx : ("sum" : Str) ∈ Γ.glo) (hm : p.mg "sum" = none) (ha : SL p Γ a m) (he : ∀ env, starEach [a] env = (false, eval a env) :: starEach [] env) : SE p Γ (.Call (.Name "sum" p') [a] [] pos) (e1 oSum m) :=
  se_o1 (one_blt (r := rSumA) (fun X ok c hc => by unfold rSumA; rw [hc.K, ← ok.K]; exact cr_sum (ok.calm hcm).1) (by decide +kernel) hx hm he) o_sum ha
theorem se_max1 (hcm : Γ.calm = true) (hx : ("max" : Str) ∈ Γ.glo) (hm : p.mg "max" = none) (ha : SL p Γ a m) (he : ∀ env, starEach [a] env = (false, eval a env) :: starEach [] env) : SE p Γ (.Call (.Name "max" p') [a] [] pos) (e1 oMax m) :=
  se_o1 (one_blt (r := rMaxA) (fun X ok c hc => by unfold rMaxA; rw [hc.K, ← ok.K]; exact cr_max (ok.calm hcm).1) (by decide +kernel) hx hm he) o_max ha
end
end Ev

set_option maxHeartbeats 2000000
/-! Ev12: isinstance, the module's constants, copies of text tables, slices. -/
namespace Ev
open PySem PySem.Spec PyProof.Rows L2

/-! ### isinstance -/
def tyD (M : List MO) : D → Option String
  | .non => some "NoneType"
  | .bl _ => some "bool"
  | .int _ => some "int"
  | .str _ => some "str"
  | .tup _ => some "tuple"
  | .lst _ => some "list"
  | .scr _ => some "list"
  | .dic _ _ => some "dict"
  | .tab _ => some "dict"
  | .ref n => match M[n]? with
    | some (.lst _) => some "list"
    | some (.dic _) => some "dict"
    | _ => none
  | .lam _ _ => none
def tyNames : List String := ["NoneType", "bool", "int", "str", "tuple", "list", "dict"]
def isI (a b : String) : Bool := a == b || (a == "bool" && b == "int")
theorem kit_all : ∀ a ∈ tyNames, ∀ b ∈ tyNames, kitB a b = some (isI a b) := by decide +kernel
theorem tyD_mem {M : List MO} {d : D} {t : String} (h : tyD M d = some t) : t ∈ tyNames := by
  unfold tyD at h
  split at h <;> first
    | (cases h; done)
    | (cases h; decide)
    | (split at h <;> first | (cases h; done) | (cases h; decide))
theorem ty_rel {c : Cn} {G : GW} {s : S} {σ : L2.St} {H : Hp} {x : D} {v : V} {t : String} (r : Rs c G s σ H) (h : RDw c G H x v) (e : tyD s.M x = some t) : TyX c.K H v (.type t) := by
  cases x with
  | non => cases e; have h : RD c G H .non v := h; unfold RD at h; subst h; exact .base .non
  | bl b => cases e; have h : RD c G H (.bl b) v := h; unfold RD at h; subst h; exact .base (.bl _)
  | int b => cases e; have h : RD c G H (.int b) v := h; unfold RD at h; subst h; exact .base (.int _)
  | str b => cases e; have h : RD c G H (.str b) v := h; unfold RD at h; subst h; exact .base (.str _)
  | tup xs =>
    cases e
    have h : RD c G H (.tup xs) v := h
    unfold RD at h
    obtain ⟨a, vs, rfl, _, h1, _⟩ := h
    exact .base (.tup h1)
  | lst xs =>
    cases e
    obtain ⟨a, vs, rfl, h1, _⟩ := h
    exact .base (.lst h1)
  | scr xs =>
    cases e
    have h : RD c G H (.scr xs) v := h
    unfold RD at h
    obtain ⟨a, o, rfl, _, h1⟩ := h
    exact .base (.frz h1)
  | dic ks vs =>
    cases e
    have h : RD c G H (.dic ks vs) v := h
    unfold RD at h
    obtain ⟨a, vs, rfl, _, h1, _⟩ := h
    exact .base (.dK h1)
  | tab kvs =>
    cases e
    have h : RD c G H (.tab kvs) v := h
    unfold RD at h
    obtain ⟨a, rfl, es, n, kd, _⟩ := h
    exact .kDict kd.at_ rfl
  | ref n =>
    have h : RD c G H (.ref n) v := h
    unfold RD at h
    obtain ⟨a, rfl, ha⟩ := h
    simp only [tyD] at e
    split at e
    · rename_i xs q
      cases e
      obtain ⟨vs, h1, _⟩ := r.obj n a _ ha q
      exact .base (.lst h1)
    · rename_i xs q
      cases e
      obtain ⟨vs, h1, _⟩ := r.obj n a _ ha q
      exact .base (.dK h1)
    · cases e
  | lam _ _ => cases e
def oIsi (b : String) (M : List MO) (x : D) : Option D := (tyD M x).map fun a => .bl (isI a b)
def oIsi2 (b b' : String) (M : List MO) (x : D) : Option D := (tyD M x).map fun a => .bl (isI a b || isI a b')
theorem TyX.grow {K : PySem.W.Frag} {H H' : Hp} {v : V} {t : Value} (hs : ∀ a o, H a = some o → H' a = some o) (h : TyX K H v t) : TyX K H' v t := by
  cases h with
  | base b =>
    cases b with
    | non => exact .base .non
    | bl b => exact .base (.bl b)
    | int b => exact .base (.int b)
    | str b => exact .base (.str b)
    | flt b => exact .base (.flt b)
    | lst e => exact .base (.lst (hs _ _ e))
    | frz e => exact .base (.frz (hs _ _ e))
    | tup e => exact .base (.tup (hs _ _ e))
    | dK e => exact .base (.dK (hs _ _ e))
    | dT e => exact .base (.dT (hs _ _ e))
    | ins e cl ha hn ht hm => exact .base (.ins (hs _ _ e) cl ha hn ht hm)
  | byt b => exact .byt b
  | set e => exact .set (hs _ _ e)
  | kList e c => exact .kList e c
  | kTuple e c => exact .kTuple e c
  | kDict e c => exact .kDict e c
  | fTuple e => exact .fTuple (hs _ _ e)
  | fDict e => exact .fDict (hs _ _ e)
theorem isI_of {a b : String} (ha : a ∈ tyNames) (hb : b ∈ tyNames) {K : PySem.W.Frag} : PySem.W.kitOne K (.type a) (.type b) = some (isI a b) := kit_ty (kit_all a ha b hb)
/-- as the layer's rules have it -/
def rIsA (b : String) : Cn → V → Hp → VK → Prop := fun c x H Q => rIsi c.K [x, .ty b] H Q
def rIsA2 (b b' : String) : Cn → V → Hp → VK → Prop := fun c x H Q => 2 ≤ sizeLine ∧ ∀ p, H p = none → rIsiT c.K [x, .ref p] (upd H p (.tup [.ty b, .ty b'])) Q
theorem o_isi {b : String} (hb : b ∈ tyNames) : Op1 (oIsi b) (rIsA b) := by
  intro c G s σ H x d v Q r hx e g
  simp only [oIsi, Option.map_eq_some_iff] at e
  obtain ⟨t, e, rfl⟩ := e
  exact ⟨v, .ty b, .type t, .type b, isI t b, rfl, .ty b, ty_rel r hx e, isI_of (tyD_mem e) hb, g.here r (by unfold RD; rfl)⟩
theorem o_isi2 {b b' : String} (hb : b ∈ tyNames) (hb' : b' ∈ tyNames) : Op1 (oIsi2 b b') (rIsA2 b b') := by
  intro c G s σ H x d v Q r hx e g
  simp only [oIsi2, Option.map_eq_some_iff] at e
  obtain ⟨t, e, rfl⟩ := e
  refine ⟨by rw [sizeLine_eq]; omega, fun p hp => ?_⟩
  have hs := upd_grow (o := .tup [.ty b, .ty b']) hp
  refine ⟨v, p, [.ty b, .ty b'], .type t, [.type b, .type b'], _, rfl, upd_same, .cons (.ty b) (.cons (.ty b') .nil), TyX.grow hs (ty_rel r hx e), ?_, g _ _ _ (r.ext_of hs) (r.grow hs) (by unfold RD; rfl)⟩
  refine kitAny_cons (isI_of (tyD_mem e) hb) (fun h1 => ?_) (fun h1 => by rw [h1]; rfl)
  rw [h1]
  refine kitAny_cons (isI_of (tyD_mem e) hb') (fun h2 => ?_) (fun h2 => by rw [h2]; rfl)
  rw [h2]
  rfl
section
variable {p : Pg} {Γ : NE} {a : Expr} {m : PM D} {p' p2 p3 p4 pos : Pos} {b b' : String} {k : Nat}
theorem se_isi (hx : ("isinstance" : Str) ∈ Γ.glo) (hm : p.mg "isinstance" = none) (hb : Str.ofString b ∈ Γ.glo) (hmb : p.mg (Str.ofString b) = none) (hbt : bootBuiltins (Str.ofString b) = some (.type b)) (hbn : b ∈ tyNames) (ha : SL p Γ a m)
    (he : ∀ env, starEach [a, .Name (Str.ofString b) p2] env = (false, eval a env) :: starEach [.Name (Str.ofString b) p2] env) : SE p Γ (.Call (.Name "isinstance" p') [a, .Name (Str.ofString b) p2] [] pos) (e1 (oIsi b) m) :=
  se_o1 (fun X ok c hc ta ha => by
    obtain ⟨g1, g2, g3⟩ := ok.glo _ hx
    obtain ⟨k1, k2, k3⟩ := ok.glo _ hb
    exact (pe_callB (call_isi (X := X)) g1 (by rw [ok.mg]; exact hm) boot_isinstance (pa_cons ha (pa_cons (pe_bltn k1 (by rw [ok.mg]; exact hmb) hbt (v := .ty b) rfl k3 k2) pa_nil (by rfl)) (he X.env)) g3 g2 (he X.env) (by rfl)).weak fun σ H Q h => by
      unfold tThen rIsA at h
      rw [hc.K, ← ok.K] at h
      exact h) (o_isi hbn) ha
theorem se_isi2 (hx : ("isinstance" : Str) ∈ Γ.glo) (hm : p.mg "isinstance" = none) (hb : Str.ofString b ∈ Γ.glo) (hmb : p.mg (Str.ofString b) = none) (hbt : bootBuiltins (Str.ofString b) = some (.type b)) (hbn : b ∈ tyNames)
    (hb' : Str.ofString b' ∈ Γ.glo) (hmb' : p.mg (Str.ofString b') = none) (hbt' : bootBuiltins (Str.ofString b') = some (.type b')) (hbn' : b' ∈ tyNames) (ha : SL p Γ a m)
    (he : ∀ env, starEach [a, .Tuple [.Name (Str.ofString b) p2, .Name (Str.ofString b') p3] k p4] env = (false, eval a env) :: starEach [.Tuple [.Name (Str.ofString b) p2, .Name (Str.ofString b') p3] k p4] env) :
    SE p Γ (.Call (.Name "isinstance" p') [a, .Tuple [.Name (Str.ofString b) p2, .Name (Str.ofString b') p3] k p4] [] pos) (e1 (oIsi2 b b') m) :=
  se_o1 (fun X ok c hc ta ha => by
    obtain ⟨g1, g2, g3⟩ := ok.glo _ hx
    obtain ⟨k1, k2, k3⟩ := ok.glo _ hb
    obtain ⟨j1, j2, j3⟩ := ok.glo _ hb'
    exact (pe_callB (call_isiT (X := X)) g1 (by rw [ok.mg]; exact hm) boot_isinstance (pa_cons ha (pa_cons (pe_tup (pa_cons (pe_bltn k1 (by rw [ok.mg]; exact hmb) hbt (v := .ty b) rfl k3 k2) (pa_cons (pe_bltn j1 (by rw [ok.mg]; exact hmb') hbt' (v := .ty b') rfl j3 j2) pa_nil (by rfl)) (by rfl))) pa_nil (by rfl)) (he X.env)) g3 g2 (he X.env) (by rfl)).weak fun σ H Q h => by
      unfold tThen rIsA2 at h
      rw [hc.K, ← ok.K] at h
      exact h) (o_isi2 hbn hbn') ha
end
/-! ### the module's constants -/
section
variable {p : Pg} {Γ : NE} {x : Str} {pos : Pos} {u : Value}
theorem se_cint {i : Int} (hx : x ∈ Γ.glo) (hm : p.mg x = some u) (hu : RelV (.int i) u) : SE p Γ (.Name x pos) (pure (.int i)) := by
  intro X ok W tk c hc
  obtain ⟨g1, g2, g3⟩ := ok.glo _ hx
  refine (pe_glob g1 (by rw [ok.mg]; exact hm) hu g2).weak fun σ H Q h => ?_
  obtain ⟨G, s, r, h⟩ := h
  exact h.same (a := D.int i) (b := V.int i) rfl r (by unfold RD; rfl)
theorem se_ctab {a : Addr} {kvs : List (String × String)} (hx : x ∈ Γ.glo) (hm : p.mg x = some (.ref a)) (hu : KTab p.K p.w a kvs) : SE p Γ (.Name x pos) (pure (.tab kvs)) := by
  intro X ok W tk c hc
  obtain ⟨g1, g2, g3⟩ := ok.glo _ hx
  refine (pe_glob (v := .ref a) g1 (by rw [ok.mg]; exact hm) rfl g2).weak fun σ H Q h => ?_
  obtain ⟨G, s, r, h⟩ := h
  exact h.same (a := D.tab kvs) (b := V.ref a) rfl r (by unfold RD; exact ⟨a, rfl, by rw [hc.K, hc.w]; exact hu⟩)
end
/-! ### a copy of a text table -/
def tabK (kvs : List (String × String)) : List (Key × V) := kvs.map fun q => (.inr (Str.ofString q.1), .str (Str.ofString q.2))
theorem tab_dict {P : Program} {K : PySem.W.Frag} {w : World} {a : Addr} {kvs : List (String × String)} {h : Heap} (X : K.In h) (t : KTab K w a kvs) : (a == sysModules) = false ∧ ∃ vs, KV (tabK kvs) vs ∧ h.DictOf (mixKind P w) a vs := by
  obtain ⟨es, n, kd, hz, pr, nd⟩ := t
  clear hz
  have ki : ∀ (x : Str) (tk : Tok), (mixKind P w).is (.inr x) (.str x tk) = true := fun x tk => by simp [mixKind, keyIs, Value.isStrOf]
  have hh : ∀ x : Str, PyData.keyHash w.params x = (mixKind P w).hash (.inr x) := fun x => rfl
  refine ⟨kd.low, es.toList.zipWith (fun e (q : String × String) => ((.inr (Str.ofString q.1) : Key), e.val)) kvs, ?_, ⟨_, es, n, X _ _ kd.at_, ⟨rfl, rfl, rfl⟩, rfl, ?_, ?_, ?_⟩⟩
  · generalize es.toList = l at pr
    clear nd kd
    unfold tabK
    induction pr with
    | nil => exact .nil
    | cons h t ih =>
      obtain ⟨_, _, u, e⟩ := h
      exact .cons ⟨rfl, u, e⟩ ih
  · intro e he
    have he : e ∈ es.toList := Array.mem_toList_iff.mpr he
    generalize es.toList = l at pr he
    clear nd kd
    induction pr with
    | nil => cases he
    | @cons q e' _ _ h t ih =>
      rcases List.mem_cons.mp he with z | z
      · subst z
        obtain ⟨⟨tk, e1⟩, e2, _⟩ := h
        exact ⟨.inr (Str.ofString q.1), by rw [e1]; exact ki _ _, by rw [e2]; exact hh _⟩
      · exact ih z
  · generalize es.toList = l at pr
    clear nd kd
    induction pr with
    | nil => exact .nil
    | @cons q e' _ _ h t ih =>
      obtain ⟨⟨tk, e1⟩, e2, _⟩ := h
      exact .cons (by rw [e1]; exact ki _ _) rfl ih
  · have e : (es.toList.zipWith (fun e (q : String × String) => ((.inr (Str.ofString q.1) : Key), e.val)) kvs).map (·.1) = (kvs.map (·.1)).map fun x => (.inr (Str.ofString x) : Key) := by
      generalize es.toList = l at pr
      clear nd kd
      induction pr with
      | nil => rfl
      | cons h t ih => simp only [List.zipWith_cons_cons, List.map_cons, ih]
    rw [e]
    exact nd.map _ (fun a b h z => h (by injection z with z; exact ofString_inj z))
def rDictT : Cn → List V → Hp → VK → Prop := fun c xs H Q => ∃ (a : Addr) (kvs : List (String × String)), xs = [.ref a] ∧ KTab c.K c.w a kvs ∧ kvs.length ≤ 1000 ∧ ∀ p, H p = none → Q (.ref p) (upd H p (.dK (tabK kvs)))
theorem call_dictT {X : Cx} {c : Cn} (hK : c.K = X.K) (hw : c.w = X.w) : CallR X (.type "dict") (rDictT c) := by
  intro pins s σ H xs us Q I r q
  obtain ⟨a, kvs, ex, hd, hl, q⟩ := q
  subst ex
  obtain ⟨u, eu, rx⟩ := vals1 r
  subst eu
  cases rx
  rw [hK, hw] at hd
  obtain ⟨lo, vs, rel, dd⟩ := tab_dict (P := X.prog) I.kIn hd
  have z : (tabK kvs).length ≤ sizeLine := by unfold tabK; rw [List.length_map]; exact line1000 hl
  refine kt_call_dict lo dd (by rw [← rel.length]; exact z) fun h' d' hs => ?_
  have hm : (s.heap.objs.size == sysModules) = false := beq_eq_false_iff_ne.mpr (Nat.ne_of_gt I.big)
  exact ⟨.ref s.heap.objs.size, upd H s.heap.objs.size (.dK (tabK kvs)), I.laid (t' := s.toks) (fun b u e => (hs.2 b (Nat.ne_of_lt (Heap.lt_size e))).trans (Heap.get?_push_of_some _ e)) (Nat.le_refl _)
    (show ObjOk X.prog X.w _ _ _ (.dK (tabK kvs)) from ⟨z, hm, vs, rel, d'⟩), rfl, q _ (I.hok.fresh (Nat.le_refl _))⟩
def oDictT (_ : List MO) : D → Option D
  | .tab kvs => if kvs.length ≤ 1000 then some (.dic (kvs.map (·.1)) (kvs.map fun q => .str q.2)) else none
  | _ => none
theorem RDs.strs {c : Cn} {G : GW} {H : Hp} : ∀ kvs : List (String × String), RDs c G H (kvs.map fun q => .str q.2) (kvs.map fun q => V.str (Str.ofString q.2))
  | [] => RDs.nil
  | q :: r => RDs.cons (by unfold RD; rfl) (RDs.strs r)
theorem o_dictT : Op1 oDictT (rOf rDictT) := by
  intro c G s σ H x d v Q r hx e g
  cases x with
  | tab kvs =>
    simp only [oDictT] at e
    split at e
    · rename_i hl
      cases e
      have hx : RD c G H (.tab kvs) v := hx
      unfold RD at hx
      obtain ⟨a, rfl, t⟩ := hx
      refine ⟨a, kvs, rfl, t, hl, fun p hp => ?_⟩
      obtain ⟨x, r'⟩ := r.push (.dK (tabK kvs)) hp
      refine g _ _ _ x r' ?_
      unfold RD
      refine ⟨p, kvs.map fun q => V.str (Str.ofString q.2), rfl, .inr rfl, ?_, by simp, RDs.strs kvs⟩
      rw [upd_same]
      congr 2
      unfold tabK
      clear t hl r r' x g hx
      induction kvs with
      | nil => rfl
      | cons q t ih =>
        simp only [List.map_cons, List.zip_cons_cons]
        rw [← ih]
    · cases e
  | _ => cases e
section
variable {p : Pg} {Γ : NE} {a : Expr} {m : PM D} {p' pos : Pos}
theorem se_dictT (hx : ("dict" : Str) ∈ Γ.glo) (hm : p.mg "dict" = none) (ha : SL p Γ a m) (he : ∀ env, starEach [a] env = (false, eval a env) :: starEach [] env) : SE p Γ (.Call (.Name "dict" p') [a] [] pos) (e1 oDictT m) :=
  se_o1 (one_ty (r := rDictT) (fun X ok c hc => call_dictT (hc.K.trans ok.K.symm) (hc.w.trans ok.w.symm)) (by decide +kernel) hx hm he) o_dictT ha
end
end Ev

set_option maxHeartbeats 2000000
/-! Ev13: slices; methods of lists. -/
namespace Ev
open PySem PySem.Spec PyProof.Rows L2

theorem _root_.L2.PO.weak {X : Cx} {e : Option Expr} {t t' : TO} (h : PO X e t) (k : ∀ σ H Q, t' σ H Q → t σ H Q) : PO X e t' := ⟨fun pins s σ H Q I q => h.run pins s σ H Q I (k σ H Q q)⟩
def tO (c : Cn) (W : WX) (m : PM (Option Int)) : TO := fun σ H Q => ∃ G s, Rs c G s σ H ∧ Run REq c W m G s σ H Q
def SO (p : Pg) (Γ : NE) (e : Option Expr) (m : PM (Option Int)) : Prop := ∀ X, XOk p Γ X → ∀ W, Takes X W → ∀ c, Cn.of p c → PO X e (tO c W m)
def oNo : PM (Option Int) := pure none
def oSm (m : PM D) : PM (Option Int) := m >>= fun d => match d with
  | .int i => pure (some i)
  | _ => stuck
section
variable {p : Pg} {Γ : NE} {e : Expr} {m : PM D}
theorem so_none : SO p Γ none oNo := by
  intro X ok W tk c hc
  refine po_none.weak fun σ H Q h => ?_
  obtain ⟨G, s, r, h⟩ := h
  exact h.same (a := none) (b := none) rfl r rfl
theorem so_some (h : SE p Γ e m) : SO p Γ (some e) (oSm m) := by
  intro X ok W tk c hc
  refine (po_some (h X ok W tk c hc)).weak fun σ H Q h => ?_
  obtain ⟨G, s, r, h⟩ := h
  refine ⟨G, s, r, (Run.bind (R := RD) h).mono fun v H1 ⟨G1, s1, d, x1, r1, q1, h1⟩ => ?_⟩
  cases d with
  | int i =>
    unfold RD at q1
    exact ⟨i, q1, Run.same (R := REq) (m := pure (some i)) (a := some i) (b := some i) rfl h1 r1 rfl⟩
  | _ => exact stuck_run h1
end
/-- the part of xs that a slice means -/
def cutD {α : Type} (xs : List α) (lo hi : Option Int) : List α := (xs.drop (HT.sIx xs.length 0 lo)).take (HT.sIx xs.length xs.length hi - HT.sIx xs.length 0 lo)
theorem RDs.cut {c : Cn} {G : GW} {H : Hp} {ds : List D} {vs : List V} (h : RDs c G H ds vs) (lo hi : Option Int) : RDs c G H (cutD ds lo hi) (cutV vs lo hi) := by
  unfold cutD cutV
  rw [h.length]
  exact (h.drop _).take _
theorem cutD_whole {α : Type} {xs : List α} {lo hi : Option Int} (h : HT.sIx xs.length 0 lo = 0 ∧ HT.sIx xs.length xs.length hi = xs.length) : cutD xs lo hi = xs := by
  unfold cutD
  rw [h.1, h.2]
  simp
theorem cutS_of (z : String) (lo hi : Option Int) : cutS (Str.ofString z) lo hi = Str.ofString (String.ofList (cutD z.toList lo hi)) := by
  have e : (cutS (Str.ofString z) lo hi).cps.toList = (Str.ofString (String.ofList (cutD z.toList lo hi))).cps.toList := by
    unfold cutS cutD
    rw [ofString_cps, ofString_cps, String.toList_ofList, ofString_len, ← String.length_toList]
    simp [List.map_take, List.map_drop]
  have e2 := Array.toList_inj.mp e
  cases h1 : cutS (Str.ofString z) lo hi
  cases h2 : Str.ofString (String.ofList (cutD z.toList lo hi))
  rw [h1, h2] at e2
  rw [show ∀ a b : Array Nat, a = b → (⟨a⟩ : Str) = ⟨b⟩ from fun _ _ h => by rw [h]]
  exact e2
def slD (x : D) (lo hi : Option Int) : Option D := match x with
  | .tup xs => some (.tup (cutD xs lo hi))
  | .str z => if z.length ≤ small then some (.str (String.ofList (cutD z.toList lo hi))) else none
  | _ => none
def eSl (m : PM D) (ml mh : PM (Option Int)) : PM D := m >>= fun x => ml >>= fun lo => mh >>= fun hi => fun s => match slD x lo hi with
  | some d => .ok d s
  | none => .bad
def fSl (m : PM D) (ml mh : PM (Option Int)) : PM (List D) := m >>= fun x => ml >>= fun lo => mh >>= fun hi => fun s => match vw s.M x with
  | .lst xs => .ok (cutD xs lo hi) s
  | _ => .bad
section
variable {p : Pg} {Γ : NE} {e : Expr} {lo hi : Option Expr} {m : PM D} {ml mh : PM (Option Int)} {p2 pos : Pos}
theorem se_sl (h : SE p Γ e m) (hl : SO p Γ lo ml) (hh : SO p Γ hi mh) : SE p Γ (.Subscript e (.Slice lo hi none p2) pos) (eSl m ml mh) := by
  intro X ok W tk c hc
  refine (pe_slice (SlR.or sl_tupA sl_str) (h X ok W tk c hc) (hl X ok W tk c hc) (hh X ok W tk c hc)).weak fun σ H Q h => ?_
  obtain ⟨G, s, r, h⟩ := h
  refine ⟨G, s, r, (Run.bind (R := RD) h).mono fun v H1 ⟨G1, s1, x, x1, r1, q1, h1⟩ => ?_⟩
  refine ⟨G1, s1, r1, (Run.bind (R := REq) h1).mono fun lo H2 ⟨G2, s2, lo', x2, r2, q2, h2⟩ => ?_⟩
  refine ⟨G2, s2, r2, (Run.bind (R := REq) h2).mono fun hi H3 ⟨G3, s3, hi', x3, r3, q3, h3⟩ => ?_⟩
  cases q2
  cases q3
  have q := q1.mono (x2.trans x3)
  unfold Run at h3
  cases x with
  | tup xs =>
    have h3 : Gives c G3 s3 σ H3 (.tup (cutD xs lo hi)) Q := h3
    have q0 := q
    unfold RD at q
    obtain ⟨a, vs, rfl, ha, k1, k2⟩ := q
    refine .inl ⟨a, vs, rfl, SqT.of k1, fun hw => ?_, fun _ p hp => h3.tup r3 (k2.cut lo hi) hp⟩
    rw [k2.length] at hw
    rw [cutD_whole hw] at h3
    exact h3.here r3 q0
  | str z =>
    unfold RD at q
    subst q
    simp only [slD] at h3
    split at h3
    · rename_i e
      split at e
      · rename_i e2
        split at e2
        · rename_i hl
          cases e2
          cases e
          have h3 : Gives c G3 s3 σ H3 (.str (String.ofList (cutD z.toList lo hi))) Q := h3
          exact .inr ⟨_, rfl, by rw [ofString_len]; exact smallLine hl, h3.here r3 (by unfold RD; rw [cutS_of])⟩
        · cases e2
      · cases e
    · rename_i e
      split at e <;> cases e
    · exact h3.elim
  | _ => exact h3.elim
theorem sf_sl (h : SE p Γ e m) (hl : SO p Γ lo ml) (hh : SO p Γ hi mh) : SF p Γ (.Subscript e (.Slice lo hi none p2) pos) (fSl m ml mh) := by
  intro X ok W tk c hc
  refine (pe_slice sl_list (h X ok W tk c hc) (hl X ok W tk c hc) (hh X ok W tk c hc)).weak fun σ H Q h => ?_
  obtain ⟨G, s, r, h⟩ := h
  refine ⟨G, s, r, (RunF.bind (R := RD) h).mono fun v H1 ⟨G1, s1, x, x1, r1, q1, h1⟩ => ?_⟩
  refine ⟨G1, s1, r1, (RunF.bind (R := REq) h1).mono fun lo H2 ⟨G2, s2, lo', x2, r2, q2, h2⟩ => ?_⟩
  refine ⟨G2, s2, r2, (RunF.bind (R := REq) h2).mono fun hi H3 ⟨G3, s3, hi', x3, r3, q3, h3⟩ => ?_⟩
  cases q2
  cases q3
  have q := r3.view (q1.mono (x2.trans x3))
  have h4 := h3
  unfold RunF at h3
  cases ex : vw s3.M x with
  | lst xs =>
    rw [ex] at q
    obtain ⟨a, vs, rfl, k1, k2⟩ := q
    exact ⟨a, vs, rfl, SqL.of k1, fun p hp => h4.new (by rw [ex]) r3 (k2.cut lo hi) hp⟩
  | _ =>
    simp only [ex] at h3
end
/-! ### methods that change a list -/
abbrev LM := List MO → List D → List D → Option (List D × D)
def MutOk (f : LM) (r : V → List V → Hp → VK → Prop) : Prop := ∀ (c : Cn) (G : GW) (s : S) (σ : L2.St) (H : Hp) (a : Addr) (vs : List V) (ds : List D) (Q : VK), Rs c G s σ H → RDs c G H ds vs → Muts c G σ H a (f s.M ds) Q → r (.ref a) vs H Q
/-- the name in slot i has a list -/
def chkL (i : Nat) : PM Unit := fun s => match s.σ[i]? with
  | some (.ul _) => .ok () s
  | some (.val d) => match vw s.M d with
    | .lst _ => .ok () s
    | _ => .bad
  | _ => .bad
def chkV (x : D) : PM Unit := fun s => match vw s.M x with
  | .lst _ => .ok () s
  | _ => .bad
def eMutN (i : Nat) (f : LM) (ms : PM (List D)) : PM D := chkL i >>= fun _ => ms >>= fun ds => fun s => mutN i (f s.M ds) s
def eMutV (mo : PM D) (f : LM) (ms : PM (List D)) : PM D := mo >>= fun x => chkV x >>= fun _ => ms >>= fun ds => fun s => mutV x (f s.M ds) s
section
variable {c : Cn} {W : WX} {G : GW} {s : S} {σ : L2.St} {H : Hp} {Q : VK}
theorem chkL_run {i : Nat} {g : Unit → PM D} (r : Rs c G s σ H) (h : Run RD c W (chkL i >>= g) G s σ H Q) : ∃ a vs, σ[i]? = some (some (V.ref a)) ∧ H a = some (.lst vs) ∧ Run RD c W (g ()) G s σ H Q := by
  unfold Run at h
  rw [bind_eq] at h
  unfold chkL at h
  cases e : s.σ[i]? with
  | none => rw [e] at h; exact h.elim
  | some v =>
    rw [e] at h
    cases v with
    | ul xs =>
      obtain ⟨a, vs, h1, h2, _⟩ := r.at_ i _ e
      exact ⟨a, vs, h1, h2, h⟩
    | val d =>
      obtain ⟨y, q1, q2⟩ := r.at_ i _ e
      have q := r.view q2
      dsimp only at h
      cases ex : vw s.M d with
      | lst xs =>
        rw [ex] at q h
        obtain ⟨a, vs, rfl, k1, k2⟩ := q
        exact ⟨a, vs, q1, k1, h⟩
      | _ =>
        rw [ex] at h
        exact h.elim
    | _ => exact h.elim
theorem chkV_run {x : D} {v : V} {g : Unit → PM D} (r : Rs c G s σ H) (q2 : RD c G H x v) (h : Run RD c W (chkV x >>= g) G s σ H Q) : ∃ a vs, v = V.ref a ∧ H a = some (.lst vs) ∧ Run RD c W (g ()) G s σ H Q := by
  unfold Run at h
  rw [bind_eq] at h
  unfold chkV at h
  have q := r.view q2
  cases ex : vw s.M x with
  | lst xs =>
    rw [ex] at q h
    obtain ⟨a, vs, rfl, k1, k2⟩ := q
    exact ⟨a, vs, rfl, k1, h⟩
  | _ =>
    rw [ex] at h
    exact h.elim
end
section
variable {p : Pg} {Γ : NE} {o e : Expr} {es : List Expr} {mo : PM D} {ms : PM (List D)} {name : Str} {id : String} {f : LM} {r : V → List V → Hp → VK → Prop} {apos cpos : Pos}
/-- what the layer's rule asks of a call of a method with arguments, of one with none -/
structure BM (o : Expr) (name : Str) (apos : Pos) (e : Expr) (es : List Expr) (cpos : Pos) : Prop where
  base : ∀ env, attributeBase o name env (eval o env) = eval o env
  few : ∀ env, ((backTo cpos (starEach (e :: es) env)).all (fun x => !x.1) && (backToKw cpos (keywordEach [] env)).all (fun x => x.1.isSome)
      && decide ((e :: es).length + ([] : List Keyword).length + (if ([] : List Keyword).isEmpty then 0 else 1) < 30)) = true
  line : (apos.endLine == cpos.line) = true
  st : ∀ env, starEach (e :: es) env = (false, eval e env) :: starEach es env
  pl : ∀ env, (backTo cpos (starEach es env)).any (·.1) = false
structure LMeth (name : Str) (id : String) (r : V → List V → Hp → VK → Prop) : Prop where
  slot : Slot "list" name id
  ty : typeOf (.builtin id) = pure (.type "method_descriptor")
  mt : ∀ X : Cx, MtR X id r
theorem se_mutN {i : Nat} {x : Str} {pos' : Pos} (L : LMeth name id r) (o : MutOk f r) (hN : Γ.N[i]? = some x) (hi : i ∈ Γ.see) (ha : SA p Γ (e :: es) ms) (b : BM (.Name x pos') name apos e es cpos) : SE p Γ (.Call (.Attribute (.Name x pos') name apos) (e :: es) [] cpos) (eMutN i f ms) := by
  intro X ok W tk c hc
  obtain ⟨v1, v2, v3⟩ := ok.vis i hi x hN
  refine (pe_bm PySem.F.plainAttrs_list L.slot L.ty (L.mt X) (pe_var (i := i) (by rw [ok.N]; exact hN) v1 v2 v3) (ha X ok W tk c hc) (b.base _) (b.few _) b.line (b.st _) (b.pl _)).weak fun σ H Q h => ?_
  obtain ⟨G, s, r, h⟩ := h
  obtain ⟨a, vs, h1, h2, h⟩ := chkL_run r h
  refine ⟨V.ref a, h1, .inl ⟨rfl, vs, SqL.of h2⟩, G, s, r, (Run.bind (R := RDs) h).mono fun ws H2 ⟨G2, s2, ds, x2, r2, q2, h3⟩ => ?_⟩
  obtain ⟨a', k1, k2⟩ := mutN_run r2 (f := f s2.M ds) h3
  rw [h1] at k1
  cases k1
  exact o c G2 s2 σ H2 a ws ds Q r2 q2 k2
theorem se_mutN0 {i : Nat} {x : Str} {pos' : Pos} (L : LMeth name id r) (o : MutOk f r) (hN : Γ.N[i]? = some x) (hi : i ∈ Γ.see) (hb : ∀ env, attributeBase (.Name x pos') name env (eval (.Name x pos') env) = eval (.Name x pos') env) (hl : (apos.endLine == cpos.line) = true) :
    SE p Γ (.Call (.Attribute (.Name x pos') name apos) [] [] cpos) (eMutN i f (pure [])) := by
  intro X ok W tk c hc
  obtain ⟨v1, v2, v3⟩ := ok.vis i hi x hN
  refine (pe_bm0 PySem.F.plainAttrs_list L.slot L.ty (L.mt X) (pe_var (i := i) (by rw [ok.N]; exact hN) v1 v2 v3) (hb _) hl).weak fun σ H Q h => ?_
  obtain ⟨G, s, r, h⟩ := h
  obtain ⟨a, vs, h1, h2, h⟩ := chkL_run r h
  refine ⟨V.ref a, h1, .inl ⟨rfl, vs, SqL.of h2⟩, ?_⟩
  obtain ⟨a', k1, k2⟩ := mutN_run r (f := f s.M []) h
  rw [h1] at k1
  cases k1
  exact o c G s σ H a [] [] Q r RDs.nil k2
theorem se_mutV (L : LMeth name id r) (om : MutOk f r) (ho : SE p Γ o mo) (ha : SA p Γ (e :: es) ms) (b : BM o name apos e es cpos) : SE p Γ (.Call (.Attribute o name apos) (e :: es) [] cpos) (eMutV mo f ms) := by
  intro X ok W tk c hc
  refine (pe_bm PySem.F.plainAttrs_list L.slot L.ty (L.mt X) (ho X ok W tk c hc) (ha X ok W tk c hc) (b.base _) (b.few _) b.line (b.st _) (b.pl _)).weak fun σ H Q h => ?_
  obtain ⟨G, s, r, h⟩ := h
  refine ⟨G, s, r, (Run.bind (R := RD) h).mono fun v H1 ⟨G1, s1, x, x1, r1, q1, h⟩ => ?_⟩
  obtain ⟨a, vs, rfl, h2, h⟩ := chkV_run r1 q1 h
  refine ⟨.inl ⟨rfl, vs, SqL.of h2⟩, G1, s1, r1, (Run.bind (R := RDs) h).mono fun ws H2 ⟨G2, s2, ds, x2, r2, q2, h3⟩ => ?_⟩
  obtain ⟨a', k1, k2⟩ := mutV_run r2 (q1.mono x2) (f := f s2.M ds) h3
  cases k1
  exact om c G2 s2 σ H2 a ws ds Q r2 q2 k2
theorem se_mutV0 (L : LMeth name id r) (om : MutOk f r) (ho : SE p Γ o mo) (hb : ∀ env, attributeBase o name env (eval o env) = eval o env) (hl : (apos.endLine == cpos.line) = true) : SE p Γ (.Call (.Attribute o name apos) [] [] cpos) (eMutV mo f (pure [])) := by
  intro X ok W tk c hc
  refine (pe_bm0 PySem.F.plainAttrs_list L.slot L.ty (L.mt X) (ho X ok W tk c hc) (hb _) hl).weak fun σ H Q h => ?_
  obtain ⟨G, s, r, h⟩ := h
  refine ⟨G, s, r, (Run.bind (R := RD) h).mono fun v H1 ⟨G1, s1, x, x1, r1, q1, h⟩ => ?_⟩
  obtain ⟨a, vs, rfl, h2, h⟩ := chkV_run r1 q1 h
  refine ⟨.inl ⟨rfl, vs, SqL.of h2⟩, ?_⟩
  obtain ⟨a', k1, k2⟩ := mutV_run r1 q1 (f := f s1.M []) h
  cases k1
  exact om c G1 s1 σ H1 a [] [] Q r1 RDs.nil k2
end
/-! ### the methods -/
def lAppend : LM := fun _ ds xs => match ds with
  | [d] => if xs.length < small then some (xs ++ [d], .non) else none
  | _ => none
def lReverse : LM := fun _ ds xs => match ds with
  | [] => some (xs.reverse, .non)
  | _ => none
def lClear : LM := fun _ ds xs => match ds with
  | [] => some ([], .non)
  | _ => none
def lExtend : LM := fun M ds xs => match ds with
  | [d] => match vw M d with
    | .lst ys => if xs.length + ys.length ≤ small then some (xs ++ ys, .non) else none
    | _ => none
  | _ => none
def lInsert : LM := fun _ ds xs => match ds with
  | [.int i, d] => if xs.length < small ∧ 0 ≤ i ∧ i < 1000000 then some (xs.take i.toNat ++ [d] ++ xs.drop i.toNat, .non) else none
  | _ => none
def lPop : LM := fun _ ds xs => match ds with
  | [] => match xs[xs.length - 1]? with
    | some d => some (xs.dropLast, d)
    | none => none
  | _ => none
theorem RDs.rev {c : Cn} {G : GW} {H : Hp} : ∀ {ds : List D} {vs : List V}, RDs c G H ds vs → RDs c G H ds.reverse vs.reverse
  | [], _, h => by unfold RDs at h; subst h; exact RDs.nil
  | d :: ds, _, h => by
    unfold RDs at h
    obtain ⟨v, r, rfl, h1, h2⟩ := h
    rw [List.reverse_cons, List.reverse_cons]
    exact (RDs.rev h2).app (RDs.cons h1 RDs.nil)
theorem RDs.one {c : Cn} {G : GW} {H : Hp} {d : D} {vs : List V} (h : RDs c G H [d] vs) : ∃ v, vs = [v] ∧ RD c G H d v := by
  unfold RDs at h
  obtain ⟨v, r, rfl, h1, h2⟩ := h
  unfold RDs at h2
  subst h2
  exact ⟨v, rfl, h1⟩
theorem RDs.two {c : Cn} {G : GW} {H : Hp} {d e : D} {vs : List V} (h : RDs c G H [d, e] vs) : ∃ v w, vs = [v, w] ∧ RD c G H d v ∧ RD c G H e w := by
  unfold RDs at h
  obtain ⟨v, r, rfl, h1, h2⟩ := h
  obtain ⟨w, rfl, h3⟩ := h2.one
  exact ⟨v, w, rfl, h1, h3⟩
theorem RDs.zero {c : Cn} {G : GW} {H : Hp} {vs : List V} (h : RDs c G H [] vs) : vs = [] := by unfold RDs at h; exact h
theorem m_append : MutOk lAppend rAppend := by
  intro c G s σ H a vs ds Q r q m
  obtain ⟨ws, xs, ys, d, h1, h2, e, g⟩ := m
  unfold lAppend at e
  split at e
  · rename_i d0
    split at e
    · rename_i hl
      cases e
      obtain ⟨v, rfl, hv⟩ := q.one
      exact ⟨a, ws, v, rfl, rfl, h1, by rw [h2.length]; have := smallLine (Nat.le_of_lt hl); unfold small at hl; rw [sizeLine_eq]; omega, g _ _ (h2.app (RDs.cons hv RDs.nil)) fun x => by unfold RD; rfl⟩
    · cases e
  · cases e
theorem m_reverse : MutOk lReverse rReverse := by
  intro c G s σ H a vs ds Q r q m
  obtain ⟨ws, xs, ys, d, h1, h2, e, g⟩ := m
  unfold lReverse at e
  split at e
  · cases e
    exact ⟨a, ws, rfl, q.zero, h1, g _ _ h2.rev fun x => by unfold RD; rfl⟩
  · cases e
theorem m_clear : MutOk lClear rClear := by
  intro c G s σ H a vs ds Q r q m
  obtain ⟨ws, xs, ys, d, h1, h2, e, g⟩ := m
  unfold lClear at e
  split at e
  · cases e
    exact ⟨a, ws, rfl, q.zero, h1, g _ _ RDs.nil fun x => by unfold RD; rfl⟩
  · cases e
theorem m_extend : MutOk lExtend rExtend := by
  intro c G s σ H a vs ds Q r q m
  obtain ⟨ws, xs, ys, d, h1, h2, e, g⟩ := m
  unfold lExtend at e
  split at e
  · rename_i d0
    split at e
    · rename_i zs ez
      split at e
      · rename_i hl
        cases e
        obtain ⟨v, rfl, hv⟩ := q.one
        have hv := r.view hv
        rw [ez] at hv
        obtain ⟨b, us, rfl, k1, k2⟩ := hv
        exact ⟨a, b, ws, us, rfl, rfl, h1, k1, by rw [h2.length, k2.length]; exact smallLine hl, g _ _ (h2.app k2) fun x => by unfold RD; rfl⟩
      · cases e
    · cases e
  · cases e
def rInsertA : V → List V → Hp → VK → Prop := fun x vs H Q => ∃ (l : Addr) (xs : List V) (i : Int) (y : V), x = .ref l ∧ vs = [.int i, y] ∧ H l = some (.lst xs) ∧ xs.length < sizeLine ∧ 0 ≤ i ∧ i < 2 ^ 63 ∧
    Q .non (upd H l (.lst (xs.take i.toNat ++ [y] ++ xs.drop i.toNat)))
theorem m_insert : MutOk lInsert rInsertA := by
  intro c G s σ H a vs ds Q r q m
  obtain ⟨ws, xs, ys, d, h1, h2, e, g⟩ := m
  unfold lInsert at e
  split at e
  · rename_i i d0
    split at e
    · rename_i hl
      cases e
      obtain ⟨hl, h0, hi⟩ := hl
      obtain ⟨v, w, rfl, hv, hw⟩ := q.two
      unfold RD at hv
      subst hv
      exact ⟨a, ws, i, w, rfl, rfl, h1, by rw [h2.length]; unfold small at hl; rw [sizeLine_eq]; omega, h0, by omega, g _ _ (((h2.take _).app (RDs.cons hw RDs.nil)).app (h2.drop _)) fun x => by unfold RD; rfl⟩
    · cases e
  · cases e
theorem dropLast_take {α : Type} (xs : List α) : xs.dropLast = xs.take (xs.length - 1) := List.dropLast_eq_take
theorem m_pop : MutOk lPop rPop := by
  intro c G s σ H a vs ds Q r q m
  obtain ⟨ws, xs, ys, d, h1, h2, e, g⟩ := m
  unfold lPop at e
  split at e
  · split at e
    · rename_i d0 ed
      cases e
      obtain ⟨v, hv, rv⟩ := h2.get ed
      refine ⟨a, ws, v, rfl, q.zero, h1, by rw [h2.length]; exact hv, ?_⟩
      refine g _ _ ?_ fun x => rv.mono x
      rw [dropLast_take, dropLast_take, h2.length]
      exact h2.take _
    · cases e
  · cases e
theorem l_append : LMeth "append" "list.append" rAppend := ⟨PySem.F.slot_list_append, PySem.F.type_list_append, fun X => mt_append⟩
theorem l_reverse : LMeth "reverse" "list.reverse" rReverse := ⟨PySem.F.slot_list_reverse, PySem.F.type_list_reverse, fun X => mt_reverse⟩
theorem l_clear : LMeth "clear" "list.clear" rClear := ⟨PySem.F.slot_list_clear, PySem.F.type_list_clear, fun X => mt_clear⟩
theorem l_extend : LMeth "extend" "list.extend" rExtend := ⟨PySem.F.slot_list_extend, PySem.F.type_list_extend, fun X => mt_extend⟩
theorem l_insert : LMeth "insert" "list.insert" rInsertA := ⟨PySem.F.slot_list_insert, PySem.F.type_list_insert, fun X => mt_insert⟩
theorem l_pop : LMeth "pop" "list.pop" rPop := ⟨PySem.F.slot_list_pop, PySem.F.type_list_pop, fun X => mt_pop⟩
end Ev

set_option maxHeartbeats 2000000
/-! Ev14: what a loop walks; targets; for. -/
namespace Ev
open PySem PySem.Spec PyProof.Rows L2

/-- what a loop walks: a list | a tuple | a text as it stands at each turn, whole numbers, pairs of two, numbered items -/
inductive Src where
  | seq (x : D) | rng (lo : Int) (n : Nat) | zip (x y : D) | enum (x : D)
def lstNow (M : List MO) (x : D) : Option (List D) := match vw M x with
  | .lst xs => some xs
  | .scr ns => some (ns.map .int)
  | _ => none
def tupNow (x : D) : Option (List D) := match x with
  | .tup xs => some xs
  | _ => none
def seqNow (M : List MO) (x : D) : Option (List D) := match x with
  | .tup xs => some xs
  | .str s => some (s.toList.map fun ch => .str (String.singleton ch))
  | x => lstNow M x
def pairD (a b : D) : D := .tup [a, b]
def items : Src → List MO → Option (List D)
  | .seq x, M => seqNow M x
  | .rng lo n, _ => some ((List.range n).map fun (i : Nat) => .int (lo + (i : Int)))
  | .zip x y, M => match lstNow M x, lstNow M y with
    | some a, some b => some (List.zipWith pairD a b)
    | _, _ => match tupNow x, tupNow y with
      | some a, some b => some (List.zipWith pairD a b)
      | _, _ => match x, tupNow y with
        | .str z, some b => some (List.zipWith pairD (z.toList.map fun ch => .str (String.singleton ch)) b)
        | _, _ => none
  | .enum x, M => (lstNow M x).map fun xs => xs.zipIdx.map fun q => pairD (.int q.2) q.1
def ItOk (K : PySem.W.Frag) (w : World) (lm : Option LamC) (G : GW) (H : Hp) (J : It) (src : Src) : Prop := ∀ (c : Cn), c.K = K → c.w = w → c.lam = lm → ∀ (G2 : GW) (H2 : Hp) (s2 : S) (σ2 : L2.St) (xs : List D) (i : Nat), Ext G H G2 H2 → Rs c G2 s2 σ2 H2 → items src s2.M = some xs → match xs[i]? with
  | some d => J.go i H2 ∧ ∀ (x : V) (H3 : Hp), J.yld i H2 x H3 → ∃ G3, Ext G2 H2 G3 H3 ∧ Rs c G3 s2 σ2 H3 ∧ RD c G3 H3 d x
  | none => J.stop i H2
def RIt : Cn → GW → Hp → Src → It → Prop := fun c G H src J => ItOk c.K c.w c.lam G H J src
def tI (c : Cn) (W : WX) (m : PM Src) : TI := fun σ H R => ∃ G s, Rs c G s σ H ∧ Run RIt c W m G s σ H R
theorem _root_.L2.PI.weak {X : Cx} {tg e : Expr} {t t' : TI} (h : PI X tg e t) (k : ∀ σ H Q, t' σ H Q → t σ H Q) : PI X tg e t' := ⟨fun pins s σ H R I q => h.run pins s σ H R I (k σ H R q)⟩
def SI (p : Pg) (Γ : NE) (tg e : Expr) (m : PM Src) : Prop := ∀ X, XOk p Γ X → ∀ W, Takes X W → ∀ c, Cn.of p c → PI X tg e (tI c W m)
/-! ### lists, tuples, texts -/
def iAny (K : PySem.W.Frag) (tl : TE) : TI := fun σ H R => tl σ H fun x H1 => (∃ a, x = .ref a ∧ (∃ xs, SqL K H1 a xs) ∧ R (Itl K a) H1) ∨ (∃ a, x = .ref a ∧ (∃ xs, SqT K H1 a xs) ∧ R (Itt K a) H1) ∨ ∃ z, x = .str z ∧ R (Its z) H1
theorem pi_any {X : Cx} {tg l : Expr} {tl : TE} (hl : PE X l tl) : PI X tg l (iAny X.K tl) := by
  refine ⟨fun pins s σ H R I h => ?_⟩
  refine thn (hl.run pins s σ H _ I h) fun v s1 ⟨x, H1, I1, r1, q1⟩ => ?_
  rcases q1 with ⟨a, e, ⟨xs, hq⟩, q⟩ | ⟨a, e, ⟨xs, hq⟩, q⟩ | ⟨z, e, q⟩
  · subst e
    cases r1
    obtain ⟨its, rv, p, hz⟩ := I1.list hq
    refine wpAny_pyIter_list p.isList ?_
    refine ⟨s1.heap.objs.size, [s1.heap.objs.size], _, _, H1, rfl, I1.kept (t' := s1.toks) fun b o e => Heap.get?_push_of_some _ e, turn_list a _, ⟨_, Heap.get?_push_size _ rfl, rfl, rfl⟩, fun b hb => ?_, q⟩
    have e : b = s1.heap.objs.size := by simpa using hb
    subst e
    exact I1.fpOk (Nat.le_refl _) (I1.hok.fresh (Nat.le_refl _))
  · subst e
    cases r1
    obtain ⟨its, rv, p, hz⟩ := I1.tuple hq
    refine wpAny_pyIter_tuple (show s1.heap.IsTuple a its.toArray from p) ?_
    refine ⟨s1.heap.objs.size, [s1.heap.objs.size], _, _, H1, rfl, I1.kept (t' := s1.toks) fun b o e => Heap.get?_push_of_some _ e, turn_tuple a _, ⟨_, Heap.get?_push_size _ rfl, rfl, rfl⟩, fun b hb => ?_, q⟩
    have e : b = s1.heap.objs.size := by simpa using hb
    subst e
    exact I1.fpOk (Nat.le_refl _) (I1.hok.fresh (Nat.le_refl _))
  · subst e
    obtain ⟨t, rfl⟩ := r1
    cases ha : z.cps.all (· < 128)
    · exact wpAny_pyIter_wide ha (pi_one (tk := s1.toks) I1 _ (turn_str _ z t "str_iterator" (.inr rfl)) ⟨_, Heap.get?_push_size _ rfl, rfl, rfl⟩ q)
    · exact wpAny_pyIter_ascii ha (pi_one (tk := s1.toks) I1 _ (turn_str _ z t "str_ascii_iterator" (.inl rfl)) ⟨_, Heap.get?_push_size _ rfl, rfl, rfl⟩ q)
section
variable {c c2 : Cn} {G G2 : GW} {H H2 : Hp} {s s2 : S} {σ σ2 : L2.St} {x : D} {v : V} {xs : List D}
theorem ls_later (h : RD c G H x v) (hK : c2.K = c.K) (hw : c2.w = c.w) (hl : c2.lam = c.lam) (e : Ext G H G2 H2) (r2 : Rs c2 G2 s2 σ2 H2) (q : lstNow s2.M x = some xs) : ∃ a vs, v = V.ref a ∧ SqL c2.K H2 a vs ∧ RDs c2 G2 H2 xs vs := by
  have h2 := r2.view ((h.re (c' := c2) hK.symm hw.symm).mono e)
  unfold lstNow at q
  split at q
  · rename_i ys ey
    cases q
    rw [ey] at h2
    obtain ⟨a, vs, rfl, k1, k2⟩ := h2
    exact ⟨a, vs, rfl, SqL.of k1, k2⟩
  · rename_i ns ey
    cases q
    rw [ey] at h2
    have h2 : RD c2 G2 H2 (.scr ns) v := h2
    unfold RD at h2
    obtain ⟨a, o, rfl, _, k1⟩ := h2
    exact ⟨a, _, rfl, .inl (.inr ⟨o, k1⟩), RDs.ints ns⟩
  · cases q
theorem tp_later (h : RD c G H x v) (hK : c2.K = c.K) (hw : c2.w = c.w) (hl : c2.lam = c.lam) (e : Ext G H G2 H2) (q : tupNow x = some xs) : ∃ a vs, v = V.ref a ∧ SqT c2.K H2 a vs ∧ RDs c2 G2 H2 xs vs := by
  have h2 := (h.re (c' := c2) hK.symm hw.symm).mono e
  unfold tupNow at q
  split at q
  · cases q
    unfold RD at h2
    obtain ⟨a, vs, rfl, _, k1, k2⟩ := h2
    exact ⟨a, vs, rfl, SqT.of k1, k2⟩
  · cases q
theorem RDs.none_iff {ds : List D} {vs : List V} {i : Nat} (h : RDs c G H ds vs) (e : ds[i]? = none) : vs.length ≤ i := by
  rw [h.length]
  exact List.getElem?_eq_none_iff.mp e
theorem it_lst {a : Addr} (h : RD c G H x (V.ref a)) (hx : ∀ M, seqNow M x = lstNow M x) : ItOk c.K c.w c.lam G H (Itl c.K a) (.seq x) := by
  intro c2 hK hw hl G2 H2 s2 σ2 xs i e r2 q
  have q : seqNow s2.M x = some xs := q
  rw [hx] at q
  obtain ⟨a', vs, ea, k1, k2⟩ := ls_later h hK hw hl e r2 q
  cases ea
  rw [hK] at k1
  cases ei : xs[i]? with
  | none => exact ⟨vs, k1, k2.none_iff ei⟩
  | some d =>
    obtain ⟨w, hw', rw'⟩ := k2.get ei
    refine ⟨⟨vs, w, k1, hw'⟩, fun y H3 hy => ?_⟩
    obtain ⟨rfl, hy⟩ := hy
    have := hy vs k1
    rw [hw'] at this
    cases this
    exact ⟨G2, .refl _ _, r2, rw'⟩
theorem it_tup {a : Addr} {ys : List D} (h : RD c G H (.tup ys) (V.ref a)) : ItOk c.K c.w c.lam G H (Itt c.K a) (.seq (.tup ys)) := by
  intro c2 hK hw hl G2 H2 s2 σ2 xs i e r2 q
  have q : tupNow (.tup ys) = some xs := q
  obtain ⟨a', vs, ea, k1, k2⟩ := tp_later h hK hw hl e q
  cases ea
  rw [hK] at k1
  cases ei : xs[i]? with
  | none => exact ⟨vs, k1, k2.none_iff ei⟩
  | some d =>
    obtain ⟨w, hw', rw'⟩ := k2.get ei
    refine ⟨⟨vs, w, k1, hw'⟩, fun y H3 hy => ?_⟩
    obtain ⟨rfl, hy⟩ := hy
    have := hy vs k1
    rw [hw'] at this
    cases this
    exact ⟨G2, .refl _ _, r2, rw'⟩
theorem it_str {K : PySem.W.Frag} {w : World} {lm : Option LamC} {z : String} : ItOk K w lm G H (Its (Str.ofString z)) (.seq (.str z)) := by
  intro c2 hK hw hl G2 H2 s2 σ2 xs i e r2 q
  have q : some (z.toList.map fun ch => D.str (String.singleton ch)) = some xs := q
  cases q
  have hl : (Str.ofString z).cps.size = z.toList.length := by rw [← Array.length_toList, ofString_cps, List.length_map]
  rw [List.getElem?_map]
  cases ei : z.toList[i]? with
  | none => exact (by show (Str.ofString z).cps.size ≤ i; rw [hl]; exact List.getElem?_eq_none_iff.mp ei)
  | some ch =>
    refine ⟨by show i < (Str.ofString z).cps.size; rw [hl]; exact (List.getElem?_eq_some_iff.mp ei).1, fun y H3 hy => ?_⟩
    obtain ⟨rfl, n, hn, rfl⟩ := hy
    refine ⟨G2, .refl _ _, r2, ?_⟩
    unfold RD
    rw [cps_one]
    rw [← Array.getElem?_toList, ofString_cps, List.getElem?_map, ei] at hn
    cases hn
    rfl
end
def iSeq (m : PM D) : PM Src := m >>= fun x => fun s => match seqNow s.M x with
  | some _ => .ok (.seq x) s
  | none => .bad
section
variable {p : Pg} {Γ : NE} {tg e : Expr} {m : PM D}
theorem si_seq (h : SE p Γ e m) : SI p Γ tg e (iSeq m) := by
  intro X ok W tk c hc
  have hK : X.K = c.K := ok.K.trans hc.K.symm
  refine (pi_any (h X ok W tk c hc)).weak fun σ H Q h => ?_
  obtain ⟨G, s, r, h⟩ := h
  refine ⟨G, s, r, (Run.bind (R := RD) h).mono fun v H1 ⟨G1, s1, x, x1, r1, q1, h1⟩ => ?_⟩
  unfold Run at h1
  cases e : seqNow s1.M x with
  | none =>
    dsimp only at h1
    rw [e] at h1
    exact h1.elim
  | some ys =>
    dsimp only at h1
    rw [e] at h1
    have go : ∀ J, ItOk c.K c.w c.lam G1 H1 J (.seq x) → Q J H1 := fun J hJ => h1 G1 H1 J (.refl _ _) r1 hJ
    rw [hK]
    have lst : (∀ M, seqNow M x = lstNow M x) → ∃ a, v = V.ref a ∧ (∃ xs, SqL c.K H1 a xs) ∧ Q (Itl c.K a) H1 := fun hx => by
      rw [hx] at e
      obtain ⟨a, vs, rfl, k1, k2⟩ := ls_later q1 rfl rfl rfl (.refl _ _) r1 e
      exact ⟨a, rfl, ⟨vs, k1⟩, go _ (it_lst q1 hx)⟩
    cases x with
    | tup zs =>
      obtain ⟨a, vs, rfl, k1, k2⟩ := tp_later (c2 := c) q1 rfl rfl rfl (.refl _ _) (show tupNow (.tup zs) = some zs from rfl)
      exact .inr (.inl ⟨a, rfl, ⟨vs, k1⟩, go _ (it_tup q1)⟩)
    | str z =>
      unfold RD at q1
      subst q1
      exact .inr (.inr ⟨_, rfl, go _ it_str⟩)
    | lst _ => exact .inl (lst fun _ => rfl)
    | ref _ => exact .inl (lst fun _ => rfl)
    | scr _ => exact .inl (lst fun _ => rfl)
    | _ => cases e
end
/-! ### range -/
@[irreducible] def okRng (j : Int) : Bool := decide (j < 1000000 ∧ -1000000 < j)
theorem okRng_iff {j : Int} : okRng j = true ↔ j < 1000000 ∧ -1000000 < j := by
  unfold okRng
  exact decide_eq_true_iff
def iR1 (ms : PM (List D)) : PM Src := ms >>= fun ds => match ds with
  | [.int j] => if okRng j = true then pure (.rng 0 j.toNat) else stuck
  | _ => stuck
def iR2 (ms : PM (List D)) : PM Src := ms >>= fun ds => match ds with
  | [.int i, .int j] => if okRng j = true ∧ okRng i = true then pure (.rng i (j - i).toNat) else stuck
  | _ => stuck
theorem it_rng {K : PySem.W.Frag} {w : World} {lm : Option LamC} {G : GW} {H : Hp} {lo : Int} {n : Nat} : ItOk K w lm G H (Itr lo n) (.rng lo n) := by
  intro c2 hK hw hl G2 H2 s2 σ2 xs i e r2 q
  have q : some ((List.range n).map fun (i : Nat) => D.int (lo + (i : Int))) = some xs := q
  cases q
  rw [List.getElem?_map]
  by_cases hi : i < n
  · rw [List.getElem?_range hi]
    refine ⟨hi, fun y H3 hy => ?_⟩
    obtain ⟨rfl, rfl⟩ := hy
    exact ⟨G2, .refl _ _, r2, by unfold RD; rfl⟩
  · rw [List.getElem?_eq_none (by simp; omega)]
    exact (by show n ≤ i; omega)
section
variable {p : Pg} {Γ : NE} {tg a b : Expr} {ms : PM (List D)} {p' pos : Pos}
theorem si_r1 (hx : ("range" : Str) ∈ Γ.glo) (hm : p.mg "range" = none) (ha : SA p Γ [a] ms) (hs : ∀ env, starEach [a] env = [(false, eval a env)]) : SI p Γ tg (.Call (.Name "range" p') [a] [] pos) (iR1 ms) := by
  intro X ok W tk c hc
  obtain ⟨g1, g2, g3⟩ := ok.glo _ hx
  refine (pi_range1 g1 (by rw [ok.mg]; exact hm) (ha X ok W tk c hc) (hs _)).weak fun σ H Q h => ?_
  obtain ⟨G, s, r, h⟩ := h
  refine ⟨G, s, r, (Run.bind (R := RDs) h).mono fun vs H1 ⟨G1, s1, ds, x1, r1, q1, h1⟩ => ?_⟩
  split at h1
  · rename_i j
    obtain ⟨v, rfl, hv⟩ := q1.one
    unfold RD at hv
    subst hv
    split at h1
    · rename_i hj
      rw [okRng_iff] at hj
      exact ⟨j, rfl, by omega, by omega, Run.same (R := RIt) (m := pure (.rng 0 j.toNat)) (a := Src.rng 0 j.toNat) rfl h1 r1 it_rng⟩
    · exact stuck_run h1
  · exact stuck_run h1
theorem si_r2 (hx : ("range" : Str) ∈ Γ.glo) (hm : p.mg "range" = none) (ha : SA p Γ [a, b] ms) (hs : ∀ env, starEach [a, b] env = [(false, eval a env), (false, eval b env)]) (hs2 : ∀ env, starEach [b] env = [(false, eval b env)]) : SI p Γ tg (.Call (.Name "range" p') [a, b] [] pos) (iR2 ms) := by
  intro X ok W tk c hc
  obtain ⟨g1, g2, g3⟩ := ok.glo _ hx
  refine (pi_range2 g1 (by rw [ok.mg]; exact hm) (ha X ok W tk c hc) (hs _) (hs2 _)).weak fun σ H Q h => ?_
  obtain ⟨G, s, r, h⟩ := h
  refine ⟨G, s, r, (Run.bind (R := RDs) h).mono fun vs H1 ⟨G1, s1, ds, x1, r1, q1, h1⟩ => ?_⟩
  split at h1
  · rename_i i j
    obtain ⟨v, w, rfl, hv, hw⟩ := q1.two
    unfold RD at hv hw
    subst hv hw
    split at h1
    · rename_i hj
      rw [okRng_iff, okRng_iff] at hj
      exact ⟨i, j, rfl, ⟨by omega, by omega, by omega, by omega⟩, Run.same (R := RIt) (m := pure (.rng i (j - i).toNat)) (a := Src.rng i (j - i).toNat) rfl h1 r1 it_rng⟩
    · exact stuck_run h1
  · exact stuck_run h1
end
/-! ### zip, enumerate of lists -/
def iZp (ms : PM (List D)) : PM Src := ms >>= fun ds => match ds with
  | [x, y] => fun s => match lstNow s.M x, lstNow s.M y with
    | some _, some _ => .ok (.zip x y) s
    | _, _ => .bad
  | _ => stuck
theorem zip_get {α β γ : Type} {f : α → β → γ} {xs : List α} {ys : List β} {i : Nat} : (List.zipWith f xs ys)[i]? = match xs[i]?, ys[i]? with
    | some a, some b => some (f a b)
    | _, _ => none := by
  rw [List.getElem?_zipWith]
  cases xs[i]? <;> cases ys[i]? <;> rfl
theorem it_zip {c : Cn} {G : GW} {H : Hp} {x y : D} {a b : Addr} {s : S} {zs ws : List D} (h1 : RD c G H x (V.ref a)) (h2 : RD c G H y (V.ref b)) (tx : tupNow x = none) : ItOk c.K c.w c.lam G H (Itz c.K a b) (.zip x y) := by
  intro c2 hK hw hl G2 H2 s2 σ2 xs i e r2 q
  simp only [items] at q
  split at q
  · rename_i us us' e1 e2
    cases q
    obtain ⟨a', vs, ea, k1, k2⟩ := ls_later h1 hK hw hl e r2 e1
    cases ea
    obtain ⟨b', ts, eb, j1, j2⟩ := ls_later h2 hK hw hl e r2 e2
    cases eb
    rw [hK] at k1 j1
    rw [zip_get]
    cases ei : us[i]? with
    | none => exact ⟨vs, ts, k1, j1, .inl (k2.none_iff ei)⟩
    | some d =>
      cases ej : us'[i]? with
      | none => exact ⟨vs, ts, k1, j1, .inr (j2.none_iff ej)⟩
      | some d' =>
        obtain ⟨v, hv, rv⟩ := k2.get ei
        obtain ⟨u, hu, ru⟩ := j2.get ej
        refine ⟨⟨vs, ts, v, u, k1, j1, hv, hu⟩, fun y H3 hy => ?_⟩
        obtain ⟨T, v', u', rfl, hT, rfl, f1, f2⟩ := hy
        have e1 := f1 vs k1
        have e2 := f2 ts j1
        rw [hv] at e1
        rw [hu] at e2
        cases e1
        cases e2
        obtain ⟨x', r'⟩ := r2.push (.tup [v, u]) hT
        refine ⟨_, x', r', ?_⟩
        unfold pairD RD
        exact ⟨T, _, rfl, .inr rfl, upd_same, RDs.cons (rv.mono x') (RDs.cons (ru.mono x') RDs.nil)⟩
  · rw [tx] at q
    dsimp only at q
    split at q
    · rename_i z w e1 e2
      unfold RD at h1
      cases h1
    · cases q
section
variable {p : Pg} {Γ : NE} {a b : Expr} {ms : PM (List D)} {p' pos tpos : Pos} {elts : List Expr} {kk : Nat}
theorem si_zip (hx : ("zip" : Str) ∈ Γ.glo) (hm : p.mg "zip" = none) (ha : SA p Γ [a, b] ms) (hs : ∀ env, starEach [a, b] env = (false, eval a env) :: starEach [b] env) (hpl : ∀ env, (backTo pos (starEach [b] env)).any (·.1) = false) :
    SI p Γ (.Tuple elts kk tpos) (.Call (.Name "zip" p') [a, b] [] pos) (iZp ms) := by
  intro X ok W tk c hc
  have hK : X.K = c.K := ok.K.trans hc.K.symm
  obtain ⟨g1, g2, g3⟩ := ok.glo _ hx
  refine (pi_zip g1 (by rw [ok.mg]; exact hm) (ha X ok W tk c hc) (hs _) (hpl _)).weak fun σ H Q h => ?_
  obtain ⟨G, s, r, h⟩ := h
  refine ⟨G, s, r, (Run.bind (R := RDs) h).mono fun vs H1 ⟨G1, s1, ds, x1, r1, q1, h1⟩ => ?_⟩
  rcases ds with _ | ⟨x, _ | ⟨y, _ | ⟨z, t⟩⟩⟩
  · exact stuck_run h1
  · exact stuck_run h1
  · unfold Run at h1
    obtain ⟨v, w, rfl, hv, hw⟩ := q1.two
    cases e1 : lstNow s1.M x with
    | none => simp only [e1] at h1
    | some us =>
      cases e2 : lstNow s1.M y with
      | none => simp only [e1, e2] at h1
      | some us' =>
        simp only [e1, e2] at h1
        obtain ⟨a, ts, rfl, k1, k2⟩ := ls_later hv rfl rfl rfl (.refl _ _) r1 e1
        obtain ⟨b, ts', rfl, j1, j2⟩ := ls_later hw rfl rfl rfl (.refl _ _) r1 e2
        rw [hK]
        refine ⟨a, b, ts, ts', rfl, k1, j1, h1 G1 H1 _ (.refl _ _) r1 (it_zip (s := s1) (zs := us) (ws := us') hv hw ?_)⟩
        cases x with
        | tup _ => cases e1
        | _ => rfl
  · exact stuck_run h1
end
def iEn (ms : PM (List D)) : PM Src := ms >>= fun ds => match ds with
  | [x] => fun s => match lstNow s.M x with
    | some _ => .ok (.enum x) s
    | _ => .bad
  | _ => stuck
theorem it_enum {c : Cn} {G : GW} {H : Hp} {x : D} {a : Addr} (h1 : RD c G H x (V.ref a)) : ItOk c.K c.w c.lam G H (Ite c.K a) (.enum x) := by
  intro c2 hK hw hl G2 H2 s2 σ2 xs i e r2 q
  simp only [items, Option.map_eq_some_iff] at q
  obtain ⟨us, e1, rfl⟩ := q
  obtain ⟨a', vs, ea, k1, k2⟩ := ls_later h1 hK hw hl e r2 e1
  cases ea
  rw [hK] at k1
  rw [List.getElem?_map, List.getElem?_zipIdx]
  cases ei : us[i]? with
  | none => exact ⟨vs, k1, k2.none_iff ei⟩
  | some d =>
    obtain ⟨v, hv, rv⟩ := k2.get ei
    refine ⟨⟨vs, v, k1, hv⟩, fun y H3 hy => ?_⟩
    obtain ⟨T, v', rfl, hT, rfl, f1⟩ := hy
    have e1 := f1 vs k1
    rw [hv] at e1
    cases e1
    obtain ⟨x', r'⟩ := r2.push (.tup [.int (i : Nat), v]) hT
    refine ⟨_, x', r', ?_⟩
    unfold pairD RD
    exact ⟨T, _, rfl, .inr rfl, upd_same, RDs.cons (by unfold RD; simp) (RDs.cons (rv.mono x') RDs.nil)⟩
section
variable {p : Pg} {Γ : NE} {a : Expr} {ms : PM (List D)} {p' pos tpos : Pos} {elts : List Expr} {kk : Nat}
theorem si_enum (hx : ("enumerate" : Str) ∈ Γ.glo) (hm : p.mg "enumerate" = none) (ha : SA p Γ [a] ms) (hs : ∀ env, starEach [a] env = [(false, eval a env)]) :
    SI p Γ (.Tuple elts kk tpos) (.Call (.Name "enumerate" p') [a] [] pos) (iEn ms) := by
  intro X ok W tk c hc
  have hK : X.K = c.K := ok.K.trans hc.K.symm
  obtain ⟨g1, g2, g3⟩ := ok.glo _ hx
  refine (pi_enum g1 (by rw [ok.mg]; exact hm) (ha X ok W tk c hc) (hs _)).weak fun σ H Q h => ?_
  obtain ⟨G, s, r, h⟩ := h
  refine ⟨G, s, r, (Run.bind (R := RDs) h).mono fun vs H1 ⟨G1, s1, ds, x1, r1, q1, h1⟩ => ?_⟩
  rcases ds with _ | ⟨x, _ | ⟨z, t⟩⟩
  · exact stuck_run h1
  · unfold Run at h1
    obtain ⟨v, rfl, hv⟩ := q1.one
    cases e1 : lstNow s1.M x with
    | none => simp only [e1] at h1
    | some us =>
      simp only [e1] at h1
      obtain ⟨a, ts, rfl, k1, k2⟩ := ls_later hv rfl rfl rfl (.refl _ _) r1 e1
      rw [hK]
      exact ⟨a, ts, rfl, k1, h1 G1 H1 _ (.refl _ _) r1 (it_enum hv)⟩
  · exact stuck_run h1
end
end Ev

set_option maxHeartbeats 2000000
/-! Ev15: targets; assignments to several names; for. -/
namespace Ev
open PySem PySem.Spec PyProof.Rows L2

theorem _root_.L2.PG.weak {X : Cx} {e : Expr} {t t' : TG} (h : PG X e t) (k : ∀ v σ H Q, t' v σ H Q → t v σ H Q) : PG X e t' := ⟨fun pins s σ H v u Q I r q => h.run pins s σ H v u Q I r (k v σ H Q q)⟩
theorem _root_.L2.PGs.weak {X : Cx} {es : List Expr} {t t' : TGs} (h : PGs X es t) (k : ∀ v σ H Q, t' v σ H Q → t v σ H Q) : PGs X es t' := ⟨fun pins s σ H v u Q I r q => h.run pins s σ H v u Q I r (k v σ H Q q)⟩
/-- σ' is σ but for the slots vs -/
def Same (vs : List Nat) (σ σ' : L2.St) : Prop := σ'.length = σ.length ∧ ∀ i, i ∉ vs → σ'[i]? = σ[i]?
theorem Same.refl (vs : List Nat) (σ : L2.St) : Same vs σ σ := ⟨rfl, fun _ _ => rfl⟩
theorem Same.trans {vs : List Nat} {σ σ' σ'' : L2.St} (a : Same vs σ σ') (b : Same vs σ' σ'') : Same vs σ σ'' := ⟨b.1.trans a.1, fun i hi => (b.2 i hi).trans (a.2 i hi)⟩
theorem Same.set {vs : List Nat} {σ : L2.St} {i : Nat} (hi : i ∈ vs) (v : Option V) : Same vs σ (σ.set i v) := ⟨by simp, fun j hj => by rw [List.getElem?_set_ne (fun z => hj (by rw [← z]; exact hi))]⟩
theorem Same.mono {vs ws : List Nat} {σ σ' : L2.St} (a : Same vs σ σ') (h : ∀ i ∈ vs, i ∈ ws) : Same ws σ σ' := ⟨a.1, fun i hi => a.2 i fun z => hi (h i z)⟩
abbrev GD := D → PM Unit
/-- a target given d -/
def tGt (c : Cn) (vs : List Nat) (g : GD) : TG := fun v σ H Q => ∃ G s d, Rs c G s σ H ∧ RD c G H d v ∧ match g d s with
  | .ok _ s' => ∀ σ', Rs c G s' σ' H → Same vs σ σ' → Q σ' H
  | _ => False
def tGts (c : Cn) (vs : List Nat) (g : List D → PM Unit) : TGs := fun us σ H Q => ∃ G s ds, Rs c G s σ H ∧ RDs c G H ds us ∧ match g ds s with
  | .ok _ s' => ∀ σ', Rs c G s' σ' H → Same vs σ σ' → Q σ' H
  | _ => False
def SG (p : Pg) (Γ : NE) (e : Expr) (vs : List Nat) (g : GD) : Prop := ∀ X, XOk p Γ X → ∀ c, Cn.of p c → PG X e (tGt c vs g)
def SGs (p : Pg) (Γ : NE) (es : List Expr) (vs : List Nat) (g : List D → PM Unit) : Prop := ∀ X, XOk p Γ X → ∀ c, Cn.of p c → PGs X es (tGts c vs g)
def gN (i : Nat) : GD := fun d => setSlot i (.val d)
def gNone : List D → PM Unit := fun ds => match ds with
  | [] => pure ()
  | _ => stuck
def gMore (g : GD) (gs : List D → PM Unit) : List D → PM Unit := fun ds => match ds with
  | d :: ds => g d >>= fun _ => gs ds
  | [] => stuck
/-- a, b, .. = a tuple | a list of n items -/
def gUn (n : Nat) (gs : List D → PM Unit) : GD := fun d s => match vw s.M d with
  | .tup ds => if ds.length = n then gs ds s else .bad
  | .lst ds => if ds.length = n then gs ds s else .bad
  | _ => .bad
section
variable {p : Pg} {Γ : NE}
theorem sg_name {i : Nat} {x : Str} {pos : Pos} (hN : Γ.N[i]? = some x) (hi : i ∈ Γ.st) : SG p Γ (.Name x pos) [i] (gN i) := by
  intro X ok c hc
  obtain ⟨l1, l2⟩ := ok.sto i hi x hN
  refine (pg_name (i := i) (by rw [ok.N]; exact ok.nd) (by rw [ok.N]; exact hN) l1 l2).weak fun v σ H Q h => ?_
  obtain ⟨G, s, d, r, q, h⟩ := h
  unfold gN setSlot at h
  by_cases hl : i < s.σ.length
  · simp only [if_pos hl] at h
    exact h _ (r.setSlot hl (v := .val d) (y := v) ⟨v, rfl, q⟩ fun z => by cases z) (.set (by simp) _)
  · simp only [if_neg hl] at h
theorem sgs_nil : SGs p Γ [] [] gNone := by
  intro X ok c hc
  refine pgs_nil.weak fun us σ H Q h => ?_
  obtain ⟨G, s, ds, r, q, h⟩ := h
  cases ds with
  | nil => exact ⟨q.zero, h σ r (.refl _ _)⟩
  | cons _ _ => exact h.elim
theorem sgs_cons {e : Expr} {es : List Expr} {vs ws : List Nat} {g : GD} {gs : List D → PM Unit} (h1 : SG p Γ e vs g) (h2 : SGs p Γ es ws gs)
    (hs : ∀ env, (assignEach (e :: es) env).map (·.2) = assign e env :: (assignEach es env).map (·.2)) : SGs p Γ (e :: es) (vs ++ ws) (gMore g gs) := by
  intro X ok c hc
  refine (pgs_cons (h1 X ok c hc) (h2 X ok c hc) (hs X.env)).weak fun us σ H Q h => ?_
  obtain ⟨G, s, ds, r, q, h⟩ := h
  cases ds with
  | nil => exact h.elim
  | cons d ds =>
    unfold RDs at q
    obtain ⟨v, t, rfl, q1, q2⟩ := q
    refine ⟨v, t, rfl, G, s, d, r, q1, ?_⟩
    simp only [gMore, bind_eq] at h
    cases e1 : g d s with
    | ok a s1 =>
      rw [e1] at h
      intro σ1 r1 m1
      refine ⟨G, s1, ds, r1, q2, ?_⟩
      have h : match gs ds s1 with
        | .ok _ s' => ∀ σ', Rs c G s' σ' H → Same (vs ++ ws) σ σ' → Q σ' H
        | _ => False := h
      cases e2 : gs ds s1 with
      | ok b s2 =>
        rw [e2] at h
        exact fun σ2 r2 m2 => h σ2 r2 ((m1.mono fun i hi => List.mem_append_left _ hi).trans (m2.mono fun i hi => List.mem_append_right _ hi))
      | exc x fs s2 => rw [e2] at h; exact h.elim
      | bad => rw [e2] at h; exact h.elim
    | exc x fs s1 => rw [e1] at h; exact h.elim
    | bad => rw [e1] at h; exact h.elim
def gSeq (K : PySem.W.Frag) (n : Nat) (t : TGs) : TG := fun v σ H Q => gTup K n t v σ H Q ∨ gLst K n t v σ H Q
theorem pg_seq {X : Cx} {es : List Expr} {k : Nat} {t : TGs} {n : Nat} {pos : Pos} (hc : X.calm = true) (h : PGs X es t) (hn : (assignEach es X.env).length = n) (hst : (assignEach es X.env).findIdx? (·.1) = none) : PG X (.Tuple es k pos) (gSeq X.K n t) :=
  ⟨fun pins s σ H v u Q I r q => q.elim (fun q => (pg_tup hc h hn hst).run pins s σ H v u Q I r q) fun q => (pg_lst hc h hn hst).run pins s σ H v u Q I r q⟩
theorem sg_un {es : List Expr} {vs : List Nat} {gs : List D → PM Unit} {n k : Nat} {pos : Pos} (hcm : Γ.calm = true) (h : SGs p Γ es vs gs) (hn : ∀ env, (assignEach es env).length = n) (hst : ∀ env, (assignEach es env).findIdx? (·.1) = none) : SG p Γ (.Tuple es k pos) vs (gUn n gs) := by
  intro X ok c hc
  refine (pg_seq (ok.calm hcm).1 (h X ok c hc) (hn _) (hst _)).weak fun v σ H Q h => ?_
  obtain ⟨G, s, d, r, q, h⟩ := h
  have qw := r.view q
  unfold gUn at h
  cases ev : vw s.M d with
  | tup ds =>
    rw [ev] at qw
    rw [ev] at h
    dsimp only at h
    by_cases hl : ds.length = n
    · rw [if_pos hl] at h
      have qw : RD c G H (.tup ds) v := qw
      unfold RD at qw
      obtain ⟨a, us, rfl, _, k1, k2⟩ := qw
      exact .inl ⟨a, us, rfl, SqT.of k1, k2.length.trans hl, G, s, ds, r, k2, h⟩
    · rw [if_neg hl] at h
      exact h.elim
  | lst ds =>
    rw [ev] at qw
    rw [ev] at h
    dsimp only at h
    by_cases hl : ds.length = n
    · rw [if_pos hl] at h
      obtain ⟨a, us, rfl, k1, k2⟩ := qw
      exact .inr ⟨a, us, rfl, SqL.of k1, k2.length.trans hl, G, s, ds, r, k2, h⟩
    · rw [if_neg hl] at h
      exact h.elim
  | _ =>
    rw [ev] at h
    exact h.elim
/-! ### target = value -/
def sAsg (m : PM D) (g : GD) : SM := m >>= fun d => g d >>= fun _ => pure none
theorem g_runS {c : Cn} {W : WX} {G : GW} {s : S} {σ : L2.St} {H : Hp} {E : Ends} {g : PM Unit} {f : SM} {Q : L2.St → Hp → Prop} (h : RunS c W (g >>= fun _ => f) G s H E) (hx : ∀ x fs s', g s ≠ .exc x fs s') (k : ∀ s', RunS c W f G s' H E → ∀ σ', Rs c G s' σ' H → Q σ' H) : match g s with
    | .ok _ s' => ∀ σ', Rs c G s' σ' H → Q σ' H
    | _ => False := by
  unfold RunS at h
  rw [bind_eq] at h
  cases e : g s with
  | ok a s' =>
    rw [e] at h
    exact k s' h
  | exc x fs s' => exact absurd e (hx x fs s')
  | bad =>
    rw [e] at h
    exact h.elim
/-- it never raises -/
def NoX (g : GD) : Prop := ∀ d s x fs s', g d s ≠ .exc x fs s'
def NoXs (g : List D → PM Unit) : Prop := ∀ d s x fs s', g d s ≠ .exc x fs s'
theorem nx_name {i : Nat} : NoX (gN i) := by
  intro d s x fs s' h
  unfold gN setSlot at h
  split at h <;> cases h
theorem nx_none : NoXs gNone := by
  intro d s x fs s' h
  cases d <;> cases h
theorem nx_more {g : GD} {gs : List D → PM Unit} (h1 : NoX g) (h2 : NoXs gs) : NoXs (gMore g gs) := by
  intro d s x fs s' h
  cases d with
  | nil => cases h
  | cons d ds =>
    simp only [gMore, bind_eq] at h
    cases e : g d s with
    | ok a s1 =>
      rw [e] at h
      exact h2 _ _ _ _ _ h
    | exc y gs s1 => exact h1 _ _ _ _ _ e
    | bad => rw [e] at h; cases h
theorem nx_un {n : Nat} {gs : List D → PM Unit} (h : NoXs gs) : NoX (gUn n gs) := by
  intro d s x fs s' e
  unfold gUn at e
  split at e
  · split at e
    · exact h _ _ _ _ _ e
    · cases e
  · split at e
    · exact h _ _ _ _ _ e
    · cases e
  · cases e
theorem ss_asg {tg e : Expr} {vs : List Nat} {g : GD} {m : PM D} {pos : Pos} (hg : SG p Γ tg vs g) (hx : NoX g) (he : SE p Γ e m) (hs : ∀ env, swapsWithSole [tg] e pos.line env = pure false) (hw : ∀ env, swappedStores [tg] e env = pure none) (h1 : ∀ env, (assignEach [tg] env).map (·.2) = [assign tg env]) :
    SS p Γ (.Assign [tg] e pos) (sAsg m g) := by
  intro X ok W tk c hc
  refine (ps_asg (he X ok W tk c hc) (hg X ok c hc) (hs _) (hw _) (h1 _)).weak fun E σ H h => ?_
  obtain ⟨G, s, r, h⟩ := h
  refine ⟨G, s, r, (RunS.bind (R := RD) h).mono fun v H1 ⟨G1, s1, d, x1, r1, q1, h1⟩ => ?_⟩
  refine ⟨G1, s1, d, r1, q1, ?_⟩
  have k := g_runS (σ := σ) (Q := E.nx) h1 (hx d s1) fun s' h' σ' r' => RunS.next rfl h' (.refl _ _) r'
  cases e : g d s1 with
  | ok a s' =>
    rw [e] at k
    exact fun σ' r' _ => k σ' r'
  | exc x fs s' => rw [e] at k; exact k.elim
  | bad => rw [e] at k; exact k.elim
/-- a, b = x, y: names -/
def sPar (i j : Nat) (ms : PM (List D)) : SM := ms >>= fun ds => match ds with
  | [d, e] => setSlot i (.val d) >>= fun _ => setSlot j (.val e) >>= fun _ => pure none
  | _ => stuck
theorem stuck_runS {c : Cn} {W : WX} {G : GW} {s : S} {H : Hp} {E : Ends} {P : Prop} (h : RunS c W (stuck : SM) G s H E) : P := by
  unfold RunS stuck at h
  exact h.elim
theorem ss_par {i j : Nat} {x y : Str} {a b : Expr} {ms : PM (List D)} {px py pt pos : Pos} {kt k2 : Nat} {pt2 : Pos} (hcm : Γ.calm = true) (hi : Γ.N[i]? = some x) (hj : Γ.N[j]? = some y) (hij : i ≠ j) (li : i ∈ Γ.lo) (lj : j ∈ Γ.lo) (ha : SA p Γ [a, b] ms)
    (hw : ∀ env, env.scope.kind = .function → env.kindOf x = some .local → env.kindOf y = some .local → swappedStores [.Tuple [.Name x px, .Name y py] kt pt] (.Tuple [a, b] k2 pt2) env = pure (some [x, y]))
    (hs : ∀ env, swapsWithSole [.Tuple [.Name x px, .Name y py] kt pt] (.Tuple [a, b] k2 pt2) pos.line env = pure false) :
    SS p Γ (.Assign [.Tuple [.Name x px, .Name y py] kt pt] (.Tuple [a, b] k2 pt2) pos) (sPar i j ms) := by
  intro X ok W tk c hc
  have lx := ok.loc i li x hi
  have ly := ok.loc j lj y hj
  refine (ps_par (i := i) (j := j) (ok.calm hcm).1 (by rw [ok.N]; exact ok.nd) (by rw [ok.N]; exact hi) (by rw [ok.N]; exact hj) hij lx ly (ha X ok W tk c hc) (hw _ ok.kind lx ly) (hs _)).weak fun E σ H h => ?_
  obtain ⟨G, s, r, h⟩ := h
  refine ⟨G, s, r, (RunS.bind (R := RDs) h).mono fun us H1 ⟨G1, s1, ds, x1, r1, q1, h1⟩ => ?_⟩
  rcases ds with _ | ⟨d, _ | ⟨e, _ | ⟨z, t⟩⟩⟩
  · exact stuck_runS h1
  · exact stuck_runS h1
  · obtain ⟨v, w, rfl, hv, hw⟩ := q1.two
    have h1 : RunS c W (setSlot i (.val d) >>= fun _ => setSlot j (.val e) >>= fun _ => pure none) G1 s1 H1 E := h1
    obtain ⟨s2, r2, h2⟩ := setSlot_run r1 (v := .val d) (y := v) ⟨v, rfl, hv⟩ (fun z => by cases z) h1
    obtain ⟨s3, r3, h3⟩ := setSlot_run r2 (v := .val e) (y := w) ⟨w, rfl, hw⟩ (fun z => by cases z) h2
    exact ⟨v, w, rfl, h3.next rfl (.refl _ _) r3⟩
  · exact stuck_runS h1
end
/-! ### for -/
def sForN (src : Src) (g : GD) (body : SM) : Nat → Nat → SM
  | k, i => fun s => match items src s.M with
    | none => .bad
    | some xs => match xs[i]? with
      | none => .ok none s
      | some d => match k with
        | 0 => .bad
        | k + 1 => (g d >>= fun _ => sSeq body (sForN src g body k (i + 1))) s
def sFor (mi : PM Src) (g : GD) (body : SM) : SM := mi >>= fun src => fun s => match items src s.M with
  | none => .bad
  | some xs => sForN src g body xs.length 0 s
section
variable {c : Cn} {W : WX} {G G' : GW} {s : S} {σ : L2.St} {H H' : Hp} {E : Ends}
theorem RunS.ends {m : SM} {E' : Ends} (h : RunS c W m G s H E) (hn : ∀ G' s' σ' H', Ext G H G' H' → m s = .ok none s' → Rs c G' s' σ' H' → E.nx σ' H' → E'.nx σ' H') (hr : ∀ v H', E.rt v H' → E'.rt v H') : RunS c W m G s H E' := by
  unfold RunS at h ⊢
  cases e : m s with
  | ok a s' =>
    rw [e] at h
    cases a with
    | none => exact fun G' σ' H' x r => hn G' s' σ' H' x e r (h G' σ' H' x r)
    | some d => exact fun G' σ' H' v x r q => hr v H' (h G' σ' H' v x r q)
  | exc x fs s' =>
    rw [e] at h
    exact h
  | bad =>
    rw [e] at h
    exact h
theorem seq_run2 {m n : SM} {E' : Ends} (h : RunS c W (sSeq m n) G s H E) (hn : ∀ G' s' σ' H', Ext G H G' H' → Rs c G' s' σ' H' → RunS c W n G' s' H' E → E'.nx σ' H') (hr : ∀ v H', E.rt v H' → E'.rt v H') : RunS c W m G s H E' := by
  unfold RunS sSeq at h
  unfold RunS
  rw [bind_eq] at h
  cases e : m s with
  | ok a s' =>
    rw [e] at h
    cases a with
    | none =>
      intro G1 σ1 H1 x r
      have h' : RunS c W n G s' H E := h
      exact hn G1 s' σ1 H1 x r (h'.ext x)
    | some d => exact fun G' σ' H' v x r q => hr v H' (h G' σ' H' v x r q)
  | exc x fs s' =>
    rw [e] at h
    exact h
  | bad =>
    rw [e] at h
    exact h
end
section
variable {p : Pg} {Γ : NE}
theorem ss_for {tg iter : Expr} {body : List Stmt} {vs : List Nat} {mi : PM Src} {g : GD} {m : SM} {pos : Pos} (hcm : Γ.calm = true) (hi : SI p Γ tg iter mi) (hg : SG p Γ tg vs g) (hx : NoX g) (hb : SSs p Γ body m) (hs : ∀ env x, foldedSetIterable iter env x = pure x) :
    SS p Γ (.For tg iter body [] pos) (sFor mi g m) := by
  intro X ok W tk c hc
  refine (ps_for ok.pass (ok.calm hcm).1 (hi X ok W tk c hc) (hg X ok c hc) (hb X ok W tk c hc) (hs _)).weak fun E σ H h => ?_
  obtain ⟨G, s, r, h⟩ := h
  refine ⟨G, s, r, (RunS.bind (R := RIt) h).mono fun J H1 ⟨G1, s1, src, x1, r1, hJ, h1⟩ => ?_⟩
  have h1' : ∃ n, RunS c W (sForN src g m n 0) G1 s1 H1 E := by
    unfold RunS at h1
    cases e : items src s1.M with
    | none => dsimp only at h1; rw [e] at h1; exact h1.elim
    | some xs =>
      dsimp only at h1
      rw [e] at h1
      exact ⟨_, h1⟩
  obtain ⟨n, h1⟩ := h1'
  refine ⟨fun i k σ H => ∃ G s, Ext G1 H1 G H ∧ Rs c G s σ H ∧ RunS c W (sForN src g m k i) G s H E, ⟨n, G1, s1, .refl _ _, r1, h1⟩, ?_⟩
  rintro i k σ2 H2 ⟨G2, s2, x2, r2, h2⟩
  have hh := h2
  unfold RunS sForN at h2
  cases e : items src s2.M with
  | none => simp only [e] at h2
  | some xs =>
    have it := hJ c rfl rfl rfl G2 H2 s2 σ2 xs i x2 r2 e
    cases ei : xs[i]? with
    | none =>
      rw [ei] at it
      simp only [e, ei] at h2
      exact .inl ⟨it, h2 G2 σ2 H2 (.refl _ _) r2⟩
    | some d =>
      rw [ei] at it
      obtain ⟨go, yl⟩ := it
      refine .inr ⟨go, ?_⟩
      cases k with
      | zero => simp only [e, ei] at h2
      | succ k =>
        have h3 : RunS c W (g d >>= fun _ => sSeq m (sForN src g m k (i + 1))) G2 s2 H2 E := by
          simp only [e, ei] at h2
          exact h2
        refine ⟨fun σ' H' => ∃ G s, Ext G1 H1 G H' ∧ Rs c G s σ' H' ∧ RunS c W (sForN src g m k (i + 1)) G s H' E, fun σ' H' q => ⟨k, Nat.lt_succ_self k, q⟩, fun y H3 hy => ?_⟩
        obtain ⟨G3, x3, r3, q3⟩ := yl y H3 hy
        refine ⟨G3, s2, d, r3, q3, ?_⟩
        have h4 := h3.ext x3
        have kk := g_runS (σ := σ2) (Q := fun σ4 H4 => tS c W m { E with nx := fun σ' H' => ∃ G s, Ext G1 H1 G H' ∧ Rs c G s σ' H' ∧ RunS c W (sForN src g m k (i + 1)) G s H' E, ct := fun σ' H' => ∃ G s, Ext G1 H1 G H' ∧ Rs c G s σ' H' ∧ RunS c W (sForN src g m k (i + 1)) G s H' E, bk := E.nx } σ4 H4)
          h4 (hx d s2) fun s' h' σ' r' => ⟨G3, s', r', seq_run2 h' (fun G' s4 σ4 H4 x4 r4 h4 => ⟨G', s4, (x2.trans x3).trans x4, r4, h4⟩) fun v H' z => z⟩
        cases eg : g d s2 with
        | ok a s' =>
          rw [eg] at kk
          exact fun σ' r' _ => kk σ' r'
        | exc x fs s' => rw [eg] at kk; exact kk.elim
        | bad => rw [eg] at kk; exact kk.elim
end
end Ev

set_option maxHeartbeats 2000000
/-! Ev16: list comprehensions. -/
namespace Ev
open PySem PySem.Spec PyProof.Rows L2

/-! ### a block's names -/
theorem rel_free {sc : Scope} : ∀ {names : List (Str × NameKind)} {x : Str}, names.lookup x = some .free →
    (names.map fun (n, k) => if (k == NameKind.free && sc.kind == .function && sc.names.lookup n == some .cell) then (n, NameKind.cell) else (n, k)).lookup x = some .free ∨
    (names.map fun (n, k) => if (k == NameKind.free && sc.kind == .function && sc.names.lookup n == some .cell) then (n, NameKind.cell) else (n, k)).lookup x = some .cell
  | [], _, h => by simp at h
  | (n, k₀) :: r, x, h => by
    have ih := @rel_free sc r x
    show List.lookup x ((if (k₀ == NameKind.free && sc.kind == .function && sc.names.lookup n == some .cell) = true then (n, NameKind.cell) else (n, k₀)) :: (r.map _)) = some .free ∨ List.lookup x ((if (k₀ == NameKind.free && sc.kind == .function && sc.names.lookup n == some .cell) = true then (n, NameKind.cell) else (n, k₀)) :: (r.map _)) = some .cell
    cases hx : x == n with
    | true =>
      simp only [List.lookup_cons, hx] at h
      cases h
      by_cases hc : (NameKind.free == NameKind.free && sc.kind == .function && sc.names.lookup n == some .cell) = true
      · rw [if_pos hc]; simp [List.lookup_cons, hx]
      · rw [if_neg hc]; simp [List.lookup_cons, hx]
    | false =>
      simp only [List.lookup_cons, hx] at h
      by_cases hc : (k₀ == NameKind.free && sc.kind == .function && sc.names.lookup n == some .cell) = true
      · rw [if_pos hc]; simp only [List.lookup_cons, hx]; exact ih h
      · rw [if_neg hc]; simp only [List.lookup_cons, hx]; exact ih h
theorem XOk.blk {p : Pg} {Γ Γ' : NE} {X : Cx} {scope : Scope} (ok : XOk p Γ X) (sc : ScOk Γ' scope) (hk : scope.kind = .function) (hN : Γ'.N = Γ.N) (hcm : Γ'.calm = true → Γ.calm = true) (hkk : Γ'.k = Γ.k) (hex : p.ex = none) (hown : Γ'.own = false) (hlam : p.lam = none) (s : Shared) (H : Hp) (C : Addr) (cl : List (Str × Addr)) (fp : List Addr) :
    XOk p Γ' (X.blk s H scope (compEnvC scope cl C X.env) fp) := by
  have hsc : (X.blk s H scope (compEnvC scope cl C X.env) fp).env.scope = relS scope X.env.scope := rfl
  have keep : ∀ {x k}, k ≠ .free → scope.names.lookup x = some k → (X.blk s H scope (compEnvC scope cl C X.env) fp).env.scope.names.lookup x = some k := fun {x k} h1 h2 => by
    rw [hsc]
    exact lookup_relS_keep h1 h2
  exact {
    prog := ok.prog, w := ok.w, K := ok.K, mg := ok.mg, base := ok.base, N := ok.N.trans hN.symm, nd := by rw [hN]; exact ok.nd
    vis := fun i hi x e => by
      obtain ⟨v1, v2, v3⟩ := sc.vis i hi x e
      refine ⟨?_, v2, v3⟩
      rcases v1 with v | v | v
      · exact .inl (keep (by decide) v)
      · exact .inr (.inl (keep (by decide) v))
      · have := rel_free (sc := X.env.scope) v
        rcases this with z | z
        · exact .inr (.inr (by rw [hsc]; exact z))
        · exact .inr (.inl (by rw [hsc]; exact z))
    sto := fun i hi x e => by
      rcases sc.sto i hi x e with v | v
      · exact ⟨.inl (keep (by decide) v), .inr (keep (by decide) v)⟩
      · exact ⟨.inr (keep (by decide) v), .inl (by show (scope.names.lookup x == some NameKind.cell) = true; rw [v]; rfl)⟩
    glo := fun x hx => by
      obtain ⟨g1, g2, g3⟩ := sc.glo x hx
      exact ⟨keep (by decide) g1, g2, g3⟩
    calm := fun h => ok.calm (hcm h)
    dp := by rw [hkk]; exact ok.dp
    un := by rw [hkk]; exact ok.un
    pass := PassesOwn.never
    loc := fun i hi x e => keep (by decide) (sc.loc i hi x e)
    kind := hk
    own := fun z => by rw [hown] at z; cases z
    act := fun _ l e => by rw [hlam] at e; cases e
    cod := ok.cod
    hot := fun a cls dd e => by rw [hex] at e; cases e
    cap := fun x hx => by
      rcases sc.cap x hx with v | v
      · exact .inl (keep (by decide) v)
      · rcases rel_free (sc := X.env.scope) v with z | z
        · exact .inr (by rw [hsc]; exact z)
        · exact .inl (by rw [hsc]; exact z) }
/-- the block's names: its own with their slots, captured ones -/
structure BlkS (Γ : NE) (scope : Scope) (own : List (Str × Nat)) : Prop where
  kind : scope.kind = .function
  uniq : ∀ y ∈ scope.names, scope.names.lookup y.1 = some y.2
  ix : ∀ p ∈ own, Γ.N[p.2]? = some p.1
  free : ∀ y ∈ scope.names, y.2 = .free → y.1 ∈ Γ.cap
  own : ∀ y ∈ scope.names, y.2 = .local ∨ y.2 = .cell → y.1 ∈ own.map (·.1) ∨ y.1 ∉ Γ.N
def blkSB (Γ : NE) (scope : Scope) (own : List (Str × Nat)) : Bool :=
  (match scope.kind with | .function => true | _ => false) && ((scope.names.all fun y => decide (scope.names.lookup y.1 = some y.2)) && ((own.all fun p => decide (Γ.N[p.2]? = some p.1)) &&
    (scope.names.all fun y => match y.2 with
      | .free => decide (y.1 ∈ Γ.cap)
      | .local => decide (y.1 ∈ own.map (·.1)) || decide (y.1 ∉ Γ.N)
      | .cell => decide (y.1 ∈ own.map (·.1)) || decide (y.1 ∉ Γ.N)
      | _ => true)))
theorem blkS_by {Γ : NE} {scope : Scope} {own : List (Str × Nat)} (h : blkSB Γ scope own = true) : BlkS Γ scope own := by
  unfold blkSB at h
  simp only [Bool.and_eq_true, List.all_eq_true, decide_eq_true_eq] at h
  obtain ⟨h1, h2, h3, h4⟩ := h
  refine ⟨?_, h2, h3, fun y hy e => ?_, fun y hy e => ?_⟩
  · split at h1
    · assumption
    · cases h1
  · have q := h4 y hy
    simp only [e, decide_eq_true_eq] at q
    exact q
  · have q := h4 y hy
    rcases e with e | e <;> (simp only [e, Bool.or_eq_true, decide_eq_true_eq] at q; exact q)
theorem BlkS.ok {p : Pg} {Γ : NE} {X : Cx} {scope : Scope} {own : List (Str × Nat)} (b : BlkS Γ scope own) (ok : XOk p Γ X) : BlkOk X.N X.env.scope scope own :=
  ⟨b.kind, b.uniq, fun q hq => by rw [ok.N]; exact b.ix q hq, fun y hy e => ok.cap _ (b.free y hy e), fun y hy e => by rw [ok.N]; exact b.own y hy e⟩
/-! ### the block's own slots forgotten, given back -/
def wipeL : List Nat → List SV → List SV
  | [], σ => σ
  | v :: vs, σ => (wipeL vs σ).set v .un
def okW (vs : List Nat) (σ : List SV) : Bool := vs.all fun i => match σ[i]? with
  | some v => !v.own
  | none => true
def backL (vs : List Nat) (a b : List SV) : List SV := b.mapIdx fun i x => if vs.contains i then (a[i]?.getD .un) else x
section
variable {c : Cn} {G G' : GW} {s : S} {σ : L2.St} {H H' : Hp}
theorem Rs.setUn (r : Rs c G s σ H) (i : Nat) : Rs c G { s with σ := s.σ.set i .un } (σ.set i none) H := by
  refine { len := by simp only [List.length_set]; exact r.len, at_ := fun j v e => ?_, sep := fun j k v w a ej ek ov ow hj hk => ?_, hlen := r.hlen, nd := r.nd, obj := r.obj, dis := r.dis, live := r.live, keep := r.keep, pre := r.pre, new := r.new, newF := r.newF, nF := r.nF, nt := r.nt, tabs := r.tabs }
  · have e : (s.σ.set i .un)[j]? = some v := e
    by_cases hj : i = j
    · subst hj
      have hl := (List.getElem?_eq_some_iff.mp e).1
      rw [List.length_set] at hl
      rw [List.getElem?_set_self hl] at e
      cases e
      rw [List.getElem?_set_self (by rw [← r.len]; exact hl)]
      exact ⟨none, rfl⟩
    · rw [List.getElem?_set_ne hj] at e
      rw [List.getElem?_set_ne hj]
      exact r.at_ j v e
  · have ej : (s.σ.set i .un)[j]? = some v := ej
    have ek : (s.σ.set i .un)[k]? = some w := ek
    have ne : ∀ {j : Nat} {v : SV}, (s.σ.set i .un)[j]? = some v → v.own = true → i ≠ j := fun {j v} e o z => by
      subst z
      have hl := (List.getElem?_eq_some_iff.mp e).1
      rw [List.length_set] at hl
      rw [List.getElem?_set_self hl] at e
      cases e
      cases o
    have nj := ne ej ov
    have nk := ne ek ow
    rw [List.getElem?_set_ne nj] at ej hj
    rw [List.getElem?_set_ne nk] at ek hk
    exact r.sep j k v w a ej ek ov ow hj hk
theorem Rs.wipe (r : Rs c G s σ H) : ∀ vs : List Nat, Rs c G { s with σ := wipeL vs s.σ } (L2.wipe σ vs) H
  | [] => r
  | v :: vs => (Rs.wipe r vs).setUn v
theorem wipeL_length (σ : List SV) : ∀ vs : List Nat, (wipeL vs σ).length = σ.length
  | [] => rfl
  | v :: vs => by unfold wipeL; rw [List.length_set, wipeL_length σ vs]
theorem wipeL_in {σ : List SV} {i : Nat} (hi : i < σ.length) : ∀ {vs : List Nat}, i ∈ vs → (wipeL vs σ)[i]? = some .un
  | v :: vs, h => by
    unfold wipeL
    by_cases e : v = i
    · subst e
      rw [List.getElem?_set_self (by rw [wipeL_length]; exact hi)]
    · rw [List.getElem?_set_ne e]
      exact wipeL_in hi ((List.mem_cons.mp h).resolve_left (fun z => e z.symm))
theorem wipe_in {σ : L2.St} {i : Nat} (hi : i < σ.length) : ∀ {vs : List Nat}, i ∈ vs → (L2.wipe σ vs)[i]? = some none
  | v :: vs, h => by
    unfold L2.wipe
    by_cases e : v = i
    · subst e
      rw [List.getElem?_set_self (by rw [wipe_length]; exact hi)]
    · rw [List.getElem?_set_ne e]
      exact wipe_in hi ((List.mem_cons.mp h).resolve_left (fun z => e z.symm))
theorem wipe_same {vs : List Nat} {σ σ' : L2.St} (h : Same vs (L2.wipe σ vs) σ') : L2.wipe σ' vs = L2.wipe σ vs := by
  apply List.ext_getElem?
  intro i
  have hl : σ'.length = σ.length := by rw [h.1, wipe_length]
  by_cases hi : i ∈ vs
  · by_cases hlt : i < σ.length
    · rw [wipe_in hlt hi, wipe_in (by rw [hl]; exact hlt) hi]
    · rw [List.getElem?_eq_none (by rw [wipe_length]; omega), List.getElem?_eq_none (by rw [wipe_length]; omega)]
  · rw [wipe_out hi, h.2 i hi]
theorem backL_at {vs : List Nat} {a b : List SV} {i : Nat} : (backL vs a b)[i]? = (b[i]?).map fun x => if vs.contains i then (a[i]?.getD .un) else x := by
  unfold backL
  rw [List.getElem?_mapIdx]
theorem Rs.backS {s0 : S} {G0 : GW} {H0 : Hp} {vs : List Nat} (r0 : Rs c G0 s0 σ H0) (hw : okW vs s0.σ = true) (x : Ext G0 H0 G H) (r : Rs c G s (L2.wipe σ vs) H) : Rs c G { s with σ := backL vs s0.σ s.σ } σ H := by
  have hlen : s.σ.length = σ.length := by rw [r.len, wipe_length]
  have at' : ∀ (i : Nat) (v : SV), (backL vs s0.σ s.σ)[i]? = some v → (i ∈ vs ∧ s0.σ[i]? = some v ∧ v.own = false) ∨ (i ∉ vs ∧ s.σ[i]? = some v) := fun i v e => by
    rw [backL_at, Option.map_eq_some_iff] at e
    obtain ⟨y, ey, e⟩ := e
    by_cases hi : i ∈ vs
    · rw [if_pos (by simpa using hi)] at e
      have hlt : i < s0.σ.length := by
        rw [r0.len, ← hlen]
        exact (List.getElem?_eq_some_iff.mp ey).1
      have e0 := List.getElem?_eq_getElem hlt
      rw [e0] at e
      have e1 : s0.σ[i]? = some v := by rw [e0]; exact congrArg some e
      refine .inl ⟨hi, e1, ?_⟩
      have q := List.all_eq_true.mp hw i hi
      rw [e1] at q
      simpa using q
    · rw [if_neg (by simpa using hi)] at e
      exact .inr ⟨hi, by rw [ey, e]⟩
  refine { len := by show (backL vs s0.σ s.σ).length = _; unfold backL; rw [List.length_mapIdx]; exact hlen, at_ := fun i v e => ?_, sep := fun i j v w a ei ej ov ow hi hj => ?_, hlen := r.hlen, nd := r.nd, obj := r.obj, dis := r.dis, live := r.live, keep := r.keep, pre := r.pre, new := r.new, newF := r.newF, nF := r.nF, nt := r.nt, tabs := r.tabs }
  · rcases at' i v e with ⟨h1, h2, h3⟩ | ⟨h1, h2⟩
    · exact (r0.at_ i v h2).mono_val x h3
    · have q := r.at_ i v h2
      rw [wipe_out h1] at q
      exact q
  · rcases at' i v ei with ⟨h1, h2, h3⟩ | ⟨h1, h2⟩
    · rw [h3] at ov
      cases ov
    · rcases at' j w ej with ⟨k1, k2, k3⟩ | ⟨k1, k2⟩
      · rw [k3] at ow
        cases ow
      · exact r.sep i j v w a h2 k2 ov ow (by rw [wipe_out h1]; exact hi) (by rw [wipe_out k1]; exact hj)
/-- a new object that the block keeps to itself -/
def Cn.pin (c : Cn) (D : Addr) (o : HO) : Cn := { c with H0 := upd c.H0 D o, F0 := fun a => c.F0 a ∧ a ≠ D }
theorem pin_none {D : Addr} {o : HO} (h0 : c.H0 D = none) {a : Addr} (h : (c.pin D o).H0 a = none) : c.H0 a = none := by
  by_cases e : a = D
  · rw [e]; exact h0
  · have h : upd c.H0 D o a = none := h
    rw [upd_ne e] at h
    exact h
/-- D's facts in the pinned view -/
structure PinOk (c : Cn) (D : Addr) : Prop where
  h0 : c.H0 D = none
  hp : D ∉ c.hp0
theorem PinOk.of (r : Rs c G s σ H) {D : Addr} (h : H D = none) : PinOk c D := by
  have u := r.fresh_unk h
  exact ⟨u.H0, fun z => u.hp (r.pre.subset z)⟩
theorem RSV.re {c' : Cn} {v : SV} {o : Option (Option V)} (hK : c.K = c'.K) (hw : c.w = c'.w) (hex : c.ex = c'.ex) (hlm : c.lam = c'.lam) (h0 : ∀ a, c.H0 a = none → v.own = true → o = some (some (V.ref a)) → c'.H0 a = none) (h : RSV c G H v o) : RSV c' G H v o := by
  cases v with
  | un => exact h
  | val d =>
    obtain ⟨y, e, rd⟩ := h
    exact ⟨y, e, rd.re hK hw⟩
  | ul xs =>
    obtain ⟨a, vs, q1, q2, q3, q4, q5, q6⟩ := h
    exact ⟨a, vs, q1, q2, RDs.re hK hw _ q3, q4, q5, h0 a q6 rfl q1⟩
  | ud xs =>
    obtain ⟨a, vs, q1, q2, q3, q4, q5, q6⟩ := h
    exact ⟨a, vs, q1, q2, q3.re hK hw, q4, q5, h0 a q6 rfl q1⟩
  | ex _ _ =>
    obtain ⟨a, cls, dd, h1, h2, h3⟩ := h
    exact ⟨a, cls, dd, hex ▸ h1, h2, h3.re hK hw⟩
  | lm _ =>
    obtain ⟨l, vs, h1, h2, h3, h4, h5⟩ := h
    exact ⟨l, vs, hlm ▸ h1, h2, h3, RDs.re hK hw _ h4, h5⟩
theorem Rs.unpin {D : Addr} {o : HO} (k : PinOk c D) (r : Rs (c.pin D o) G s σ H) : Rs c G s σ H ∧ H D = some o ∧ Unk c G s σ D := by
  have eK : (c.pin D o).K = c.K := rfl
  have ew : (c.pin D o).w = c.w := rfl
  have nF : ¬ G.F D := fun z => by
    rcases r.newF D z with z | z
    · exact z.2 rfl
    · have z : upd c.H0 D o D = none := z
      rw [upd_same] at z
      cases z
  have nh : D ∉ G.hp := fun z => by
    rcases r.new D z with z | z
    · exact k.hp z
    · have z : upd c.H0 D o D = none := z
      rw [upd_same] at z
      cases z
  refine ⟨{ len := r.len, at_ := fun i v e => (r.at_ i v e).re eK ew rfl rfl fun a h _ _ => pin_none k.h0 h, sep := r.sep, hlen := r.hlen, nd := r.nd, obj := fun n a mo h1 h2 => (r.obj n a mo h1 h2).re eK ew, dis := r.dis, live := r.live, keep := fun a u h1 h2 => ?_, pre := r.pre, new := fun a h => (r.new a h).imp id (pin_none k.h0), newF := fun a h => (r.newF a h).imp And.left (pin_none k.h0), nF := r.nF, nt := fun a ps h => r.nt a ps (by show upd c.H0 D o a = _; rw [upd_ne (fun z => by rw [z, k.h0] at h; cases h)]; exact h), tabs := r.tabs },
    r.keep D o upd_same k.hp, nF, nh, k.h0, fun i v e ov z => ?_⟩
  · refine r.keep a u ?_ h2
    show upd c.H0 D o a = some u
    rw [upd_ne (fun z => by rw [z, k.h0] at h1; cases h1)]
    exact h1
  · have q := r.at_ i v e
    cases v with
    | ul xs =>
      obtain ⟨a, vs, q1, q2, q3, q4, q5, q6⟩ := q
      rw [z] at q1
      cases q1
      have q6 : upd c.H0 D o D = none := q6
      rw [upd_same] at q6
      cases q6
    | ud xs =>
      obtain ⟨a, vs, q1, q2, q3, q4, q5, q6⟩ := q
      rw [z] at q1
      cases q1
      have q6 : upd c.H0 D o D = none := q6
      rw [upd_same] at q6
      cases q6
    | _ => cases ov
theorem Rs.pinned {D : Addr} {o : HO} (r : Rs c G s σ H) (u : Unk c G s σ D) (hD : H D = some o) (hnt : NoCode (some o) := by first | exact nc_lst | exact nc_dK) : Rs (c.pin D o) G s σ H := by
  have eK : c.K = (c.pin D o).K := rfl
  have ew : c.w = (c.pin D o).w := rfl
  have up : ∀ {a}, a ≠ D → c.H0 a = none → (c.pin D o).H0 a = none := fun {a} h1 h2 => by
    show upd c.H0 D o a = none
    rw [upd_ne h1]
    exact h2
  refine { len := r.len, at_ := fun i v e => (r.at_ i v e).re eK ew rfl rfl fun a h ov z => up (fun y => u.own i v e ov (by rw [z, y])) h, sep := r.sep, hlen := r.hlen, nd := r.nd, obj := fun n a mo h1 h2 => (r.obj n a mo h1 h2).re eK ew, dis := r.dis, live := r.live, keep := fun a v h1 h2 => ?_, pre := r.pre, new := fun a h => (r.new a h).imp id (up fun z => u.hp (z ▸ h)), newF := fun a h => ?_, nF := r.nF, nt := fun a ps h => ?_, tabs := r.tabs }
  · by_cases e : a = D
    · subst e
      have h1 : upd c.H0 a o a = some v := h1
      rw [upd_same] at h1
      cases h1
      exact hD
    · have h1 : upd c.H0 D o a = some v := h1
      rw [upd_ne e] at h1
      exact r.keep a v h1 h2
  · have ne : a ≠ D := fun z => u.F (z ▸ h)
    rcases r.newF a h with z | z
    · exact .inl ⟨z, ne⟩
    · exact .inr (up ne z)
  · have h : upd c.H0 D o a = some (.tbl ps) := h
    by_cases e : a = D
    · rw [e, upd_same] at h
      obtain ⟨v, e2, n1, _⟩ := hnt
      exact n1 ps (by rw [← Option.some.inj e2, Option.some.inj h])
    · rw [upd_ne e] at h
      exact r.nt a ps h
/-- the object that no one knows is changed -/
theorem Rs.updD {D : Addr} {o : HO} (r : Rs c G s σ H) (u : Unk c G s σ D) (hnt : NoCode (H D)) : Ext G H G (upd H D o) ∧ Rs c G s σ (upd H D o) := by
  have x : Ext G H G (upd H D o) := ⟨fun _ h => h, List.prefix_refl _, fun b hb => upd_ne (fun z => u.F (z ▸ hb)), fun b q e => by rw [upd_ne (fun z => hnt.ne (z ▸ e))]; exact e⟩
  refine ⟨x, { len := r.len, at_ := fun j w ej => ?_, sep := r.sep, hlen := r.hlen, nd := r.nd, obj := fun n b mo h1 h2 => ?_, dis := r.dis, live := fun b hb => ?_, keep := fun b v h1 h2 => ?_, pre := r.pre, new := r.new, newF := r.newF, nF := fun b ps h e => r.nF b ps h ((x.st b h).symm.trans e), nt := r.nt, tabs := r.tabs.updN hnt }⟩
  · have q := r.at_ j w ej
    cases hw : w.own with
    | false => exact q.mono_val x hw
    | true =>
      cases w with
      | ul ys =>
        obtain ⟨b, vs, q1, q2, q3, q4⟩ := q
        have nb : b ≠ D := fun z => u.own j _ ej rfl (z ▸ q1)
        exact ⟨b, vs, q1, (upd_ne nb).trans q2, q3.mono x, q4⟩
      | ud ys =>
        obtain ⟨b, vs, q1, q2, q3, q4⟩ := q
        have nb : b ≠ D := fun z => u.own j _ ej rfl (z ▸ q1)
        exact ⟨b, vs, q1, (upd_ne nb).trans q2, q3.mono x, q4⟩
      | _ => cases hw
  · have nb : b ≠ D := fun z => u.hp (z ▸ List.mem_of_getElem? h1)
    exact (r.obj n b mo h1 h2).mono x (upd_ne nb)
  · obtain ⟨v, e'⟩ := r.live b hb
    exact ⟨v, (x.st b hb).trans e'⟩
  · have nb : b ≠ D := fun z => by rw [z, u.H0] at h1; cases h1
    exact (upd_ne nb).trans (r.keep b v h1 h2)
end
/-! ### the comprehension -/
def lcN (vs : List Nat) (src : Src) (g : GD) (t : PM Bool) (e : PM D) : Nat → Nat → List D → PM (List D)
  | k, i, acc => fun s0 =>
    let s : S := { s0 with σ := wipeL vs s0.σ }
    match items src s.M with
    | none => .bad
    | some xs => match xs[i]? with
      | none => .ok acc s
      | some d => match k with
        | 0 => .bad
        | k + 1 => if acc.length < small then (g d >>= fun _ => t >>= fun b => if b = true then (e >>= fun y => lcN vs src g t e k (i + 1) (acc ++ [y])) else lcN vs src g t e k (i + 1) acc) s else .bad
def fLc (vs : List Nat) (mi : PM Src) (g : GD) (t : PM Bool) (e : PM D) : PM (List D) := mi >>= fun src => fun s => match items src s.M with
  | none => .bad
  | some xs => if okW vs s.σ = true then match lcN vs src g t e xs.length 0 [] s with
      | .ok ys s' => .ok ys { s' with σ := backL vs s.σ s'.σ }
      | _ => .bad
    else .bad
def WF : WX := fun _ _ _ _ => False
theorem takes_WF (X : Cx) : Takes X WF := fun u s' ⟨a, B, sI, pins, σ, H, cls, d, e, I, nb, up, sky, na, os, ag, w⟩ => w.elim
def tTs (p : Pg) (t : PM Bool) : TT := fun σ H Q => ∃ c, Cn.of p c ∧ tT c WF t σ H Q
def tEs (p : Pg) (m : PM D) : TE := fun σ H Q => ∃ c, Cn.of p c ∧ tE c WF m σ H Q
def tGs (p : Pg) (vs : List Nat) (g : GD) : TG := fun v σ H Q => ∃ c, Cn.of p c ∧ tGt c vs g v σ H Q
/-- a clause's tests -/
def STs (p : Pg) (Γ : NE) (ifs : List Expr) (t : PM Bool) : Prop := ∀ X, XOk p Γ X → PTs X ifs (tTs p t)
section
variable {p : Pg} {Γ : NE}
theorem sts_nil : STs p Γ [] (pure true) := by
  intro X ok
  refine ⟨fun pins s σ H Q I h => (pts_nil (X := X)).run pins s σ H Q I ?_⟩
  obtain ⟨c, hc, G, s0, r, h⟩ := h
  exact h.same (a := true) (b := true) rfl r rfl
theorem sts_one {e : Expr} {t : PM Bool} (h : ST p Γ e t) : STs p Γ [e] t := by
  intro X ok
  refine ⟨fun pins s σ H Q I ⟨c, hc, q⟩ => (pts_one (h X ok WF (takes_WF X) c hc)).run pins s σ H Q I q⟩
theorem pe_Es {X : Cx} {e : Expr} {m : PM D} (h : SE p Γ e m) (ok : XOk p Γ X) : PE X e (tEs p m) := ⟨fun pins s σ H Q I ⟨c, hc, q⟩ => (h X ok WF (takes_WF X) c hc).run pins s σ H Q I q⟩
theorem pg_Gs {X : Cx} {e : Expr} {vs : List Nat} {g : GD} (h : SG p Γ e vs g) (ok : XOk p Γ X) : PG X e (tGs p vs g) := ⟨fun pins s σ H v u Q I r ⟨c, hc, q⟩ => (h X ok c hc).run pins s σ H v u Q I r q⟩
end
/-- what is wanted of the loop's rest -/
def LR (c : Cn) (L : Addr) (vs : List Nat) (σ : L2.St) (Q : VK) (m : PM (List D)) (G : GW) (s : S) (H : Hp) : Prop := match m s with
  | .ok xs s' => ∀ (G' : GW) (H' : Hp) (ws : List V), Ext G H G' H' → Rs (c.pin L (.lst ws)) G' s' (L2.wipe σ vs) H' → RDs c G' H' xs ws → Q (V.ref L) H'
  | _ => False
section
variable {c c' : Cn} {L : Addr} {vs : List Nat} {σ σ' : L2.St} {Q : VK} {G G' : GW} {s : S} {H H' : Hp}
theorem LR.ext {m : PM (List D)} (x : Ext G H G' H') (h : LR c L vs σ Q m G s H) : LR c L vs σ Q m G' s H' := by
  unfold LR at h ⊢
  cases e : m s with
  | ok a s' =>
    rw [e] at h
    exact fun G2 H2 ws y => h G2 H2 ws (x.trans y)
  | exc n fs s' => rw [e] at h; exact h.elim
  | bad => rw [e] at h; exact h.elim
theorem LR.bind {α β : Type} {R : Cn → GW → Hp → α → β → Prop} {m : PM α} {f : α → PM (List D)} (h : LR c L vs σ Q (m >>= f) G s H) :
    Run R c' WF m G s σ' H fun b H1 => ∃ G1 s1 a, Ext G H G1 H1 ∧ Rs c' G1 s1 σ' H1 ∧ R c' G1 H1 a b ∧ LR c L vs σ Q (f a) G1 s1 H1 := by
  unfold Run
  unfold LR at h
  rw [bind_eq] at h
  cases e : m s with
  | ok a s' =>
    rw [e] at h
    intro G1 H1 b x r q
    refine ⟨G1, s', a, x, r, q, ?_⟩
    have h' : LR c L vs σ Q (f a) G s' H := h
    exact h'.ext x
  | exc n fs s' =>
    rw [e] at h
    exact h.elim
  | bad =>
    rw [e] at h
    exact h.elim
theorem LR.bindG {g : PM Unit} {f : PM (List D)} (h : LR c L vs σ Q (g >>= fun _ => f) G s H) {P : S → Prop} (k : ∀ s', g s = .ok () s' → LR c L vs σ Q f G s' H → P s') : match g s with
    | .ok _ s' => P s'
    | _ => False := by
  unfold LR at h
  rw [bind_eq] at h
  cases e : g s with
  | ok a s' =>
    rw [e] at h
    exact k s' e h
  | exc n fs s' =>
    rw [e] at h
    exact h.elim
  | bad =>
    rw [e] at h
    exact h.elim
end
section
variable {p : Pg} {c : Cn} {W : WX} {vs : List Nat} {mi : PM Src} {g : GD} {t : PM Bool} {e : PM D}
theorem lc_sound (hc : Cn.of p c) {σ : L2.St} {H : Hp} {Q : VK} (h : tF c W (fLc vs mi g t e) σ H Q) : tLc (tI c W mi) (tGs p vs g) (tTs p t) (tEs p e) vs σ H Q := by
  obtain ⟨G, s, r, h⟩ := h
  refine ⟨G, s, r, (RunF.bind (R := RIt) h).mono fun J H1 ⟨G1, s1, src, x1, r1, hJ, h1⟩ => ?_⟩
  intro L hL
  have pin := PinOk.of r1 hL
  have hcp : ∀ o, Cn.of p (c.pin L o) := fun o => ⟨hc.K, hc.w, hc.ex, hc.lam, hc.T⟩
  -- the loop from its start
  have start : ∃ n, okW vs s1.σ = true ∧ LR c L vs σ Q (lcN vs src g t e n 0 []) G1 s1 H1 := by
    unfold RunF at h1
    cases e1 : items src s1.M with
    | none => simp only [e1] at h1
    | some xs =>
      simp only [e1] at h1
      by_cases hw : okW vs s1.σ = true
      · rw [if_pos hw] at h1
        refine ⟨xs.length, hw, ?_⟩
        unfold LR
        cases e2 : lcN vs src g t e xs.length 0 [] s1 with
        | ok ys s' =>
          rw [e2] at h1
          intro G' H' ws x' r' q'
          obtain ⟨r2, hL2, u2⟩ := r'.unpin pin
          have r3 := Rs.backS r1 hw x' r2
          refine h1 G' H' L ws x' r3 hL2 q' ⟨u2.F, u2.hp, u2.H0, fun i v ei ov z => ?_⟩
          have ei : (backL vs s1.σ s'.σ)[i]? = some v := ei
          rw [backL_at, Option.map_eq_some_iff] at ei
          obtain ⟨y, ey, ei⟩ := ei
          by_cases hi : i ∈ vs
          · rw [if_pos (by simpa using hi)] at ei
            have hlt : i < s1.σ.length := by
              rw [r1.len, ← wipe_length σ vs, ← r2.len]
              exact (List.getElem?_eq_some_iff.mp ey).1
            have e0 := List.getElem?_eq_getElem hlt
            have qq := List.all_eq_true.mp hw i hi
            rw [e0] at ei qq
            have ei : s1.σ[i] = v := ei
            rw [ei] at qq
            simp only [ov] at qq
            cases qq
          · rw [if_neg (by simpa using hi)] at ei
            exact u2.own i v (by rw [ey, ei]) ov (by rw [wipe_out hi]; exact z)
        | exc n fs s' => rw [e2] at h1; exact h1.elim
        | bad => rw [e2] at h1; exact h1.elim
      · rw [if_neg hw] at h1
        exact h1.elim
  obtain ⟨n, hw, h2⟩ := start
  refine ⟨fun i k H => ∃ G s σ' acc ws, Ext G1 H1 G H ∧ Rs (c.pin L (.lst ws)) G s σ' H ∧ L2.wipe σ' vs = L2.wipe σ vs ∧ RDs c G H acc ws ∧ LR c L vs σ Q (lcN vs src g t e k i acc) G s H, ⟨n, ?_⟩, ?_⟩
  · have g1 := upd_grow (o := .lst []) hL
    have r2 := r1.grow g1
    have u2 : Unk c G1 s1 σ L := r1.fresh_unk hL
    exact ⟨G1, s1, σ, [], [], r1.ext_of g1, r2.pinned u2 upd_same, rfl, RDs.nil, h2.ext (r1.ext_of g1)⟩
  rintro i k H2 ⟨G2, s2, σ2, acc, ws, x2, r2, hwp, qa, h2⟩
  have r2w := r2.wipe vs
  rw [hwp] at r2w
  obtain ⟨k', hk⟩ : ∃ k', k' = k := ⟨k, rfl⟩
  unfold LR at h2
  cases k with
  | zero =>
    unfold lcN at h2
    cases e1 : items src s2.M with
    | none => simp only [e1] at h2
    | some xs =>
      have it := hJ (c.pin L (.lst ws)) rfl rfl rfl G2 H2 _ _ xs i x2 r2w e1
      cases ei : xs[i]? with
      | none =>
        rw [ei] at it
        simp only [e1, ei] at h2
        exact .inl ⟨it, h2 G2 H2 ws (.refl _ _) r2w qa⟩
      | some d => simp only [e1, ei] at h2
  | succ k =>
    unfold lcN at h2
    cases e1 : items src s2.M with
    | none => simp only [e1] at h2
    | some xs =>
      have it := hJ (c.pin L (.lst ws)) rfl rfl rfl G2 H2 _ _ xs i x2 r2w e1
      cases ei : xs[i]? with
      | none =>
        rw [ei] at it
        simp only [e1, ei] at h2
        exact .inl ⟨it, h2 G2 H2 ws (.refl _ _) r2w qa⟩
      | some d =>
        rw [ei] at it
        obtain ⟨go, yl⟩ := it
        simp only [e1, ei] at h2
        by_cases hl : acc.length < small
        · rw [if_pos hl] at h2
          have h3 : LR c L vs σ Q (g d >>= fun _ => t >>= fun b => if b = true then (e >>= fun y => lcN vs src g t e k (i + 1) (acc ++ [y])) else lcN vs src g t e k (i + 1) acc) G2 { s2 with σ := wipeL vs s2.σ } H2 := h2
          refine .inr ⟨go, fun H' => ∃ G s σ' acc ws, Ext G1 H1 G H' ∧ Rs (c.pin L (.lst ws)) G s σ' H' ∧ L2.wipe σ' vs = L2.wipe σ vs ∧ RDs c G H' acc ws ∧ LR c L vs σ Q (lcN vs src g t e k (i + 1) acc) G s H', fun H' q => ⟨k, Nat.lt_succ_self k, q⟩, fun y H3 hy => ?_⟩
          obtain ⟨G3, x3, r3, q3⟩ := yl y H3 hy
          refine ⟨c.pin L (.lst ws), hcp _, G3, _, d, r3, q3, ?_⟩
          refine LR.bindG (P := fun s' => ∀ σ', Rs (c.pin L (.lst ws)) G3 s' σ' H3 → Same vs (L2.wipe σ vs) σ' → L2.wipe σ' vs = L2.wipe σ vs ∧ _) (h3.ext x3) fun s4 e4 h4 σ4 r4 m4 => ?_
          refine ⟨wipe_same m4, c.pin L (.lst ws), hcp _, G3, s4, r4, (LR.bind (R := REq) (c' := c.pin L (.lst ws)) (σ' := σ4) h4).mono fun b H5 ⟨G5, s5, b', x5, r5, q5, h5⟩ => ?_⟩
          cases q5
          cases b with
          | false =>
            rw [if_neg (by decide)] at h5 ⊢
            exact ⟨G5, s5, σ4, acc, ws, (x2.trans x3).trans x5, r5, wipe_same m4, RDs.mono (x3.trans x5) _ qa, h5⟩
          | true =>
            rw [if_pos rfl] at h5 ⊢
            refine ⟨c.pin L (.lst ws), hcp _, G5, s5, r5, (LR.bind (R := RD) (c' := c.pin L (.lst ws)) (σ' := σ4) h5).mono fun v H6 ⟨G6, s6, y', x6, r6, q6, h6⟩ => ?_⟩
            obtain ⟨r7, hL7, u7⟩ := r6.unpin pin
            refine ⟨ws, hL7, by rw [qa.length]; unfold small at hl; rw [sizeLine_eq]; omega, ?_⟩
            obtain ⟨x8, r8⟩ := r7.updD (o := .lst (ws ++ [v])) u7 (hL7 ▸ nc_lst)
            have q7 : RD c G6 H6 y' v := q6.re (c := c.pin L (.lst ws)) (c' := c) rfl rfl
            exact ⟨G6, s6, σ4, acc ++ [y'], ws ++ [v], (((x2.trans x3).trans x5).trans x6).trans x8, r8.pinned u7 upd_same, wipe_same m4,
              RDs.mono x8 _ ((RDs.mono ((x3.trans x5).trans x6) _ qa).app (RDs.cons q7 RDs.nil)), h6.ext x8⟩
        · rw [if_neg hl] at h2
          exact h2.elim
end
/-! ### as a new list -/
structure LcOk (p : Pg) (Γ Γ' : NE) (scope : Scope) (own : List (Str × Nat)) : Prop where
  blk : BlkS Γ scope own
  sc : ScOk Γ' scope
  N : Γ'.N = Γ.N
  calm : Γ.calm = true
  k : Γ'.k = Γ.k
  ex : p.ex = none
  own : Γ'.own = false
  lam : p.lam = none
section
variable {p : Pg} {Γ Γ' : NE} {elt tg iter : Expr} {ifs : List Expr} {scope : Scope} {own : List (Str × Nat)} {pos : Pos} {mi : PM Src} {g : GD} {t : PM Bool} {e : PM D}
theorem sf_lc (ok : LcOk p Γ Γ' scope own) (hi : SI p Γ tg iter mi) (hg : SG p Γ' tg (own.map (·.2)) g) (ht : STs p Γ' ifs t) (he : SE p Γ' elt e) (hs : ∀ env x, foldedSetIterable iter env x = pure x) :
    SF p Γ (.ListComp elt [⟨tg, iter, ifs, 0⟩] scope pos) (fLc (own.map (·.2)) mi g t e) := by
  intro X okX W tk c hc
  have okb := fun (s : Shared) (H : Hp) (C : Addr) (cl : List (Str × Addr)) (fp : List Addr) => okX.blk ok.sc ok.blk.kind ok.N (fun _ => ok.calm) ok.k ok.ex ok.own ok.lam s H C cl fp
  refine (pe_lc (okX.calm ok.calm).1 (by rw [okX.N]; exact okX.nd) (hi X okX W tk c hc) (ok.blk.ok okX) (fun s H C cl fp => pg_Gs hg (okb s H C cl fp)) (fun s H C cl fp => ht _ (okb s H C cl fp)) (fun s H C cl fp => pe_Es he (okb s H C cl fp)) (hs _)).weak fun σ H Q h => ?_
  exact lc_sound hc h
/-! ### name = e: e a new list -/
/-- st: the name in slot i is given the new list -/
def AF (p : Pg) (Γ : NE) (st : Stmt) (i : Nat) (m : PM (List D)) : Prop := ∀ X, XOk p Γ X → ∀ W, Takes X W → ∀ c, Cn.of p c → PS X st (tAsg (tF c W m) (gName i))
theorem af_sf {i : Nat} {x : Str} {e : Expr} {m : PM (List D)} {pos pos' : Pos} (hN : Γ.N[i]? = some x) (hi : i ∈ Γ.st) (he : SF p Γ e m) (hs : ∀ env, swapsWith e (some (.Name x pos')) pos.line env = pure false) : AF p Γ (.Assign [.Name x pos'] e pos) i m := by
  intro X ok W tk c hc
  obtain ⟨l1, l2⟩ := ok.sto i hi x hN
  exact ps_set (i := i) (by rw [ok.N]; exact ok.nd) (by rw [ok.N]; exact hN) l1 (he X ok W tk c hc) (hs X.env) l2
theorem af_lc {i : Nat} {y : Str} {py spos : Pos} (hN : Γ.N[i]? = some y) (hl : i ∈ Γ.lo) (ok : LcOk p Γ Γ' scope own) (hi : SI p Γ tg iter mi) (hg : SG p Γ' tg (own.map (·.2)) g) (ht : STs p Γ' ifs t) (he : SE p Γ' elt e) (hs : ∀ env x, foldedSetIterable iter env x = pure x)
    (hln : (py.line == pos.line) = true) (hno : (scope.names.any fun (n, k) => n == y && (k == .local || k == .cell)) = false) :
    AF p Γ (.Assign [.Name y py] (.ListComp elt [⟨tg, iter, ifs, 0⟩] scope pos) spos) i (fLc (own.map (·.2)) mi g t e) := by
  intro X okX W tk c hc
  have okb := fun (s : Shared) (H : Hp) (C : Addr) (cl : List (Str × Addr)) (fp : List Addr) => okX.blk ok.sc ok.blk.kind ok.N (fun _ => ok.calm) ok.k ok.ex ok.own ok.lam s H C cl fp
  have lk := okX.loc i hl y hN
  refine (ps_setLc (i := i) (okX.calm ok.calm).1 (by rw [okX.N]; exact okX.nd) (by rw [okX.N]; exact hN) lk (sw_true okX.kind lk hln hno) (hi X okX W tk c hc) (ok.blk.ok okX) (fun s H C cl fp => pg_Gs hg (okb s H C cl fp)) (fun s H C cl fp => ht _ (okb s H C cl fp)) (fun s H C cl fp => pe_Es he (okb s H C cl fp)) (hs _)).weak fun E σ H h => ?_
  exact lc_sound hc h
theorem ss_afU {st : Stmt} {i : Nat} {m : PM (List D)} (h : AF p Γ st i m) : SS p Γ st (sSetU i m) := by
  intro X ok W tk c hc
  refine (h X ok W tk c hc).weak fun E σ H h => ?_
  obtain ⟨G, s, r, h⟩ := h
  refine ⟨G, s, r, ?_⟩
  unfold RunS sSetU at h
  rw [bind_eq] at h
  unfold RunF
  cases e : m s with
  | ok xs s' =>
    rw [e] at h
    intro G1 H1 q vs x r1 hp hq u
    have h' : RunS c W (setSlot i (.ul xs) >>= fun _ => pure none) G s' H E := h
    obtain ⟨s2, r2, h2⟩ := setSlot_run r1 (v := .ul xs) (y := V.ref q) ⟨q, vs, rfl, hp, hq, u.F, u.hp, u.H0⟩ (fun _ b hb => by cases hb; exact u) (h'.ext x)
    exact h2.next rfl (.refl _ _) r2
  | exc n fs s' =>
    rw [e] at h
    exact fun G1 H1 cl dd x r q => h G1 σ H1 cl dd x r q
  | bad =>
    rw [e] at h
    exact h
theorem ss_afF {st : Stmt} {i : Nat} {m : PM (List D)} (h : AF p Γ st i m) : SS p Γ st (sSet i (eFz m)) := by
  intro X ok W tk c hc
  refine (h X ok W tk c hc).weak fun E σ H h => ?_
  obtain ⟨G, s, r, h⟩ := h
  refine ⟨G, s, r, ?_⟩
  unfold RunS sSet eFz at h
  rw [bind_eq, bind_eq] at h
  unfold RunF
  cases e : m s with
  | ok xs s' =>
    rw [e] at h
    intro G1 H1 q vs x r1 hp hq u
    have h' : RunS c W (setSlot i (.val (.lst xs)) >>= fun _ => pure none) G s' H E := h
    obtain ⟨x2, r2, d2⟩ := u.fz_rs r1 hp hq
    obtain ⟨s2, r3, h2⟩ := setSlot_run r2 (v := .val (.lst xs)) (y := V.ref q) ⟨_, rfl, d2⟩ (fun z => by cases z) (h'.ext (x.trans x2))
    exact h2.next rfl (.refl _ _) r3
  | exc n fs s' =>
    rw [e] at h
    exact fun G1 H1 cl dd x r q => h G1 σ H1 cl dd x r q
  | bad =>
    rw [e] at h
    exact h
theorem ss_afM {st : Stmt} {i : Nat} {m : PM (List D)} (h : AF p Γ st i m) : SS p Γ st (sSet i (eHp m)) := by
  intro X ok W tk c hc
  refine (h X ok W tk c hc).weak fun E σ H h => ?_
  obtain ⟨G, s, r, h⟩ := h
  refine ⟨G, s, r, ?_⟩
  unfold RunS sSet eHp at h
  rw [bind_eq, bind_eq] at h
  unfold RunF
  cases e : m s with
  | ok xs s' =>
    rw [e] at h
    intro G1 H1 q vs x r1 hp hq u
    have h' : RunS c W (setSlot i (.val (.ref s'.M.length)) >>= fun _ => pure none) G { s' with M := s'.M ++ [.lst xs] } H E := h
    have x2 : Ext G1 H1 (G1.add q) H1 := Ext.add _ _ _
    obtain ⟨_, r2⟩ := r1.adopt (mo := .lst xs) u ⟨vs, hp, hq.mono x2⟩
    have d2 : RD c (G1.add q) H1 (.ref s'.M.length) (V.ref q) := by
      unfold RD
      exact ⟨q, rfl, by rw [← r1.hlen]; simp [GW.add]⟩
    obtain ⟨s2, r3, h2⟩ := setSlot_run r2 (v := .val (.ref s'.M.length)) (y := V.ref q) ⟨_, rfl, d2⟩ (fun z => by cases z) (h'.ext (x.trans x2))
    exact h2.next rfl (.refl _ _) r3
  | exc n fs s' =>
    rw [e] at h
    exact fun G1 H1 cl dd x r q => h G1 σ H1 cl dd x r q
  | bad =>
    rw [e] at h
    exact h
end
end Ev

set_option maxHeartbeats 2000000
/-! Ev17: attributes of instances. -/
namespace Ev
open PySem PySem.Spec PyProof.Rows L2

def putD (f : String) (d : D) : List (String × D) → List (String × D)
  | [] => [(f, d)]
  | (g, x) :: r => if g = f then (g, d) :: r else (g, x) :: putD f d r
theorem RDo.put {c : Cn} {G : GW} {H : Hp} {f : String} {d : D} {v : V} (hd : RD c G H d v) : ∀ {fs : List (String × D)} {gs : List (Str × V)}, RDo c G H fs gs → RDo c G H (putD f d fs) (putF (Str.ofString f) v gs)
  | [], _, .nil => .cons ⟨rfl, hd⟩ .nil
  | (g, x) :: fs, (g', y) :: gs, .cons h t => by
    obtain ⟨h1, h2⟩ := h
    dsimp only at h1 h2
    subst h1
    unfold putD putF
    by_cases e : g = f
    · subst e
      rw [if_pos rfl, if_pos rfl]
      exact .cons ⟨rfl, hd⟩ t
    · rw [if_neg e, if_neg fun z => e (ofString_inj z)]
      exact .cons ⟨rfl, h2⟩ (RDo.put hd t)
theorem RDo.length {c : Cn} {G : GW} {H : Hp} {fs : List (String × D)} {gs : List (Str × V)} (h : RDo c G H fs gs) : gs.length = fs.length := (Paired.length h).symm
/-- the classes of Cs have the attribute f by instances alone -/
def FldOk (p : Pg) (Cs : List String) (f : String) : Prop := ∀ C ∈ Cs, Cls p.K (He.ga p.K (Str.ofString C)) ∧ NoAttr p.K (He.ga p.K (Str.ofString C)) (Str.ofString f)
def getF (Cs : List String) (f : String) (x : D) : PM D := fun s => match x with
  | .ref n => match s.M[n]? with
    | some (.ins C fs) => if C ∈ Cs then match fs.lookup f with
        | some d => .ok d s
        | none => .bad
      else .bad
    | _ => .bad
  | _ => .bad
def setF (Cs : List String) (f : String) (d x : D) : PM Unit := fun s => match x with
  | .ref n => match s.M[n]? with
    | some (.ins C fs) => if C ∈ Cs ∧ fs.length < 1000 then .ok () { s with M := s.M.set n (.ins C (putD f d fs)) } else .bad
    | _ => .bad
  | _ => .bad
def eFld (Cs : List String) (f : String) (m : PM D) : PM D := m >>= getF Cs f
def sFldS (Cs : List String) (f : String) (mv mo : PM D) : SM := mv >>= fun d => mo >>= fun x => setF Cs f d x >>= fun _ => pure none
section
variable {p : Pg} {Γ : NE} {o e : Expr} {mo m : PM D} {Cs : List String} {f : String} {pos pos' : Pos}
theorem se_fld (hF : FldOk p Cs f) (h : SE p Γ o mo) (hb : ∀ env, attributeBase o (Str.ofString f) env (eval o env) = eval o env) : SE p Γ (.Attribute o (Str.ofString f) pos) (eFld Cs f mo) := by
  intro X ok W tk c hc
  refine (pe_fld (h X ok W tk c hc) (hb _)).weak fun σ H Q h => ?_
  obtain ⟨G, s, r, h⟩ := h
  refine ⟨G, s, r, (Run.bind (R := RD) h).mono fun v H1 ⟨G1, s1, x, x1, r1, q1, h1⟩ => ?_⟩
  unfold Run getF at h1
  cases x with
  | ref n =>
    unfold RD at q1
    obtain ⟨a, rfl, ha⟩ := q1
    cases e1 : s1.M[n]? with
    | none => simp only [e1] at h1
    | some ob =>
      cases ob with
      | ins C fs =>
        simp only [e1] at h1
        by_cases hC : C ∈ Cs
        · rw [if_pos hC] at h1
          obtain ⟨dx, gs, k1, k2⟩ := r1.obj n a _ ha e1
          have lk := RDo.lookup (m := f) k2
          cases e2 : fs.lookup f with
          | none => rw [e2] at h1; exact h1.elim
          | some d =>
            rw [e2] at h1 lk
            obtain ⟨w, lw, rw'⟩ := lk
            have hCe : cAd c C = He.ga X.K (Str.ofString C) := by unfold cAd; rw [hc.K, ok.K]
            obtain ⟨f1, f2⟩ := hF C hC
            rw [← ok.K] at f1 f2
            rw [hCe] at k1
            exact ⟨a, _, dx, gs, w, rfl, k1, f1, f2, lw, h1 G1 H1 w (.refl _ _) r1 rw'⟩
        · rw [if_neg hC] at h1
          exact h1.elim
      | _ => simp only [e1] at h1
  | _ => exact h1.elim
theorem ss_fld (hF : FldOk p Cs f) (ho : SE p Γ o mo) (he : SE p Γ e m) (hs : ∀ env, swapsWith e (some (.Attribute o (Str.ofString f) pos')) pos.line env = pure false) : SS p Γ (.Assign [.Attribute o (Str.ofString f) pos'] e pos) (sFldS Cs f m mo) := by
  intro X ok W tk c hc
  refine (ps_fld (ho X ok W tk c hc) (he X ok W tk c hc) (hs _)).weak fun E σ H h => ?_
  obtain ⟨G, s, r, h⟩ := h
  refine ⟨G, s, r, (RunS.bind (R := RD) h).mono fun v H1 ⟨G1, s1, d, x1, r1, q1, h1⟩ => ?_⟩
  refine ⟨G1, s1, r1, (RunS.bind (R := RD) h1).mono fun w H2 ⟨G2, s2, x, x2, r2, q2, h2⟩ => ?_⟩
  have qd := q1.mono x2
  unfold RunS at h2
  rw [bind_eq] at h2
  unfold setF at h2
  cases x with
  | ref n =>
    unfold RD at q2
    obtain ⟨a, rfl, ha⟩ := q2
    cases e1 : s2.M[n]? with
    | none => simp only [e1] at h2; exact h2.elim
    | some ob =>
      cases ob with
      | ins C fs =>
        simp only [e1] at h2
        by_cases hC : C ∈ Cs ∧ fs.length < 1000
        · rw [if_pos hC] at h2
          obtain ⟨dx, gs, k1, k2⟩ := r2.obj n a _ ha e1
          have hCe : cAd c C = He.ga X.K (Str.ofString C) := by unfold cAd; rw [hc.K, ok.K]
          obtain ⟨f1, f2⟩ := hF C hC.1
          rw [← ok.K] at f1 f2
          obtain ⟨x3, r3⟩ := r2.updM (o := .ins (cAd c C) dx (putF (Str.ofString f) v gs)) (mo := .ins C (putD f d fs)) ha (List.getElem?_eq_some_iff.mp e1).1 (k1 ▸ nc_ins) (fun x => ⟨dx, _, upd_same, (k2.put qd).mono x⟩)
          rw [hCe] at k1 x3 r3
          exact ⟨a, _, dx, gs, rfl, k1, f1, f2, by rw [k2.length]; exact hC.2, h2 G2 σ _ x3 r3⟩
        · rw [if_neg hC] at h2
          exact h2.elim
      | _ => simp only [e1] at h2; exact h2.elim
  | _ => exact h2.elim
end
end Ev

set_option maxHeartbeats 2000000
/-! Ev18: exceptions that are raised. -/
namespace Ev
open PySem PySem.Spec PyProof.Rows L2

/-- raise x('..'), x a class without its own __init__ -/
def sRaise (x : String) : SM := raise x []
/-- the class x, over ValueError, without its own __init__ -/
structure Ex0 (p : Pg) (x : String) : Prop where
  mg : p.mg (Str.ofString x) = some (.ref (He.ga p.K (Str.ofString x)))
  exc : PySem.W.excIn p.K (He.ga p.K (Str.ofString x)) He.veBase "ValueError.__new__" = true
  kp : PySem.W.keepIn p.K (.ref (He.ga p.K (Str.ofString x))) = true
  sub : PySem.W.subIn p.K (.ref (He.ga p.K (Str.ofString x))) (.type "BaseException") = some true
  ty : PySem.W.typeIn p.K (.ref (He.ga p.K (Str.ofString x))) = some (.type "type")
section
variable {p : Pg} {Γ : NE}
theorem ss_raise0 {x : String} {m : Str} {j : Nat} {p1 p2 pos pos' : Pos} (hcm : Γ.calm = true) (hx : Str.ofString x ∈ Γ.glo) (F : Ex0 p x) : SS p Γ (.Raise (some (.Call (.Name (Str.ofString x) p1) [.Constant (.str m) j p2] [] pos)) none pos') (sRaise x) := by
  intro X ok W tk c hc
  obtain ⟨g1, g2, g3⟩ := ok.glo _ hx
  have pm := pmk_own (X := X) (m := m) (j := j) (p := p1) (p2 := p2) (pos := pos) PySem.F.excBase_ValueError (C := He.ga p.K (Str.ofString x)) (by rw [ok.K]; exact F.exc) (by rw [ok.mg]; exact F.mg) (by rw [ok.K]; exact F.kp)
    (raises_own (by rw [ok.K]; exact F.sub) (by rw [ok.K]; exact F.ty)) g1 g2
  refine (ps_raise (ok.calm hcm).1 tk pm).weak fun E σ H h => ?_
  obtain ⟨G, s, r, h⟩ := h
  exact h G σ H _ none (.refl _ _) r ⟨by unfold cAd; rw [hc.K], rfl⟩
end
/-! ### a class with its own __init__ of one argument, which is a field -/
def oexB (K : PySem.W.Frag) (C : Addr) : Bool := (match K.lookup C with
    | some ⟨.type t, _, .cls cd, sl⟩ => t == "type" && (match cd.mro, sl.toList with
      | .ref C' :: bm, [_, _, _, _, some (.builtin n), _] => decide (C' = C) && (n == "ValueError.__new__" && (!cd.hasDel && (cd.hasDict && PySem.HandSPX.refsVE bm)))
      | _, _ => false)
    | _ => false) && (decide (PySem.W.findIn K (.ref C) "__setattr__" = some (some (.builtin "object.__setattr__"))) && (decide (PySem.W.subIn K (.ref C) (.type "BaseException") = some true) && (decide (PySem.W.typeIn K (.ref C) = some (.type "type")) && PySem.W.keepIn K (.ref C))))
theorem oexB_ok {K : PySem.W.Frag} {C : Addr} (h : oexB K C = true) : OexC K C := by
  unfold oexB at h
  simp only [Bool.and_eq_true, decide_eq_true_eq] at h
  obtain ⟨h1, h2, h3, h4, h5⟩ := h
  refine ⟨?_, h2, h3, h4, h5⟩
  split at h1
  · rename_i t dd cd sl ho
    simp only [Bool.and_eq_true, beq_iff_eq] at h1
    obtain ⟨rfl, h1⟩ := h1
    split at h1
    · rename_i C' bm k0 k1 k2 k3 n k5 hm hs
      simp only [Bool.and_eq_true, beq_iff_eq, decide_eq_true_eq, Bool.not_eq_true'] at h1
      obtain ⟨rfl, rfl, q1, q2, q3⟩ := h1
      obtain ⟨nm, bs, mro, ns, qn, hd, sn, sub, ab, col, del⟩ := cd
      dsimp only at hm q1 q2
      subst hm q1 q2
      have hsl : sl = #[k0, k1, k2, k3, some (.builtin "ValueError.__new__"), k5] := by
        obtain ⟨l⟩ := sl
        simp only at hs
        rw [hs]
      subst hsl
      exact ⟨nm, qn, ns, bs, bm, sn, sub, ab, col, dd, k0, k1, k2, k3, k5, ho, q3⟩
    · cases h1
  · cases h1
/-- what the base class B gives for B.__init__(self, ..) -/
structure BaseIn (K : PySem.W.Frag) (B : Addr) : Prop where
  ga : PySem.W.specialIn K (.ref B) "__getattribute__" = some (some (.builtin "type.__getattribute__"))
  rd : PySem.W.readsIn K B (.type "type") = true
  fc : PySem.W.findCls K (.ref B) (.type "type") "__init__" = some (.val (.builtin "ValueError.__init__"))
section
variable {X : Cx} {e : Expr} {es : List Expr} {ta : TA} {p1 p2 pos : Pos}
theorem pe_bvinit {x : Str} {B : Addr} {pl : Sem Bool} (hg : Gl X x) (hm : X.mg x = some (.ref B)) (b : BaseIn X.K B) (ha : PA X (e :: es) ta) (hdb : (x == ("__debug__" : Str)) = false)
    (hc : eval (.Call (.Attribute (.Name x p1) "__init__" p2) (e :: es) [] pos) X.env = (do
      let ov ← eval (.Name x p1) X.env
      standAt p2.atName
      let (f, first) ← holding [ov] (getMethod ov "__init__" pl)
      callWith pos f first (backTo pos (starEach (e :: es) X.env)) (backToKw pos (keywordEach [] X.env))))
    (he : starEach (e :: es) X.env = (false, eval e X.env) :: starEach es X.env) (hpl : (backTo pos (starEach es X.env)).any (·.1) = false) :
    PE X (.Call (.Attribute (.Name x p1) "__init__" p2) (e :: es) [] pos) (tVeI X.K ta) := by
  refine ⟨fun pins s σ H Q I h => ?_⟩
  refine PySem.W.methodCall_KW (ld_glob I hg hm ?_ hdb) hc
  refine PySem.W.method_cls I.kIn b.ga (PySem.W.cls_value (v := .builtin "ValueError.__init__") I.kIn b.rd b.fc (by decide +kernel) ?_)
  show wpAny _ _ (callWith pos (Value.builtin "ValueError.__init__") [] (backTo pos (starEach (e :: es) X.env)) []) _ _ _
  refine PyProof.Rows.callWith_method1 (thn (ha.run pos pins _ σ H _ (I.tok _) h) fun us s1 ⟨vs, H1, I1, r1, a, C, ws, ev, hl, T, ea, q⟩ => ?_) he hpl
  subst ev
  cases r1 with
  | @cons _ u0 _ ur ra rw' =>
    obtain rfl : u0 = Value.ref a := ra
    have hlen : ur.length ≤ sizeLine := by
      rw [← Paired.length rw', sizeLine_eq]
      omega
    exact oinit_ok T I1 ea hlen fun s' J => ⟨.non, H1, J, rfl, q⟩
end
/-- what an own __init__ (self, par): Base.__init__(self, par); self.f = par promises -/
def spInit (C : Addr) (f : Str) : Sp := fun vs H Q _ => ∃ (a : Addr) (v : V), vs = [.ref a, v] ∧ H a = some (exo a C none) ∧ ∀ dx, H dx = none → dx ≠ a → Q .non (upd (upd H dx (exd dx [(f, v)])) a (exo a C (some dx)))
def initE : NE → Str → Prop := fun Γ b => Γ.see = [0, 1] ∧ Γ.glo = [b] ∧ Γ.calm = true ∧ Γ.k = 0
section
variable {p : Pg} {fI C B : Addr} {fd : FuncData} {name qual self par base f : Str} {params : Arguments} {scope : Scope} {p1 p2 p3 p4 p5 p6 p7 q1 q2 q3 : Pos} {pl : Env → Sem Bool}
theorem init_ok (F : FunD p.K name qual params [.Expr (.Call (.Attribute (.Name base p1) "__init__" p2) [.Name self p3, .Name par p4] [] q1) q2, .Assign [.Attribute (.Name self p5) f p6] (.Name par p7) q3] scope [] [] fI fd)
    (S : FnScope [self, par] [self, par] scope) (sc : ScOk ⟨[self, par], [0, 1], [], [base], true, 0, [], [], true⟩ scope) (hB : p.mg base = some (.ref B)) (b : BaseIn p.K B) (T : OexC p.K C) (hno : PySem.W.findIn p.K (.ref C) f = some none) (hex : p.ex = none) (hlam : p.lam = none) (hcod : p.cod = none)
    (hc : ∀ env, eval (.Call (.Attribute (.Name base p1) "__init__" p2) [.Name self p3, .Name par p4] [] q1) env = (do
      let ov ← eval (.Name base p1) env
      standAt p2.atName
      let (f, first) ← holding [ov] (getMethod ov "__init__" (pl env))
      callWith q1 f first (backTo q1 (starEach [.Name self p3, .Name par p4] env)) (backToKw q1 (keywordEach [] env)))) :
    FnOk p.P p.w p.K p.mg p.base (L2.CX p.P p.w) 2 fI fd [self, par] (spInit C f) := by
  refine F.ok S (fun vs H Q E h => ?_) fun cdv A outer s H vs Q E hr h => ?_
  · obtain ⟨a, v, rfl, _⟩ := h
    rfl
  · have ok : XOk p ⟨[self, par], [0, 1], [], [base], true, 0, [], [], true⟩ (cxOf (L2.CX p.P p.w) p.P p.w p.K p.mg p.base [self, par] qual scope fI cdv A outer s H E) :=
      { prog := rfl, w := rfl, K := rfl, mg := rfl, base := rfl, N := rfl, nd := S.nd, vis := sc.vis, sto := fun i hi x e => ⟨sc.sto i hi x e, .inl rfl⟩, glo := fun x hx => ⟨(sc.glo x hx).1, (sc.glo x hx).2.1, (sc.glo x hx).2.2⟩,
        calm := fun _ => ⟨rfl, hr.hd⟩, dp := hr.dp, un := hr.un, pass := passes_of rfl, loc := sc.loc, kind := S.kind, cap := sc.cap, own := fun _ => ⟨rfl, rfl⟩, act := (fun _ l e => by rw [hlam] at e; cases e), cod := (fun a q e => by rw [hcod] at e; cases e), hot := fun a cls dd e => by rw [hex] at e; cases e }
    obtain ⟨g1, g2, g3⟩ := ok.glo base (by simp)
    obtain ⟨v01, v02, v03⟩ := ok.vis 0 (by simp) self rfl
    obtain ⟨v11, v12, v13⟩ := ok.vis 1 (by simp) par rfl
    refine ⟨_, pss_cons (ps_expr (pe_bvinit (pl := pl _) g1 hB b (pa_cons (pe_var (i := 0) rfl v01 v02 v03) (pa_cons (pe_var (i := 1) rfl v11 v12 v13) pa_nil (by rfl)) (by rfl)) g2 (hc _) (by rfl) (by rfl)) (by rfl))
      (pss_one (ps_ost (pe_var (i := 0) rfl v01 v02 v03) (pe_var (i := 1) rfl v11 v12 v13) (by rfl))), ?_⟩
    obtain ⟨a, v, rfl, ha, q⟩ := h
    refine ⟨.ref a, rfl, v, rfl, a, C, [v], rfl, by simp, T, ha, v, rfl, .ref a, rfl, a, C, rfl, T, hno, .inl ⟨ha, fun dx hd ne => q dx hd ne⟩⟩
end
/-- the class x, over ValueError, its own __init__ of one argument, which is the field f -/
structure Ex1 (p : Pg) (x f : String) : Prop where
  mg : p.mg (Str.ofString x) = some (.ref (He.ga p.K (Str.ofString x)))
  oex : OexC p.K (He.ga p.K (Str.ofString x))
  ini : ∃ (fI : Addr) (fd : FuncData) (ps : List Str), PySem.W.findIn p.K (.ref (He.ga p.K (Str.ofString x))) "__init__" = some (some (.ref fI)) ∧ PySem.W.typeIn p.K (.ref fI) = some (.type "function") ∧ Binds p.K fd ps [] ∧
    FnOk p.P p.w p.K p.mg p.base (L2.CX p.P p.w) 2 fI fd ps (spInit (He.ga p.K (Str.ofString x)) (Str.ofString f))
def sRaise1 (x f : String) (ms : PM (List D)) : SM := ms >>= fun ds => match ds with
  | [d] => raise x [(f, d)]
  | _ => stuck
section
variable {p : Pg} {Γ : NE}
theorem ss_raise1 {x f : String} {e : Expr} {ms : PM (List D)} {p1 pos pos' : Pos} (hcm : Γ.calm = true) (hk : 1 ≤ Γ.k) (hx : Str.ofString x ∈ Γ.glo) (F : Ex1 p x f) (ha : SA p Γ [e] ms) (he : ∀ env, starEach [e] env = (false, eval e env) :: starEach [] env) :
    SS p Γ (.Raise (some (.Call (.Name (Str.ofString x) p1) [e] [] pos)) none pos') (sRaise1 x f ms) := by
  intro X ok W tk c hc
  obtain ⟨g1, g2, g3⟩ := ok.glo _ hx
  obtain ⟨fI, fd, ps, i1, i2, i3, i4⟩ := F.ini
  have hr : Room (2 + 1) X.A := (ok.room hcm).mono (by omega)
  have pm := pmk_oex (X := X) (p := p1) (pos := pos) (dvs := []) (ds := []) (C := He.ga p.K (Str.ofString x)) (by rw [ok.K]; exact F.oex) (by rw [ok.K]; exact i1) (by rw [ok.K]; exact i2)
    (by rw [ok.prog, ok.w, ok.K, ok.mg, ok.base]; exact i4) hr (by rw [ok.K]; exact i3) .nil (by rw [← ok.prog, ← ok.w]; exact passes_call tk (fun _ _ _ _ h => h.elim)) g1 (by rw [ok.mg]; exact F.mg) (ha X ok W tk c hc) g2 (he _) (by rfl)
  refine (ps_raise (ok.calm hcm).1 tk pm).weak fun E σ H h => ?_
  obtain ⟨G, s, r, h⟩ := h
  refine ⟨G, s, r, (RunS.bind (R := RDs) h).mono fun vs H1 ⟨G1, s1, ds, x1, r1, q1, h1⟩ => ?_⟩
  rcases ds with _ | ⟨d, _ | ⟨z, t⟩⟩
  · exact stuck_runS h1
  · obtain ⟨v, rfl, hv⟩ := q1.one
    refine ⟨by simp, fun a ha => ⟨a, v, rfl, upd_same, fun dx hd ne => ⟨rfl, dx, [(Str.ofString f, v)], upd_same, ?_, ?_, ?_⟩⟩⟩
    · rw [upd_ne ne, upd_same]
    · rw [upd_ne ne] at hd
      exact hd
    · have hd' : H1 dx = none := by
        rw [upd_ne ne] at hd
        exact hd
      have eh : upd (del (upd (upd (upd H1 a (exo a (He.ga p.K (Str.ofString x)) none)) dx (exd dx [(Str.ofString f, v)])) a (exo a (He.ga p.K (Str.ofString x)) (some dx))) a) dx (.xd [(Str.ofString f, v)]) = upd H1 dx (.xd [(Str.ofString f, v)]) := by
        funext b
        by_cases hb : b = dx
        · rw [hb, upd_same, upd_same]
        · rw [upd_ne hb, upd_ne hb]
          by_cases hba : b = a
          · rw [hba, del_same, ha]
          · rw [del_ne hba, upd_ne hba, upd_ne hb, upd_ne hba]
      rw [eh]
      obtain ⟨x2, r2⟩ := r1.push (.xd [(Str.ofString f, v)]) hd'
      have h1 : RunS c W (raise x [(f, d)]) G1 s1 H1 E := h1
      exact h1 _ σ _ _ (some dx) x2 r2 ⟨by unfold cAd; rw [hc.K], _, .inr rfl, upd_same, .cons ⟨rfl, hv.mono x2⟩ .nil⟩
  · exact stuck_runS h1
end
end Ev

set_option maxHeartbeats 2000000
/-! Ev19: try: .. except x as n: ..; the caught exception. -/
namespace Ev
open PySem PySem.Spec PyProof.Rows L2

/-- in an except suite -/
def Pg.at (p : Pg) (a : Addr) (cls : Value) (dd : Option Addr) : Pg := { p with ex := some (a, cls, dd) }
def noEx : SV → SV
  | .ex _ _ => .un
  | v => v
def clrEx (σ : List SV) : List SV := σ.map noEx
/-- try: body, except x as n: suite; tb: which classes are caught -/
def sTryAs (tb : List (String × Bool)) (i : Nat) (body suite : SM) : SM := fun s => match body s with
  | .exc x fs s1 => match tb.lookup x with
    | some true => if i < s1.σ.length then match suite { s1 with σ := (clrEx s1.σ).set i (.ex x fs) } with
        | .ok none s2 => .ok none { s2 with σ := (clrEx s2.σ).set i .un }
        | .ok (some d) s2 => .ok (some d) { s2 with σ := clrEx s2.σ }
        | _ => .bad
      else .bad
    | some false => .exc x fs s1
    | none => .bad
  | o => o
/-- which exceptions x are caught by the clause that names the class cv -/
def CatOk (p : Pg) (cv : Value) (tb : List (String × Bool)) : Prop := ∀ x b, tb.lookup x = some b → PySem.W.exmOne p.K (.ref (He.ga p.K (Str.ofString x))) cv = some b
section
variable {c : Cn} {G : GW} {s : S} {σ : L2.St} {H : Hp}
theorem Rs.hotc (r : Rs c G s σ H) (e : Option (Addr × Value × Option Addr)) : Rs { c with ex := e } G { s with σ := clrEx s.σ } σ H := by
  have at' : ∀ (i : Nat) (v : SV), (clrEx s.σ)[i]? = some v → ∃ w, s.σ[i]? = some w ∧ v = noEx w := fun i v h => by
    unfold clrEx at h
    rw [List.getElem?_map, Option.map_eq_some_iff] at h
    obtain ⟨w, h1, h2⟩ := h
    exact ⟨w, h1, h2.symm⟩
  have own' : ∀ w : SV, (noEx w).own = true → noEx w = w := fun w h => by cases w <;> first | rfl | cases h
  refine { len := by show (clrEx s.σ).length = _; unfold clrEx; rw [List.length_map]; exact r.len, at_ := fun i v ei => ?_, sep := fun i j v w a ei ej ov ow hi hj => ?_, hlen := r.hlen, nd := r.nd, obj := fun n a o h1 h2 => RO.re (c := c) (c' := { c with ex := e }) rfl rfl (r.obj n a o h1 h2), dis := r.dis, live := r.live, keep := r.keep, pre := r.pre, new := r.new, newF := r.newF, nF := r.nF, nt := r.nt, tabs := r.tabs }
  · obtain ⟨w, h1, rfl⟩ := at' i v ei
    have q := r.at_ i w h1
    cases w with
    | un => exact q
    | val d =>
      obtain ⟨y, e1, rd⟩ := q
      exact ⟨y, e1, RD.re (c := c) (c' := { c with ex := e }) rfl rfl _ rd⟩
    | ul xs =>
      obtain ⟨a, vs, q1, q2, q3, q4⟩ := q
      exact ⟨a, vs, q1, q2, RDs.re (c := c) (c' := { c with ex := e }) rfl rfl _ q3, q4⟩
    | ud xs =>
      obtain ⟨a, vs, q1, q2, q3, q4⟩ := q
      exact ⟨a, vs, q1, q2, RDk.re (c := c) (c' := { c with ex := e }) rfl rfl q3, q4⟩
    | ex x fs =>
      obtain ⟨a, cls, dd, _, h2, _⟩ := q
      exact ⟨_, h2⟩
    | lm _ =>
      obtain ⟨l, vs, h1, h2, h3, h4, h5⟩ := q
      exact ⟨l, vs, h1, h2, h3, RDs.re (c := c) (c' := { c with ex := e }) rfl rfl _ h4, h5⟩
  · obtain ⟨v', h1, rfl⟩ := at' i v ei
    obtain ⟨w', h2, rfl⟩ := at' j w ej
    rw [own' v' ov] at ov
    rw [own' w' ow] at ow
    exact r.sep i j v' w' a h1 h2 ov ow hi hj
end
/-- the names seen in a suite, as outside; nothing is calm there -/
def NE.hot (Γ : NE) : NE := { Γ with calm := false }
section
variable {p : Pg} {Γ : NE} {X : Cx}
theorem XOk.tr (ok : XOk p Γ X) (hex : p.ex = none) {pn : List (Addr × Obj)} {xe : Value → Shared → Prop} (hp : PassesOwn (model X.prog X.w) X.A X.env xe) : XOk p Γ (X.tr pn xe) :=
  { prog := ok.prog, w := ok.w, K := ok.K, mg := ok.mg, base := ok.base, N := ok.N, nd := ok.nd, vis := ok.vis, sto := ok.sto, glo := ok.glo, calm := ok.calm, dp := ok.dp, un := ok.un, pass := hp, loc := ok.loc, kind := ok.kind, own := ok.own, act := (fun h l e pn' xe' W tk p1 p2 c hc => ok.act h l e pn' xe' W tk p1 p2 c hc), cod := ok.cod, hot := (fun a cls dd e => by rw [hex] at e; cases e), cap := ok.cap }
theorem XOk.suite (ok : XOk p Γ X) {a : Addr} {oe : Obj} {cls : Value} {dd : Option Addr} {pn : List (Addr × Obj)} (hz : Zc cls dd oe) (hf : ∃ vs, oe.data = .fields vs) : XOk (p.at a cls dd) Γ.hot (X.suite a ((a, oe) :: pn)) :=
  { prog := ok.prog, w := ok.w, K := ok.K, mg := ok.mg, base := ok.base, N := ok.N, nd := ok.nd, vis := ok.vis, sto := ok.sto, glo := ok.glo, calm := (fun z => by cases z), dp := ok.dp, un := ok.un, pass := PassesOwn.never, loc := ok.loc, kind := ok.kind, own := ok.own, act := (fun h => by cases h), cod := ok.cod,
    hot := (fun a' cls' dd' e => by
      have e : some (a, cls, dd) = some (a', cls', dd') := e
      cases e
      exact ⟨X, oe, pn, rfl, hz, hf⟩), cap := ok.cap }
end
/-- the class that a clause names -/
def NamesP (p : Pg) (x : Str) (cv : Value) : Prop := p.mg x = some cv ∨ (p.mg x = none ∧ bootBuiltins x = some cv)
section
variable {p : Pg} {Γ : NE} {body : List Stmt} {b₀ : Stmt} {suite : List Stmt} {i : Nat} {n x : Str} {cv : Value} {tb : List (String × Bool)} {m ms : SM} {np pos pos' : Pos}
theorem ss_tryas (hex : p.ex = none) (hown : Γ.own = true) (hN : Γ.N[i]? = some n) (hl : i ∈ Γ.lo) (hx : x ∈ Γ.glo) (hc : NamesP p x cv) (hcat : CatOk p cv tb) (hb : SSs p Γ body m) (hs : ∀ a cls dd, SSs (p.at a cls dd) Γ.hot (b₀ :: suite) ms) :
    SS p Γ (.Try body [.ExceptHandler (some (.Name x np)) (some n) (b₀ :: suite) pos'] [] [] pos) (sTryAs tb i m ms) := by
  intro X ok W tk c hcn
  obtain ⟨o1, o2⟩ := ok.own hown
  obtain ⟨g1, g2, g3⟩ := ok.glo x hx
  have lk := ok.loc i hl n hN
  have hnm : Names X x cv := ⟨g1, g2, hc.imp (fun z => by rw [ok.mg]; exact z) fun z => ⟨by rw [ok.mg]; exact z.1, z.2, g3⟩⟩
  refine (ps_try_as (i := i) (tb := fun W => tS c W m) (ts := fun a cls dd => tS { c with ex := some (a, cls, dd) } WF ms) o1 o2 (by rw [ok.N]; exact ok.nd) (by rw [ok.N]; exact hN) lk hnm tk (fun W' pn xe tk' hp => hb _ (ok.tr hex hp) W' tk' c hcn)
    (fun a oe cls dd pn hz hf => hs a cls dd _ (ok.suite hz hf) WF (takes_WF _) _ ⟨hcn.K, hcn.w, rfl, hcn.lam, hcn.T⟩)).weak fun E σ H h => ?_
  obtain ⟨G, s, r, h⟩ := h
  refine ⟨G, s, r, ?_⟩
  unfold RunS sTryAs at h
  unfold RunS
  cases e : m s with
  | ok o s' =>
    rw [e] at h
    cases o <;> exact h
  | bad =>
    rw [e] at h
    exact h
  | exc y fs s1 =>
    rw [e] at h
    dsimp only at h
    intro G1 σ1 H1 cls dd x1 r1 q1
    cases et : tb.lookup y with
    | none => rw [et] at h; exact h.elim
    | some b =>
      rw [et] at h
      have hcls : cls = .ref (He.ga p.K (Str.ofString y)) := by
        obtain ⟨z, _⟩ := q1
        rw [z]
        unfold cAd
        rw [hcn.K]
      refine ⟨b, by rw [ok.K, hcls]; exact hcat y b et, fun hb a ha => ?_, fun hb => ?_⟩
      · subst hb
        dsimp only at h
        by_cases hi : i < s1.σ.length
        · rw [if_pos hi] at h
          have r2 := r1.hotc (some (a, cls, dd))
          have hq : RSV { c with ex := some (a, cls, dd) } G1 H1 (.ex y fs) (some (some (V.ref a))) := ⟨a, cls, dd, rfl, rfl, RX.re (c := c) (c' := { c with ex := some (a, cls, dd) }) rfl rfl q1⟩
          have r3 := r2.setSlot (i := i) (v := .ex y fs) (y := V.ref a) (by show i < (clrEx s1.σ).length; unfold clrEx; rw [List.length_map]; exact hi) hq (fun z => by cases z)
          refine ⟨G1, { s1 with σ := (clrEx s1.σ).set i (.ex y fs) }, r3, ?_⟩
          unfold RunS
          cases e2 : ms { s1 with σ := (clrEx s1.σ).set i (.ex y fs) } with
          | ok o s2 =>
            rw [e2] at h
            cases o with
            | none =>
              intro G' σ' H' x' r'
              have r4 := (r'.hotc c.ex).setUn i
              exact h G' (σ'.set i none) H' (x1.trans x') r4
            | some d =>
              intro G' σ' H' v x' r' q'
              exact h G' σ' H' v (x1.trans x') (r'.hotc c.ex) (RD.re (c := { c with ex := some (a, cls, dd) }) (c' := c) rfl rfl _ q')
          | exc z gs s2 => rw [e2] at h; exact h.elim
          | bad => rw [e2] at h; exact h.elim
        · rw [if_neg hi] at h
          exact h.elim
      · subst hb
        exact h G1 σ1 H1 cls dd x1 r1 q1
end
/-! ### the caught exception: its class, its fields -/
def eIsE (tb : List (String × Bool)) (i : Nat) : PM D := fun s => match s.σ[i]? with
  | some (.ex x _) => match tb.lookup x with
    | some b => .ok (.bl b) s
    | none => .bad
  | _ => .bad
def eXf (Cs : List String) (f : String) (i : Nat) : PM D := fun s => match s.σ[i]? with
  | some (.ex x fs) => if x ∈ Cs then match fs.lookup f with
      | some d => .ok d s
      | none => .bad
    else .bad
  | _ => .bad
/-- isinstance(e, cv), e of the class x -/
def IsEOk (p : Pg) (cv : Value) (tb : List (String × Bool)) : Prop := ∀ x b, tb.lookup x = some b → ExcC p.K (He.ga p.K (Str.ofString x)) ∧ PySem.W.kitOne p.K (.ref (He.ga p.K (Str.ofString x))) cv = some b
def XfOk (p : Pg) (Cs : List String) (f : String) : Prop := ∀ x ∈ Cs, XfC p.K (He.ga p.K (Str.ofString x)) ∧ PySem.W.findIn p.K (.ref (He.ga p.K (Str.ofString x))) (Str.ofString f) = some none
def rIsE2 (K : PySem.W.Frag) (a : Addr) (cls : Value) (dd : Option Addr) : List V → Hp → VK → Prop := fun xs H Q => ∃ (C : Addr) (c : V) (cv : Value) (b : Bool), cls = .ref C ∧ ExcC K C ∧ xs = [.ref a, c] ∧ (∀ u, RelV c u → u = cv) ∧ PySem.W.kitOne K (.ref C) cv = some b ∧ (∀ d, dd = some d → ∃ gs, H d = some (.xd gs)) ∧ Q (.bl b) H
theorem call_isE2 {X : Cx} {a : Addr} {cls : Value} {dd : Option Addr} {oe : Obj} {pn : List (Addr × Obj)} (hz : Zc cls dd oe) (hf : ∃ vs, oe.data = .fields vs) : CallR (X.suite a ((a, oe) :: pn)) (.builtin "isinstance") (rIsE2 X.K a cls dd) := by
  intro pins s σ H xs us Q I r h
  obtain ⟨D, c, cv, b, rfl, C, rfl, hcv, e, hd, q⟩ := h
  cases r with
  | cons rx rr =>
    cases rr with
    | cons rt rr =>
      cases rr
      cases rx
      have ec := hcv _ rt
      subst ec
      obtain ⟨hget, _⟩ := I.pin (a, oe) (List.mem_append.mpr (.inl List.mem_cons_self))
      obtain ⟨vs, hv⟩ := hf
      obtain ⟨od, J⟩ : ∃ od, PySem.W.InstAt s.heap a oe D od := by
        obtain ⟨oc, od, oda, osl⟩ := oe
        obtain ⟨h1, h2⟩ := hz
        dsimp only at h1 h2 hv
        subst h1 h2 hv
        cases od with
        | none => exact ⟨none, hget, rfl, rfl, trivial⟩
        | some d =>
          obtain ⟨gs, hg⟩ := hd d rfl
          obtain ⟨mA, hns, hr⟩ := (show ObjOk X.prog X.w H s.heap d (.xd gs) from I.hok d _ hg)
          obtain ⟨od, ho, hl⟩ := lookIn_ns hns
          exact ⟨some od, hget, rfl, rfl, ho⟩
      have hcl : (PySem.W.clsIn X.K D).isSome = true := by
        obtain ⟨cd, hc, _⟩ := PySem.W.any_some C.hd
        rw [hc]
        rfl
      exact PySem.W.kia_one (PySem.W.kitx_exc hcl C.hg C.hk C.hs C.ha C.hn C.ht C.hm) I.kIn J e (fun z => nomatch z) fun tk => ⟨.bl b, H, I.kept (t' := tk) fun _ _ z => z, rfl, q⟩
section
variable {p : Pg} {Γ : NE} {i : Nat} {n x : Str} {cv : Value} {cV : V} {tb : List (String × Bool)} {p' p2 p3 pos : Pos}
theorem se_isE (hot : ∃ z, p.ex = some z) (hi : Γ.N[i]? = some n) (hs : i ∈ Γ.see) (hx : ("isinstance" : Str) ∈ Γ.glo) (hm : p.mg "isinstance" = none) (hb : x ∈ Γ.glo) (hmb : p.mg x = some cv ∨ (p.mg x = none ∧ bootBuiltins x = some cv)) (hcV : RelV cV cv) (hcu : ∀ u, RelV cV u → u = cv) (ht : IsEOk p cv tb)
    (he : ∀ env, starEach [.Name n p2, .Name x p3] env = (false, eval (.Name n p2) env) :: starEach [.Name x p3] env) : SE p Γ (.Call (.Name "isinstance" p') [.Name n p2, .Name x p3] [] pos) (eIsE tb i) := by
  intro X ok W tk c hc
  obtain ⟨⟨a, cls, dd⟩, hex⟩ := hot
  obtain ⟨X0, oe, pn, rfl, hz, hf⟩ := ok.hot a cls dd hex
  obtain ⟨g1, g2, g3⟩ := ok.glo _ hx
  obtain ⟨k1, k2, k3⟩ := ok.glo _ hb
  obtain ⟨v1, v2, v3⟩ := ok.vis i hs n hi
  have hmg := ok.mg
  have pn2 : PE (X0.suite a ((a, oe) :: pn)) (.Name x p3) (tC cV) := by
    rcases hmb with h | ⟨h1, h2⟩
    · exact pe_glob k1 (by rw [hmg]; exact h) hcV k2
    · exact pe_bltn k1 (by rw [hmg]; exact h1) h2 hcV k3 k2
  refine (pe_callB (call_isE2 (X := X0) (pn := pn) hz hf) g1 (by rw [hmg]; exact hm) boot_isinstance (pa_cons (pe_var (i := i) (by rw [ok.N]; exact hi) v1 v2 v3) (pa_cons pn2 pa_nil (by rfl)) (he _)) g3 g2 (he _) (by rfl)).weak fun σ H Q h => ?_
  obtain ⟨G, s, r, h⟩ := h
  unfold Run eIsE at h
  cases e : s.σ[i]? with
  | none => simp only [e] at h
  | some v =>
    cases v with
    | ex y fs =>
      simp only [e] at h
      cases et : tb.lookup y with
      | none => rw [et] at h; exact h.elim
      | some b =>
        rw [et] at h
        obtain ⟨a', cls', dd', q1, q2, q3⟩ := r.at_ i _ e
        rw [hc.ex, hex] at q1
        cases q1
        obtain ⟨q4, q5⟩ := q3
        obtain ⟨t1, t2⟩ := ht y b et
        refine ⟨V.ref a, q2, He.ga p.K (Str.ofString y), cV, cv, b, by rw [q4]; unfold cAd; rw [hc.K], by rw [show X0.K = p.K from ok.K]; exact t1, rfl, hcu, by rw [show X0.K = p.K from ok.K]; exact t2, fun d hd => ?_, h G H (.bl b) (.refl _ _) r (by unfold RD; rfl)⟩
        subst hd
        obtain ⟨gs, _, z, _⟩ := q5
        exact ⟨gs, z⟩
    | _ => simp only [e] at h
theorem se_xf {Cs : List String} {f : String} (hot : ∃ z, p.ex = some z) (hi : Γ.N[i]? = some n) (hs : i ∈ Γ.see) (hF : XfOk p Cs f) (hb : ∀ env, attributeBase (.Name n p2) (Str.ofString f) env (eval (.Name n p2) env) = eval (.Name n p2) env) : SE p Γ (.Attribute (.Name n p2) (Str.ofString f) pos) (eXf Cs f i) := by
  intro X ok W tk c hc
  obtain ⟨⟨a, cls, dd⟩, hex⟩ := hot
  obtain ⟨X0, oe, pn, rfl, hz, hf⟩ := ok.hot a cls dd hex
  obtain ⟨v1, v2, v3⟩ := ok.vis i hs n hi
  have he := pe_var (X := X0.suite a ((a, oe) :: pn)) (i := i) (x := n) (pos := p2) (by rw [ok.N]; exact hi) v1 v2 v3
  refine ⟨fun pins s0 σ H Q I h => ?_⟩
  obtain ⟨G, s, r, h⟩ := h
  unfold Run eXf at h
  cases e : s.σ[i]? with
  | none => simp only [e] at h
  | some v =>
    cases v with
    | ex y fs =>
      simp only [e] at h
      by_cases hy : y ∈ Cs
      · rw [if_pos hy] at h
        cases et : fs.lookup f with
        | none => rw [et] at h; exact h.elim
        | some d =>
          rw [et] at h
          obtain ⟨a', cls', dd', q1, q2, q3⟩ := r.at_ i _ e
          rw [hc.ex, hex] at q1
          cases q1
          obtain ⟨q4, q5⟩ := q3
          have hcls : cls = .ref (He.ga p.K (Str.ofString y)) := by rw [q4]; unfold cAd; rw [hc.K]
          obtain ⟨T, hno⟩ := hF y hy
          cases dd with
          | none =>
            rw [q5] at et
            cases et
          | some dd =>
            obtain ⟨gs, _, z, k2⟩ := q5
            have lk := RDo.lookup (m := f) k2
            rw [et] at lk
            obtain ⟨w, lw, rw'⟩ := lk
            have KX : X0.K = p.K := ok.K
            refine (pe_xf (X := X0) (C := He.ga p.K (Str.ofString y)) (by rw [KX]; exact T) (by rw [KX]; exact hno) hz hf he (hb _)).run pins s0 σ H Q I ?_
            exact ⟨V.ref a, q2, rfl, hcls, dd, gs, w, rfl, z, lw, h G H w (.refl _ _) r rw'⟩
      · rw [if_neg hy] at h
        exact h.elim
    | _ => simp only [e] at h
end
end Ev

set_option maxHeartbeats 2000000
/-! Ev20: count, index; items given values; max, min of two; minus; dict displays. -/
namespace Ev
open PySem PySem.Spec PyProof.Rows L2

/-! ### l.count(x) of data of any depth -/
def rCountD (K : PySem.W.Frag) : V → List V → Hp → VK → Prop := fun x xs H Q => ∃ (a : Addr) (y : V) (d : PyData) (ds : List PyData), x = V.ref a ∧ xs = [y] ∧ Dp K H (V.ref a) (.list ds) ∧ Dp K H y d ∧
  SeqAt.shaped (.list ds) = true ∧ SeqAt.shaped d = true ∧ Q (.int ((ds.countP fun z => PyData.eqv z d : Nat) : Int)) H
theorem mt_countD {X : Cx} (hu : X.A.units + 65 < cLine) : MtR X "list.count" (rCountD X.K) := by
  intro pins s σ H x xs v us Q I rx rxs h
  obtain ⟨a, y, d, ds, rfl, rfl, hl, hy, sl, sd, q⟩ := h
  cases rx
  cases rxs with
  | cons ry rt =>
    rename_i uy ut
    cases rt
    obtain ⟨bs, r1⟩ := Dp.reads I d y uy hy ry
    have hxs : PyData.canLayAll0 ds = true := SeqAt.canLay_of_shaped sl
    have hroom : X.A.units + 1 + min (PyData.depthAll ds) d.depth < cLine := room_in_shaped sd hu
    cases hl with
    | lst hs ha =>
      obtain ⟨its, rv, ⟨⟨cls, dd, data, sls⟩, n, ho, hc, hdn, hdt⟩, hlen⟩ := I.list hs
      simp only at hc hdt
      subst hc hdt
      obtain ⟨as, h4⟩ := Dp.readsAll I ds _ its ha rv
      have hmap : its.map (SeqAt.readOf s.heap) = ds := SeqAt.readsAll_map ds its as hxs h4
      refine call_meets PySem.F.slot_list_count ⟨_, ho, rfl⟩ PySem.F.entry_list_count (PySem.F.args_list_count_2 _ _)
        (SeqAt.list_countAt a its.toArray n dd sls uy (fun u => PyData.eqv (SeqAt.readOf s.heap u) d)) ⟨ho, SeqAt.items_eqAt (vs := its.toArray) (show ReadsAll s.heap its.toArray.toList ds as from h4) r1 hxs (SeqAt.canLay_of_shaped sd) hroom, ?_⟩
      have ec : its.toArray.toList.countP (fun u => PyData.eqv (SeqAt.readOf s.heap u) d) = ds.countP fun z => PyData.eqv z d := by
        rw [← hmap, List.countP_map]
        rfl
      refine ⟨.int ((ds.countP fun z => PyData.eqv z d : Nat) : Int), H, I.tok _, ⟨s.toks, ?_⟩, q⟩
      rw [ec]
/-! ### count, index by data: nothing is changed -/
/-- a method that only looks: f of the list and the argument -/
def lookL (f : List D → D → Option D) (x y : D) : PM D := fun s => match vw s.M x, whole s.M y with
  | .lst xs, some y' => match ress (rfM s.M 4) xs with
    | some xs' => if depDs xs' < 64 ∧ depD y' ≤ 64 then match f xs' y' with
        | some d => .ok d s
        | none => .bad
      else .bad
    | none => .bad
  | _, _ => .bad
def eLookL (f : List D → D → Option D) (mo m : PM D) : PM D := mo >>= fun x => chkV x >>= fun _ => m >>= fun y => lookL f x y
/-- .. the receiver a name -/
def eLookN (f : List D → D → Option D) (i : Nat) (m : PM D) : PM D := chkL i >>= fun _ => m >>= fun y => ePeek i >>= fun x => lookL f x y
def countF (xs : List D) (y : D) : Option D := some (.int ((xs.countP fun z => eqvD z y : Nat) : Int))
def indexF (xs : List D) (y : D) : Option D := (xs.findIdx? fun z => eqvD z y).map fun (j : Nat) => .int (j : Int)
theorem count_eqv (a : D) {q : PyData} (ha : py a = some q) : ∀ (bs : List D) {qs : List PyData}, pys bs = some qs → (qs.countP fun z => PyData.eqv z q) = bs.countP fun b => eqvD b a
  | [], _, h => by cases h; rfl
  | b :: bs, _, h => by
    simp only [pys] at h
    cases e : py b with
    | none => rw [e] at h; cases h
    | some p =>
      rw [e] at h
      simp only [Option.map_eq_some_iff] at h
      obtain ⟨z, hz, rfl⟩ := h
      rw [List.countP_cons, List.countP_cons, count_eqv a ha bs hz, py_eqv b a e ha]
theorem pys_get : ∀ {bs : List D} {qs : List PyData} {j : Nat}, pys bs = some qs → (∀ b, bs[j]? = some b → ∃ q, qs[j]? = some q ∧ py b = some q) ∧ (bs[j]? = none → qs[j]? = none)
  | [], _, j, h => by cases h; simp
  | b :: bs, _, j, h => by
    simp only [pys] at h
    cases e : py b with
    | none => rw [e] at h; cases h
    | some p =>
      rw [e] at h
      simp only [Option.map_eq_some_iff] at h
      obtain ⟨z, hz, rfl⟩ := h
      cases j with
      | zero => simp [e]
      | succ j => simpa using pys_get (j := j) hz
structure LookOk (f : List D → D → Option D) (r : Cn → V → List V → Hp → VK → Prop) : Prop where
  go : ∀ (c : Cn) (H : Hp) (a : Addr) (y : V) (xs' : List D) (y' d : D) (qs : List PyData) (q : PyData) (Q : VK), pys xs' = some qs → py y' = some q → Dp c.K H (V.ref a) (.list qs) → Dp c.K H y q → SeqAt.shaped (.list qs) = true → SeqAt.shaped q = true → f xs' y' = some d → (∀ w, (∀ G, RD c G H d w) → Q w H) → r c (V.ref a) [y] H Q
theorem look_count : LookOk countF (fun c => rCountD c.K) := ⟨fun c H a y xs' y' d qs q Q h1 h2 h3 h4 h5 h6 e g => by
  cases e
  exact ⟨a, y, q, qs, rfl, rfl, h3, h4, h5, h6, g _ fun G => by unfold RD; rw [count_eqv y' h2 xs' h1]⟩⟩
theorem look_index : LookOk indexF (fun c => rIndexD c.K) := ⟨fun c H a y xs' y' d qs q Q h1 h2 h3 h4 h5 h6 e g => by
  unfold indexF at e
  rw [Option.map_eq_some_iff] at e
  obtain ⟨j, e, rfl⟩ := e
  rw [List.findIdx?_eq_some_iff_getElem] at e
  obtain ⟨hj, e1, e2⟩ := e
  obtain ⟨z, hz, pz⟩ := (pys_get (j := j) h1).1 _ (List.getElem?_eq_getElem hj)
  refine ⟨a, y, q, qs, j, z, rfl, rfl, h3, h4, h5, h6, hz, by rw [py_eqv _ _ pz h2]; exact e1, fun m z' hm hz' => ?_, g _ fun G => by unfold RD; rfl⟩
  obtain ⟨z2, hz2, pz2⟩ := (pys_get (j := m) h1).1 _ (List.getElem?_eq_getElem (Nat.lt_trans hm hj))
  rw [hz'] at hz2
  cases hz2
  rw [py_eqv _ _ pz2 h2]
  simpa using e2 m hm⟩
theorem lookL_run {c : Cn} {W : WX} {G : GW} {s : S} {σ : L2.St} {H : Hp} {Q : VK} {f : List D → D → Option D} {r : Cn → V → List V → Hp → VK → Prop} (L : LookOk f r) {x y : D} {v w : V} (rs : Rs c G s σ H) (hx : RDw c G H (vw s.M x) v) (hy : RD c G H y w) (h : Run RD c W (lookL f x y) G s σ H Q) : r c v [w] H Q := by
  unfold Run lookL at h
  cases ex : vw s.M x with
  | lst xs =>
    rw [ex] at hx
    cases ey : whole s.M y with
    | none => simp only [ex, ey] at h
    | some y' =>
      simp only [ex, ey] at h
      cases er : ress (rfM s.M 4) xs with
      | none => rw [er] at h; exact h.elim
      | some xs' =>
        rw [er] at h
        dsimp only at h
        by_cases hd : depDs xs' < 64 ∧ depD y' ≤ 64
        · rw [if_pos hd] at h
          cases ef : f xs' y' with
          | none => rw [ef] at h; exact h.elim
          | some d =>
            rw [ef] at h
            obtain ⟨a, vs, rfl, k1, k2⟩ := hx
            obtain ⟨qs, q3, q4⟩ := dps_of (rs.rf 4) xs xs' er k2
            obtain ⟨q, p1, p2⟩ := rs.dp ey hy.w
            have pl : py (.lst xs') = some (.list qs) := by simp only [py, q3, Option.map_some]
            exact L.go c H a w xs' y' d qs q Q q3 p1 (.lst (SqL.of k1) q4) p2 (shaped_of pl (by show depDs xs' + 1 ≤ 64; omega)) (shaped_of p1 hd.2) ef fun w hw => h G H w (.refl _ _) rs (hw G)
        · rw [if_neg hd] at h
          exact h.elim
  | _ => simp only [ex] at h
section
variable {p : Pg} {Γ : NE} {o e : Expr} {mo m : PM D} {name : Str} {id : String} {f : List D → D → Option D} {r : Cn → V → List V → Hp → VK → Prop} {apos cpos : Pos}
structure LMethD (p : Pg) (Γ : NE) (name : Str) (id : String) (r : Cn → V → List V → Hp → VK → Prop) : Prop where
  slot : Slot "list" name id
  ty : typeOf (.builtin id) = pure (.type "method_descriptor")
  mt : ∀ X : Cx, XOk p Γ X → ∀ c, Cn.of p c → MtR X id (r c)
theorem se_lookV (L : LMethD p Γ name id r) (F : LookOk f r) (ho : SE p Γ o mo) (ha : SE p Γ e m) (b : BM o name apos e [] cpos) : SE p Γ (.Call (.Attribute o name apos) [e] [] cpos) (eLookL f mo m) := by
  intro X ok W tk c hc
  refine (pe_bm PySem.F.plainAttrs_list L.slot L.ty (L.mt X ok c hc) (ho X ok W tk c hc) (pa_cons (ha X ok W tk c hc) pa_nil (b.st _)) (b.base _) (b.few _) b.line (b.st _) (b.pl _)).weak fun σ H Q h => ?_
  obtain ⟨G, s, r, h⟩ := h
  refine ⟨G, s, r, (Run.bind (R := RD) h).mono fun v H1 ⟨G1, s1, x, x1, r1, q1, h⟩ => ?_⟩
  obtain ⟨a, vs, rfl, h2, h⟩ := chkV_run r1 q1 h
  refine ⟨.inl ⟨rfl, vs, SqL.of h2⟩, G1, s1, r1, (Run.bind (R := RD) h).mono fun w H2 ⟨G2, s2, y, x2, r2, q2, h3⟩ => ?_⟩
  exact lookL_run F r2 (r2.view (q1.mono x2)) q2 h3
theorem se_lookN {i : Nat} {x : Str} {pos' : Pos} (L : LMethD p Γ name id r) (F : LookOk f r) (hN : Γ.N[i]? = some x) (hi : i ∈ Γ.see) (ha : SE p Γ e m) (b : BM (.Name x pos') name apos e [] cpos) : SE p Γ (.Call (.Attribute (.Name x pos') name apos) [e] [] cpos) (eLookN f i m) := by
  intro X ok W tk c hc
  obtain ⟨v1, v2, v3⟩ := ok.vis i hi x hN
  refine (pe_bm PySem.F.plainAttrs_list L.slot L.ty (L.mt X ok c hc) (pe_var (i := i) (by rw [ok.N]; exact hN) v1 v2 v3) (pa_cons (ha X ok W tk c hc) pa_nil (b.st _)) (b.base _) (b.few _) b.line (b.st _) (b.pl _)).weak fun σ H Q h => ?_
  obtain ⟨G, s, r, h⟩ := h
  obtain ⟨a, vs, h1, h2, h⟩ := chkL_run r h
  refine ⟨V.ref a, h1, .inl ⟨rfl, vs, SqL.of h2⟩, G, s, r, (Run.bind (R := RD) h).mono fun w H2 ⟨G2, s2, y, x2, r2, q2, h3⟩ => ?_⟩
  obtain ⟨x0, v0, hv0, q0, h4⟩ := ePeek_run r2 h3
  rw [h1] at hv0
  cases hv0
  exact lookL_run F r2 q0 q2 h4
theorem ld_count : LMethD p Γ "count" "list.count" (fun c => rCountD c.K) := ⟨PySem.F.slot_list_count, PySem.F.type_list_count, fun X ok c hc => by rw [hc.K, ← ok.K]; exact mt_countD ok.u64⟩
theorem ld_index : LMethD p Γ "index" "list.index" (fun c => rIndexD c.K) := ⟨PySem.F.slot_list_index, PySem.F.type_list_index, fun X ok c hc => by rw [hc.K, ← ok.K]; exact mt_indexD ok.u64⟩
end
/-! ### x[i] = v of a list -/
/-- the target x[i], given v -/
def setIx (i : D) (d : D) (xs : List D) : Option (List D × D) := match i with
  | .int k => match ixN xs.length k with
    | some j => some (xs.set j d, .non)
    | none => none
  | _ => none
def unitM (m : PM D) : PM Unit := m >>= fun _ => pure ()
/-- the statement x[i] = e, x a name; any other list -/
def sIxN (n : Nat) (mi me : PM D) : SM := me >>= fun d => chkL n >>= fun _ => mi >>= fun i => mutN n (setIx i d) >>= fun _ => pure none
def sIxV (mo mi me : PM D) : SM := me >>= fun d => mo >>= fun x => mi >>= fun i => mutV x (setIx i d) >>= fun _ => pure none
section
variable {c : Cn} {W : WX} {G : GW} {s : S} {σ : L2.St} {H : Hp} {E : Ends}
/-- a statement's end as an expression's -/
theorem runS_of {m : PM D} (h : RunS c W (m >>= fun _ => pure none) G s H E) : Run RD c W m G s σ H fun _ H' => E.nx σ H' := by
  refine (RunS.bind (R := RD) (σ := σ) h).mono fun v H1 ⟨G1, s1, d, x1, r1, q1, h1⟩ => ?_
  exact RunS.next rfl h1 (.refl _ _) r1
theorem muts_set {a : Addr} {i d : D} {iv y : V} (qi : RD c G H i iv) (qd : RD c G H d y) {Q : VK} (m : Muts c G σ H a (setIx i d) Q) : rSetL (V.ref a) iv y H fun H' => ∃ w, Q w H' := by
  obtain ⟨vs, xs, ys, d0, h1, h2, e, g⟩ := m
  unfold setIx at e
  cases i with
  | int k =>
    dsimp only at e
    cases ej : ixN xs.length k with
    | none => rw [ej] at e; cases e
    | some j =>
      rw [ej] at e
      cases e
      unfold RD at qi
      exact ⟨a, vs, k, j, rfl, qi, h1, by rw [h2.length]; exact ej, .non, g _ _ (RDs.set qd j h2) fun x => by unfold RD; rfl⟩
  | _ => cases e
theorem chkL_runS {i : Nat} {g : Unit → SM} (r : Rs c G s σ H) (h : RunS c W (chkL i >>= g) G s H E) : ∃ a vs, σ[i]? = some (some (V.ref a)) ∧ H a = some (.lst vs) ∧ RunS c W (g ()) G s H E := by
  unfold RunS at h
  rw [bind_eq] at h
  unfold chkL at h
  cases e : s.σ[i]? with
  | none => rw [e] at h; exact h.elim
  | some v =>
    rw [e] at h
    cases v with
    | ul xs =>
      obtain ⟨a, vs, h1, h2, _⟩ := r.at_ i _ e
      exact ⟨a, vs, h1, h2, h⟩
    | val d =>
      obtain ⟨y, q1, q2⟩ := r.at_ i _ e
      have q := r.view q2
      dsimp only at h
      cases ex : vw s.M d with
      | lst xs =>
        rw [ex] at q h
        obtain ⟨a, vs, rfl, k1, k2⟩ := q
        exact ⟨a, vs, q1, k1, h⟩
      | _ =>
        rw [ex] at h
        exact h.elim
    | _ => exact h.elim
end
section
variable {p : Pg} {Γ : NE} {o i e : Expr} {mo mi me : PM D} {pos pos' pos2 : Pos}
theorem ss_ixN {n : Nat} {x : Str} (hN : Γ.N[n]? = some x) (hn : n ∈ Γ.see) (hi : SE p Γ i mi) (he : SE p Γ e me)
    (ha : ∀ env v, assign (.Subscript (.Name x pos2) i pos') env v = (do
      let ov ← holding [v] (eval (.Name x pos2) env)
      let iv ← holding [v, ov] (eval i env)
      standAt pos'
      holding [v, ov, iv] (setItem ov iv v)
      release [v, ov, iv] []))
    (hs : ∀ env, swapsWithSole [.Subscript (.Name x pos2) i pos'] e pos.line env = pure false) (hw : ∀ env, swappedStores [.Subscript (.Name x pos2) i pos'] e env = pure none) (h1 : ∀ env, (assignEach [.Subscript (.Name x pos2) i pos'] env).map (·.2) = [assign (.Subscript (.Name x pos2) i pos') env]) :
    SS p Γ (.Assign [.Subscript (.Name x pos2) i pos'] e pos) (sIxN n mi me) := by
  intro X ok W tk c hc
  obtain ⟨v1, v2, v3⟩ := ok.vis n hn x hN
  refine (ps_asg (he X ok W tk c hc) (pg_sub (pe_var (i := n) (by rw [ok.N]; exact hN) v1 v2 v3) (hi X ok W tk c hc) set_list (ha _)) (hs _) (hw _) (h1 _)).weak fun E σ H h => ?_
  obtain ⟨G, s, r, h⟩ := h
  refine ⟨G, s, r, (RunS.bind (R := RD) h).mono fun y H1 ⟨G1, s1, d, x1, r1, q1, h1⟩ => ?_⟩
  obtain ⟨a, vs, hv, hl, h1⟩ := chkL_runS r1 h1
  refine ⟨V.ref a, hv, G1, s1, r1, (RunS.bind (R := RD) h1).mono fun iv H2 ⟨G2, s2, id, x2, r2, q2, h2⟩ => ?_⟩
  obtain ⟨a', e1, m⟩ := mutN_run r2 (runS_of (σ := σ) h2)
  rw [hv] at e1
  cases e1
  obtain ⟨p', xs, k, j, z1, z2, z3, z4, _, z5⟩ := muts_set q2 (q1.mono x2) m
  exact ⟨p', xs, k, j, z1, z2, z3, z4, z5⟩
theorem ss_ixV (ho : SE p Γ o mo) (hi : SE p Γ i mi) (he : SE p Γ e me)
    (ha : ∀ env v, assign (.Subscript o i pos') env v = (do
      let ov ← holding [v] (eval o env)
      let iv ← holding [v, ov] (eval i env)
      standAt pos'
      holding [v, ov, iv] (setItem ov iv v)
      release [v, ov, iv] []))
    (hs : ∀ env, swapsWithSole [.Subscript o i pos'] e pos.line env = pure false) (hw : ∀ env, swappedStores [.Subscript o i pos'] e env = pure none) (h1 : ∀ env, (assignEach [.Subscript o i pos'] env).map (·.2) = [assign (.Subscript o i pos') env]) :
    SS p Γ (.Assign [.Subscript o i pos'] e pos) (sIxV mo mi me) := by
  intro X ok W tk c hc
  refine (ps_asg (he X ok W tk c hc) (pg_sub (ho X ok W tk c hc) (hi X ok W tk c hc) set_list (ha _)) (hs _) (hw _) (h1 _)).weak fun E σ H h => ?_
  obtain ⟨G, s, r, h⟩ := h
  refine ⟨G, s, r, (RunS.bind (R := RD) h).mono fun y H1 ⟨G1, s1, d, x1, r1, q1, h1⟩ => ?_⟩
  refine ⟨G1, s1, r1, (RunS.bind (R := RD) h1).mono fun ov H2 ⟨G2, s2, od, x2, r2, q2, h2⟩ => ?_⟩
  refine ⟨G2, s2, r2, (RunS.bind (R := RD) h2).mono fun iv H3 ⟨G3, s3, id, x3, r3, q3, h3⟩ => ?_⟩
  obtain ⟨a', rfl, m⟩ := mutV_run r3 (q2.mono x3) (runS_of (σ := σ) h3)
  obtain ⟨p', xs, k, j, z1, z2, z3, z4, _, z5⟩ := muts_set q3 ((q1.mono x2).mono x3) m
  exact ⟨p', xs, k, j, z1, z2, z3, z4, z5⟩
end
/-! ### max(a, b), min(a, b); -a -/
def ap2L (f : Int → Int → Int) (ds : List D) : PM D := match ds with
  | [.int a, .int b] => pure (.int (f a b))
  | _ => stuck
def eMM (f : Int → Int → Int) (ms : PM (List D)) : PM D := ms >>= ap2L f
def fMax (i j : Int) : Int := if j > i then j else i
def fMin (i j : Int) : Int := if j < i then j else i
def eNeg (m : PM D) : PM D := m >>= fun d => match d with
  | .int i => pure (.int (-i))
  | _ => stuck
section
variable {p : Pg} {Γ : NE} {a b : Expr} {ms : PM (List D)} {m : PM D} {p' pos : Pos}
theorem mm_run {c : Cn} {W : WX} {G : GW} {s : S} {σ : L2.St} {H : Hp} {Q : VK} {f : Int → Int → Int} {ds : List D} {vs : List V} (r : Rs c G s σ H) (q : RDs c G H ds vs) (h : Run RD c W (ap2L f ds) G s σ H Q) : ∃ i j, vs = [.int i, .int j] ∧ Q (.int (f i j)) H := by
  unfold ap2L at h
  split at h
  · rename_i i j
    obtain ⟨v, w, rfl, hv, hw⟩ := q.two
    unfold RD at hv hw
    subst hv hw
    exact ⟨i, j, rfl, Run.same (R := RD) (m := pure (.int (f i j))) (a := D.int (f i j)) rfl h r (by unfold RD; rfl)⟩
  · exact stuck_run h
theorem se_max2 (hcm : Γ.calm = true) (hx : ("max" : Str) ∈ Γ.glo) (hm : p.mg "max" = none) (ha : SA p Γ [a, b] ms) (he : ∀ env, starEach [a, b] env = (false, eval a env) :: starEach [b] env) (hpl : ∀ env, (backTo pos (starEach [b] env)).any (·.1) = false) : SE p Γ (.Call (.Name "max" p') [a, b] [] pos) (eMM fMax ms) := by
  intro X ok W tk c hc
  obtain ⟨g1, g2, g3⟩ := ok.glo _ hx
  refine (pe_callB (call_max2 (ok.calm hcm).1) g1 (by rw [ok.mg]; exact hm) (by decide +kernel) (ha X ok W tk c hc) g3 g2 (he _) (hpl _)).weak fun σ H Q h => ?_
  obtain ⟨G, s, r, h⟩ := h
  refine ⟨G, s, r, (Run.bind (R := RDs) h).mono fun vs H1 ⟨G1, s1, ds, x1, r1, q1, h1⟩ => mm_run r1 q1 h1⟩
theorem se_min2 (hcm : Γ.calm = true) (hx : ("min" : Str) ∈ Γ.glo) (hm : p.mg "min" = none) (ha : SA p Γ [a, b] ms) (he : ∀ env, starEach [a, b] env = (false, eval a env) :: starEach [b] env) (hpl : ∀ env, (backTo pos (starEach [b] env)).any (·.1) = false) : SE p Γ (.Call (.Name "min" p') [a, b] [] pos) (eMM fMin ms) := by
  intro X ok W tk c hc
  obtain ⟨g1, g2, g3⟩ := ok.glo _ hx
  refine (pe_callB (call_min2 (ok.calm hcm).1) g1 (by rw [ok.mg]; exact hm) (by decide +kernel) (ha X ok W tk c hc) g3 g2 (he _) (hpl _)).weak fun σ H Q h => ?_
  obtain ⟨G, s, r, h⟩ := h
  refine ⟨G, s, r, (Run.bind (R := RDs) h).mono fun vs H1 ⟨G1, s1, ds, x1, r1, q1, h1⟩ => mm_run r1 q1 h1⟩
theorem se_neg (ha : SE p Γ a m) : SE p Γ (.UnaryOp .USub a pos) (eNeg m) := by
  intro X ok W tk c hc
  refine (pe_un un_neg (ha X ok W tk c hc)).weak fun σ H Q h => ?_
  obtain ⟨G, s, r, h⟩ := h
  refine ⟨G, s, r, (Run.bind (R := RD) h).mono fun v H1 ⟨G1, s1, d, x1, r1, q1, h1⟩ => ?_⟩
  cases d with
  | int i =>
    unfold RD at q1
    exact ⟨i, q1, Run.same (R := RD) (m := pure (.int (-i))) (a := D.int (-i)) rfl h1 r1 (by unfold RD; rfl)⟩
  | _ => exact stuck_run h1
end
end Ev

set_option maxHeartbeats 2000000
/-! Ev21: dict displays. -/
namespace Ev
open PySem PySem.Spec PyProof.Rows L2

/-- a new dict -/
def RunD (c : Cn) (W : WX) (m : PM (List (KY × D))) (G : GW) (s : S) (σ : L2.St) (H : Hp) (Q : VK) : Prop := match m s with
  | .ok kvs s' => ∀ (G' : GW) (H' : Hp) (p : Addr) (ws : List (Key × V)), Ext G H G' H' → Rs c G' s' σ H' → H' p = some (.dK ws) → RDk c G' H' kvs ws → Unk c G' s' σ p → Q (.ref p) H'
  | .exc x fs s' => ∀ (G' : GW) (H' : Hp) (cls : Value) (dd : Option Addr), Ext G H G' H' → Rs c G' s' σ H' → RX c G' H' x fs cls dd → W cls dd σ H'
  | .bad => False
def tD (c : Cn) (W : WX) (m : PM (List (KY × D))) : TE := fun σ H Q => ∃ G s, Rs c G s σ H ∧ RunD c W m G s σ H Q
/-- e makes a new dict -/
def SD (p : Pg) (Γ : NE) (e : Expr) (m : PM (List (KY × D))) : Prop := ∀ X, XOk p Γ X → ∀ W, Takes X W → ∀ c, Cn.of p c → PE X e (tD c W m)
def strKeys : List (KY × D) → Option (List String × List D)
  | [] => some ([], [])
  | (.inr k, d) :: r => (strKeys r).map fun q => (k :: q.1, d :: q.2)
  | _ => none
/-- the new dict is never changed -/
def eFzD (m : PM (List (KY × D))) : PM D := m >>= fun kvs => match strKeys kvs with
  | some (ks, ds) => pure (.dic ks ds)
  | none => stuck
def eHpD (m : PM (List (KY × D))) : PM D := m >>= fun kvs => newRef (.dic kvs)
def sSetUD (i : Nat) (m : PM (List (KY × D))) : SM := m >>= fun kvs => setSlot i (.ud kvs) >>= fun _ => pure none
theorem strKeys_rel {c : Cn} {G : GW} {H : Hp} : ∀ {kvs : List (KY × D)} {ks : List String} {ds : List D} {ws : List (Key × V)}, strKeys kvs = some (ks, ds) → RDk c G H kvs ws → ∃ vs, ws = (ks.map fun s => (Sum.inr (Str.ofString s) : Key)).zip vs ∧ ks.length = ds.length ∧ RDs c G H ds vs
  | [], ks, ds, ws, e, h => by
    cases e
    cases h
    exact ⟨[], rfl, rfl, RDs.nil⟩
  | (k, d) :: r, ks, ds, ws, e, h => by
    cases h with
    | cons h t =>
      rename_i q ws
      obtain ⟨q1, q2⟩ := q
      obtain ⟨h1, h2⟩ := h
      dsimp only at h1 h2
      cases k with
      | inl i => cases e
      | inr k =>
        simp only [strKeys, Option.map_eq_some_iff] at e
        obtain ⟨⟨ks', ds'⟩, e, e2⟩ := e
        cases e2
        obtain ⟨vs, z1, z2, z3⟩ := strKeys_rel e t
        subst h1
        refine ⟨q2 :: vs, ?_, by simp [z2], RDs.cons h2 z3⟩
        rw [z1]
        rfl
section
variable {p : Pg} {Γ : NE} {e : Expr} {m : PM (List (KY × D))}
theorem se_fzD (h : SD p Γ e m) : SE p Γ e (eFzD m) := by
  intro X ok W tk c hc
  refine (h X ok W tk c hc).weak fun σ H Q h => ?_
  obtain ⟨G, s, r, h⟩ := h
  refine ⟨G, s, r, ?_⟩
  unfold Run eFzD at h
  rw [bind_eq] at h
  unfold RunD
  cases e : m s with
  | ok kvs s' =>
    rw [e] at h
    intro G1 H1 q ws x r1 hp hq u
    have h' : Run RD c W (match strKeys kvs with
      | some (ks, ds) => pure (.dic ks ds)
      | none => stuck) G s' σ H Q := h
    cases ek : strKeys kvs with
    | none => rw [ek] at h'; exact stuck_run h'
    | some z =>
      obtain ⟨ks, ds⟩ := z
      rw [ek] at h'
      obtain ⟨vs, z1, z2, z3⟩ := strKeys_rel ek hq
      have x2 := Ext.fz G1 H1 q
      have r2 := r1.mark hp u.hp (by intro _ h; cases h) u.H0 u.own
      refine h' _ _ _ (x.trans x2) r2 ?_
      unfold RD
      exact ⟨q, vs, rfl, .inr rfl, by rw [hp, z1], z2, RDs.mono x2 _ z3⟩
  | exc n fs s' =>
    rw [e] at h
    exact h
  | bad =>
    rw [e] at h
    exact h
theorem se_hpD (h : SD p Γ e m) : SE p Γ e (eHpD m) := by
  intro X ok W tk c hc
  refine (h X ok W tk c hc).weak fun σ H Q h => ?_
  obtain ⟨G, s, r, h⟩ := h
  refine ⟨G, s, r, ?_⟩
  unfold Run eHpD at h
  rw [bind_eq] at h
  unfold RunD
  cases e : m s with
  | ok kvs s' =>
    rw [e] at h
    intro G1 H1 q ws x r1 hp hq u
    have x2 : Ext G1 H1 (G1.add q) H1 := Ext.add _ _ _
    obtain ⟨_, r2⟩ := r1.adopt (mo := .dic kvs) u ⟨ws, hp, hq.mono x2⟩
    refine h _ _ _ (x.trans x2) r2 ?_
    unfold RD
    exact ⟨q, rfl, by rw [← r1.hlen]; simp [GW.add]⟩
  | exc n fs s' =>
    rw [e] at h
    exact h
  | bad =>
    rw [e] at h
    exact h
theorem ss_setUD {i : Nat} {x : Str} {pos pos' : Pos} (hN : Γ.N[i]? = some x) (hi : i ∈ Γ.st) (he : SD p Γ e m) (hs : ∀ env, swapsWith e (some (.Name x pos')) pos.line env = pure false) :
    SS p Γ (.Assign [.Name x pos'] e pos) (sSetUD i m) := by
  intro X ok W tk c hc
  obtain ⟨l1, l2⟩ := ok.sto i hi x hN
  refine (ps_set (i := i) (by rw [ok.N]; exact ok.nd) (by rw [ok.N]; exact hN) l1 (he X ok W tk c hc) (hs X.env) l2).weak fun E σ H h => ?_
  obtain ⟨G, s, r, h⟩ := h
  refine ⟨G, s, r, ?_⟩
  unfold RunS sSetUD at h
  rw [bind_eq] at h
  unfold RunD
  cases e : m s with
  | ok kvs s' =>
    rw [e] at h
    intro G1 H1 q ws x r1 hp hq u
    have h' : RunS c W (setSlot i (.ud kvs) >>= fun _ => pure none) G s' H E := h
    obtain ⟨s2, r2, h2⟩ := setSlot_run r1 (v := .ud kvs) (y := V.ref q) ⟨q, ws, rfl, hp, hq, u.F, u.hp, u.H0⟩ (fun _ b hb => by cases hb; exact u) (h'.ext x)
    exact h2.next rfl (.refl _ _) r2
  | exc n fs s' =>
    rw [e] at h
    exact fun G1 H1 cl dd x r q => h G1 σ H1 cl dd x r q
  | bad =>
    rw [e] at h
    exact h
end
/-! ### {} -/
def dNew : PM (List (KY × D)) := pure []
section
variable {p : Pg} {Γ : NE} {pos : Pos}
theorem sd_new : SD p Γ (.Dict [] [] pos) dNew := by
  intro X ok W tk c hc
  refine pe_dnewK.weak fun σ H Q h => ?_
  obtain ⟨G, s, r, h⟩ := h
  intro q hq
  have hs := upd_grow (o := .dK []) hq
  exact h G _ q [] (r.ext_of hs) (r.grow hs) upd_same .nil (r.fresh_unk hq)
end
/-! ### {k: v, ..} -/
def dPair (k : KY) (m : PM D) (r : PM (List (KY × D))) : PM (List (KY × D)) := m >>= fun d => r >>= fun kvs => pure ((k, d) :: kvs)
def dChk (kvs : List (KY × D)) : PM (List (KY × D)) := fun s => if (kvs.map (·.1)).Nodup ∧ kvs.length ≤ 15 then .ok kvs s else .bad
def dDisp (m : PM (List (KY × D))) : PM (List (KY × D)) := m >>= dChk
/-- the display's pairs: k its keys -/
structure DP (p : Pg) (Γ : NE) (pos : Pos) (keys : List (Option Expr)) (values : List Expr) (m : PM (List (KY × D))) : Prop where
  run : ∀ X, XOk p Γ X → ∀ W, Takes X W → ∃ trs : List (TE × TE), PPs X pos keys values trs ∧ ∀ (c : Cn) (L : Addr) (o : HO) (σ : L2.St) (H : Hp) (G : GW) (s : S) (Q : List (V × V) → Hp → Prop), Cn.of p c → PinOk c L → Rs (c.pin L o) G s σ H →
    (match m s with
      | .ok kvs s' => ∀ (G' : GW) (H' : Hp) (ws : List (Key × V)), Ext G H G' H' → Rs (c.pin L o) G' s' σ H' → RDk c G' H' kvs ws → Q (ws.map fun kv => (kV kv.1, kv.2)) H'
      | .exc x fs s' => ∀ (G' : GW) (H' : Hp) (cls : Value) (dd : Option Addr), Ext G H G' H' → Rs c G' s' σ H' → RX c G' H' x fs cls dd → W cls dd σ H'
      | .bad => False) → tPairs trs σ H Q
section
variable {p : Pg} {Γ : NE} {pos : Pos}
theorem dp_nil : DP p Γ pos [] [] (pure []) := ⟨fun X ok W tk => ⟨[], pps_nil, fun c L o σ H G s Q hc pk r h => h G H [] (.refl _ _) r .nil⟩⟩
theorem dp_cons {ke e : Expr} {k : KY} {m : PM D} {keys : List (Option Expr)} {values : List Expr} {r : PM (List (KY × D))} (hk : ∀ X : Cx, PE X ke (tC (kV (toKey k)))) (he : SE p Γ e m) (hr : DP p Γ pos keys values r) : DP p Γ pos (some ke :: keys) (e :: values) (dPair k m r) := by
  refine ⟨fun X ok W tk => ?_⟩
  obtain ⟨trs, h1, h2⟩ := hr.run X ok W tk
  refine ⟨_, pps_cons (tv := fun σ H Q => ∃ c, Cn.of p c ∧ tE c W m σ H Q) (hk X) ⟨fun pins s σ H Q I ⟨c, hc, q⟩ => (he X ok W tk c hc).run pins s σ H Q I q⟩ h1, fun c L o σ H G s Q hc pk rs h => ?_⟩
  refine ⟨c.pin L o, ⟨hc.K, hc.w, hc.ex, hc.lam, hc.T⟩, G, s, rs, ?_⟩
  simp only [dPair, bind_eq] at h
  unfold Run
  cases e1 : m s with
  | ok d s1 =>
    rw [e1] at h
    intro G1 H1 y x1 r1 q1
    refine h2 c L o σ H1 G1 s1 _ hc pk r1 ?_
    have h : match (r s1).bind fun kvs => (pure ((k, d) :: kvs) : PM (List (KY × D))) with
      | .ok kvs s' => ∀ (G' : GW) (H' : Hp) (ws : List (Key × V)), Ext G H G' H' → Rs (c.pin L o) G' s' σ H' → RDk c G' H' kvs ws → Q (ws.map fun kv => (kV kv.1, kv.2)) H'
      | .exc x fs s' => ∀ (G' : GW) (H' : Hp) (cls : Value) (dd : Option Addr), Ext G H G' H' → Rs c G' s' σ H' → RX c G' H' x fs cls dd → W cls dd σ H'
      | .bad => False := h
    cases e2 : r s1 with
    | ok kvs s2 =>
      rw [e2] at h
      intro G2 H2 ws x2 r2 q2
      exact h G2 H2 ((toKey k, y) :: ws) (x1.trans x2) r2 (.cons ⟨rfl, (q1.re (c := c.pin L o) (c' := c) rfl rfl).mono x2⟩ q2)
    | exc z fs s2 =>
      rw [e2] at h
      exact fun G2 H2 cls dd x2 r2 q2 => h G2 H2 cls dd (x1.trans x2) r2 q2
    | bad => rw [e2] at h; exact h.elim
  | exc z fs s1 =>
    rw [e1] at h
    intro G1 H1 cls dd x1 r1 q1
    obtain ⟨r2, _, _⟩ := r1.unpin pk
    exact h G1 H1 cls dd x1 r2 (q1.re (c := c.pin L o) (c' := c) rfl rfl)
  | bad => rw [e1] at h; exact h.elim
theorem mergeK_nodup : ∀ {more acc : List (Key × V)}, ((acc ++ more).map (·.1)).Nodup → mergeK acc more = acc ++ more
  | [], acc, _ => by simp [mergeK]
  | q :: more, acc, h => by
    have hn : ¬ (acc.any fun kv => decide (kv.1 = q.1)) = true := fun z => by
      rw [List.any_eq_true] at z
      obtain ⟨kv, h1, h2⟩ := z
      rw [List.map_append, List.map_cons] at h
      have := (List.nodup_append.mp h).2.2 kv.1 (List.mem_map.mpr ⟨kv, h1, rfl⟩) q.1 (by simp)
      exact this (by simpa using h2)
    have e : mergeK acc (q :: more) = mergeK (putK acc q.1 q.2) more := rfl
    rw [e]
    have e2 : putK acc q.1 q.2 = acc ++ [q] := by
      unfold putK
      rw [if_neg hn]
    rw [e2, mergeK_nodup (by rw [List.append_assoc]; exact h), List.append_assoc]
    rfl
theorem RDk.keys {c : Cn} {G : GW} {H : Hp} : ∀ {kvs : List (KY × D)} {ws : List (Key × V)}, RDk c G H kvs ws → ws.map (·.1) = kvs.map fun q => toKey q.1
  | [], _, .nil => rfl
  | q :: kvs, w :: ws, .cons h t => by
    rw [List.map_cons, List.map_cons, RDk.keys t, h.1]
theorem RDk.length {c : Cn} {G : GW} {H : Hp} {kvs : List (KY × D)} {ws : List (Key × V)} (h : RDk c G H kvs ws) : ws.length = kvs.length := (Paired.length h).symm
theorem sd_disp {keys : List (Option Expr)} {values : List Expr} {m : PM (List (KY × D))} (h : DP p Γ pos keys values m) (hall : keys.all (·.isSome) = true) (hl : keys.length = values.length) (h0 : keys ≠ []) (h15 : keys.length ≤ 15) : SD p Γ (.Dict keys values pos) (dDisp m) := by
  intro X ok W tk c hc
  obtain ⟨trs, h1, h2⟩ := h.run X ok W tk
  refine (pe_disp h1 hall hl h0 h15).weak fun σ H Q hh => ?_
  obtain ⟨G, s, r, hh⟩ := hh
  intro L hL
  have pk := PinOk.of r hL
  have g1 := upd_grow (o := .dK []) hL
  have r2 := (r.grow g1).pinned (r.fresh_unk hL) (upd_same (o := .dK []))
  refine h2 c L (.dK []) σ _ G s _ hc pk r2 ?_
  unfold RunD dDisp at hh
  rw [bind_eq] at hh
  have x0 := r.ext_of g1
  cases e1 : m s with
  | ok kvs s1 =>
    rw [e1] at hh
    intro G1 H1 ws x1 r3 q3
    have hh : match (if (kvs.map (·.1)).Nodup ∧ kvs.length ≤ 15 then Out.ok kvs s1 else .bad : Out (List (KY × D))) with
      | .ok kvs s' => ∀ (G' : GW) (H' : Hp) (p : Addr) (ws : List (Key × V)), Ext G H G' H' → Rs c G' s' σ H' → H' p = some (.dK ws) → RDk c G' H' kvs ws → Unk c G' s' σ p → Q (.ref p) H'
      | .exc x fs s' => ∀ (G' : GW) (H' : Hp) (cls : Value) (dd : Option Addr), Ext G H G' H' → Rs c G' s' σ H' → RX c G' H' x fs cls dd → W cls dd σ H'
      | .bad => False := hh
    by_cases hz : (kvs.map (·.1)).Nodup ∧ kvs.length ≤ 15
    · rw [if_pos hz] at hh
      obtain ⟨r4, hL4, u4⟩ := r3.unpin pk
      refine ⟨hL4, ws, rfl, by rw [q3.length]; exact hz.2, ?_⟩
      have nd : (([] ++ ws).map fun q : Key × V => q.1).Nodup := by
        rw [List.nil_append, q3.keys]
        have : (kvs.map fun q => toKey q.1) = (kvs.map fun q : KY × D => q.1).map toKey := by rw [List.map_map]; rfl
        rw [this]
        exact List.Pairwise.map _ (fun a b (hab : a ≠ b) z => hab (toKey_inj z)) hz.1
      rw [mergeK_nodup nd, List.nil_append]
      obtain ⟨x5, r5⟩ := r4.updD (o := .dK ws) u4 (hL4 ▸ nc_dK)
      exact hh G1 _ L ws ((x0.trans x1).trans x5) r5 upd_same (q3.mono x5) u4
    · rw [if_neg hz] at hh
      exact hh.elim
  | exc z fs s1 =>
    rw [e1] at hh
    exact fun G1 H1 cls dd x1 r3 q3 => hh G1 H1 cls dd (x0.trans x1) r3 q3
  | bad => rw [e1] at hh; exact hh.elim
theorem kk_str {x : String} {j : Nat} {pos : Pos} (X : Cx) : PE X (.Constant (.str (Str.ofString x)) j pos) (tC (kV (toKey (.inr x)))) := pe_str
theorem kk_int {i : Int} {j : Nat} {pos : Pos} (X : Cx) : PE X (.Constant (.int i) j pos) (tC (kV (toKey (.inl i)))) := pe_int
end
end Ev

set_option maxHeartbeats 2000000
/-! Ev22: what the printed derivations use. -/
namespace Ev
open PySem PySem.Spec PyProof.Rows L2

theorem mg {α : Type} {l : List α} {x : α} (n : Nat) (h : l[n]? = some x := by rfl) : x ∈ l := List.mem_of_getElem? h
section
variable {p : Pg} {Γ : NE} {x : Str} {pos : Pos}
theorem se_cintE {i : Int} (hx : x ∈ Γ.glo) (h : ∃ t, p.mg x = some (.int i t)) : SE p Γ (.Name x pos) (pure (.int i)) := by
  obtain ⟨t, h⟩ := h
  exact se_cint hx h ⟨t, rfl⟩
theorem se_cstrE {z : String} (hx : x ∈ Γ.glo) (h : ∃ t, p.mg x = some (.str (Str.ofString z) t)) : SE p Γ (.Name x pos) (pure (.str z)) := by
  intro X ok W tk c hc
  obtain ⟨t, h⟩ := h
  obtain ⟨g1, g2, g3⟩ := ok.glo _ hx
  refine (pe_glob (v := .str (Str.ofString z)) g1 (by rw [ok.mg]; exact h) ⟨t, rfl⟩ g2).weak fun σ H Q h => ?_
  obtain ⟨G, s, r, h⟩ := h
  exact h.same (a := D.str z) (b := V.str (Str.ofString z)) rfl r (by unfold RD; rfl)
theorem se_ctabE {kvs : List (String × String)} (hx : x ∈ Γ.glo) (h : ∃ a, p.mg x = some (.ref a) ∧ KTab p.K p.w a kvs) : SE p Γ (.Name x pos) (pure (.tab kvs)) := by
  obtain ⟨a, h1, h2⟩ := h
  exact se_ctab hx h1 h2
end
section
variable {p : Pg} {Γ : NE}
theorem opr_eq : ∀ X : Cx, XOk p Γ X → ∀ c, Cn.of p c → OpR X (compareOp .Eq) (rEqD c.K) := fun X ok c hc => by
  rw [hc.K, ← ok.K]
  exact op_eqD (by have := ok.u64; omega)
theorem opr_ne : ∀ X : Cx, XOk p Γ X → ∀ c, Cn.of p c → OpR X (compareOp .NotEq) (rNeD c.K) := fun X ok c hc => by
  rw [hc.K, ← ok.K]
  exact op_neD (by have := ok.u64; omega)
theorem opr_gt : ∀ X : Cx, XOk p Γ X → ∀ c, Cn.of p c → OpR X (compareOp .Gt) (rI0 fun i j => .bl (decide (j < i))) := fun _ _ _ _ => op_gt
theorem opr_ge : ∀ X : Cx, XOk p Γ X → ∀ c, Cn.of p c → OpR X (compareOp .GtE) (rI0 fun i j => .bl (decide (j ≤ i))) := fun _ _ _ _ => op_ge
theorem opr_in : ∀ X : Cx, XOk p Γ X → ∀ c, Cn.of p c → OpR X (compareOp .In) (rInA c) := fun X ok c hc => op_inA (hc.K.trans ok.K.symm) (hc.w.trans ok.w.symm) ok.u64
theorem opr_notin : ∀ X : Cx, XOk p Γ X → ∀ c, Cn.of p c → OpR X (compareOp .NotIn) (rNotInA c) := fun X ok c hc => op_notInA (hc.K.trans ok.K.symm) (hc.w.trans ok.w.symm) ok.u64
variable {a : Expr} {m : PM D} {pos pos' : Pos} {j : Nat}
theorem st_isN (ha : SE p Γ a m) : ST p Γ (.Compare a [.Is] [.Constant .none j pos'] pos) (asB (eIsN m)) := by
  intro X ok W tk c hc
  refine (pt_cmp (pc_isN (ha X ok W tk c hc)) (by rfl)).weak fun σ H Q h => ?_
  obtain ⟨G, s, r, h⟩ := h
  have h' : Run REq c W (m >>= fun d => pure (isNon d)) G s σ H Q := by
    unfold Run asB eIsN at h
    unfold Run
    rw [bind_eq, bind_eq] at h
    rw [bind_eq]
    cases e : m s with
    | ok d s' => rw [e] at h; exact h
    | exc x fs s' => rw [e] at h; exact h
    | bad => rw [e] at h; exact h
  refine ⟨G, s, r, (Run.bind (R := RD) h').mono fun v H1 ⟨G1, s1, d, x1, r1, q1, h1⟩ => ?_⟩
  exact ⟨_, rfl, by rw [q1.non_iff]; exact Run.same (R := REq) (m := pure (isNon d)) (a := isNon d) rfl h1 r1 rfl⟩
theorem st_notN (ha : SE p Γ a m) : ST p Γ (.Compare a [.IsNot] [.Constant .none j pos'] pos) (asB (eNotN m)) := by
  intro X ok W tk c hc
  refine (pt_cmp (pc_notN (ha X ok W tk c hc)) (by rfl)).weak fun σ H Q h => ?_
  obtain ⟨G, s, r, h⟩ := h
  have h' : Run REq c W (m >>= fun d => pure (!isNon d)) G s σ H Q := by
    unfold Run asB eNotN at h
    unfold Run
    rw [bind_eq, bind_eq] at h
    rw [bind_eq]
    cases e : m s with
    | ok d s' => rw [e] at h; exact h
    | exc x fs s' => rw [e] at h; exact h
    | bad => rw [e] at h; exact h
  refine ⟨G, s, r, (Run.bind (R := RD) h').mono fun v H1 ⟨G1, s1, d, x1, r1, q1, h1⟩ => ?_⟩
  exact ⟨_, rfl, by rw [q1.non_iff]; exact Run.same (R := REq) (m := pure (!isNon d)) (a := !isNon d) rfl h1 r1 rfl⟩
theorem se_chainE {b cE : Expr} {op op' : CmpOp} {f f' : List MO → D → D → Option D} {r r' : Cn → R2} {ma mb mc : PM D} (t : ∀ X : Cx, XOk p Γ X → ∀ c, Cn.of p c → OpR X (compareOp op) (r c)) (t' : ∀ X : Cx, XOk p Γ X → ∀ c, Cn.of p c → OpR X (compareOp op') (r' c))
    (o : Op2 f r) (o' : Op2 f' r') (ha : SE p Γ a ma) (hb : SE p Γ b mb) (hcE : SE p Γ cE mc) (hm : lastMarks [op, op'] [b, cE] = false := by rfl) : SE p Γ (.Compare a [op, op'] [b, cE] pos) (eChain f f' ma mb mc) := se_chain t t' o o' ha hb hcE hm
theorem st_chainE {b cE : Expr} {op op' : CmpOp} {f f' : List MO → D → D → Option D} {r r' : Cn → R2} {ma mb mc : PM D} (t : ∀ X : Cx, XOk p Γ X → ∀ c, Cn.of p c → OpR X (compareOp op) (r c)) (t' : ∀ X : Cx, XOk p Γ X → ∀ c, Cn.of p c → OpR X (compareOp op') (r' c))
    (o : Op2 f r) (o' : Op2 f' r') (ha : SE p Γ a ma) (hb : SE p Γ b mb) (hcE : SE p Γ cE mc) (hm : lastMarks [op, op'] [b, cE] = false := by rfl) : ST p Γ (.Compare a [op, op'] [b, cE] pos) (asB (eChain f f' ma mb mc)) := by
  intro X ok W tk c hc
  refine (pt_chain (t X ok c hc) (t' X ok c hc) (ha X ok W tk c hc) (hb X ok W tk c hc) (hcE X ok W tk c hc) hm).weak fun σ H Q h => ?_
  obtain ⟨G, s, r0, h⟩ := h
  have h := Run.bind (R := RD) h
  refine ⟨G, s, r0, (Run.bind (R := RD) h).mono fun v H1 ⟨G1, s1, x, x1, r1, q1, h1⟩ => ?_⟩
  refine ⟨G1, s1, r1, (Run.bind (R := RD) h1).mono fun w H2 ⟨G2, s2, y, x2, r2, q2, h2⟩ => ?_⟩
  obtain ⟨z, e, h3⟩ := ap2_bind h2
  refine o c G2 s2 σ H2 _ _ z v w _ r2 (r2.view (q1.mono x2)) (r2.view q2) e fun G3 H3 zv x3 r3 q3 => ?_
  cases z with
  | bl k =>
    refine ⟨k, q3.bl_inv, ?_⟩
    have h3' := h3.ext x3
    cases k with
    | false =>
      rw [if_neg (by decide)]
      obtain ⟨G4, s4, d4, x4, r4, q4, h4⟩ := Run.same (R := RD) (m := pure (.bl false)) (a := D.bl false) (b := V.bl false) rfl h3' r3 (by unfold RD; rfl)
      exact asB_run r4 q4 h4
    | true =>
      rw [if_pos rfl]
      refine ⟨G3, s2, r3, (Run.bind (R := RD) h3').mono fun u H4 ⟨G4, s4, w', x4, r4, q4, h4⟩ => ?_⟩
      obtain ⟨d, e, g⟩ := ap2_run h4
      refine o' c G4 s4 σ H4 _ _ d w u _ r4 (r4.view (q2.mono (x3.trans x4))) (r4.view q4) e fun G5 H5 zv5 x5 r5 q5 => ?_
      obtain ⟨G6, s6, d6, x6, r6, q6, h6⟩ := g G5 H5 zv5 x5 r5 q5
      exact asB_run r6 q6 h6
  | _ => exact stuck_run h3
end
section
variable {p : Pg} {k : Nat} {m : Str} {C : String} {F : Fn} {ts : List (String × Fn)}
theorem mt_nil : ∀ C F, ([] : List (String × Fn)).lookup C = some F → MtAt p k C m F := fun C F h => by cases h
theorem mt_cons (h : MtAt p k C m F) (t : ∀ C F, ts.lookup C = some F → MtAt p k C m F) : ∀ C' F', ((C, F) :: ts).lookup C' = some F' → MtAt p k C' m F' := fun C' F' e => by
  by_cases z : C' = C
  · subst z
    rw [List.lookup_cons_self] at e
    cases e
    exact h
  · rw [List.lookup_cons, beq_eq_false_iff_ne.mpr z] at e
    exact t C' F' e
theorem BlkS.at {Γ Γ0 : NE} {scope : Scope} {own : List (Str × Nat)} (b : BlkS Γ0 scope own) (h1 : Γ0.N = Γ.N) (h2 : Γ0.cap = Γ.cap) : BlkS Γ scope own :=
  ⟨b.kind, b.uniq, fun q hq => by rw [← h1]; exact b.ix q hq, fun y hy e => by rw [← h2]; exact b.free y hy e, fun y hy e => by rw [← h1]; exact b.own y hy e⟩
theorem ScOk.at {Γ Γ0 : NE} {scope : Scope} (b : ScOk Γ0 scope) (h : Γ = { Γ0 with k := Γ.k }) : ScOk Γ scope := by
  rw [h]
  exact ⟨b.vis, b.sto, b.glo, b.loc, b.cap⟩
theorem lcok {Γ Γ' Γ0 Γ0' : NE} {scope : Scope} {own : List (Str × Nat)} (h1 : Γ'.N = Γ.N) (h2 : Γ.calm = true) (h3 : Γ'.k = Γ.k) (h4 : Γ'.own = false) (h5 : Γ = { Γ0 with k := Γ.k }) (h6 : Γ' = { Γ0' with k := Γ'.k }) (b1 : blkSB Γ0 scope own = true) (b2 : scOkB Γ0' scope = true) (hex : p.ex = none) (hlam : p.lam = none) : LcOk p Γ Γ' scope own :=
  ⟨(blkS_by b1).at (by rw [h5]) (by rw [h5]), (scOkB_ok b2).at h6, h1, h2, h3, hex, h4, hlam⟩
end
/-! ### a, b = x, y -/
theorem fm2 {α β : Type} {f : α → Option β} {a b : α} {x y : β} (h1 : f a = some x) (h2 : f b = some y) : [a, b].filterMap f = [x, y] := by
  simp [List.filterMap_cons, h1, h2]
theorem par2 {x y : Str} {a b : Expr} {px py pt pt2 : Pos} {kt k2 : Nat} (hl : (py.line == px.line) = true) (he : ([x, y] : List Str).eraseDups.length = 2) (nsa : ∀ e p, a ≠ .Starred e p) (nsb : ∀ e p, b ≠ .Starred e p) (h1 : [a, b].all (foldedForSure 8) = false) (h2 : [a, b].all (constantsAlone 8) = false) :
    ∀ env : Env, env.scope.kind = .function → env.kindOf x = some .local → env.kindOf y = some .local → swappedStores [.Tuple [.Name x px, .Name y py] kt pt] (.Tuple [a, b] k2 pt2) env = pure (some [x, y]) := by
  intro env hk hx hy
  have hbk : env.blockKind = .function := by unfold Env.blockKind; rw [hk]; rfl
  unfold swappedStores
  dsimp only
  rw [hbk]
  rw [if_neg (by simp)]
  rw [if_neg (by
    simp only [List.any_cons, List.any_nil, Bool.or_false, Bool.or_eq_true, not_or]
    exact Bool.false_ne_true)]
  have e1 : (env.kindOf x == some NameKind.local && px.line == px.line) = true := by rw [hx]; simp
  have e2 : (env.kindOf y == some NameKind.local && py.line == px.line) = true := by rw [hy, hl]; rfl
  rw [fm2 (x := x) (y := y) (by exact if_pos e1) (by exact if_pos e2)]
  rw [he, if_neg (by simp), h1, if_neg (by decide), h2, if_neg (by decide)]
end Ev

set_option maxHeartbeats 2000000
/-! Ev23: a lambda handed to a def. -/
namespace Ev
open PySem PySem.Spec PyProof.Rows L2

/-- the slots that a lambda's body sees -/
def capSlots (n : Nat) (is : List Nat) (cap : List D) : List SV := (List.range n).map fun i => match (is.zip cap).lookup i with
  | some d => .val d
  | none => .un
def endE : Out D → OutC
  | .ok d s => .ok d s.M
  | .exc x fs s => .exc x fs s.M
  | .bad => .bad
def lamAct (n : Nat) (is : List Nat) (m : PM D) : List D → List MO → OutC := fun cap M => endE (m ⟨capSlots n is cap, M⟩)
/-- a def that gets a lambda alone, of nN slots -/
def mkFnL (nN : Nat) (m : SM) : Fn := fun cap M => endOf (m ⟨.lm cap :: List.replicate (nN - 1) .un, M⟩)
def eCaps : List Nat → PM (List D)
  | [] => pure []
  | i :: is => eVar i >>= fun d => eCaps is >>= fun ds => pure (d :: ds)
def eLam (is : List Nat) (F : Fn) : PM D := eCaps is >>= fun cap => callM F cap
section
variable {c : Cn} {W : WX} {G G' : GW} {s : S} {σ : L2.St} {H H' : Hp} {M : List MO}
theorem Rs.nolam {c' : Cn} (hK : c.K = c'.K) (hw : c.w = c'.w) (h0 : c.H0 = c'.H0) (hp : c.hp0 = c'.hp0) (hF : c.F0 = c'.F0) (hT : c.T = c'.T) (r : Rs c G ⟨[], M⟩ [] H) : Rs c' G ⟨[], M⟩ [] H where
  len := rfl
  at_ := fun i v e => by simp at e
  sep := fun i j v w a e => by simp at e
  hlen := r.hlen
  nd := r.nd
  obj := fun n a o h1 h2 => (r.obj n a o h1 h2).re hK hw
  dis := r.dis
  live := r.live
  keep := by rw [← h0, ← hp]; exact r.keep
  pre := by rw [← hp]; exact r.pre
  new := by rw [← h0, ← hp]; exact r.new
  newF := by rw [← h0, ← hF]; exact r.newF
  nF := r.nF
  nt := by rw [← h0]; exact r.nt
  tabs := by rw [← hT]; exact r.tabs
theorem Rs.extN (r : Rs c G s σ H) (e : LamX.ExtN H H') (t : LamX.Tabs c.T H') : Ext G H G H' ∧ Rs c G s σ H' := by
  have st : ∀ a, G.F a → H' a = H a := fun a ha => by
    obtain ⟨o, ho⟩ := r.live a ha
    rw [ho]
    exact e a o ho fun ps z => r.nF a ps ha (by rw [ho, z])
  have x : Ext G H G H' := ⟨fun _ h => h, List.prefix_refl _, st, fun a q h => e a _ h LamX.codeO_ne⟩
  refine ⟨x, { len := r.len, at_ := fun i v ev => ?_, sep := r.sep, hlen := r.hlen, nd := r.nd, obj := fun n a o h1 h2 => ?_, dis := r.dis, live := fun a ha => ?_, keep := fun a o h1 h2 => e a o (r.keep a o h1 h2) (fun ps z => r.nt a ps (by rw [h1, z])), pre := r.pre, new := r.new, newF := r.newF, nF := fun a ps ha => ?_, nt := r.nt, tabs := t }⟩
  · have q := r.at_ i v ev
    cases hv : v.own with
    | false => exact q.mono_val x hv
    | true =>
      cases v with
      | ul xs =>
        obtain ⟨a, vs, h1, h2, h3, h4, h5, h6⟩ := q
        exact ⟨a, vs, h1, e a _ h2 (by intro _ z; cases z), h3.mono x, h4, h5, h6⟩
      | ud xs =>
        obtain ⟨a, vs, h1, h2, h3, h4, h5, h6⟩ := q
        exact ⟨a, vs, h1, e a _ h2 (by intro _ z; cases z), h3.mono x, h4, h5, h6⟩
      | _ => cases hv
  · have q := r.obj n a o h1 h2
    refine q.mono x ?_
    cases o with
    | lst ds =>
      obtain ⟨vs, k1, k2⟩ := q
      exact (e a _ k1 (by intro _ z; cases z)).trans k1.symm
    | dic kvs =>
      obtain ⟨ws, k1, k2⟩ := q
      exact (e a _ k1 (by intro _ z; cases z)).trans k1.symm
    | ins C fs =>
      obtain ⟨dx, gs, k1, k2⟩ := q
      exact (e a _ k1 (by intro _ z; cases z)).trans k1.symm
  · obtain ⟨o, ho⟩ := r.live a ha
    exact ⟨o, (st a ha).trans ho⟩
  · rw [st a ha]
    exact r.nF a ps ha
theorem eCaps_cons {i : Nat} {is : List Nat} {F : List D → PM D} : (eCaps (i :: is) >>= F) = eVar i >>= fun d => eCaps is >>= fun ds => F (d :: ds) := by
  funext s
  rw [bind_eq, bind_eq]
  show ((eVar i >>= fun d => eCaps is >>= fun ds => pure (d :: ds)) s).bind _ = _
  rw [bind_eq]
  cases eVar i s with
  | ok d s1 =>
    show ((eCaps is >>= fun ds => pure (d :: ds)) s1).bind _ = (eCaps is >>= fun ds => F (d :: ds)) s1
    rw [bind_eq, bind_eq]
    cases eCaps is s1 <;> rfl
  | exc x fs s1 => rfl
  | bad => rfl
theorem eCaps_run : ∀ (is : List Nat) {F : List D → PM D} {G : GW} {s : S} {Q : VK}, Rs c G s σ H → Run RD c W (eCaps is >>= F) G s σ H Q →
    ∃ G1 s1 cap vs, Ext G H G1 H ∧ Rs c G1 s1 σ H ∧ RDs c G1 H cap vs ∧ is.map (fun i => σ[i]?) = vs.map (fun v => some (some v)) ∧ Run RD c W (F cap) G1 s1 σ H Q
  | [], F, G, s, Q, r, h => ⟨G, s, [], [], .refl _ _, r, RDs.nil, rfl, h⟩
  | i :: is, F, G, s, Q, r, h => by
    rw [eCaps_cons] at h
    have step : ∀ {G1 : GW} {s1 : S} {d : D} {v : V}, eVar i s = .ok d s1 → Ext G H G1 H → Rs c G1 s1 σ H → RD c G1 H d v → σ[i]? = some (some v) →
        ∃ G1 s1 cap vs, Ext G H G1 H ∧ Rs c G1 s1 σ H ∧ RDs c G1 H cap vs ∧ (i :: is).map (fun i => σ[i]?) = vs.map (fun v => some (some v)) ∧ Run RD c W (F cap) G1 s1 σ H Q := fun {G1 s1 d v} ev x1 r1 q1 hv => by
      have h1 : Run RD c W (eCaps is >>= fun ds => F (d :: ds)) G s1 σ H Q := by
        unfold Run at h ⊢
        rw [bind_eq, ev] at h
        exact h
      obtain ⟨G2, s2, cap, vs, x2, r2, q2, e2, h2⟩ := eCaps_run is (F := fun ds => F (d :: ds)) r1 (h1.ext x1)
      exact ⟨G2, s2, d :: cap, v :: vs, x1.trans x2, r2, RDs.cons (q1.mono x2) q2, by rw [List.map_cons, List.map_cons, e2, hv], h2⟩
    cases e : s.σ[i]? with
    | none =>
      unfold Run at h
      rw [bind_eq] at h
      unfold eVar at h
      rw [e] at h
      exact h.elim
    | some v =>
      cases v with
      | val d =>
        obtain ⟨y, q, rd⟩ := r.at_ i _ e
        exact step (by unfold eVar; rw [e]) (.refl _ _) r rd q
      | ul xs =>
        obtain ⟨a, vs, h1, h2, h3, r'⟩ := r.freeze e
        refine step (by unfold eVar; rw [e]) (Ext.fz G H a) r' ?_ h1
        unfold RD
        exact ⟨a, vs, rfl, .inr rfl, h2, h3⟩
      | _ =>
        unfold Run at h
        rw [bind_eq] at h
        unfold eVar at h
        rw [e] at h
        exact h.elim
theorem cap_get : ∀ {is : List Nat} {cap : List D} {vs : List V} {i : Nat} {d : D}, RDs c G H cap vs → is.map (fun i => σ[i]?) = vs.map (fun v => some (some v)) → (is.zip cap).lookup i = some d → ∃ v, σ[i]? = some (some v) ∧ RD c G H d v
  | [], cap, vs, i, d, q, hm, h => by simp at h
  | j :: is, [], vs, i, d, q, hm, h => by simp at h
  | j :: is, d0 :: cap, vs, i, d, q, hm, h => by
    unfold RDs at q
    obtain ⟨v, t, rfl, q1, q2⟩ := q
    rw [List.map_cons, List.map_cons] at hm
    injection hm with hm1 hm2
    rw [List.zip_cons_cons, List.lookup_cons] at h
    by_cases e : (i == j) = true
    · rw [e] at h
      cases h
      rw [beq_iff_eq] at e
      subst e
      exact ⟨v, hm1, q1⟩
    · have e : (i == j) = false := by simpa using e
      rw [e] at h
      exact cap_get q2 hm2 h
theorem caps_rs {n : Nat} {is : List Nat} {cap : List D} {vs : List V} (r : Rs c G ⟨[], M⟩ [] H) (q : RDs c G H cap vs) (hm : is.map (fun i => σ[i]?) = vs.map (fun v => some (some v))) (hn : σ.length = n) : Rs c G ⟨capSlots n is cap, M⟩ σ H := by
  have look : ∀ (i : Nat) (v : SV), (capSlots n is cap)[i]? = some v → i < n ∧ v = match (is.zip cap).lookup i with
      | some d => .val d
      | none => .un := fun i v h => by
    unfold capSlots at h
    rw [List.getElem?_map, Option.map_eq_some_iff] at h
    obtain ⟨j, h1, h2⟩ := h
    have h3 := List.getElem?_eq_some_iff.mp h1
    obtain ⟨h3, h4⟩ := h3
    rw [List.getElem_range] at h4
    subst h4
    exact ⟨by simpa using h3, h2.symm⟩
  refine { len := by simp [capSlots, hn], at_ := fun i v e => ?_, sep := fun i j v w a e _ ov => ?_, hlen := r.hlen, nd := r.nd, obj := r.obj, dis := r.dis, live := r.live, keep := r.keep, pre := r.pre, new := r.new, newF := r.newF, nF := r.nF, nt := r.nt, tabs := r.tabs }
  · obtain ⟨hi, hv⟩ := look i v e
    cases el : (is.zip cap).lookup i with
    | some d =>
      rw [el] at hv
      subst hv
      obtain ⟨y, h1, h2⟩ := cap_get q hm el
      exact ⟨y, h1, h2⟩
    | none =>
      rw [el] at hv
      subst hv
      exact ⟨σ[i]'(by rw [hn]; exact hi), List.getElem?_eq_getElem _⟩
  · obtain ⟨hi, hv⟩ := look i v e
    cases el : (is.zip cap).lookup i with
    | some d =>
      rw [el] at hv
      subst hv
      cases ov
    | none =>
      rw [el] at hv
      subst hv
      cases ov
end
section
variable {X : Cx} {pins : List (Addr × Obj)} {σ : L2.St} {H HZ : Hp} {s s1 : Shared}
/-- x(), in the def that got the lambda; exceptions pass -/
theorem pe_act2 {Eg : XK} {Ng : List Str} {qg : Str} {sg : Scope} {g f c' : Addr} {cdg pm ctv : Value} {params : Arguments} {body : Expr} {scope : Scope} {k i : Nat} {a : Str} {pn : List (Addr × Obj)} {xe : Value → Shared → Prop} {W : WX} {tb : XK → TE} {p1 p2 : Pos}
    (I : Inv X pins σ H s) (L : LamX.LamS X.env.scope scope) (hf : s.heap.get? f = some (PySem.W.kla_obj "<lambda>" (X.env.qual ++ "<lambda>") params body scope (cloFrom X.env.cells scope.names []) pm c' ctv)) (hfn : H f = none) (hfr : f ∉ frs X.stack)
    (hbind : bindArgs (PySem.W.kla_fn "<lambda>" (X.env.qual ++ "<lambda>") params body scope (cloFrom X.env.cells scope.names []) pm (.ref c') ctv) ⟨[], []⟩ = pure [])
    (tk : Takes ((cxOf (L2.CX X.prog X.w) X.prog X.w X.K X.mg X.base Ng qg sg g cdg X.A X.stack s H Eg).tr pn xe) W) (hr : Room (k + 1) (X.A.deeper (envOfC qg sg s.heap.objs.size g cdg)))
    (hbody : ∀ (A : Around) (outer : List Env) (s : Shared) (H : Hp) (E : XK), Room k (A.deeper (LamX.lamEnv X scope s.heap.objs.size f c')) → PE (LamX.lamCx X A outer s H E scope f c') body (tb E))
    (hN : Ng[i]? = some a) (hv : Vis sg a) (hd : (a == ("__debug__" : Str)) = false) (hcd : (a == ("__classdict__" : Str)) = false) :
    PE ((cxOf (L2.CX X.prog X.w) X.prog X.w X.K X.mg X.base Ng qg sg g cdg X.A X.stack s H Eg).tr pn xe) (.Call (.Name a p1) [] [] p2)
      (fun σZ HZ Q => σZ[i]? = some (some (.ref f)) ∧ HZ c' = some (LamX.CodeO c' (X.env.qual ++ "<lambda>")) ∧ tb (fun cls d H' => W cls d σZ H') σ HZ Q) := by
  refine ⟨fun pinsZ sZ σZ HZ Q IZ h => ?_⟩
  obtain ⟨hs, hc, ht⟩ := h
  refine wpAny_Call_Name_kw (thn ((pe_var (pos := p1) (i := i) hN hv hd hcd).run pinsZ sZ σZ HZ (fun v H1 => v = .ref f ∧ H1 = HZ) IZ ⟨.ref f, hs, rfl, rfl⟩) fun u s1 ⟨v, H1, I1, r1, q1⟩ => ?_)
  obtain ⟨ev, eH⟩ := q1
  subst ev
  rw [eH] at I1
  obtain rfl : u = Value.ref f := r1
  have of1 : s1.heap.get? f = some (PySem.W.kla_obj "<lambda>" (X.env.qual ++ "<lambda>") params body scope (cloFrom X.env.cells scope.names []) pm c' ctv) := I1.base.keep f _ hf hfn hfr (fun z => nomatch (show f ∈ ([] : List Addr) from z))
  refine PySem.W.callWith_F0 ⟨_, _, _, _, of1⟩ ?_
  have un : Un (frs X.stack) [] H HZ s.heap s1.heap := I1.base
  obtain ⟨⟨oc, vs, t, hoc, hdc, hvc⟩, _, _⟩ := I1.hok c' _ hc
  have rc : codeAny (model X.prog X.w) (X.A.deeper (envOfC qg sg s.heap.objs.size g cdg)) (.call (.ref f) ⟨[], []⟩) (CR (L2.CX X.prog X.w) (envOfC qg sg s.heap.objs.size g cdg :: X.stack) X.prog X.w HZ s1 Q (fun cls d H' => W cls d σZ H')) s1 := by
    refine PySem.W.kla_callFunE hr.depth of1 rfl L.co L.gen rfl ⟨c', oc, vs, t, rfl, hoc, hdc, hvc⟩ ?_
    rw [hbind]
    refine wpAny_pure (wpAny_newFunctionEnv (fun y hy => (L.own y hy).2) (fun y hy => absurd hy (by simp)) (fun h₁ hns hsb => ⟨I1.nolimit.fresh _ hsb, ?_⟩) L.kind)
    show codeAny _ _ (.expr body (LamX.lamEnv X scope s1.heap.objs.size f c')) _ _
    have kp : ∀ b o, s1.heap.get? b = some o → h₁.get? b = some o := fun b o e => hsb.extBut b o (Nat.ne_of_lt (Heap.lt_size e)) (Heap.get?_push_of_some _ e)
    have J : Inv (LamX.lamCx X (X.A.deeper (envOfC qg sg s.heap.objs.size g cdg)) (envOfC qg sg s.heap.objs.size g cdg :: X.stack) s1 HZ (fun cls d H' => W cls d σZ H') scope f c') [] σ HZ { s1 with heap := h₁, toks := s1.toks + ([] : List (Str × Value)).length } :=
      LamX.lam_start2 I L I1.env0 hr.hd un hns kp
    refine PySem.W.kla_codeExpr (wpAny_mono ((hbody _ _ s1 HZ _ (hr.deeper _)).run [] _ _ HZ Q J ht) (fun v s' hq => ?_) fun e s' hq => hq)
    obtain ⟨w', H', J', rv, q⟩ := hq
    exact ⟨w', H', J'.os, J'.bare, J'.base, J'.hok, rv, q⟩
  refine wpAny_call (codeAny_mono rc fun r s' hq => ?_)
  cases r with
  | error e => exact tk e s' (XE.of_call I1 (fun _ _ _ h => h) hq)
  | ok fl =>
    cases fl with
    | ret u => exact I1.after hq
    | next => exact False.elim hq
    | brk => exact False.elim hq
    | cont => exact False.elim hq
end
/-- the def that the module's name x stands for: one parameter a -/
def LamFn (p : Pg) (x : Str) (params : Arguments) (body : List Stmt) (scope : Scope) (a : Str) : Prop := ∃ f fd name qual, p.mg x = some (.ref f) ∧ PySem.W.keepIn p.K (.ref f) = true ∧ FunD p.K name qual params body scope [] [] f fd ∧ Binds p.K fd [a] []
/-- the def at hand makes lambdas: its code object's table is at P -/
def LamBase (p : Pg) : Prop := ∃ a q P, p.cod = some (a, q) ∧ LamX.TabB p.base p.mg a P ∧ (P, q ++ "<lambda>") ∈ p.T ∧ ∀ t ∈ p.T, t.1 = P → t.2 = q ++ "<lambda>"
structure LamSt (Γ : NE) (scope : Scope) : Prop where
  kind : scope.kind = .function
  co : scope.isCoroutine = false
  gen : scope.isGenerator = false
  own : ∀ y ∈ scope.names, y.2 ≠ .local ∧ y.2 ≠ .cell
  free : ∀ y ∈ scope.names, y.2 = .free → y.1 ∈ Γ.cap
def lamStB (Γ : NE) (scope : Scope) : Bool :=
  decide (scope.kind = .function) && !scope.isCoroutine && !scope.isGenerator && scope.names.all fun y => !decide (y.2 = .local) && !decide (y.2 = .cell) && (!decide (y.2 = .free) || decide (y.1 ∈ Γ.cap))
theorem lamSt_by {Γ : NE} {scope : Scope} (h : lamStB Γ scope = true) : LamSt Γ scope := by
  unfold lamStB at h
  simp only [Bool.and_eq_true, Bool.or_eq_true, Bool.not_eq_true', decide_eq_true_eq, decide_eq_false_iff_not, List.all_eq_true] at h
  obtain ⟨⟨⟨h1, h2⟩, h3⟩, h4⟩ := h
  refine ⟨h1, h2, h3, fun y hy => (h4 y hy).1, fun y hy e => ?_⟩
  rcases (h4 y hy).2 with z | z
  · exact absurd e z
  · exact z
section
variable {p : Pg} {Γ Γg Γl : NE}
theorem se_act {p1 p2 : Pos} (hcm : Γ.calm = true) (hl : ∃ l, p.lam = some l) : SE p Γ (.Call (.Name p.an p1) [] [] p2) (eAct p.act) := by
  intro X ok W tk c hc
  obtain ⟨l, hl⟩ := hl
  exact ok.act hcm l hl X.pn X.xe W tk p1 p2 c hc
theorem se_lam {x a : Str} {paramsG params : Arguments} {bodyG : List Stmt} {scopeG scope : Scope} {body : Expr} {is : List Nat} {m : PM D} {mG : (List D → List MO → OutC) → SM} {kk : Nat} {p' lpos pos : Pos}
    (hx : x ∈ Γ.glo) (hcm : Γ.calm = true) (hF : LamFn p x paramsG bodyG scopeG a) (hB : LamBase p)
    (hk : Γ.k = kk + 2) (hkg : Γg.k = kk + 1) (hkl : Γl = ⟨Γ.N, is, [], Γl.glo, true, kk, [], [], false⟩) (hcg : Γg.calm = true)
    (S : FnScope Γg.N [a] scopeG) (scg : ScOk Γg scopeG) (hNg : Γg.N[0]? = some a) (hva : Vis scopeG a) (hd : (a == ("__debug__" : Str)) = false) (hcd : (a == ("__classdict__" : Str)) = false)
    (L : LamSt Γ scope) (scl : ScOk Γl scope) (hdef : ∀ env, defaultsOf params env = ([], []))
    (hbind : ∀ (q : Str) (cl : List (Str × Addr)) (pm cv ctv : Value), bindArgs (PySem.W.kla_fn "<lambda>" q params body scope cl pm cv ctv) ⟨[], []⟩ = pure [])
    (hm : SE { p with ex := none, lam := none, cod := none } Γl body m)
    (hG : ∀ l : LamC, SSs { p with ex := none, lam := some l, cod := none, an := a, act := lamAct Γ.N.length is m } Γg bodyG (mG (lamAct Γ.N.length is m))) :
    SE p Γ (.Call (.Name x p') [.Lambda params body scope lpos] [] pos) (eLam is (mkFnL Γg.N.length (mG (lamAct Γ.N.length is m)))) := by
  intro X ok W tk c hc
  obtain ⟨g, fd, name, qual, hmg, hkeep, F, hb⟩ := hF
  obtain ⟨ca, cq, P, hcod, TB, hmT, hu⟩ := hB
  obtain ⟨g1, g2, g3⟩ := ok.glo x hx
  obtain ⟨hcode, hq⟩ := ok.cod ca cq hcod
  have L' : LamX.LamS X.env.scope scope := ⟨L.kind, L.co, L.gen, L.own, fun y hy e => ok.cap _ (L.free y hy e)⟩
  obtain ⟨oc, od, dV, kV, doc, pm, an, cdv, ct, osl, rfl, lk, hcdI, _, _⟩ := F.ex
  refine ⟨fun pins s σ H Q I h => ?_⟩
  obtain ⟨G, st, r, h⟩ := h
  obtain ⟨G1, s1, cap, vs, x1, r1, q1, hm1, h1⟩ := eCaps_run is r h
  have hn : σ.length = Γ.N.length := by rw [← ok.N]; exact I.len
  have hroom := ok.room hcm
  refine wpAny_Call_Name_kw (ld_glob I g1 (by rw [ok.mg]; exact hmg) ?_ g2)
  refine PySem.W.callWith_K (h₀ := X.base) I.ok.mod.kin (by rw [ok.K]; exact hkeep) ?_ (by rfl) (by rfl)
  show wpAny _ _ (spliced ((false, eval (.Lambda params body scope lpos) X.env) :: backTo pos (starEach [] X.env))) _ _ s
  refine Calls.spliced_cons (LamX.lam_make2 (T := p.T) (c := ca) (P := P) I (by rw [ok.base, ok.mg]; exact TB) hcode (by rw [hq]; exact hmT) (by rw [hq]; exact hu) (by rw [← hc.T]; exact r.tabs) (hdef _) (L'.has I.ok) fun f c' pm' ctv H1 s' I1 eN T1 hf hfn hfr hco => ?_)
  refine Calls.spliced_nil ⟨I1.kIn, ?_⟩
  obtain ⟨x2, r2⟩ := r1.extN eN (by rw [hc.T]; exact T1)
  have h2 := h1.ext x2
  have q2 := RDs.mono x2 _ q1
  have rc : codeAny (model X.prog X.w) X.A (.call (.ref g) ⟨[.ref f], []⟩) (CR (L2.CX X.prog X.w) X.stack X.prog X.w H1 s' Q (fun cls d H' => W cls d σ H')) s' := by
    refine LamX.run_ofS (k := 2 * Γg.k + 1) (N := Γg.N) (ps := [a]) (us := [.ref f]) (vs := [.ref f]) (by rw [ok.K]; exact lk) (by rw [ok.K]; exact hcdI) S (hroom.mono (by omega)) I1.env0 (hb s' [.ref f] (by rw [← ok.K]; exact I1.kIn) rfl) (.cons rfl .nil) rfl fun hr' => ?_
    let pg : Pg := { p with ex := none, lam := some ⟨σ, f, c', X.env.qual ++ "<lambda>", is⟩, cod := none, an := a, act := lamAct Γ.N.length is m }
    let pl : Pg := { p with ex := none, lam := none, cod := none }
    have ok' : XOk pg Γg (cxOf (L2.CX X.prog X.w) X.prog X.w X.K X.mg X.base Γg.N qual scopeG g cdv X.A X.stack s' H1 (fun cls d H' => W cls d σ H')) :=
      { prog := ok.prog, w := ok.w, K := ok.K, mg := ok.mg, base := ok.base, N := rfl, nd := S.nd, vis := scg.vis, sto := fun i hi x e => ⟨scg.sto i hi x e, .inl rfl⟩, glo := fun x hx => ⟨(scg.glo x hx).1, (scg.glo x hx).2.1, (scg.glo x hx).2.2⟩,
        calm := fun _ => ⟨rfl, hr'.hd⟩, dp := hr'.dp, un := hr'.un, pass := passes_of rfl, loc := scg.loc, kind := S.kind, cap := scg.cap, own := fun _ => ⟨rfl, rfl⟩, cod := fun a q e => (by cases e), hot := fun a cls dd e => (by cases e),
        act := fun _ l e pn xe W' tk' p1 p2 cz hcz => by
          refine (pe_act2 (tb := fun E σ' H' Q' => ∃ cl, Cn.of pl cl ∧ tE cl (fun cls d _ H'' => E cls d H'') m σ' H' Q') (k := 2 * kk + 1) (i := 0) I1 L' hf hfn hfr (hbind _ _ _ _ _) tk' (hr'.mono (by omega)) (fun A outer s2 H2 E hr2 => ?_) hNg hva hd hcd).weak fun σZ HZ QZ hz => ?_
          · refine ⟨fun pins3 s3 σ3 H3 Q3 I3 ⟨cl, hcl, h3⟩ => ?_⟩
            have okl : XOk pl Γl (LamX.lamCx X A outer s2 H2 E scope f c') := by
              rw [hkl] at scl ⊢
              exact { prog := ok.prog, w := ok.w, K := ok.K, mg := ok.mg, base := ok.base, N := ok.N, nd := ok.nd, vis := scl.vis, sto := (fun i hi => nomatch hi), glo := fun x hx => ⟨(scl.glo x hx).1, (scl.glo x hx).2.1, (scl.glo x hx).2.2⟩,
                      calm := fun _ => ⟨rfl, hr2.hd⟩, dp := hr2.dp, un := hr2.un, pass := passes_of rfl, loc := (fun i hi => nomatch hi), kind := L.kind, cap := (fun x hx => nomatch hx), own := (fun e => nomatch e), act := (fun _ l e => nomatch e), cod := (fun a q e => nomatch e), hot := (fun a cls dd e => nomatch e) }
            exact (hm _ okl _ (takes_of rfl rfl rfl rfl) cl hcl).run pins3 s3 σ3 H3 Q3 I3 h3
          · obtain ⟨GZ, sZ, rZ, hZ⟩ := hz
            cases ez : sZ.σ[(0 : Nat)]? with
            | none =>
              unfold Run at hZ
              unfold eAct at hZ
              rw [ez] at hZ
              exact hZ.elim
            | some v =>
              cases v with
              | lm capZ =>
                obtain ⟨l', vsZ, hl', hvZ, hcZ, hqZ, hmZ⟩ := rZ.at_ 0 _ ez
                have hl2 : some l' = some (⟨σ, f, c', X.env.qual ++ "<lambda>", is⟩ : LamC) := hl'.symm.trans hcz.lam
                cases hl2
                refine ⟨hvZ, hcZ, ent pl GZ HZ, ⟨rfl, rfl, rfl, rfl, rfl⟩, GZ, ⟨capSlots Γ.N.length is capZ, sZ.M⟩, caps_rs (Rs.nolam (c := ent pg GZ HZ) rfl rfl rfl rfl rfl rfl (rZ.enter hcz)) (RDs.re hcz.K hcz.w _ hqZ) hmZ hn, ?_⟩
                unfold Run at hZ
                unfold eAct at hZ
                rw [ez] at hZ
                unfold callM at hZ
                dsimp only at hZ
                rw [show pg.act capZ sZ.M = endE (m ⟨capSlots Γ.N.length is capZ, sZ.M⟩) from rfl] at hZ
                unfold Run
                cases em : m ⟨capSlots Γ.N.length is capZ, sZ.M⟩ with
                | ok d s5 =>
                  rw [em] at hZ
                  intro G5 H5 b x5 r5 q5
                  exact hZ G5 H5 b x5 (rZ.back hcz x5 (Rs.nolam (c := ent pl GZ HZ) (c' := ent pg GZ HZ) rfl rfl rfl rfl rfl rfl r5.forget)) (q5.re hcz.K.symm hcz.w.symm)
                | exc n fs s5 =>
                  rw [em] at hZ
                  intro G5 H5 cls dd x5 r5 q5
                  exact hZ G5 H5 cls dd x5 (rZ.back hcz x5 (Rs.nolam (c := ent pl GZ HZ) (c' := ent pg GZ HZ) rfl rfl rfl rfl rfl rfl r5.forget)) (q5.re hcz.K.symm hcz.w.symm)
                | bad =>
                  rw [em] at hZ
                  exact hZ
              | _ =>
                unfold Run at hZ
                unfold eAct at hZ
                rw [ez] at hZ
                exact hZ.elim }
    have rg : Rs (ent pg G1 H1) G1 ⟨[], s1.M⟩ [] H1 := Rs.nolam (c := ent p G1 H1) rfl rfl rfl rfl rfl rfl (r2.enter hc)
    have rs0 : Rs (ent pg G1 H1) G1 ⟨.lm cap :: List.replicate (Γg.N.length - 1) .un, s1.M⟩ (L2.start Γg.N [.ref f]) H1 := by
      refine { len := by simp [L2.start], at_ := fun i v e => ?_, sep := fun i j v w a e _ ov => ?_, hlen := rg.hlen, nd := rg.nd, obj := rg.obj, dis := rg.dis, live := rg.live, keep := rg.keep, pre := rg.pre, new := rg.new, newF := rg.newF, nF := rg.nF, nt := rg.nt, tabs := rg.tabs }
      · have e : (SV.lm cap :: List.replicate (Γg.N.length - 1) .un)[i]? = some v := e
        cases i with
        | zero =>
          cases e
          exact ⟨_, vs, rfl, rfl, hco, RDs.re hc.K hc.w _ q2, hm1⟩
        | succ i =>
          rw [List.getElem?_cons_succ, List.getElem?_replicate] at e
          split at e
          · cases e
            show ∃ x, (some (V.ref f) :: List.replicate (Γg.N.length - 1) none)[i + 1]? = some x
            rw [List.getElem?_cons_succ, List.getElem?_replicate, if_pos (by assumption)]
            exact ⟨_, rfl⟩
          · cases e
      · have e : (SV.lm cap :: List.replicate (Γg.N.length - 1) .un)[i]? = some v := e
        cases i with
        | zero => cases e; cases ov
        | succ i =>
          rw [List.getElem?_cons_succ, List.getElem?_replicate] at e
          split at e
          · cases e; cases ov
          · cases e
    refine ⟨_, hG _ _ ok' _ (takes_of rfl rfl rfl rfl) (ent pg G1 H1) ⟨rfl, rfl, rfl, rfl, rfl⟩, G1, _, rs0, ?_⟩
    unfold Run callM mkFnL at h2
    unfold RunS
    cases e : mG (lamAct Γ.N.length is m) ⟨.lm cap :: List.replicate (Γg.N.length - 1) .un, s1.M⟩ with
    | ok o s5 =>
      rw [e] at h2
      cases o with
      | none => exact fun G5 σ5 H5 x5 r5 => h2 G5 H5 .non x5 (r2.back hc x5 (Rs.nolam (c := ent pg G1 H1) (c' := ent p G1 H1) rfl rfl rfl rfl rfl rfl r5.forget)) (by unfold RD; rfl)
      | some d => exact fun G5 σ5 H5 v x5 r5 q5 => h2 G5 H5 v x5 (r2.back hc x5 (Rs.nolam (c := ent pg G1 H1) (c' := ent p G1 H1) rfl rfl rfl rfl rfl rfl r5.forget)) (q5.re hc.K.symm hc.w.symm)
    | exc n fs s5 =>
      rw [e] at h2
      exact fun G5 σ5 H5 cls dd x5 r5 q5 => h2 G5 H5 cls dd x5 (r2.back hc x5 (Rs.nolam (c := ent pg G1 H1) (c' := ent p G1 H1) rfl rfl rfl rfl rfl rfl r5.forget)) (q5.re hc.K.symm hc.w.symm)
    | bad =>
      rw [e] at h2
      exact h2
  refine wpAny_call (codeAny_mono rc fun r s2 hq => ?_)
  cases r with
  | error e => exact tk e s2 (XE.of_call I1 (fun _ _ _ h => h) hq)
  | ok fl =>
    cases fl with
    | ret u => exact I1.after hq
    | next => exact False.elim hq
    | brk => exact False.elim hq
    | cont => exact False.elim hq
end
end Ev

set_option maxHeartbeats 2000000
/-! Ev24: the head's facts, the end. -/
namespace Ev
open PySem PySem.Spec PyProof.Rows L2

/-! ### what is looked at -/
def isTab : Obj → Bool
  | ⟨.none, _, .fields _, _⟩ => true
  | _ => false
/-- what is reached, but the tables of code objects -/
def frT (n : Nat) (g : Addr → Option Obj) : PySem.W.Frag := (He.frG g (cStatics :: He.asD g n)).filter fun q => !isTab q.2
theorem lookup_mem {α β : Type} [BEq α] [LawfulBEq α] {a : α} {o : β} : ∀ {K : List (α × β)}, K.lookup a = some o → (a, o) ∈ K
  | [], h => by cases h
  | (b, u) :: K, h => by
    rw [List.lookup_cons] at h
    cases q : a == b with
    | true =>
      rw [q] at h
      cases h
      rw [beq_iff_eq.mp q]
      exact List.mem_cons_self
    | false =>
      rw [q] at h
      exact List.mem_cons_of_mem _ (lookup_mem h)
theorem frT_in {n : Nat} {h : Heap} : (frT n h.get?).In h := fun a o e => by
  have m := (List.mem_filter.mp (lookup_mem e)).1
  unfold He.frG at m
  obtain ⟨b, _, hb⟩ := List.mem_filterMap.mp m
  cases g : h.get? b with
  | none => rw [g] at hb; cases hb
  | some ob =>
    rw [g] at hb
    cases hb
    exact g
/-- the table of the def x: known, empty, not among what is looked at -/
def tabG (g : Addr → Option Obj) (K : PySem.W.Frag) (x : Str) : Bool := match PySem.W.tabIn K x with
  | some (c, P) => PySem.W.codeHdIn K c P && ((K.lookup P).isNone && (match g P with
    | some ⟨.none, none, .fields vs, sl⟩ => vs.isEmpty && sl.isEmpty
    | _ => false))
  | none => false
def TabF (h : Heap) (K : PySem.W.Frag) (x : Str) : Prop := ∃ c P, PySem.W.tabIn K x = some (c, P) ∧ PySem.W.CodeHd h c P ∧ K.lookup P = none ∧ h.get? P = some { cls := .none, data := .fields #[] }
theorem tabG_ok {h : Heap} {K : PySem.W.Frag} {x : Str} (X : K.In h) (e : tabG h.get? K x = true) : TabF h K x := by
  unfold tabG at e
  cases q : PySem.W.tabIn K x with
  | none => rw [q] at e; cases e
  | some cp =>
    obtain ⟨c, P⟩ := cp
    rw [q] at e
    simp only [Bool.and_eq_true] at e
    obtain ⟨e1, e2, e3⟩ := e
    refine ⟨c, P, q, PySem.W.codeHd_of_K X e1, ?_, ?_⟩
    · cases z : K.lookup P with
      | none => rfl
      | some o => rw [z] at e2; cases e2
    · split at e3
      · rename_i vs sl hg
        simp only [Bool.and_eq_true, Array.isEmpty_iff] at e3
        rw [hg, e3.1, e3.2]
      · cases e3
abbrev AlV : Type := He.AlT × Bool
def obsK (fa : List He.Fa) (fn : List He.DefD) (ts : List He.Tab) (xs : List (PySem.W.Frag → Bool)) (lx : List Str) (g : Addr → Option Obj) (K : PySem.W.Frag) : AlV := (He.obsT fa fn ts K, xs.all (fun f => f K) && lx.all (tabG g K))
def obsV (n : Nat) (fa : List He.Fa) (fn : List He.DefD) (ts : List He.Tab) (xs : List (PySem.W.Frag → Bool)) (lx : List Str) (g : Addr → Option Obj) : AlV := obsK fa fn ts xs lx g (frT n g)
def valV (fn : List He.DefD) (ts : List He.Tab) (w : World) : AlV := (He.valT fn ts w, true)
structure SaysV (fa : List He.Fa) (fn : List He.DefD) (ts : List He.Tab) (xs : List (PySem.W.Frag → Bool)) (lx : List Str) (w : World) (h : Heap) (K : PySem.W.Frag) : Prop where
  in_ : K.In h
  t : He.SaysT fa fn ts w K
  x : ∀ f ∈ xs, f K = true
  l : ∀ x ∈ lx, TabF h K x
def hookV (n : Nat) (fa : List He.Fa) (fn : List He.DefD) (ts : List He.Tab) (xs : List (PySem.W.Frag → Bool)) (lx : List Str) : PySem.W.Hook where
  α := AlV
  obs := fun s => obsV n fa fn ts xs lx s.heap.get?
  val := fun w => valV fn ts w
  says := fun w h => ∃ K : PySem.W.Frag, SaysV fa fn ts xs lx w h K
  of := fun w s e => by
    have e1 := congrArg (fun z : AlV => z.1) e
    have e2 : (xs.all (fun f => f (frT n s.heap.get?)) && lx.all (tabG s.heap.get? (frT n s.heap.get?))) = true := congrArg (fun z : AlV => z.2) e
    obtain ⟨k1, k2⟩ := Bool.and_eq_true_iff.mp e2
    exact ⟨frT n s.heap.get?, frT_in, e1, fun f hf => List.all_eq_true.mp k1 f hf, fun x hx => tabG_ok frT_in (List.all_eq_true.mp k2 x hx)⟩
  keeps := fun w h h' ⟨K, S⟩ k => ⟨K, PySem.W.Frag.In.keeps S.in_ k, S.t, S.x, fun x hx => by
    obtain ⟨c, P, h1, h2, h3, h4⟩ := S.l x hx
    exact ⟨c, P, h1, h2.keeps k, h3, k _ _ h4⟩⟩
theorem obsV_eq {n : Nat} {fa : List He.Fa} {fn : List He.DefD} {ts : List He.Tab} {xs : List (PySem.W.Frag → Bool)} {lx : List Str} {g : Addr → Option Obj} {s : Shared} (h : ∀ a, g a = s.heap.get? a) : obsV n fa fn ts xs lx g = (hookV n fa fn ts xs lx).obs s := by
  have e : g = s.heap.get? := funext h
  rw [e] <;> rfl
section
variable {fa : List He.Fa} {fn : List He.DefD} {ts : List He.Tab} {xs : List (PySem.W.Frag → Bool)} {lx : List Str} {w : World} {h : Heap} {K : PySem.W.Frag}
theorem SaysV.fact (S : SaysV fa fn ts xs lx w h K) {f : He.Fa} (hf : f ∈ fa) : f.ok K = true := by
  obtain ⟨i, hi, e⟩ := List.mem_iff_getElem.mp hf
  exact S.t.d.fact i (by rw [List.getElem?_eq_getElem hi, e])
theorem SaysV.def_ (S : SaysV fa fn ts xs lx w h K) (i : Nat) {d : He.DefD} (e : fn[i]? = some d := by rfl) : ∃ fd, FunD K d.name d.qual d.params d.body d.scope (d.dvs K) (d.kws K) (He.fAd K d.at_) fd := S.t.d.def_ i e
end
/-! ### a text table -/
def pairsB : List (String × String) → List DictEntry → Bool
  | [], [] => true
  | q :: kvs, e :: es => (match e.key with
      | .str x _ => decide (x = Str.ofString q.1)
      | _ => false) && ((match e.val with
      | .str x _ => decide (x = Str.ofString q.2)
      | _ => false) && pairsB kvs es)
  | _, _ => false
def ktabB (x : Str) (kvs : List (String × String)) (K : PySem.W.Frag) : Bool := match K.lookup (He.ga K x) with
  | some ⟨_, _, .dict es _, _⟩ => pairsB kvs es.toList
  | _ => false
theorem pairsB_ok {P : Params} : ∀ {kvs : List (String × String)} {l : List DictEntry}, pairsB kvs l = true → PySem.W.KeysLit P l →
    Paired (fun (q : String × String) (e : DictEntry) => (∃ t, e.key = .str (Str.ofString q.1) t) ∧ e.hash = PyData.keyHash P (Str.ofString q.1) ∧ ∃ t, e.val = .str (Str.ofString q.2) t) kvs l
  | [], [], _, _ => .nil
  | [], _ :: _, h, _ => by cases h
  | _ :: _, [], h, _ => by cases h
  | q :: kvs, e :: es, h, k => by
    unfold pairsB at h
    simp only [Bool.and_eq_true] at h
    obtain ⟨h1, h2, h3⟩ := h
    obtain ⟨⟨x, t, kx, kh⟩, kr⟩ := k
    refine .cons ⟨?_, ?_, ?_⟩ (pairsB_ok h3 kr)
    · rw [kx] at h1
      exact ⟨t, by rw [kx, of_decide_eq_true h1]⟩
    · rw [kx] at h1
      rw [kh, of_decide_eq_true h1]
    · split at h2
      · rename_i y t2 hv
        exact ⟨t2, by rw [hv, of_decide_eq_true h2]⟩
      · cases h2
theorem find_tab {P : Params} {z : String} : ∀ {kvs : List (String × String)} {l : List DictEntry}, Paired (fun (q : String × String) (e : DictEntry) => (∃ t, e.key = .str (Str.ofString q.1) t) ∧ e.hash = PyData.keyHash P (Str.ofString q.1) ∧ ∃ t, e.val = .str (Str.ofString q.2) t) kvs l →
    (match kvs.lookup z with
      | some s => ∃ e t, l.find? (·.key.isStr (Str.ofString z)) = some e ∧ e.val = .str (Str.ofString s) t
      | none => l.find? (·.key.isStr (Str.ofString z)) = none) ∧ l.any (·.refKey) = false
  | _, _, .nil => ⟨rfl, rfl⟩
  | (a, b) :: kvs, e :: l, .cons h t => by
    obtain ⟨⟨t1, h1⟩, h2, t3, h3⟩ := h
    obtain ⟨i1, i2⟩ := find_tab t
    have hr : e.refKey = false := by unfold DictEntry.refKey; rw [h1]
    refine ⟨?_, by rw [List.any_cons, hr, i2]; rfl⟩
    by_cases q : z = a
    · subst q
      rw [List.lookup_cons_self]
      refine ⟨e, t3, ?_, h3⟩
      rw [List.find?_cons_of_pos]
      rw [h1]
      exact beq_self_eq_true _
    · rw [List.lookup_cons, beq_eq_false_iff_ne.mpr q]
      have n : (e.key.isStr (Str.ofString z)) = false := by
        rw [h1]
        exact beq_eq_false_iff_ne.mpr fun y => q (ofString_inj y).symm
      rw [List.find?_cons_of_neg (by rw [n]; exact Bool.false_ne_true)]
      exact i1
theorem ktab_ok {K : PySem.W.Frag} {w : World} {x : Str} {kvs : List (String × String)} (hd : ∃ es n, KDict K w (He.ga K x) es n) (hb : ktabB x kvs K = true) (nd : (kvs.map (·.1)).Nodup) : KTab K w (He.ga K x) kvs := by
  obtain ⟨es, n, D⟩ := hd
  unfold ktabB at hb
  rw [D.at_] at hb
  have pr := pairsB_ok (P := w.params) hb D.lit
  refine ⟨es, n, D, fun z => ?_, pr, nd⟩
  obtain ⟨f1, f2⟩ := find_tab (z := z) pr
  unfold PySem.W.nsIn
  rw [D.at_]
  cases q : kvs.lookup z with
  | some s =>
    rw [q] at f1
    obtain ⟨e, t, e1, e2⟩ := f1
    exact ⟨t, by dsimp only; rw [e1]; dsimp only; rw [e2]⟩
  | none =>
    rw [q] at f1
    dsimp only at f1 ⊢
    rw [f1]
    dsimp only
    rw [f2]
    rfl
/-! ### exceptions -/
def excCB (x : String) (K : PySem.W.Frag) : Bool :=
  let D := He.ga K (Str.ofString x)
  decide (PySem.W.findIn K (.ref D) "__getattribute__" = some (some (.builtin "BaseException.__getattribute__"))) && (decide (PySem.W.findIn K (.ref D) "__getattr__" = some none) && (decide (PySem.W.subIn K (.ref D) (.type "BaseException") = some true) && (PySem.W.hasDictIn K D &&
  (decide (PySem.W.findIn K (.ref D) "__class__" = some (some (.builtin "object.__class__"))) && (decide (PySem.W.specialIn K (.builtin "object.__class__") "__get__" = some (some (.builtin "getset_descriptor.__get__"))) && (decide (PySem.W.takesIn K (.builtin "object.__class__") = some true) && decide (PySem.W.mroIn K D (.type "object") = some true)))))))
theorem excCB_ok {x : String} {K : PySem.W.Frag} (h : excCB x K = true) : ExcC K (He.ga K (Str.ofString x)) := by
  unfold excCB at h
  simp only [Bool.and_eq_true, decide_eq_true_eq] at h
  obtain ⟨h1, h2, h3, h4, h5, h6, h7, h8⟩ := h
  exact ⟨h1, h2, h3, h4, h5, h6, h7, h8⟩
def xfCB (x : String) (K : PySem.W.Frag) : Bool := xfB K (He.ga K (Str.ofString x))
def noAtB (x f : String) (K : PySem.W.Frag) : Bool := decide (PySem.W.findIn K (.ref (He.ga K (Str.ofString x))) (Str.ofString f) = some none)
def oexCB (x : String) (K : PySem.W.Frag) : Bool := oexB K (He.ga K (Str.ofString x))
def initB (x : String) (K : PySem.W.Frag) : Bool := let C := He.ga K (Str.ofString x)
  decide (PySem.W.findIn K (.ref C) "__init__" = some (some (.ref (He.ma K C "__init__")))) && decide (PySem.W.typeIn K (.ref (He.ma K C "__init__")) = some (.type "function"))
/-- what an own class's base x gives -/
def baseB (x : String) (K : PySem.W.Frag) : Bool := let B := He.ga K (Str.ofString x)
  decide (PySem.W.specialIn K (.ref B) "__getattribute__" = some (some (.builtin "type.__getattribute__"))) && (PySem.W.readsIn K B (.type "type") && (match PySem.W.findCls K (.ref B) (.type "type") "__init__" with
  | some (.val (.builtin n)) => n == "ValueError.__init__"
  | _ => false))
theorem baseB_ok {x : String} {K : PySem.W.Frag} (h : baseB x K = true) : BaseIn K (He.ga K (Str.ofString x)) := by
  unfold baseB at h
  simp only [Bool.and_eq_true, decide_eq_true_eq] at h
  obtain ⟨h1, h2, h3⟩ := h
  refine ⟨h1, h2, ?_⟩
  split at h3
  · rename_i n e
    rw [e, beq_iff_eq.mp h3]
  · cases h3
def catB (c : String) (tb : List (String × Bool)) (K : PySem.W.Frag) : Bool := tb.all fun q => decide (PySem.W.exmOne K (.ref (He.ga K (Str.ofString q.1))) (.ref (He.ga K (Str.ofString c))) = some q.2)
theorem catB_ok {p : Pg} {c : String} {tb : List (String × Bool)} (h : catB c tb p.K = true) : CatOk p (.ref (He.ga p.K (Str.ofString c))) tb := fun x b e =>
  of_decide_eq_true (List.all_eq_true.mp h (x, b) (lookup_mem e))
def isEB (cv : PySem.W.Frag → Value) (tb : List (String × Bool)) (K : PySem.W.Frag) : Bool := tb.all fun q => excCB q.1 K && decide (PySem.W.kitOne K (.ref (He.ga K (Str.ofString q.1))) (cv K) = some q.2)
theorem isEB_ok {p : Pg} {cv : PySem.W.Frag → Value} {tb : List (String × Bool)} (h : isEB cv tb p.K = true) : IsEOk p (cv p.K) tb := fun x b e => by
  have q := Bool.and_eq_true_iff.mp (List.all_eq_true.mp h (x, b) (lookup_mem e))
  exact ⟨excCB_ok q.1, of_decide_eq_true q.2⟩
def xfOB (Cs : List String) (f : String) (K : PySem.W.Frag) : Bool := Cs.all fun x => xfCB x K && noAtB x f K
theorem xfOB_ok {p : Pg} {Cs : List String} {f : String} (h : xfOB Cs f p.K = true) : XfOk p Cs f := fun x hx => by
  have q := Bool.and_eq_true_iff.mp (List.all_eq_true.mp h x hx)
  exact ⟨xfB_ok q.1, of_decide_eq_true q.2⟩
/-- no list is written -/
def noList (K : PySem.W.Frag) : Bool := K.all fun q => match q.2 with
  | ⟨.type c, _, .seq _ _, _⟩ => !(c == "list")
  | _ => true
theorem noList_ok {K : PySem.W.Frag} (h : noList K = true) {a : Addr} {o : Obj} {its : Array Value} {n : Nat} (e : K.lookup a = some o) (hc : o.cls = .type "list") (hd : o.data = .seq its n) : False := by
  have q := List.all_eq_true.mp h (a, o) (lookup_mem e)
  obtain ⟨oc, od, dt, sl⟩ := o
  dsimp only at hc hd
  subst hc
  subst hd
  cases q
theorem tab_code {K : PySem.W.Frag} {x name qual : Str} {params : Arguments} {body : List Stmt} {scope : Scope} {fd : FuncData} {c P : Addr} (ht : PySem.W.tabIn K x = some (c, P)) (F : FunD K name qual params body scope [] [] (He.fAd K (x, none)) fd) : fd.code = .ref c := by
  obtain ⟨oc, od, dV, kV, doc, pm, an, cdv, ct, osl, rfl, lk, hcd, _, _⟩ := F.ex
  unfold PySem.W.tabIn at ht
  split at ht
  · rename_i f hn
    have e : He.fAd K (x, none) = f := by
      show He.ga K x = f
      unfold He.ga
      rw [hn]
    rw [e] at lk
    rw [lk] at ht
    cases cdv with
    | ref c' =>
      dsimp only [PySem.W.fnOf] at ht
      split at ht
      · split at ht
        · cases ht
          rfl
        · cases ht
      · cases ht
    | _ => cases ht
  · cases ht
/-! ### the end -/
/-- a script's value -/
def IsScr (d : D) (ns : List Int) : Prop := d = .scr ns ∨ d = .lst (ns.map .int)
theorem rds_ints {c : Cn} {G : GW} {H : Hp} : ∀ ns : List Int, RDs c G H (ns.map .int) (ns.map V.int)
  | [] => RDs.nil
  | n :: ns => RDs.cons (by unfold RD; rfl) (rds_ints ns)
/-- the program at a law's head -/
def pgOf (P : Program) (w : World) (K : PySem.W.Frag) (mg : Str → Option Value) (base : Heap) (T : List (Addr × Str)) (cod : Option (Addr × Str)) : Pg := { P := P, w := w, K := K, mg := mg, base := base, T := T, cod := cod }
theorem law_sp {P : Program} {w : World} {K : PySem.W.Frag} {mg : Str → Option Value} {base : Heap} {T : List (Addr × Str)} {cod : Option (Addr × Str)} {H : Hp} {a : Addr} {ns : List Int} {F : Fn} (hno : noList K = true) (hT : ∀ q ∈ T, H q.1 = some (.tbl #[])) (hS : SqL K H a (ns.map V.int))
    (hF : ∀ d, IsScr d ns → ∃ M, F [d] [] = .ok (.bl true) M) : spOf (pgOf P w K mg base T cod) F [.ref a] H (fun v _ => v = .bl true) (fun _ _ _ => False) := by
  have go : ∀ (d : D) (o : HO), IsScr d ns → H a = some o → (∀ ps, o ≠ .tbl ps) → RD (ent (pgOf P w K mg base T cod) ⟨fun b => b = a, []⟩ H) ⟨fun b => b = a, []⟩ H d (.ref a) → spOf (pgOf P w K mg base T cod) F [.ref a] H (fun v _ => v = .bl true) (fun _ _ _ => False) := fun d o hd ho hn hr => by
    obtain ⟨M, hM⟩ := hF d hd
    refine ⟨⟨fun b => b = a, []⟩, [], [d], ?_, RDs.cons hr RDs.nil, ?_⟩
    · refine { len := rfl, at_ := (fun i v e => by simp at e), sep := (fun i j v w a e => by simp at e), hlen := rfl, nd := List.nodup_nil, obj := (fun n a o h1 => by simp at h1), dis := (fun b hb => by cases hb), live := (fun b hb => ⟨o, by rw [hb]; exact ho⟩), keep := fun b u h1 _ => (noTbl_some h1).1, pre := List.prefix_refl _, new := (fun b hb => by cases hb), newF := fun b hb => .inl hb, nF := fun b ps hb e => ?_, nt := fun b ps e => (noTbl_some e).2 ps rfl, tabs := fun q hq => LamX.TabS.nil (hT q hq) }
      rw [hb, ho] at e
      exact hn ps (Option.some.inj e)
    · rw [hM]
      intro G' H' v _ _ q
      unfold RD at q
      exact q
  rcases hS with (h | ⟨o, h⟩) | ⟨o, its, n, h1, h2, h3, h4, _⟩
  · refine go (.lst (ns.map .int)) _ (.inr rfl) h (fun ps z => by cases z) ?_
    unfold RD
    exact ⟨a, _, rfl, rfl, h, rds_ints ns⟩
  · refine go (.scr ns) _ (.inl rfl) h (fun ps z => by cases z) ?_
    unfold RD
    exact ⟨a, o, rfl, rfl, h⟩
  · exact (noList_ok hno h1 h2 h4).elim
theorem law_at {l : PySem.W.OpenLaw} {n k : Nat} {x : Str} {w : World} {K : PySem.W.Frag} {mg : Str → Option Value} {fa : Addr} {h : Heap} {fd : FuncData} {F : Fn} {qual tq : Str} {c P : Addr} (hb : ∀ (s : Shared) (u : Value), BindsTo s fd ⟨[u], []⟩ [(x, u)]) (hno : noList K = true)
    (h1 : h.get? P = some { cls := .none, data := .fields #[] }) (h2 : K.lookup P = none) (h3 : PySem.W.CodeHd h c P)
    (hm : ∀ (ns : List Int) (d : D), ns.length ≤ n → (∀ z ∈ ns, Builtin.Int.intBits z ≤ 1048576) → IsScr d ns → ∃ M, F [d] [] = .ok (.bl true) M)
    (hF : ∀ base : Heap, K.In base → base.Ns mainGlobals mg → LamX.TabB base mg c P → FnOk l.prog w K mg base (L2.CX l.prog w) k fa fd [x] (fun vs H Q E => vs.length = 1 ∧ spOf (pgOf l.prog w K mg base [(P, tq)] (some (c, qual))) F vs H Q E)) :
    LamX.LawAtS l w K (L2.CX l.prog w) k n x mg fa h := by
  refine ⟨fd, [(c, P)], fun vs H Q E => vs.length = 1 ∧ spOf (pgOf l.prog w K mg h [(P, tq)] (some (c, qual))) F vs H Q E, ?_, ?_, ?_, hb, ?_, ?_⟩
  · intro p hp
    rw [List.mem_singleton.mp hp]
    exact h1
  · intro p hp
    rw [List.mem_singleton.mp hp]
    exact h2
  · intro p hp
    rw [List.mem_singleton.mp hp]
    exact h3
  · intro H a ns hl hz hT hS
    refine ⟨rfl, law_sp hno ?_ hS fun d hd => hm ns d hl hz hd⟩
    intro q hq
    rw [List.mem_singleton.mp hq]
    exact hT (c, P) (List.mem_singleton_self _)
  · intro base hB hN hTB
    exact hF base hB hN (hTB (c, P) (List.mem_singleton_self _))
end Ev

set_option maxHeartbeats 2000000
/-! Ev25: the join. -/
namespace Ev
open PySem PySem.Spec PyProof.Rows L2

/-- the same program otherwise looked at -/
structure Pg.Same (p p' : Pg) : Prop where
  P : p'.P = p.P
  w : p'.w = p.w
  K : p'.K = p.K
  mg : p'.mg = p.mg
  base : p'.base = p.base
structure Pg.Alike (p p' : Pg) : Prop extends Pg.Same p p' where
  lam : p'.lam = p.lam
  T : p'.T = p.T
section
variable {p p' : Pg} {j k : Nat} {x C : String} {y m : Str} {F : Fn}
theorem FnAt.re (h : p.Alike p') (f : FnAt p k y F) : FnAt p' k y F := by
  obtain ⟨P, w, K, mg, base, ex, lam, T, an, act, cod⟩ := p
  obtain ⟨P', w', K', mg', base', ex', lam', T', an', act', cod'⟩ := p'
  obtain ⟨⟨h1, h2, h3, h4, h5⟩, h6, h7⟩ := h
  dsimp only at h1 h2 h3 h4 h5 h6 h7
  subst h1 h2 h3 h4 h5 h6 h7
  exact f
theorem MtAt.re (h : p.Alike p') (f : MtAt p k C m F) : MtAt p' k C m F := by
  obtain ⟨P, w, K, mg, base, ex, lam, T, an, act, cod⟩ := p
  obtain ⟨P', w', K', mg', base', ex', lam', T', an', act', cod'⟩ := p'
  obtain ⟨⟨h1, h2, h3, h4, h5⟩, h6, h7⟩ := h
  dsimp only at h1 h2 h3 h4 h5 h6 h7
  subst h1 h2 h3 h4 h5 h6 h7
  exact f
theorem MkAt.re (h : p.Alike p') (f : MkAt p k x F) : MkAt p' k x F := by
  obtain ⟨P, w, K, mg, base, ex, lam, T, an, act, cod⟩ := p
  obtain ⟨P', w', K', mg', base', ex', lam', T', an', act', cod'⟩ := p'
  obtain ⟨⟨h1, h2, h3, h4, h5⟩, h6, h7⟩ := h
  dsimp only at h1 h2 h3 h4 h5 h6 h7
  subst h1 h2 h3 h4 h5 h6 h7
  exact f
theorem FnAt.mono (f : FnAt p j y F) (h : j ≤ k) : FnAt p k y F := by
  obtain ⟨f, h1, h2, h3⟩ := f
  exact ⟨f, h1, h2, h3.mono (by omega)⟩
theorem MtAt.mono (f : MtAt p j C m F) (h : j ≤ k) : MtAt p k C m F := by
  obtain ⟨f, h1, h2, h3⟩ := f
  exact ⟨f, h1, h2, h3.mono (by omega)⟩
theorem MkAt.mono (f : MkAt p j x F) (h : j ≤ k) : MkAt p k x F := by
  obtain ⟨f, h1, h2, h3⟩ := f
  exact ⟨f, h1, h2, h3.mono (by omega)⟩
/-- a def that never ends well -/
def badFn : Fn := fun _ _ => .bad
theorem spBad {vs : List V} {H : Hp} {Q : VK} {E : XK} (h : spOf p badFn vs H Q E) : False := by
  obtain ⟨G, M, ds, _, _, h⟩ := h
  exact h
theorem fnr_bad {f : Addr} : FnR p.P p.w p.K p.mg p.base (L2.CX p.P p.w) k f (spOf p badFn) := fun A outer s H us vs Q E hr e0 r hs => (spBad hs).elim
/-- what a def's text must say: its scope, its parameters -/
structure DefOk (Γ : NE) (ps : List Str) (scope : Scope) : Prop where
  S : FnScope Γ.N ps scope
  sc : ScOk Γ scope
def defOkB (Γ : NE) (ps : List Str) (scope : Scope) : Bool := C8.scC Γ.N ps scope && scOkB Γ scope
theorem defOk_by {Γ : NE} {ps : List Str} {scope : Scope} (h : defOkB Γ ps scope = true) : DefOk Γ ps scope := by
  obtain ⟨h1, h2⟩ := Bool.and_eq_true_iff.mp h
  exact ⟨C8.fnScope_by h1, scOkB_ok h2⟩
section
variable {name qual : Str} {params : Arguments} {body : List Stmt} {scope : Scope} {ps : List Str} {Γ Γ0 : NE} {S : SM} {f : Addr} {fd : FuncData}
theorem DefOk.at (d : DefOk Γ0 ps scope) (h : Γ = { Γ0 with k := Γ.k }) : DefOk Γ ps scope := by
  refine ⟨?_, d.sc.at h⟩
  rw [h]
  exact d.S
/-- parameters without defaults -/
def PlainPs (params : Arguments) (ps : List Str) : Prop := ∀ (x qual : Str) (body : List Stmt) (scope : Scope) (kV doc pm : Value) (an : Option Addr) (cdv ct : Value) (us : List Value), us.length = ps.length → bindArgs (PySem.W.fnOf x qual params body scope .none kV doc pm an cdv ct) ⟨us, []⟩ = pure (ps.zip us)
theorem bindsP {K : PySem.W.Frag} (F : FunD K name qual params body scope [] [] f fd) (h : PlainPs params ps) : Binds K fd ps [] := FunD.bindsN F fun kV doc pm an cdv ct us hl => h _ _ _ _ _ _ _ _ _ _ _ hl
theorem bindsPA {K : PySem.W.Frag} (F : FunD K name qual params body scope [] [] f fd) (h : PlainPs params ps) (s : Shared) (us : List Value) (hl : us.length = ps.length) : BindsTo s fd ⟨us, []⟩ (ps.zip us) := FunD.bindsA F (fun kV doc pm an cdv ct us hl => h _ _ _ _ _ _ _ _ _ _ _ hl) s us hl
theorem fnAt_of (F : ∃ fd, FunD p.K name qual params body scope [] [] f fd) (hm : p.mg y = some (.ref f)) (b : PlainPs params ps) (d : DefOk Γ0 ps scope) (hΓ : Γ = { Γ0 with k := Γ.k }) (hk : Γ.k = k) (hcm : Γ.calm = true) (hex : p.ex = none) (hlam : p.lam = none) (hcod : p.cod = none) (hs : SSs p Γ body S) :
    FnAt p (k + 1) y (mkFn Γ.N.length ps.length S) := by
  obtain ⟨fd, F⟩ := F
  have d' := d.at hΓ
  refine ⟨f, hm, F.kp, ?_⟩
  have := fn_at F d'.S (bindsP F b) d'.sc hcm hex hlam (fun a q e => by rw [hcod] at e; cases e) hs
  rw [hk] at this
  exact this
theorem mtAt_of (F : ∃ fd, FunD p.K name qual params body scope [] [] f fd) (hc : Cls p.K (He.ga p.K (Str.ofString C))) (hm : Meth p.K (He.ga p.K (Str.ofString C)) m f) (b : PlainPs params ps) (d : DefOk Γ0 ps scope) (hΓ : Γ = { Γ0 with k := Γ.k }) (hk : Γ.k = k) (hcm : Γ.calm = true) (hex : p.ex = none) (hlam : p.lam = none) (hcod : p.cod = none) (hs : SSs p Γ body S) :
    MtAt p (k + 1) C m (mkFn Γ.N.length ps.length S) := by
  obtain ⟨fd, F⟩ := F
  have d' := d.at hΓ
  refine ⟨f, hc, hm, ?_⟩
  have := fn_at F d'.S (bindsP F b) d'.sc hcm hex hlam (fun a q e => by rw [hcod] at e; cases e) hs
  rw [hk] at this
  exact this
theorem mkAt_of (F : ∃ fd, FunD p.K name qual params body scope [] [] f fd) (hm : p.mg (Str.ofString x) = some (.ref (He.ga p.K (Str.ofString x)))) (hk' : Mk p.K (He.ga p.K (Str.ofString x)) f) (b : PlainPs params ps) (d : DefOk Γ0 ps scope) (hΓ : Γ = { Γ0 with k := Γ.k }) (hk : Γ.k = k) (hcm : Γ.calm = true) (hex : p.ex = none) (hlam : p.lam = none) (hcod : p.cod = none) (hs : SSs p Γ body S) :
    MkAt p (k + 1) x (mkFn Γ.N.length ps.length S) := by
  obtain ⟨fd, F⟩ := F
  have d' := d.at hΓ
  refine ⟨f, hm, hk', ?_⟩
  have := fn_at F d'.S (bindsP F b) d'.sc hcm hex hlam (fun a q e => by rw [hcod] at e; cases e) hs
  rw [hk] at this
  exact this
end
theorem LamSt.at {Γ Γ0 : NE} {scope : Scope} (L : LamSt Γ0 scope) (h : Γ0.cap = Γ.cap) : LamSt Γ scope := ⟨L.kind, L.co, L.gen, L.own, fun y hy e => by rw [← h]; exact L.free y hy e⟩
theorem sw_cell {env : Env} {elt : Expr} {gens : List Comprehension} {scope : Scope} {y : Str} {py pos : Pos} {line : Nat} (h : env.scope.names.lookup y = some .cell ∨ env.scope.names.lookup y = some .free) : swapsWith (.ListComp elt gens scope pos) (some (.Name y py)) line env = pure false := by
  have e : (env.kindOf y == some .local) = false := by
    have z : env.kindOf y = env.scope.names.lookup y := rfl
    rw [z]
    rcases h with h | h <;> rw [h] <;> rfl
  unfold swapsWith
  dsimp only
  rw [e, Bool.and_false, Bool.false_and, Bool.false_and]
/-- y = [..], y one that an inner block captures -/
theorem af_sfC {Γ : NE} {i : Nat} {y : Str} {elt : Expr} {gens : List Comprehension} {scope : Scope} {pos py spos : Pos} {m : PM (List D)} (hN : Γ.N[i]? = some y) (hi : i ∈ Γ.st) (hc : y ∈ Γ.cap) (he : SF p Γ (.ListComp elt gens scope pos) m) : AF p Γ (.Assign [.Name y py] (.ListComp elt gens scope pos) spos) i m := by
  intro X ok W tk c hcn
  obtain ⟨l1, l2⟩ := ok.sto i hi y hN
  exact ps_set (i := i) (by rw [ok.N]; exact ok.nd) (by rw [ok.N]; exact hN) l1 (he X ok W tk c hcn) (sw_cell (ok.cap y hc)) l2
theorem initB_ok {x : String} {K : PySem.W.Frag} (h : initB x K = true) : PySem.W.findIn K (.ref (He.ga K (Str.ofString x))) "__init__" = some (some (.ref (He.ma K (He.ga K (Str.ofString x)) "__init__"))) ∧ PySem.W.typeIn K (.ref (He.ma K (He.ga K (Str.ofString x)) "__init__")) = some (.type "function") := by
  unfold initB at h
  simp only [Bool.and_eq_true, decide_eq_true_eq] at h
  exact h
/-- the call of the lambda, by name -/
theorem se_actE {Γ : NE} {a : Str} {act : List D → List MO → OutC} {p1 p2 : Pos} (hcm : Γ.calm = true) (han : p.an = a) (hact : p.act = act) (hl : ∃ l, p.lam = some l) : SE p Γ (.Call (.Name a p1) [] [] p2) (eAct act) := by
  subst han hact
  exact se_act hcm hl
end
end Ev

set_option maxHeartbeats 2000000
/-! Ev26: zip of a text and a tuple. -/
namespace Ev
open PySem PySem.Spec PyProof.Rows L2

def ItzS (K : PySem.W.Frag) (z : Str) (b : Addr) (m : Nat) : It :=
  ⟨fun i H => ∃ (ys : List V) (n : Nat) (y : V), SqT K H b ys ∧ ys.length = m ∧ z.cps[i]? = some n ∧ ys[i]? = some y,
    fun i H v H' => ∃ (T : Addr) (n : Nat) (y : V), v = .ref T ∧ H T = none ∧ H' = upd H T (.tup [.str ⟨#[n]⟩, y]) ∧ z.cps[i]? = some n ∧ ∀ ys, SqT K H b ys → ys[i]? = some y,
    fun i H => ∃ ys : List V, SqT K H b ys ∧ ys.length = m ∧ (z.cps.size ≤ i ∨ m ≤ i)⟩
theorem turn_zipS {P : Program} {w : World} {K : PySem.W.Frag} {elts : List Expr} {kk : Nat} {tpos : Pos} {b z TI TO i1 i2 : Addr} {x : Str} {t : Tok} {m : Nat} (D : ZipSep2 z TI TO i1 i2 [i1] [i2, b]) :
    Turn P w K (.Tuple elts kk tpos) (ItzS K x b m) [z, TI, TO, i1, i2] z (fun i h => (i ≤ x.cps.size ∧ i ≤ m) ∧ IsZip h z TI TO .none ∧ IsTupOf2 h TI (.ref i1) (.ref i2) ∧ (∃ x y, IsTupOf2 h TO x y) ∧ h.IsStrIter i1 (strIterType x) x t i ∧ h.IsTupleIter i2 b i) where
  mem := by simp
  obj := fun i h st c hc => by
    obtain ⟨_, hz, hTI, ⟨x, y, hTO⟩, ⟨o1, e1, _, d1⟩, ⟨o2, e2, _, d2⟩⟩ := st
    have e' : c = z ∨ c = TI ∨ c = TO ∨ c = i1 ∨ c = i2 := by simpa using hc
    rcases e' with q | q | q | q | q <;> rw [q]
    · exact ⟨_, hz, fun v q => nomatch q⟩
    · exact ⟨_, hTI, fun v q => nomatch q⟩
    · exact ⟨_, hTO, fun v q => nomatch q⟩
    · exact ⟨o1, e1, fun v q => by rw [d1] at q; cases q⟩
    · exact ⟨o2, e2, fun v q => by rw [d2] at q; cases q⟩
  keep := fun i h h' st k => by
    obtain ⟨hle, hz, hTI, ⟨x, y, hTO⟩, ⟨o1, e1, r1⟩, h2⟩ := st
    exact ⟨hle, k z (by simp) _ hz, k TI (by simp) _ hTI, ⟨x, y, k TO (by simp) _ hTO⟩, ⟨o1, k i1 (by simp) _ e1, r1⟩, h2.at fun o q => k i2 (by simp) o q⟩
  item := by
    intro X hP hw hK hc i pins s σ H E I hf st hg
    subst hP hw hK
    obtain ⟨hle, hz, hTI, ⟨x0, y0, hTO⟩, h1, h2⟩ := st
    obtain ⟨ys, n, y, hqy, hml, hx, hy⟩ := hg
    obtain ⟨its2, rv2, p2, _⟩ := I.tuple hqy
    obtain ⟨u2, hu2, ru2⟩ := rv2.get hy
    have hzl : z < s.heap.objs.size := Heap.lt_size hz
    have hh : X.A.in1.handled = none := I.ok.hd hc
    have bi2 : b ≠ i2 := fun q => by
      obtain ⟨o, e1, e2, _⟩ := h2
      obtain ⟨o', f1, f2, _⟩ := p2
      rw [q, e1] at f1
      cases f1
      rw [e2] at f2
      injection f2 with f2
      revert f2
      decide
    have l1 : i < x.cps.size := by
      rcases Nat.lt_or_ge i x.cps.size with h | h
      · exact h
      · rw [Array.getElem?_eq_none h] at hx
        cases hx
    have l2 : i < its2.toArray.size := by
      have := (List.getElem?_eq_some_iff.mp hu2).1
      simpa using this
    refine wpAny_pyNext_zipD2_item D (Draws.text hh i1 x t) (Draws.tuple hh i2 b bi2 its2.toArray) hz hTI hTO h1 ⟨h2, p2⟩ l1 l2 fun v1 v2 h' tk y1 y2 z' TO' h1' h2' hT hsz hk => ?_
    obtain ⟨cc, tt, hcc, rfl⟩ := y1
    rw [hx] at hcc
    cases hcc
    have y2' : its2[i]? = some v2 := by simpa using y2
    rw [hu2] at y2'
    cases y2'
    refine ⟨_, rfl, wpAny_letOwnedTupleGo_zip (s := { s with heap := h', toks := tk }) z' fun h'' z'' sb => ?_⟩
    have hT2 : h''.get? s.heap.objs.size = some { cls := .type "tuple", data := .seq #[.str ⟨#[n]⟩ tt, u2] } := (sb.2 _ (Nat.ne_of_gt hzl)).trans hT
    have new : ObjOk X.prog X.w (upd H s.heap.objs.size (.tup [.str ⟨#[n]⟩, y])) h'' s.heap.objs.size (.tup [.str ⟨#[n]⟩, y]) :=
      ⟨by show 2 ≤ sizeLine; decide, [.str ⟨#[n]⟩ tt, u2], .cons ⟨tt, rfl⟩ (.cons ru2 .nil), ⟨_, hT2, rfl, _, rfl⟩⟩
    have I1 : Inv X pins σ (upd H s.heap.objs.size (.tup [.str ⟨#[n]⟩, y])) { s with heap := h'', toks := tk } :=
      I.turnedNew (t' := tk) (ch := [z, TI, TO, i1, i2]) (fun c o hb q => (sb.2 c (fun q' => hb (by simp [q']))).trans (hk c o (fun q' => hb (by simp [q'])) (fun q' => hb (by simp [q'])) (fun q' => hb (by simp [q'])) (fun q' => hb (by simp [q'])) q)) hf (Nat.le_refl _) new
    refine ⟨.ref s.heap.objs.size, _, I1, rfl, ⟨_, n, y, rfl, I.hok.fresh (Nat.le_refl _), rfl, hx, fun l hl => by rw [I.tuple_inj hl hqy]; exact hy⟩, ⟨⟨l1, by have := (List.getElem?_eq_some_iff.mp hy).1; omega⟩, z'', ?_, ⟨.str ⟨#[n]⟩ tt, u2, ?_⟩, ?_, ?_⟩, fun c hcm => ?_⟩
    · exact (sb.2 _ D.TIz).trans (hk _ _ D.TIz D.TITO D.TIi1 D.TIi2 hTI)
    · exact (sb.2 _ D.TOz).trans TO'
    · exact h1'.extBut sb.extBut D.zi1.symm
    · exact h2'.1.at fun o q => (sb.2 _ D.zi2.symm).trans q
    · have hlt : c < s.heap.objs.size := by
        have e' : c = z ∨ c = TI ∨ c = TO ∨ c = i1 ∨ c = i2 := by simpa using hcm
        rcases e' with q | q | q | q | q <;> rw [q]
        · exact hzl
        · exact Heap.lt_size hTI
        · exact Heap.lt_size hTO
        · obtain ⟨_, e1, _⟩ := h1; exact Heap.lt_size e1
        · obtain ⟨_, e2, _⟩ := h2; exact Heap.lt_size e2
      rw [upd_ne (Nat.ne_of_lt hlt)]
      exact (hf c hcm).1
  done := by
    intro X hP hw hK hc i pins s σ H E I hf st hg
    subst hP hw hK
    obtain ⟨hle, hz, hTI, ⟨x0, y0, hTO⟩, h1, h2⟩ := st
    obtain ⟨ys, hqy, hml, hend⟩ := hg
    obtain ⟨its2, rv2, p2, _⟩ := I.tuple hqy
    have hh : X.A.in1.handled = none := I.ok.hd hc
    have bi2 : b ≠ i2 := fun q => by
      obtain ⟨o, e1, e2, _⟩ := h2
      obtain ⟨o', f1, f2, _⟩ := p2
      rw [q, e1] at f1
      cases f1
      rw [e2] at f2
      injection f2 with f2
      revert f2
      decide
    have e2 : its2.toArray.size = ys.length := by rw [List.size_toArray, rv2.length]
    refine wpAny_pyNext_zipD2_end D (Draws.text hh i1 x t) (Draws.tuple hh i2 b bi2 its2.toArray) hz hTI hTO h1 ⟨h2, p2⟩ hle.1 (by omega) (by omega) fun h' tk hk => ⟨rfl, I.turnedL (t' := tk) (ch := [z, TI, TO, i1, i2]) (fun c o hb q =>
      hk c o (fun q' => hb (by simp [q'])) (fun q' => hb (by simp [q'])) (fun q' => hb (by simp [q'])) (fun q' => hb (by simp [q'])) q) hf⟩
  self := fun A i s Q E st h => wpAny_pyIter_zip st.2.1 h
theorem ne_nat {a b : Nat} (h : a ≠ b) : ¬ (a : Addr) = b := h
theorem zipSep_new (I b : Nat) (h : b < I) : ZipSep2 (I + 4) (I + 2) (I + 3) I (I + 1) [I] [I + 1, b] := by
  have n2 : ∀ x y z : Nat, x ≠ y → x ≠ z → (x : Addr) ∉ ([y, z] : List Addr) := fun x y z h1 h2 h => by
    rcases List.mem_cons.mp h with h | h
    · exact h1 h
    · exact h2 (List.mem_singleton.mp h)
  have n1 : ∀ x y : Nat, x ≠ y → (x : Addr) ∉ ([y] : List Addr) := fun x y h1 h => h1 (List.mem_singleton.mp h)
  exact { TIz := ne_nat (by omega), TOz := ne_nat (by omega), TITO := ne_nat (by omega), TIi1 := ne_nat (by omega), mem1 := List.mem_singleton_self _, zf1 := n1 _ _ (by omega), Tf1 := n1 _ _ (by omega), TIi2 := ne_nat (by omega), mem2 := List.mem_cons_self, zf2 := n2 _ _ _ (by omega) (by omega), Tf2 := n2 _ _ _ (by omega) (by omega), sep1_2 := n2 _ _ _ (by omega) (by omega), sep2_1 := n1 _ _ (by omega) }
def iZipS (K : PySem.W.Frag) (ta : TA) : TI := fun σ H R => ta σ H fun vs H1 => ∃ (z : Str) (b : Addr) (ys : List V), vs = [.str z, .ref b] ∧ SqT K H1 b ys ∧ R (ItzS K z b ys.length) H1
theorem pi_zipS {X : Cx} {e e2 : Expr} {ta : TA} {p pos tpos : Pos} {elts : List Expr} {kk : Nat} (hg : Gl X "zip") (hm : X.mg "zip" = none) (ha : PA X [e, e2] ta)
    (hs : starEach [e, e2] X.env = (false, eval e X.env) :: starEach [e2] X.env) (hpl : (backTo pos (starEach [e2] X.env)).any (·.1) = false) :
    PI X (.Tuple elts kk tpos) (.Call (.Name "zip" p) [e, e2] [] pos) (iZipS X.K ta) := by
  refine ⟨fun pins s σ H R I h => ?_⟩
  refine Call_ (ld_blt I hg hm PyProof.Rows.boot_zip (PyProof.Rows.callWith_type1 (thn (ha.run pos pins s σ H _ I h) fun us s1 ⟨vs, H1, I1, r1, q1⟩ => ?_) hs hpl))
  obtain ⟨z, b, ys, ex, hqy, q⟩ := q1
  subst ex
  cases r1 with
  | cons r rr =>
    cases rr with
    | cons r' rr =>
      cases rr
      obtain ⟨t, rfl⟩ := r
      cases r'
      obtain ⟨its2, rv2, p2, _⟩ := I1.tuple hqy
      obtain ⟨o2, ho2, _⟩ := id p2
      refine zip_begins2 (begins_text z t) (begins_tuple b its2.toArray) trivial p2 fun h' hz hTI hTO g1 g2 hsz hk => wpAny_pyIter_zip hz ?_
      have I2 : Inv X pins σ H1 { s1 with heap := h' } := I1.kept (t' := s1.toks) hk
      refine ⟨s1.heap.objs.size + 4, [s1.heap.objs.size + 4, s1.heap.objs.size + 2, s1.heap.objs.size + 3, s1.heap.objs.size, s1.heap.objs.size + 1], _, _, H1, rfl, I2, turn_zipS (x := z) (t := t) (zipSep_new s1.heap.objs.size b (Heap.lt_size ho2)), ⟨⟨Nat.zero_le _, Nat.zero_le _⟩, hz, hTI, ⟨_, _, hTO⟩, ⟨_, g1, rfl, rfl⟩, ⟨_, g2, rfl, rfl⟩⟩, fun c hcm => ?_, q⟩
      have e' : c = s1.heap.objs.size + 4 ∨ c = s1.heap.objs.size + 2 ∨ c = s1.heap.objs.size + 3 ∨ c = s1.heap.objs.size ∨ c = s1.heap.objs.size + 1 := by simpa using hcm
      have hle : s1.heap.objs.size ≤ c := by
        rcases e' with z | z | z | z | z
        · rw [z]; exact Nat.le_add_right _ _
        · rw [z]; exact Nat.le_add_right _ _
        · rw [z]; exact Nat.le_add_right _ _
        · rw [z]; exact Nat.le_refl _
        · rw [z]; exact Nat.le_add_right _ _
      exact I1.fpOk hle (I1.hok.fresh hle)
/-- zip(text, tuple) -/
def iZs (ms : PM (List D)) : PM Src := ms >>= fun ds => match ds with
  | [.str z, .tup ys] => pure (.zip (.str z) (.tup ys))
  | _ => stuck
theorem it_zipS {c : Cn} {G : GW} {H : Hp} {z : String} {zs : List D} {b : Addr} (h2 : RD c G H (.tup zs) (V.ref b)) : ItOk c.K c.w c.lam G H (ItzS c.K (Str.ofString z) b zs.length) (.zip (.str z) (.tup zs)) := by
  intro c2 hK hw hl G2 H2 s2 σ2 xs i e r2 q
  have q : some (List.zipWith pairD (z.toList.map fun ch => .str (String.singleton ch)) zs) = some xs := q
  cases q
  obtain ⟨b', ts, eb, j1, j2⟩ := tp_later h2 hK hw hl e (show tupNow (.tup zs) = some zs from rfl)
  cases eb
  rw [hK] at j1
  have hcs : (Str.ofString z).cps.size = z.toList.length := by rw [← Array.length_toList, ofString_cps, List.length_map]
  rw [zip_get, List.getElem?_map]
  have lt := j2.length
  cases ei : z.toList[i]? with
  | none => exact ⟨ts, j1, lt, .inl (by rw [hcs]; exact List.getElem?_eq_none_iff.mp ei)⟩
  | some ch =>
    cases ej : zs[i]? with
    | none => exact ⟨ts, j1, lt, .inr (List.getElem?_eq_none_iff.mp ej)⟩
    | some d' =>
      obtain ⟨u, hu, ru⟩ := j2.get ej
      have hn : (Str.ofString z).cps[i]? = some ch.toNat := by rw [← Array.getElem?_toList, ofString_cps, List.getElem?_map, ei]; rfl
      refine ⟨⟨ts, ch.toNat, u, j1, lt, hn, hu⟩, fun y H3 hy => ?_⟩
      obtain ⟨T, n, u', rfl, hT, rfl, f1, f2⟩ := hy
      have e2 := f2 ts j1
      rw [hu] at e2
      cases e2
      rw [hn] at f1
      cases f1
      obtain ⟨x', r'⟩ := r2.push (.tup [.str ⟨#[ch.toNat]⟩, u]) hT
      refine ⟨_, x', r', ?_⟩
      unfold pairD RD
      refine ⟨T, _, rfl, .inr rfl, upd_same, RDs.cons ?_ (RDs.cons (ru.mono x') RDs.nil)⟩
      unfold RD
      rw [cps_one]
section
variable {p : Pg} {Γ : NE} {a b : Expr} {ms : PM (List D)} {p' pos tpos : Pos} {elts : List Expr} {kk : Nat}
theorem si_zipS (hx : ("zip" : Str) ∈ Γ.glo) (hm : p.mg "zip" = none) (ha : SA p Γ [a, b] ms) (hs : ∀ env, starEach [a, b] env = (false, eval a env) :: starEach [b] env) (hpl : ∀ env, (backTo pos (starEach [b] env)).any (·.1) = false) :
    SI p Γ (.Tuple elts kk tpos) (.Call (.Name "zip" p') [a, b] [] pos) (iZs ms) := by
  intro X ok W tk c hc
  have hK : X.K = c.K := ok.K.trans hc.K.symm
  obtain ⟨g1, g2, g3⟩ := ok.glo _ hx
  refine (pi_zipS g1 (by rw [ok.mg]; exact hm) (ha X ok W tk c hc) (hs _) (hpl _)).weak fun σ H Q h => ?_
  obtain ⟨G, s, r, h⟩ := h
  refine ⟨G, s, r, (Run.bind (R := RDs) h).mono fun vs H1 ⟨G1, s1, ds, x1, r1, q1, h1⟩ => ?_⟩
  split at h1
  · rename_i z ys
    obtain ⟨v, w, rfl, hv, hw⟩ := q1.two
    obtain ⟨b', ts, rfl, j1, j2⟩ := tp_later (c2 := c) hw rfl rfl rfl (.refl _ _) (show tupNow (.tup ys) = some ys from rfl)
    unfold RD at hv
    subst hv
    rw [hK]
    refine ⟨Str.ofString z, b', ts, rfl, j1, ?_⟩
    rw [j2.length]
    exact Run.same (R := RIt) (m := pure (.zip (.str z) (.tup ys))) (a := Src.zip (.str z) (.tup ys)) rfl h1 r1 (it_zipS hw)
  · exact stuck_run h1
end
end Ev

set_option maxHeartbeats 2000000
/-! Ev27: what a denotation comes to: weakest preconditions, for the plain laws. -/
namespace Ev
open PySem

abbrev EX := String → List (String × D) → List MO → Prop
def noEX : EX := fun _ _ _ => False
def WP {α : Type} (m : PM α) (P : α → S → Prop) (E : EX) (s : S) : Prop := match m s with
  | .ok a s' => P a s'
  | .exc c fs s' => E c fs s'.M
  | .bad => False
def CP (o : OutC) (P : D → List MO → Prop) (E : EX) : Prop := match o with
  | .ok d M => P d M
  | .exc c fs M => E c fs M
  | .bad => False
@[simp] theorem CP_ok {d : D} {M : List MO} {P : D → List MO → Prop} {E : EX} : CP (.ok d M) P E ↔ P d M := Iff.rfl
@[simp] theorem CP_exc {c : String} {fs : List (String × D)} {M : List MO} {P : D → List MO → Prop} {E : EX} : CP (.exc c fs M) P E ↔ E c fs M := Iff.rfl
@[simp ↓] theorem CP_def {o : OutC} {P : D → List MO → Prop} {E : EX} : CP o P E ↔ (match o with
  | .ok d M => P d M
  | .exc c fs M => E c fs M
  | .bad => False) := Iff.rfl
theorem CP.mono {o : OutC} {P P' : D → List MO → Prop} {E E' : EX} (h : CP o P E) (k : ∀ d M, P d M → P' d M) (k' : ∀ c fs M, E c fs M → E' c fs M) : CP o P' E' := by
  cases o <;> first | exact k _ _ h | exact k' _ _ _ h | exact h
theorem WP.mono {α : Type} {m : PM α} {P P' : α → S → Prop} {E E' : EX} {s : S} (h : WP m P E s) (k : ∀ a s', P a s' → P' a s') (k' : ∀ c fs M, E c fs M → E' c fs M) : WP m P' E' s := by
  unfold WP at h ⊢
  cases e : m s with
  | ok a s' => rw [e] at h; exact k _ _ h
  | exc c fs s' => rw [e] at h; exact k' _ _ _ h
  | bad => rw [e] at h; exact h
theorem WP.imp {α : Type} {m : PM α} {P P' : α → S → Prop} {E : EX} {s : S} (h : WP m P E s) (k : ∀ a s', P a s' → P' a s') : WP m P' E s := h.mono k fun _ _ _ z => z
theorem CP.imp {o : OutC} {P P' : D → List MO → Prop} {E : EX} (h : CP o P E) (k : ∀ d M, P d M → P' d M) : CP o P' E := h.mono k fun _ _ _ z => z
theorem CP.eq {o : OutC} {d : D} {M : List MO} (h : CP o (fun d' M' => d' = d ∧ M' = M) noEX) : o = .ok d M := by
  cases o with
  | ok a b => obtain ⟨rfl, rfl⟩ := h; rfl
  | exc => exact h.elim
  | bad => exact h.elim
section
variable {α β : Type} {P : α → S → Prop} {E : EX} {s : S} {σ : List SV} {M : List MO}
@[simp ↓] theorem WP_bind {m : PM α} {f : α → PM β} {P : β → S → Prop} : WP (m >>= f) P E s ↔ WP m (fun a s' => WP (f a) P E s') E s := by
  unfold WP
  rw [bind_eq]
  cases m s <;> exact Iff.rfl
theorem WP_bindI {m : PM α} {f : α → PM β} {P : β → S → Prop} {Q : α → S → Prop} (h : ∀ a s', WP (f a) P E s' ↔ Q a s') : WP (m >>= f) P E s ↔ WP m Q E s := by
  rw [WP_bind]
  exact ⟨fun z => z.imp fun a s' => (h a s').mp, fun z => z.imp fun a s' => (h a s').mpr⟩
@[simp ↓] theorem WP_pure {a : α} : WP (pure a) P E s ↔ P a s := Iff.rfl
@[simp ↓] theorem WP_stuck : WP (stuck : PM α) P E s ↔ False := Iff.rfl
@[simp ↓] theorem WP_raise {c : String} {fs : List (String × D)} : WP (raise c fs : PM α) P E s ↔ E c fs s.M := Iff.rfl
@[simp ↓] theorem WP_callM {F : Fn} {ds : List D} {P : D → S → Prop} : WP (callM F ds) P E s ↔ CP (F ds s.M) (fun d M => P d ⟨s.σ, M⟩) E := by
  unfold WP CP callM
  cases F ds s.M <;> exact Iff.rfl
@[simp ↓] theorem WP_eVar {i : Nat} {P : D → S → Prop} : WP (eVar i) P E ⟨σ, M⟩ ↔ (match σ[i]? with
  | some (.val d) => P d ⟨σ, M⟩
  | some (.ul xs) => P (.lst xs) ⟨σ.set i (.val (.lst xs)), M⟩
  | _ => False) := by
  unfold WP eVar
  cases e : σ[i]? with
  | none => simp [e]
  | some v => cases v <;> simp [e]
@[simp ↓] theorem WP_ePeek {i : Nat} {P : D → S → Prop} : WP (ePeek i) P E ⟨σ, M⟩ ↔ (match σ[i]? with
  | some (.val d) => P d ⟨σ, M⟩
  | some (.ul xs) => P (.lst xs) ⟨σ, M⟩
  | _ => False) := by
  unfold WP ePeek
  cases e : σ[i]? with
  | none => simp [e]
  | some v => cases v <;> simp [e]
@[simp ↓] theorem WP_chk {i : Nat} {P : Unit → S → Prop} : WP (chk i) P E ⟨σ, M⟩ ↔ (match σ[i]? with
  | some (.val _) => P () ⟨σ, M⟩
  | some (.ul _) => P () ⟨σ, M⟩
  | some (.ud _) => P () ⟨σ, M⟩
  | _ => False) := by
  unfold WP chk
  cases e : σ[i]? with
  | none => simp [e]
  | some v => cases v <;> simp [e]
@[simp ↓] theorem WP_chkL {i : Nat} {P : Unit → S → Prop} : WP (chkL i) P E ⟨σ, M⟩ ↔ (match σ[i]? with
  | some (.ul _) => P () ⟨σ, M⟩
  | some (.val d) => (match vw M d with
    | .lst _ => P () ⟨σ, M⟩
    | _ => False)
  | _ => False) := by
  unfold WP chkL
  cases e : σ[i]? with
  | none => simp [e]
  | some v =>
    cases v with
    | val d => simp only [e]; cases vw M d <;> simp
    | _ => simp [e]
@[simp ↓] theorem WP_setSlot {i : Nat} {v : SV} {P : Unit → S → Prop} : WP (setSlot i v) P E ⟨σ, M⟩ ↔ i < σ.length ∧ P () ⟨σ.set i v, M⟩ := by
  unfold WP setSlot
  by_cases h : i < σ.length
  · simp [h]
  · simp [h]
@[simp ↓] theorem WP_ap1 {f : List MO → D → Option D} {x : D} {P : D → S → Prop} : WP (ap1 f x) P E s ↔ (match f s.M x with
  | some d => P d s
  | none => False) := by
  unfold WP ap1
  cases f s.M x <;> exact Iff.rfl
@[simp ↓] theorem WP_ap1F {f : List MO → D → Option (List D)} {x : D} {P : List D → S → Prop} : WP (ap1F f x) P E s ↔ (match f s.M x with
  | some d => P d s
  | none => False) := by
  unfold WP ap1F
  cases f s.M x <;> exact Iff.rfl
@[simp ↓] theorem WP_ap2 {f : List MO → D → D → Option D} {x y : D} {P : D → S → Prop} : WP (ap2 f x y) P E s ↔ (match f s.M (vw s.M x) (vw s.M y) with
  | some d => P d s
  | none => False) := by
  unfold WP ap2
  cases f s.M (vw s.M x) (vw s.M y) <;> exact Iff.rfl
@[simp ↓] theorem WP_view {d : D} {P : D → S → Prop} : WP (view d) P E s ↔ P (vw s.M d) s := Iff.rfl
@[simp ↓] theorem WP_newRef {o : MO} {P : D → S → Prop} : WP (newRef o) P E ⟨σ, M⟩ ↔ P (.ref M.length) ⟨σ, M ++ [o]⟩ := Iff.rfl
@[simp ↓] theorem WP_sized {ds : List D} {P : List D → S → Prop} : WP (sized ds) P E s ↔ ds.length ≤ 1000 ∧ P ds s := by
  unfold WP sized
  by_cases h : ds.length ≤ 1000 <;> simp [h]
def tupM (ds : List D) : PM D := fun s => if ds.length ≤ 1000 then .ok (.tup ds) s else .bad
theorem WP_tupM {ds : List D} {P : D → S → Prop} : WP (tupM ds) P E s ↔ ds.length ≤ 1000 ∧ P (.tup ds) s := by
  unfold WP tupM
  by_cases h : ds.length ≤ 1000 <;> simp [h]
@[simp ↓] theorem WP_eTup {ms : PM (List D)} {P : D → S → Prop} : WP (eTup ms) P E s ↔ WP ms (fun ds s' => ds.length ≤ 1000 ∧ P (.tup ds) s') E s := by
  have e : eTup ms = ms >>= tupM := rfl
  rw [e, WP_bind]
  simp only [WP_tupM]
@[simp ↓] theorem WP_fCat {x y : D} {P : List D → S → Prop} : WP (fCat x y) P E s ↔ (match vw s.M x, vw s.M y with
  | .lst a, .lst b => a.length + b.length ≤ small ∧ P (a ++ b) s
  | _, _ => False) := by
  unfold WP fCat
  cases vw s.M x <;> cases vw s.M y <;> simp
  rename_i a b
  by_cases h : a.length + b.length ≤ small <;> simp [h]
@[simp ↓] theorem WP_getF {Cs : List String} {f : String} {x : D} {P : D → S → Prop} : WP (getF Cs f x) P E s ↔ (match x with
  | .ref n => (match s.M[n]? with
    | some (.ins C fs) => C ∈ Cs ∧ (match fs.lookup f with
      | some d => P d s
      | none => False)
    | _ => False)
  | _ => False) := by
  unfold WP getF
  cases x with
  | ref n =>
    cases e : s.M[n]? with
    | none => simp [e]
    | some o =>
      cases o with
      | ins C fs =>
        simp only [e]
        by_cases h : C ∈ Cs
        · simp only [h, if_true, true_and]
          cases fs.lookup f <;> simp
        · simp [h]
      | _ => simp [e]
  | _ => simp
@[simp ↓] theorem WP_setF {Cs : List String} {f : String} {d x : D} {P : Unit → S → Prop} : WP (setF Cs f d x) P E ⟨σ, M⟩ ↔ (match x with
  | .ref n => (match M[n]? with
    | some (.ins C fs) => (C ∈ Cs ∧ fs.length < 1000) ∧ P () ⟨σ, M.set n (.ins C (putD f d fs))⟩
    | _ => False)
  | _ => False) := by
  unfold WP setF
  cases x with
  | ref n =>
    cases e : M[n]? with
    | none => simp [e]
    | some o =>
      cases o with
      | ins C fs =>
        simp only [e]
        by_cases h : C ∈ Cs ∧ fs.length < 1000 <;> simp [h]
      | _ => simp [e]
  | _ => simp
@[simp ↓] theorem WP_metOf {ts : List (String × Fn)} {m : String} {x : D} {P : Fn → S → Prop} : WP (metOf ts m x) P E s ↔ (match x with
  | .ref n => (match s.M[n]? with
    | some (.ins C fs) => (match ts.lookup C with
      | some F => (match fs.lookup m with
        | none => P F s
        | some _ => False)
      | none => False)
    | _ => False)
  | _ => False) := by
  unfold WP metOf
  cases x with
  | ref n =>
    cases e : s.M[n]? with
    | none => simp [e]
    | some o =>
      cases o with
      | ins C fs =>
        simp only [e]
        cases ts.lookup C with
        | none => simp
        | some F => cases h : fs.lookup m <;> simp [h]
      | _ => simp [e]
  | _ => simp
@[simp ↓] theorem WP_mutR {n : Nat} {f : List D → Option (List D × D)} {P : D → S → Prop} : WP (mutR n f) P E ⟨σ, M⟩ ↔ (match M[n]? with
  | some (.lst xs) => (match f xs with
    | some (ys, d) => P d ⟨σ, M.set n (.lst ys)⟩
    | none => False)
  | _ => False) := by
  unfold WP mutR
  cases e : M[n]? with
  | none => simp [e]
  | some o =>
    cases o with
    | lst xs => simp only [e]; cases f xs <;> simp
    | _ => simp [e]
@[simp ↓] theorem WP_mutN {i : Nat} {f : List D → Option (List D × D)} {P : D → S → Prop} : WP (mutN i f) P E ⟨σ, M⟩ ↔ (match σ[i]? with
  | some (.ul xs) => (match f xs with
    | some (ys, d) => P d ⟨σ.set i (.ul ys), M⟩
    | none => False)
  | some (.val (.ref n)) => WP (mutR n f) P E ⟨σ, M⟩
  | _ => False) := by
  unfold WP mutN
  cases e : σ[i]? with
  | none => simp [e]
  | some v =>
    cases v with
    | ul xs => simp only [e]; cases f xs <;> simp
    | val d => cases d <;> simp [e]
    | _ => simp [e]
@[simp ↓] theorem WP_mutV {x : D} {f : List D → Option (List D × D)} {P : D → S → Prop} : WP (mutV x f) P E s ↔ (match x with
  | .ref n => WP (mutR n f) P E s
  | _ => False) := by
  unfold mutV
  cases x <;> simp
@[simp ↓] theorem WP_chkV {x : D} {P : Unit → S → Prop} : WP (chkV x) P E s ↔ (match vw s.M x with
  | .lst _ => P () s
  | _ => False) := by
  unfold WP chkV
  cases vw s.M x <;> simp
def slM (x : D) (lo hi : Option Int) : PM D := fun s => match slD x lo hi with
  | some d => .ok d s
  | none => .bad
theorem WP_slM {x : D} {lo hi : Option Int} {P : D → S → Prop} : WP (slM x lo hi) P E s ↔ (match slD x lo hi with
  | some d => P d s
  | none => False) := by
  unfold WP slM
  cases slD x lo hi <;> exact Iff.rfl
@[simp ↓] theorem WP_eSl {m : PM D} {ml mh : PM (Option Int)} {P : D → S → Prop} : WP (eSl m ml mh) P E s ↔ WP m (fun x s1 => WP ml (fun lo s2 => WP mh (fun hi s3 => (match slD x lo hi with
  | some d => P d s3
  | none => False)) E s2) E s1) E s := by
  have e : eSl m ml mh = m >>= fun x => ml >>= fun lo => mh >>= fun hi => slM x lo hi := rfl
  rw [e]
  simp only [WP_bind, WP_slM]
def seqM (x : D) : PM Src := fun s => match seqNow s.M x with
  | some _ => .ok (.seq x) s
  | none => .bad
theorem WP_seqM {x : D} {P : Src → S → Prop} : WP (seqM x) P E s ↔ (seqNow s.M x).isSome ∧ P (.seq x) s := by
  unfold WP seqM
  cases seqNow s.M x <;> simp
@[simp ↓] theorem WP_iSeq {m : PM D} {P : Src → S → Prop} : WP (iSeq m) P E s ↔ WP m (fun x s' => (seqNow s'.M x).isSome ∧ P (.seq x) s') E s := by
  have e : iSeq m = m >>= seqM := rfl
  rw [e, WP_bind]
  simp only [WP_seqM]
@[simp ↓] theorem WP_iR1 {ms : PM (List D)} {P : Src → S → Prop} : WP (iR1 ms) P E s ↔ WP ms (fun ds s' => (match ds with
  | [.int j] => (j < 1000000 ∧ -1000000 < j) ∧ P (.rng 0 j.toNat) s'
  | _ => False)) E s := by
  unfold iR1
  refine WP_bindI fun ds s' => ?_
  split
  · rename_i j
    by_cases hj : j < 1000000 ∧ -1000000 < j
    · rw [if_pos (okRng_iff.mpr hj)]
      simp [hj]
    · rw [if_neg (fun z => hj (okRng_iff.mp z))]
      simp [hj]
  · rename_i hn
    first
    | (split
       · rename_i j
         exact (hn j rfl).elim
       · simp)
    | simp

@[simp ↓] theorem WP_iZp {ms : PM (List D)} {P : Src → S → Prop} : WP (iZp ms) P E s ↔ WP ms (fun ds s' => (match ds with
  | [x, y] => ((lstNow s'.M x).isSome ∧ (lstNow s'.M y).isSome) ∧ P (.zip x y) s'
  | _ => False)) E s := by
  unfold iZp
  refine WP_bindI fun ds s' => ?_
  rcases ds with _ | ⟨x, _ | ⟨y, _ | ⟨z, r⟩⟩⟩
  · simp
  · simp
  · unfold WP
    cases e1 : lstNow s'.M x <;> cases e2 : lstNow s'.M y <;> simp [e1, e2]
  · simp

@[simp ↓] theorem WP_iZs {ms : PM (List D)} {P : Src → S → Prop} : WP (iZs ms) P E s ↔ WP ms (fun ds s' => (match ds with
  | [.str z, .tup ys] => P (.zip (.str z) (.tup ys)) s'
  | _ => False)) E s := by
  unfold iZs
  refine WP_bindI fun ds s' => ?_
  split
  · simp
  · rename_i hn
    first
    | (split
       · rename_i z ys
         exact (hn z ys rfl).elim
       · simp)
    | simp
end
/-! ### statements, expressions by their parts -/
section
variable {P : D → S → Prop} {Pb : Bool → S → Prop} {Ps : List D → S → Prop} {Po : Option D → S → Prop} {E : EX} {s : S} {σ : List SV} {M : List MO}

/-- what follows a statement (looked at when it's reached) -/
def seqK (n : SM) (Po : Option D → S → Prop) (E : EX) : Option D → S → Prop := fun o s' => match o with
  | none => WP n Po E s'
  | some d => Po (some d) s'
@[simp ↓] theorem seqK_none {n : SM} : seqK n Po E none s ↔ WP n Po E s := Iff.rfl
@[simp ↓] theorem seqK_some {n : SM} {d : D} : seqK n Po E (some d) s ↔ Po (some d) s := Iff.rfl
@[simp ↓] theorem WP_sSeq {m n : SM} : WP (sSeq m n) Po E s ↔ WP m (seqK n Po E) E s := by
  unfold sSeq
  exact WP_bindI fun o s' => by cases o <;> exact Iff.rfl
@[simp ↓] theorem WP_sNil : WP sNil Po E s ↔ Po none s := Iff.rfl
@[simp ↓] theorem WP_sRet {m : PM D} : WP (sRet m) Po E s ↔ WP m (fun d s' => Po (some d) s') E s := by unfold sRet; simp
@[simp ↓] theorem WP_sRetN : WP sRetN Po E s ↔ Po (some .non) s := Iff.rfl
@[simp ↓] theorem WP_sExpr {m : PM D} : WP (sExpr m) Po E s ↔ WP m (fun _ s' => Po none s') E s := by unfold sExpr; simp
@[simp ↓] theorem WP_sSet {i : Nat} {m : PM D} : WP (sSet i m) Po E s ↔ WP m (fun d s' => i < s'.σ.length ∧ Po none ⟨s'.σ.set i (.val d), s'.M⟩) E s := by
  unfold sSet
  simp only [WP_bind]
  have h : ∀ (d : D) (s' : S), WP (setSlot i (.val d)) (fun _ s'' => WP (pure none : SM) Po E s'') E s' ↔ i < s'.σ.length ∧ Po none ⟨s'.σ.set i (.val d), s'.M⟩ := fun d s' => by
    obtain ⟨σ, M⟩ := s'
    simp
  simp only [h]
@[simp ↓] theorem WP_sSetU {i : Nat} {m : PM (List D)} : WP (sSetU i m) Po E s ↔ WP m (fun d s' => i < s'.σ.length ∧ Po none ⟨s'.σ.set i (.ul d), s'.M⟩) E s := by
  unfold sSetU
  simp only [WP_bind]
  have h : ∀ (d : List D) (s' : S), WP (setSlot i (.ul d)) (fun _ s'' => WP (pure none : SM) Po E s'') E s' ↔ i < s'.σ.length ∧ Po none ⟨s'.σ.set i (.ul d), s'.M⟩ := fun d s' => by
    obtain ⟨σ, M⟩ := s'
    simp
  simp only [h]
@[simp ↓] theorem WP_eIf {α : Type} {t : PM Bool} {m n : PM α} {P : α → S → Prop} : WP (eIf t m n) P E s ↔ WP t (fun b s' => if b = true then WP m P E s' else WP n P E s') E s := by
  unfold eIf
  exact WP_bindI fun b s' => by cases b <;> simp
@[simp ↓] theorem WP_asB {m : PM D} : WP (asB m) Pb E s ↔ WP m (fun d s' => (match d with
  | .bl b => Pb b s'
  | _ => False)) E s := by
  unfold asB
  exact WP_bindI fun d s' => by cases d <;> exact Iff.rfl

@[simp ↓] theorem WP_tNotM {m : PM Bool} : WP (tNotM m) Pb E s ↔ WP m (fun b s' => Pb (!b) s') E s := by unfold tNotM; simp
@[simp ↓] theorem WP_tOrM {m n : PM Bool} : WP (tOrM m n) Pb E s ↔ WP m (fun b s' => if b = true then Pb true s' else WP n Pb E s') E s := by
  unfold tOrM
  exact WP_bindI fun b s' => by cases b <;> simp
@[simp ↓] theorem WP_tAndM {m n : PM Bool} : WP (tAndM m n) Pb E s ↔ WP m (fun b s' => if b = true then WP n Pb E s' else Pb false s') E s := by
  unfold tAndM
  exact WP_bindI fun b s' => by cases b <;> simp
@[simp ↓] theorem WP_eNot {m : PM D} : WP (eNot m) P E s ↔ WP m (fun d s' => (match d with
  | .bl b => P (.bl (!b)) s'
  | _ => False)) E s := by
  unfold eNot
  exact WP_bindI fun d s' => by cases d <;> exact Iff.rfl

@[simp ↓] theorem WP_eAnd {m n : PM D} : WP (eAnd m n) P E s ↔ WP m (fun d s' => (match d with
  | .bl b => if b = true then WP n P E s' else P (.bl false) s'
  | _ => False)) E s := by
  unfold eAnd
  exact WP_bindI fun d s' => by
    cases d with
    | bl b => cases b <;> simp
    | _ => exact Iff.rfl
@[simp ↓] theorem WP_eNeg {m : PM D} : WP (eNeg m) P E s ↔ WP m (fun d s' => (match d with
  | .int i => P (.int (-i)) s'
  | _ => False)) E s := by
  unfold eNeg
  exact WP_bindI fun d s' => by cases d <;> exact Iff.rfl

@[simp ↓] theorem WP_eChain {f f' : List MO → D → D → Option D} {ma mb mc : PM D} : WP (eChain f f' ma mb mc) P E s ↔ WP ma (fun x s1 => WP mb (fun y s2 => (match f s2.M (vw s2.M x) (vw s2.M y) with
  | some (.bl b) => (if b = true then WP mc (fun w s3 => (match f' s3.M (vw s3.M y) (vw s3.M w) with
      | some d => P d s3
      | none => False)) E s2 else P (.bl false) s2)
  | _ => False)) E s1) E s := by
  unfold eChain
  refine WP_bindI fun x s1 => ?_
  refine WP_bindI fun y s2 => ?_
  rw [WP_bind, WP_ap2]
  cases f s2.M (vw s2.M x) (vw s2.M y) with
  | none => exact Iff.rfl
  | some d =>
    cases d with
    | bl b => cases b <;> simp
    | _ => exact Iff.rfl

@[simp ↓] theorem WP_eBin {f : List MO → D → D → Option D} {ma mb : PM D} : WP (eBin f ma mb) P E s ↔ WP ma (fun x s1 => WP mb (fun y s2 => (match f s2.M (vw s2.M x) (vw s2.M y) with
  | some d => P d s2
  | none => False)) E s1) E s := by unfold eBin; simp
@[simp ↓] theorem WP_eBinP {f : List MO → D → D → Option D} {i : Nat} {mb : PM D} : WP (eBinP f i mb) P E ⟨σ, M⟩ ↔ WP (chk i) (fun _ s1 => WP mb (fun y s2 => WP (ePeek i) (fun x s3 => (match f s3.M (vw s3.M x) (vw s3.M y) with
  | some d => P d s3
  | none => False)) E s2) E s1) E ⟨σ, M⟩ := by unfold eBinP; simp only [WP_bind, WP_ap2]
@[simp ↓] theorem WP_eCall {F : Fn} {ms : PM (List D)} : WP (eCall F ms) P E s ↔ WP ms (fun ds s' => CP (F ds s'.M) (fun d M => P d ⟨s'.σ, M⟩) E) E s := by unfold eCall; simp
@[simp ↓] theorem WP_aNil : WP aNil Ps E s ↔ Ps [] s := Iff.rfl
@[simp ↓] theorem WP_aCons {m : PM D} {ms : PM (List D)} : WP (aCons m ms) Ps E s ↔ WP m (fun d s1 => WP ms (fun ds s2 => Ps (d :: ds) s2) E s1) E s := by unfold aCons; simp
@[simp ↓] theorem WP_e1 {f : List MO → D → Option D} {m : PM D} : WP (e1 f m) P E s ↔ WP m (fun x s' => (match f s'.M x with
  | some d => P d s'
  | none => False)) E s := by unfold e1; simp
@[simp ↓] theorem WP_f1 {f : List MO → D → Option (List D)} {m : PM D} : WP (f1 f m) Ps E s ↔ WP m (fun x s' => (match f s'.M x with
  | some d => Ps d s'
  | none => False)) E s := by unfold f1; simp
@[simp ↓] theorem WP_vName {i : Nat} : WP (vName i) P E s ↔ WP (ePeek i) (fun x s' => P (vw s'.M x) s') E s := by unfold vName; simp
@[simp ↓] theorem WP_vVal {m : PM D} : WP (vVal m) P E s ↔ WP m (fun x s' => P (vw s'.M x) s') E s := by unfold vVal; simp
@[simp ↓] theorem WP_eFz {m : PM (List D)} : WP (eFz m) P E s ↔ WP m (fun xs s' => P (.lst xs) s') E s := by unfold eFz; simp
@[simp ↓] theorem WP_eHp {m : PM (List D)} : WP (eHp m) P E s ↔ WP m (fun xs s' => P (.ref s'.M.length) ⟨s'.σ, s'.M ++ [.lst xs]⟩) E s := by
  unfold eHp
  simp only [WP_bind]
  have h : ∀ (xs : List D) (s' : S), WP (newRef (.lst xs)) P E s' ↔ P (.ref s'.M.length) ⟨s'.σ, s'.M ++ [.lst xs]⟩ := fun _ _ => Iff.rfl
  simp only [h]
@[simp ↓] theorem WP_fLst {ms : PM (List D)} : WP (fLst ms) Ps E s ↔ WP ms (fun ds s' => ds.length ≤ 1000 ∧ Ps ds s') E s := by unfold fLst; simp
@[simp ↓] theorem WP_fAddP {i : Nat} {mb : PM D} : WP (fAddP i mb) Ps E ⟨σ, M⟩ ↔ WP (chk i) (fun _ s1 => WP mb (fun y s2 => WP (ePeek i) (fun x s3 => WP (fCat x y) Ps E s3) E s2) E s1) E ⟨σ, M⟩ := by unfold fAddP; simp only [WP_bind]
@[simp ↓] theorem WP_fAdd {ma mb : PM D} : WP (fAdd ma mb) Ps E s ↔ WP ma (fun x s1 => WP mb (fun y s2 => WP (fCat x y) Ps E s2) E s1) E s := by unfold fAdd; simp only [WP_bind]
@[simp ↓] theorem WP_eIsN {m : PM D} : WP (eIsN m) P E s ↔ WP m (fun d s' => P (.bl (isNon d)) s') E s := by unfold eIsN; simp
@[simp ↓] theorem WP_eNotN {m : PM D} : WP (eNotN m) P E s ↔ WP m (fun d s' => P (.bl (!isNon d)) s') E s := by unfold eNotN; simp
@[simp ↓] theorem WP_sRaise {x : String} : WP (sRaise x) Po E s ↔ E x [] s.M := Iff.rfl
@[simp ↓] theorem WP_sRaise1 {x f : String} {ms : PM (List D)} : WP (sRaise1 x f ms) Po E s ↔ WP ms (fun ds s' => (match ds with
  | [d] => E x [(f, d)] s'.M
  | _ => False)) E s := by
  unfold sRaise1
  exact WP_bindI fun ds s' => by rcases ds with _ | ⟨x, _ | ⟨y, r⟩⟩ <;> exact Iff.rfl

@[simp ↓] theorem WP_eFld {Cs : List String} {f : String} {m : PM D} : WP (eFld Cs f m) P E s ↔ WP m (fun x s' => WP (getF Cs f x) P E s') E s := by unfold eFld; simp only [WP_bind]
@[simp ↓] theorem WP_sFldS {Cs : List String} {f : String} {mv mo : PM D} : WP (sFldS Cs f mv mo) Po E s ↔ WP mv (fun d s1 => WP mo (fun x s2 => WP (setF Cs f d x) (fun _ s3 => Po none s3) E s2) E s1) E s := by unfold sFldS; simp only [WP_bind, WP_pure]
@[simp ↓] theorem WP_eMeth {ts : List (String × Fn)} {m : String} {mo : PM D} {ms : PM (List D)} : WP (eMeth ts m mo ms) P E s ↔ WP mo (fun x s1 => WP (metOf ts m x) (fun F s2 => WP ms (fun ds s3 => CP (F (x :: ds) s3.M) (fun d M => P d ⟨s3.σ, M⟩) E) E s2) E s1) E s := by unfold eMeth; simp only [WP_bind, WP_callM]
@[simp ↓] theorem WP_oNo {Pi : Option Int → S → Prop} : WP oNo Pi E s ↔ Pi none s := Iff.rfl
@[simp ↓] theorem WP_oSm {m : PM D} {Pi : Option Int → S → Prop} : WP (oSm m) Pi E s ↔ WP m (fun d s' => (match d with
  | .int i => Pi (some i) s'
  | _ => False)) E s := by
  unfold oSm
  exact WP_bindI fun d s' => by cases d <;> exact Iff.rfl

@[simp ↓] theorem WP_sAsg {m : PM D} {g : GD} : WP (sAsg m g) Po E s ↔ WP m (fun d s1 => WP (g d) (fun _ s2 => Po none s2) E s1) E s := by unfold sAsg; simp only [WP_bind, WP_pure]
@[simp ↓] theorem WP_gN {i : Nat} {d : D} {Pu : Unit → S → Prop} : WP (gN i d) Pu E s ↔ i < s.σ.length ∧ Pu () ⟨s.σ.set i (.val d), s.M⟩ := by
  obtain ⟨σ, M⟩ := s
  exact WP_setSlot
@[simp ↓] theorem WP_gNone {Pu : Unit → S → Prop} : WP (gNone []) Pu E s ↔ Pu () s := Iff.rfl
@[simp ↓] theorem WP_gMore {g : GD} {gs : List D → PM Unit} {d : D} {ds : List D} {Pu : Unit → S → Prop} : WP (gMore g gs (d :: ds)) Pu E s ↔ WP (g d) (fun _ s' => WP (gs ds) Pu E s') E s := by
  have e : gMore g gs (d :: ds) = (g d >>= fun _ => gs ds) := rfl
  rw [e, WP_bind]
@[simp ↓] theorem WP_gUn_tup {n : Nat} {gs : List D → PM Unit} {ds : List D} {Pu : Unit → S → Prop} : WP (gUn n gs (.tup ds)) Pu E s ↔ ds.length = n ∧ WP (gs ds) Pu E s := by
  unfold WP gUn
  by_cases h : ds.length = n <;> simp [h, vw]
@[simp ↓] theorem WP_gUn_lst {n : Nat} {gs : List D → PM Unit} {ds : List D} {Pu : Unit → S → Prop} : WP (gUn n gs (.lst ds)) Pu E s ↔ ds.length = n ∧ WP (gs ds) Pu E s := by
  unfold WP gUn
  by_cases h : ds.length = n <;> simp [h, vw]
@[simp ↓] theorem WP_eMutN {i : Nat} {f : LM} {ms : PM (List D)} : WP (eMutN i f ms) P E ⟨σ, M⟩ ↔ WP (chkL i) (fun _ s1 => WP ms (fun ds s2 => WP (mutN i (f s2.M ds)) P E s2) E s1) E ⟨σ, M⟩ := by
  unfold eMutN
  exact WP_bindI fun _ s1 => WP_bindI fun ds s2 => Iff.rfl

@[simp ↓] theorem WP_eMutV {mo : PM D} {f : LM} {ms : PM (List D)} : WP (eMutV mo f ms) P E s ↔ WP mo (fun x s1 => WP (chkV x) (fun _ s2 => WP ms (fun ds s3 => WP (mutV x (f s3.M ds)) P E s3) E s2) E s1) E s := by
  unfold eMutV
  exact WP_bindI fun _ s1 => WP_bindI fun ds s2 => WP_bindI fun ds s2 => Iff.rfl

@[simp ↓] theorem WP_sIxN {n : Nat} {mi me : PM D} : WP (sIxN n mi me) Po E s ↔ WP me (fun d s1 => WP (chkL n) (fun _ s2 => WP mi (fun i s3 => WP (mutN n (setIx i d)) (fun _ s4 => Po none s4) E s3) E s2) E s1) E s := by unfold sIxN; simp only [WP_bind, WP_pure]
@[simp ↓] theorem WP_sPar {i j : Nat} {ms : PM (List D)} : WP (sPar i j ms) Po E s ↔ WP ms (fun ds s' => (match ds with
  | [d, e] => (i < s'.σ.length ∧ j < s'.σ.length) ∧ Po none ⟨(s'.σ.set i (.val d)).set j (.val e), s'.M⟩
  | _ => False)) E s := by
  unfold sPar
  refine WP_bindI fun ds s' => ?_
  obtain ⟨σ, M⟩ := s'
  rcases ds with _ | ⟨x, _ | ⟨y, _ | ⟨z, r⟩⟩⟩ <;> simp [and_assoc]

@[simp ↓] theorem WP_eFzD {m : PM (List (KY × D))} : WP (eFzD m) P E s ↔ WP m (fun kvs s' => (match strKeys kvs with
  | some (ks, ds) => P (.dic ks ds) s'
  | none => False)) E s := by
  unfold eFzD
  exact WP_bindI fun kvs s' => by cases strKeys kvs <;> exact Iff.rfl

@[simp ↓] theorem WP_dDisp {m : PM (List (KY × D))} {Pk : List (KY × D) → S → Prop} : WP (dDisp m) Pk E s ↔ WP m (fun kvs s' => ((kvs.map (·.1)).Nodup ∧ kvs.length ≤ 15) ∧ Pk kvs s') E s := by
  unfold dDisp
  rw [WP_bind]
  have h : ∀ (kvs : List (KY × D)) (s' : S), WP (dChk kvs) Pk E s' ↔ ((kvs.map (·.1)).Nodup ∧ kvs.length ≤ 15) ∧ Pk kvs s' := fun kvs s' => by
    unfold WP dChk
    by_cases h : (kvs.map (·.1)).Nodup ∧ kvs.length ≤ 15 <;> simp [h]
  simp only [h]
@[simp ↓] theorem WP_dPair {k : KY} {m : PM D} {r : PM (List (KY × D))} {Pk : List (KY × D) → S → Prop} : WP (dPair k m r) Pk E s ↔ WP m (fun d s1 => WP r (fun kvs s2 => Pk ((k, d) :: kvs) s2) E s1) E s := by unfold dPair; simp only [WP_bind, WP_pure]
@[simp ↓] theorem WP_eMM {f : Int → Int → Int} {ms : PM (List D)} : WP (eMM f ms) P E s ↔ WP ms (fun ds s' => (match ds with
  | [.int a, .int b] => P (.int (f a b)) s'
  | _ => False)) E s := by
  unfold eMM
  rw [WP_bind]
  have h : ∀ (ds : List D) (s' : S), WP (ap2L f ds) P E s' ↔ (match ds with | [.int a, .int b] => P (.int (f a b)) s' | _ => False) := fun ds s' => by
    unfold ap2L
    split <;> simp
  simp only [h]
@[simp ↓] theorem WP_eMake {x : String} {F : Fn} {ms : PM (List D)} : WP (eMake x F ms) P E s ↔ WP ms (fun ds s' => CP (F (.ref s'.M.length :: ds) (s'.M ++ [.ins x []])) (fun d M => (match d with
  | .non => P (.ref s'.M.length) ⟨s'.σ, M⟩
  | _ => False)) E) E s := by
  unfold eMake
  refine WP_bindI fun ds s' => ?_
  obtain ⟨σ, M⟩ := s'
  unfold makeM
  rw [WP_bind, WP_newRef, WP_bind, WP_callM]
  exact ⟨fun z => z.imp fun d M => by cases d <;> exact id, fun z => z.imp fun d M => by cases d <;> exact id⟩
/-- a def's end -/
theorem CP_mkFn {nN n : Nat} {m : SM} {ds : List D} {Pd : D → List MO → Prop} : CP (mkFn nN n m ds M) Pd E ↔ (ds.length = n ∧ n ≤ nN) ∧ WP m (fun o s => Pd (o.getD .non) s.M) E ⟨ds.map .val ++ List.replicate (nN - n) .un, M⟩ := by
  unfold mkFn
  by_cases h : ds.length = n ∧ n ≤ nN
  · rw [if_pos h]
    simp only [h, and_self, true_and]
    unfold CP endOf WP
    cases m _ with
    | ok o s => cases o <;> exact Iff.rfl
    | exc => exact Iff.rfl
    | bad => exact Iff.rfl
  · rw [if_neg h]
    simp only [h, false_and]
    exact Iff.rfl
end
end Ev

set_option maxHeartbeats 2000000
/-! Ev28: plain laws: loops, values. -/
namespace Ev
open PySem L2

/-! ### values -/
section
variable {M : List MO}
@[simp] theorem vw_non : vw M .non = .non := rfl
@[simp] theorem vw_bl {b : Bool} : vw M (.bl b) = .bl b := rfl
@[simp] theorem vw_int {i : Int} : vw M (.int i) = .int i := rfl
@[simp] theorem vw_str {x : String} : vw M (.str x) = .str x := rfl
@[simp] theorem vw_tup {xs : List D} : vw M (.tup xs) = .tup xs := rfl
@[simp] theorem vw_lst {xs : List D} : vw M (.lst xs) = .lst xs := rfl
@[simp] theorem vw_dic {ks : List String} {vs : List D} : vw M (.dic ks vs) = .dic ks vs := rfl
@[simp] theorem vw_tab {ks : List (String × String)} : vw M (.tab ks) = .tab ks := rfl
@[simp] theorem vw_scr {ks : List Int} : vw M (.scr ks) = .scr ks := rfl
theorem vw_ref {n : Nat} {xs : List D} (h : M[n]? = some (.lst xs)) : vw M (.ref n) = .lst xs := by simp only [vw, h]
mutual
def plain : D → Bool
  | .non => true
  | .bl _ => true
  | .int _ => true
  | .str _ => true
  | .tup xs => plains xs
  | .lst xs => plains xs
  | _ => false
def plains : List D → Bool
  | [] => true
  | d :: ds => plain d && plains ds
end
mutual
theorem res_plain {rf : Nat → Option D} : ∀ d : D, plain d = true → res rf d = some d
  | .non, _ => rfl
  | .bl _, _ => rfl
  | .int _, _ => rfl
  | .str _, _ => rfl
  | .tup xs, h => by unfold res; rw [ress_plain xs (by unfold plain at h; exact h)]; rfl
  | .lst xs, h => by unfold res; rw [ress_plain xs (by unfold plain at h; exact h)]; rfl
  | .dic _ _, h => by cases h
  | .tab _, h => by cases h
  | .ref _, h => by cases h
  | .scr _, h => by cases h
  | .lam _ _, h => by cases h
theorem ress_plain {rf : Nat → Option D} : ∀ ds : List D, plains ds = true → ress rf ds = some ds
  | [], _ => rfl
  | d :: ds, h => by
    unfold plains at h
    obtain ⟨h1, h2⟩ := Bool.and_eq_true_iff.mp h
    unfold ress
    rw [res_plain d h1, ress_plain ds h2]
    rfl
end
theorem whole_plain {d : D} (h : plain d = true) : whole M d = some d := res_plain d h
mutual
theorem eqv_refl : ∀ d : D, plain d = true → eqvD d d = true
  | .non, _ => rfl
  | .bl _, _ => by simp [eqvD]
  | .int _, _ => by simp [eqvD]
  | .str _, _ => by simp [eqvD]
  | .tup xs, h => by unfold eqvD; exact eqvs_refl xs (by unfold plain at h; exact h)
  | .lst xs, h => by unfold eqvD; exact eqvs_refl xs (by unfold plain at h; exact h)
  | .dic _ _, h => by cases h
  | .tab _, h => by cases h
  | .ref _, h => by cases h
  | .scr _, h => by cases h
  | .lam _ _, h => by cases h
theorem eqvs_refl : ∀ ds : List D, plains ds = true → eqvDs ds ds = true
  | [], _ => rfl
  | d :: ds, h => by
    unfold plains at h
    obtain ⟨h1, h2⟩ := Bool.and_eq_true_iff.mp h
    unfold eqvDs
    rw [eqv_refl d h1, eqvs_refl ds h2]
    rfl
end
theorem eqWhole_plain {x y : D} (hx : plain x = true) (hy : plain y = true) (dx : depD x ≤ 64) (dy : depD y ≤ 64) : eqWhole M x y = some (eqvD x y) := by
  unfold eqWhole
  rw [whole_plain hx, whole_plain hy]
  exact if_pos ⟨dx, dy⟩
@[simp] theorem eqW_int {i j : Int} : eqWhole M (.int i) (.int j) = some (i == j) := by
  rw [eqWhole_plain rfl rfl (by simp [depD]) (by simp [depD])]
  simp [eqvD]
@[simp] theorem eqW_str {i j : String} : eqWhole M (.str i) (.str j) = some (i == j) := by
  rw [eqWhole_plain rfl rfl (by simp [depD]) (by simp [depD])]
  simp [eqvD]
@[simp] theorem eqW_bl {i j : Bool} : eqWhole M (.bl i) (.bl j) = some (i == j) := by
  rw [eqWhole_plain rfl rfl (by simp [depD]) (by simp [depD])]
  simp [eqvD]
@[simp] theorem oEq_def {x y : D} : oEq M x y = (eqWhole M x y).map .bl := rfl
@[simp] theorem oNe_def {x y : D} : oNe M x y = (eqWhole M x y).map fun b => .bl (!b) := rfl
/-- against an empty tuple | list -/
theorem eqW_tupN {xs : List D} (h : plains xs = true) (hd : depD (.tup xs) ≤ 64) : eqWhole M (.tup xs) (.tup []) = some xs.isEmpty := by
  rw [eqWhole_plain (by unfold plain; exact h) rfl hd (by simp [depD, depDs])]
  cases xs <;> simp [eqvD, eqvDs]
theorem eqW_lstN {xs : List D} (h : plains xs = true) (hd : depD (.lst xs) ≤ 64) : eqWhole M (.lst xs) (.lst []) = some xs.isEmpty := by
  rw [eqWhole_plain (by unfold plain; exact h) rfl hd (by simp [depD, depDs])]
  cases xs <;> simp [eqvD, eqvDs]
@[simp] theorem eqW_lstNN : eqWhole M (.lst []) (.lst []) = some true := by
  rw [eqW_lstN rfl (by simp [depD, depDs])]
  rfl
@[simp] theorem oCmp_int {f : Int → Int → Bool} {i j : Int} : oCmp f M (.int i) (.int j) = some (.bl (f i j)) := rfl
@[simp] theorem oAdd_int {i j : Int} : oAdd M (.int i) (.int j) = some (.int (i + j)) := rfl
@[simp] theorem oAdd_tup {a b : List D} : oAdd M (.tup a) (.tup b) = if a.length + b.length ≤ small then some (.tup (a ++ b)) else none := rfl
@[simp] theorem oSub_int {i j : Int} : oSub M (.int i) (.int j) = some (.int (i - j)) := rfl
@[simp] theorem oMod_int {i j : Int} : oMod M (.int i) (.int j) = if j ≠ 0 then some (.int (i.fmod j)) else none := rfl
@[simp] theorem oDiv_int {i j : Int} : oDiv M (.int i) (.int j) = if j ≠ 0 ∧ j.natAbs < 1073741824 then some (.int (i.fdiv j)) else none := rfl
@[simp] theorem oMul_int {i j : Int} : oMul M (.int i) (.int j) = if i.natAbs < 2 ^ 64 ∨ j.natAbs < 2 ^ 64 then some (.int (i * j)) else none := rfl
@[simp] theorem oLen_tup {xs : List D} : oLen M (.tup xs) = some (.int xs.length) := rfl
@[simp] theorem oLen_lst {xs : List D} : oLen M (.lst xs) = some (.int xs.length) := rfl
@[simp] theorem oLen_scr {xs : List Int} : oLen M (.scr xs) = some (.int xs.length) := rfl
@[simp] theorem oLen_str {x : String} : oLen M (.str x) = if x.length ≤ small then some (.int x.length) else none := rfl
@[simp] theorem oIx_tup {xs : List D} {i : Int} : oIx M (.tup xs) (.int i) = atI xs i := rfl
@[simp] theorem oIx_lst {xs : List D} {i : Int} : oIx M (.lst xs) (.int i) = atI xs i := rfl
@[simp] theorem oIx_scr {xs : List Int} {i : Int} : oIx M (.scr xs) (.int i) = (atI xs i).map .int := rfl
@[simp] theorem oIx_dic {ks : List String} {vs : List D} {k : String} : oIx M (.dic ks vs) (.str k) = ((ks.zip vs).find? fun q => decide (q.1 = k)).map (·.2) := rfl
@[simp] theorem oIsi_def {b : String} {x : D} : oIsi b M x = (tyD M x).map fun a => .bl (isI a b) := rfl
@[simp] theorem oIsi2_def {b b' : String} {x : D} : oIsi2 b b' M x = (tyD M x).map fun a => .bl (isI a b || isI a b') := rfl
@[simp] theorem ty_non : tyD M .non = some "NoneType" := rfl
@[simp] theorem ty_bl {b : Bool} : tyD M (.bl b) = some "bool" := rfl
@[simp] theorem ty_int {b : Int} : tyD M (.int b) = some "int" := rfl
@[simp] theorem ty_str {b : String} : tyD M (.str b) = some "str" := rfl
@[simp] theorem ty_tup {b : List D} : tyD M (.tup b) = some "tuple" := rfl
@[simp] theorem ty_lst {b : List D} : tyD M (.lst b) = some "list" := rfl
@[simp] theorem oTup_lst {xs : List D} : oTup M (.lst xs) = if xs.length ≤ small then some (.tup xs) else none := by
  unfold oTup seqOf
  by_cases h : xs.length ≤ small <;> simp [h]
@[simp] theorem seqOf_lst {xs : List D} : seqOf M (.lst xs) = if xs.length ≤ small then some xs else none := rfl
@[simp] theorem oInt_int {i : Int} : oInt M (.int i) = some (.int i) := rfl
@[simp] theorem oInt_bl {b : Bool} : oInt M (.bl b) = some (.int (if b then 1 else 0)) := rfl
@[simp] theorem seqNow_tup {xs : List D} : seqNow M (.tup xs) = some xs := rfl
@[simp] theorem seqNow_lst {xs : List D} : seqNow M (.lst xs) = some xs := rfl
@[simp] theorem lstNow_lst {xs : List D} : lstNow M (.lst xs) = some xs := rfl
@[simp] theorem isNon_non : isNon .non = true := rfl
@[simp] theorem isNon_tup {xs : List D} : isNon (.tup xs) = false := rfl
@[simp] theorem isNon_lst {xs : List D} : isNon (.lst xs) = false := rfl
@[simp] theorem isNon_int {xs : Int} : isNon (.int xs) = false := rfl
@[simp] theorem isNon_str {xs : String} : isNon (.str xs) = false := rfl
@[simp] theorem isNon_ref {xs : Nat} : isNon (.ref xs) = false := rfl
@[simp] theorem items_seq {x : D} : items (.seq x) M = seqNow M x := rfl
def rngD (n : Nat) : List D := (List.range n).map fun (i : Nat) => .int (i : Int)
@[simp] theorem items_rng0 {n : Nat} : items (.rng 0 n) M = some (rngD n) := by simp [items, rngD]
theorem rngD_len (n : Nat) : (rngD n).length = n := by simp [rngD]
theorem rngD_get {n i : Nat} {d : D} (h : (rngD n)[i]? = some d) : d = .int (i : Int) ∧ i < n := by
  unfold rngD at h
  rw [List.getElem?_map, Option.map_eq_some_iff] at h
  obtain ⟨j, h1, rfl⟩ := h
  obtain ⟨h2, h3⟩ := List.getElem?_eq_some_iff.mp h1
  rw [List.getElem_range] at h3
  subst h3
  exact ⟨rfl, by simpa using h2⟩
theorem items_rng {lo : Int} {n : Nat} : items (.rng lo n) M = some ((List.range n).map fun (i : Nat) => .int (lo + (i : Int))) := rfl
@[simp] theorem lAppend_one {d : D} {xs : List D} : lAppend M [d] xs = if xs.length < small then some (xs ++ [d], .non) else none := rfl
@[simp] theorem setIx_int {k : Int} {d : D} {xs : List D} : setIx (.int k) d xs = (match ixN xs.length k with
  | some j => some (xs.set j d, .non)
  | none => none) := rfl
theorem atI_nat {α : Type} {xs : List α} {i : Int} (h0 : 0 ≤ i) (h1 : i < xs.length) : atI xs i = xs[i.toNat]? := by
  unfold atI ixN
  simp [h0, h1]
@[simp] theorem atI_0 {α : Type} {a : α} {l : List α} : atI (a :: l) 0 = some a := by rw [atI_nat (by decide) (by simp only [List.length_cons]; omega)]; rfl
@[simp] theorem atI_1 {α : Type} {a b : α} {l : List α} : atI (a :: b :: l) 1 = some b := by rw [atI_nat (by decide) (by simp only [List.length_cons]; omega)]; rfl
@[simp] theorem atI_2 {α : Type} {a b c : α} {l : List α} : atI (a :: b :: c :: l) 2 = some c := by rw [atI_nat (by decide) (by simp only [List.length_cons]; omega)]; rfl
@[simp] theorem atI_3 {α : Type} {a b c d : α} {l : List α} : atI (a :: b :: c :: d :: l) 3 = some d := by rw [atI_nat (by decide) (by simp only [List.length_cons]; omega)]; rfl
@[simp] theorem atI_4 {α : Type} {a b c d e : α} {l : List α} : atI (a :: b :: c :: d :: e :: l) 4 = some e := by rw [atI_nat (by decide) (by simp only [List.length_cons]; omega)]; rfl
end
@[simp] theorem lookup_ite {β : Type} {a b : String} {v : β} {l : List (String × β)} : List.lookup a ((b, v) :: l) = if a = b then some v else List.lookup a l := by
  by_cases h : a = b
  · subst h
    simp
  · rw [List.lookup_cons, beq_eq_false_iff_ne.mpr h, if_neg h]
@[simp] theorem lookup_nil {β : Type} {a : String} : List.lookup a ([] : List (String × β)) = none := rfl
/-! ### loops -/
theorem wipeL_out {σ : List SV} {i : Nat} : ∀ {vs : List Nat}, i ∉ vs → (wipeL vs σ)[i]? = σ[i]?
  | [], _ => rfl
  | v :: vs, h => by
    unfold wipeL
    rw [List.getElem?_set_ne (fun e => h (by rw [e]; exact List.mem_cons_self))]
    exact wipeL_out fun z => h (List.mem_cons_of_mem _ z)
theorem back_wipe {vs : List Nat} {σ : List SV} : backL vs σ (wipeL vs σ) = σ := by
  apply List.ext_getElem?
  intro i
  rw [backL_at]
  by_cases hi : i < σ.length
  · by_cases hv : i ∈ vs
    · rw [wipeL_in hi hv]
      have hc : vs.contains i = true := by simpa using hv
      simp only [Option.map_some, hc, if_true]
      rw [List.getElem?_eq_getElem hi]
      rfl
    · rw [wipeL_out hv]
      have hc : vs.contains i = false := by simpa using hv
      simp only [hc]
      cases σ[i]? <;> simp
  · have h1 : (wipeL vs σ)[i]? = none := List.getElem?_eq_none (by rw [wipeL_length]; omega)
    rw [h1, List.getElem?_eq_none (by omega)]
    rfl
section
variable {E : EX} {vs : List Nat} {src : Src} {g : GD} {t : PM Bool} {e : PM D} {xs : List D} {σ : List SV} {M : List MO}
/-- an item of a list comprehension -/
def lcEl (g : GD) (t : PM Bool) (e : PM D) (d : D) : PM (Option D) := g d >>= fun _ => t >>= fun b => if b = true then (e >>= fun y => pure (some y)) else pure none
theorem lcN_rule (Inv : Nat → List D → List MO → Prop) (hsrc : ∀ i acc M, Inv i acc M → items src M = some xs) (hl : xs.length ≤ 1000)
    (step : ∀ i d acc M', xs[i]? = some d → Inv i acc M' → WP (lcEl g t e d) (fun o s' => wipeL vs s'.σ = wipeL vs σ ∧ Inv (i + 1) (acc ++ o.toList) s'.M) noEX ⟨wipeL vs σ, M'⟩) :
    ∀ (k i : Nat) (acc : List D) (s0 : S), wipeL vs s0.σ = wipeL vs σ → Inv i acc s0.M → xs.length ≤ i + k → i ≤ xs.length → acc.length ≤ i → WP (lcN vs src g t e k i acc) (fun ys s' => s'.σ = wipeL vs σ ∧ Inv xs.length ys s'.M) noEX s0 := by
  intro k
  induction k with
  | zero =>
    intro i acc s0 hs hi hk hik ha
    have e1 : i = xs.length := by omega
    unfold WP lcN
    dsimp only
    rw [hsrc i acc _ hi]
    dsimp only
    rw [List.getElem?_eq_none (by omega)]
    dsimp only
    subst e1
    exact ⟨hs, hi⟩
  | succ k ih =>
    intro i acc s0 hs hi hk hik ha
    cases ed : xs[i]? with
    | none =>
      have e1 : i = xs.length := by have := List.getElem?_eq_none_iff.mp ed; omega
      unfold WP lcN
      dsimp only
      rw [hsrc i acc _ hi]
      dsimp only
      rw [ed]
      dsimp only
      subst e1
      exact ⟨hs, hi⟩
    | some d =>
      have hi2 : i < xs.length := (List.getElem?_eq_some_iff.mp ed).1
      have st := step i d acc s0.M ed hi
      have e2 : lcN vs src g t e (k + 1) i acc s0 = (g d >>= fun _ => t >>= fun b => if b = true then (e >>= fun y => lcN vs src g t e k (i + 1) (acc ++ [y])) else lcN vs src g t e k (i + 1) acc) ⟨wipeL vs s0.σ, s0.M⟩ := by
        conv => lhs; unfold lcN
        dsimp only
        rw [hsrc i acc _ hi]
        dsimp only
        rw [ed]
        dsimp only
        rw [if_pos (by unfold small; omega)]
      unfold WP
      rw [e2, hs]
      refine (WP_bind (m := g d)).mpr ?_
      unfold lcEl at st
      refine ((WP_bind (m := g d)).mp st).imp fun _ s1 h1 => ?_
      refine WP_bind.mpr ((WP_bind.mp h1).imp fun b s2 h2 => ?_)
      cases b with
      | true =>
        rw [if_pos rfl] at h2 ⊢
        refine WP_bind.mpr ((WP_bind.mp h2).imp fun y s3 h3 => ?_)
        have h3 : wipeL vs s3.σ = wipeL vs σ ∧ Inv (i + 1) (acc ++ [y]) s3.M := h3
        exact ih (i + 1) (acc ++ [y]) s3 h3.1 h3.2 (by omega) hi2 (by simp; omega)
      | false =>
        rw [if_neg (by decide)] at h2 ⊢
        have h2 : wipeL vs s2.σ = wipeL vs σ ∧ Inv (i + 1) (acc ++ []) s2.M := h2
        rw [List.append_nil] at h2
        exact ih (i + 1) acc s2 h2.1 h2.2 (by omega) hi2 (by omega)
theorem lc_rule {mi : PM Src} {P : List D → S → Prop} (h : WP mi (fun src s' => s' = ⟨σ, M⟩ ∧ ∃ xs, xs.length ≤ 1000 ∧ okW vs σ = true ∧ ∃ Inv : Nat → List D → List MO → Prop, (∀ i acc M, Inv i acc M → items src M = some xs) ∧ Inv 0 [] M ∧
      (∀ i d acc M', xs[i]? = some d → Inv i acc M' → WP (lcEl g t e d) (fun o s' => wipeL vs s'.σ = wipeL vs σ ∧ Inv (i + 1) (acc ++ o.toList) s'.M) noEX ⟨wipeL vs σ, M'⟩) ∧ ∀ acc M', Inv xs.length acc M' → P acc ⟨σ, M'⟩) E ⟨σ, M⟩) : WP (fLc vs mi g t e) P E ⟨σ, M⟩ := by
  unfold fLc
  refine WP_bind.mpr (h.imp fun src s' h => ?_)
  obtain ⟨rfl, xs, hl, hw, Inv, hsrc, h0, step, fin⟩ := h
  unfold WP
  dsimp only
  rw [hsrc 0 [] M h0]
  dsimp only
  rw [if_pos hw]
  have r := lcN_rule (g := g) (t := t) (e := e) Inv hsrc hl step xs.length 0 [] ⟨σ, M⟩ rfl h0 (by omega) (by omega) (by simp)
  unfold WP at r
  cases el : lcN vs src g t e xs.length 0 [] ⟨σ, M⟩ with
  | ok ys s' =>
    rw [el] at r
    dsimp only at r ⊢
    rw [r.1, back_wipe]
    exact fin ys s'.M r.2
  | exc => rw [el] at r; exact r.elim
  | bad => rw [el] at r; exact r.elim
/-- nothing is changed by the items -/
theorem lc_pure {mi : PM Src} {P : List D → S → Prop} (h : WP mi (fun src s' => s' = ⟨σ, M⟩ ∧ ∃ xs, items src M = some xs ∧ xs.length ≤ 1000 ∧ okW vs σ = true ∧ ∃ f : D → Option D,
      (∀ d ∈ xs, WP (lcEl g t e d) (fun o s' => wipeL vs s'.σ = wipeL vs σ ∧ s'.M = M ∧ o = f d) noEX ⟨wipeL vs σ, M⟩) ∧ P (xs.filterMap f) ⟨σ, M⟩) E ⟨σ, M⟩) : WP (fLc vs mi g t e) P E ⟨σ, M⟩ := by
  refine lc_rule (h.imp fun src s' h => ?_)
  obtain ⟨rfl, xs, hi, hl, hw, f, step, fin⟩ := h
  refine ⟨rfl, xs, hl, hw, fun i acc M' => M' = M ∧ acc = (xs.take i).filterMap f, fun i acc M' h => by rw [h.1]; exact hi, ⟨rfl, by simp⟩, fun i d acc M' ed h => ?_, fun acc M' h => ?_⟩
  · obtain ⟨rfl, rfl⟩ := h
    refine (step d (List.mem_of_getElem? ed)).imp fun o s' h => ⟨h.1, h.2.1, ?_⟩
    rw [h.2.2, List.take_add_one, ed, List.filterMap_append]
    cases hf : f d <;> simp [hf]
  · obtain ⟨rfl, rfl⟩ := h
    rw [List.take_length]
    exact fin
/-- for -/
def forM (g : GD) (body : SM) (src : Src) : SM := fun s => match items src s.M with
  | none => .bad
  | some xs => sForN src g body xs.length 0 s
theorem sForN_rule {body : SM} {P : Option D → S → Prop} (Inv : Nat → S → Prop) (hsrc : ∀ i s, Inv i s → items src s.M = some xs)
    (step : ∀ i d s, xs[i]? = some d → Inv i s → WP (g d) (fun _ s1 => WP body (fun o s' => (match o with
      | none => Inv (i + 1) s'
      | some d => P (some d) s')) E s1) E s) (fin : ∀ s, Inv xs.length s → P none s) : ∀ (k i : Nat) (s : S), Inv i s → i ≤ xs.length → xs.length ≤ i + k → WP (sForN src g body k i) P E s := by
  intro k
  induction k with
  | zero =>
    intro i s hi hik hk
    have e1 : i = xs.length := by omega
    unfold WP sForN
    dsimp only
    rw [hsrc i s hi]
    dsimp only
    rw [List.getElem?_eq_none (by omega)]
    subst e1
    exact fin s hi
  | succ k ih =>
    intro i s hi hik hk
    cases ed : xs[i]? with
    | none =>
      have e1 : i = xs.length := by have := List.getElem?_eq_none_iff.mp ed; omega
      unfold WP sForN
      dsimp only
      rw [hsrc i s hi]
      dsimp only
      rw [ed]
      subst e1
      exact fin s hi
    | some d =>
      have hi2 : i < xs.length := (List.getElem?_eq_some_iff.mp ed).1
      have e2 : sForN src g body (k + 1) i s = (g d >>= fun _ => sSeq body (sForN src g body k (i + 1))) s := by
        conv => lhs; unfold sForN
        dsimp only
        rw [hsrc i s hi]
        dsimp only
        rw [ed]
      unfold WP
      rw [e2]
      refine (WP_bind (m := g d)).mpr ((step i d s ed hi).imp fun _ s1 h1 => ?_)
      refine WP_sSeq.mpr (h1.imp fun o s2 h2 => ?_)
      cases o with
      | none => exact ih (i + 1) s2 h2 hi2 (by omega)
      | some d => exact h2
theorem for_rule {mi : PM Src} {body : SM} {P : Option D → S → Prop} {s : S} (h : WP mi (fun src s0 => ∃ xs, ∃ Inv : Nat → S → Prop, (∀ i s, Inv i s → items src s.M = some xs) ∧ Inv 0 s0 ∧
    (∀ i d s, xs[i]? = some d → Inv i s → WP (g d) (fun _ s1 => WP body (fun o s' => (match o with
      | none => Inv (i + 1) s'
      | some d => P (some d) s')) E s1) E s) ∧ ∀ s, Inv xs.length s → P none s) E s) : WP (sFor mi g body) P E s := by
  have e : sFor mi g body = mi >>= forM g body := rfl
  rw [e]
  refine WP_bind.mpr (h.imp fun src s0 h => ?_)
  obtain ⟨xs, Inv, hsrc, h0, step, fin⟩ := h
  have e2 : forM g body src s0 = sForN src g body xs.length 0 s0 := by
    unfold forM
    rw [hsrc 0 s0 h0]
  unfold WP
  rw [e2]
  exact sForN_rule Inv hsrc step fin xs.length 0 s0 h0 (by omega) (by omega)
end
section
variable {E : EX} {vs : List Nat} {g : GD} {t : PM Bool} {e : PM D} {σ : List SV} {M : List MO}
theorem lc_map {α : Type} {mi : PM Src} {P : List D → S → Prop} (ys : List α) (enc : α → D) (f : α → Option D) (hl : ys.length ≤ 1000)
    (h : WP mi (fun src s' => s' = ⟨σ, M⟩ ∧ items src M = some (ys.map enc)) E ⟨σ, M⟩) (hw : okW vs σ = true) (step : ∀ y ∈ ys, WP (lcEl g t e (enc y)) (fun o s' => wipeL vs s'.σ = wipeL vs σ ∧ s'.M = M ∧ o = f y) noEX ⟨wipeL vs σ, M⟩)
    (fin : P (ys.filterMap f) ⟨σ, M⟩) : WP (fLc vs mi g t e) P E ⟨σ, M⟩ := by
  refine lc_rule (h.imp fun src s' h => ?_)
  obtain ⟨rfl, hi⟩ := h
  refine ⟨rfl, ys.map enc, by simpa using hl, hw, fun i acc M' => M' = M ∧ acc = (ys.take i).filterMap f, fun i acc M' h => by rw [h.1]; exact hi, ⟨rfl, by simp⟩, fun i d acc M' ed h => ?_, fun acc M' h => ?_⟩
  · obtain ⟨rfl, rfl⟩ := h
    rw [List.getElem?_map, Option.map_eq_some_iff] at ed
    obtain ⟨y, ey, rfl⟩ := ed
    refine (step y (List.mem_of_getElem? ey)).imp fun o s' h => ⟨h.1, h.2.1, ?_⟩
    rw [h.2.2, List.take_add_one, ey, List.filterMap_append]
    cases hf : f y <;> simp [hf]
  · obtain ⟨rfl, rfl⟩ := h
    rw [List.length_map, List.take_length]
    exact fin
theorem fm_some {α β : Type} {f : α → β} {ys : List α} : ys.filterMap (fun y => some (f y)) = ys.map f := by
  induction ys with
  | nil => rfl
  | cons y ys ih => simp [ih]
theorem fm_if {α β : Type} {p : α → Bool} {f : α → β} {ys : List α} : ys.filterMap (fun y => if p y = true then some (f y) else none) = (ys.filter p).map f := by
  induction ys with
  | nil => rfl
  | cons y ys ih =>
    cases h : p y <;> simp [h, ih]
@[simp] theorem cut1 {α : Type} {a : α} {l : List α} : cutD (a :: l) (some 1) none = l := by
  unfold cutD HT.sIx
  simp
theorem cut_to {α : Type} {l : List α} {k : Nat} (h : k ≤ l.length) : cutD l none (some (k : Int)) = l.take k := by
  unfold cutD HT.sIx
  simp [show ¬ ((k : Int) < 0) by omega, Nat.min_eq_left h]
theorem cut_from {α : Type} {l : List α} {k : Nat} (h : k ≤ l.length) : cutD l (some (k : Int)) none = l.drop k := by
  unfold cutD HT.sIx
  simp only [show ¬ ((k : Int) < 0) by omega, if_false, Int.toNat_natCast, Nat.min_eq_left h]
  rw [List.take_of_length_le (by simp)]
@[simp] theorem slD_tup {xs : List D} {lo hi : Option Int} : slD (.tup xs) lo hi = some (.tup (cutD xs lo hi)) := rfl
@[simp] theorem oIn_def {x y : D} : oIn M x y = (oInB M x y).map .bl := rfl
@[simp] theorem oNotIn_def {x y : D} : oNotIn M x y = (oInB M x y).map fun b => .bl (!b) := rfl
theorem inSeq_plain {x : D} {ys : List D} (hx : plain x = true) (hy : plains ys = true) (dx : depD x ≤ 64) (dy : depDs ys < 64) : inSeq M x ys = some (ys.any fun b => eqvD b x) := by
  unfold inSeq
  rw [whole_plain hx, ress_plain ys hy]
  exact if_pos ⟨dx, dy⟩
@[simp] theorem oInB_strs {w : String} {ys : List D} : oInB M (.str w) (.tup ys) = inSeq M (.str w) ys := rfl
@[simp] theorem oInB_lst {w : D} {ys : List D} : oInB M w (.lst ys) = inSeq M w ys := rfl
@[simp] theorem inSeq_b0 {w : Bool} : inSeq M (.bl w) [] = some false := by
  rw [inSeq_plain rfl rfl (by simp [depD]) (by simp [depDs])]
  rfl
@[simp] theorem inSeq_b2 {w a b : Bool} : inSeq M (.bl w) [.bl a, .bl b] = some (a == w || b == w) := by
  rw [inSeq_plain rfl rfl (by simp [depD]) (by simp [depD, depDs])]
  simp [eqvD]
@[simp] theorem inSeq_2 {w a b : String} : inSeq M (.str w) [.str a, .str b] = some (a == w || b == w) := by
  rw [inSeq_plain rfl rfl (by simp [depD]) (by simp [depD, depDs])]
  simp [eqvD]
end
theorem for_in {E : EX} {g : GD} {mi : PM Src} {body : SM} {P : Option D → S → Prop} {s : S} (xs : List D) (Inv : Nat → S → Prop) (h : WP mi (fun src s0 => Inv 0 s0 ∧ ∀ i s, Inv i s → items src s.M = some xs) E s)
    (step : ∀ i d s, xs[i]? = some d → Inv i s → WP (g d) (fun _ s1 => WP body (fun o s' => (match o with
      | none => Inv (i + 1) s'
      | some d => P (some d) s')) E s1) E s) (fin : ∀ s, Inv xs.length s → P none s) : WP (sFor mi g body) P E s :=
  for_rule (h.imp fun src s0 h => ⟨xs, Inv, h.2, h.1, step, fin⟩)
/-- a loop's turns, one behind the other -/
def forL (g : GD) (body : SM) (P : Option D → S → Prop) (E : EX) : List D → S → Prop
  | [], s => P none s
  | d :: ds, s => WP (g d) (fun _ s1 => WP body (fun o s' => (match o with
      | none => forL g body P E ds s'
      | some d => P (some d) s')) E s1) E s
theorem for_lit {E : EX} {g : GD} {mi : PM Src} {body : SM} {P : Option D → S → Prop} {s : S} (h : WP mi (fun src s0 => ∃ xs, (∀ M, items src M = some xs) ∧ forL g body P E xs s0) E s) : WP (sFor mi g body) P E s := by
  refine for_rule (h.imp fun src s0 h => ?_)
  obtain ⟨xs, hi, hl⟩ := h
  refine ⟨xs, fun i s => forL g body P E (xs.drop i) s, fun i s _ => hi s.M, by simpa using hl, fun i d s hd hl => ?_, fun s hl => ?_⟩
  · obtain ⟨h1, h2⟩ := List.getElem?_eq_some_iff.mp hd
    have hl : forL g body P E (xs.drop i) s := hl
    rw [List.drop_eq_getElem_cons h1, h2] at hl
    exact hl
  · have hl : forL g body P E (xs.drop xs.length) s := hl
    rw [List.drop_length] at hl
    exact hl
def chars (z : String) : List D := z.toList.map fun ch => .str (String.singleton ch)
theorem items_zs {z : String} {ys : List D} {M : List MO} : items (.zip (.str z) (.tup ys)) M = some (List.zipWith pairD (chars z) ys) := rfl
theorem items_zl {xs ys : List D} {M : List MO} : items (.zip (.lst xs) (.lst ys)) M = some (List.zipWith pairD xs ys) := rfl
theorem lc_inv {E : EX} {vs : List Nat} {g : GD} {t : PM Bool} {e : PM D} {σ : List SV} {M : List MO} {mi : PM Src} {P : List D → S → Prop} (xs : List D) (Inv : Nat → List D → List MO → Prop) (hl : xs.length ≤ 1000) (hw : okW vs σ = true)
    (h : WP mi (fun src s' => s' = ⟨σ, M⟩ ∧ ∀ i acc M', Inv i acc M' → items src M' = some xs) E ⟨σ, M⟩) (h0 : Inv 0 [] M)
    (step : ∀ i d acc M', xs[i]? = some d → Inv i acc M' → WP (lcEl g t e d) (fun o s' => wipeL vs s'.σ = wipeL vs σ ∧ Inv (i + 1) (acc ++ o.toList) s'.M) noEX ⟨wipeL vs σ, M'⟩)
    (fin : ∀ acc M', Inv xs.length acc M' → P acc ⟨σ, M'⟩) : WP (fLc vs mi g t e) P E ⟨σ, M⟩ :=
  lc_rule (h.imp fun src s' h => ⟨h.1, xs, hl, hw, Inv, h.2, h0, step, fin⟩)
/-! ### over whole numbers -/
section
variable {E : EX} {vs : List Nat} {g : GD} {t : PM Bool} {e : PM D} {σ : List SV} {M : List MO} {ms : PM (List D)}
theorem wp_iR1 {P : Src → S → Prop} {s : S} (h : WP ms (fun ds s' => ∃ n : Nat, ds = [.int (n : Int)] ∧ n < 1000000 ∧ P (.rng 0 n) s') E s) : WP (iR1 ms) P E s := by
  refine WP_iR1.mpr (h.imp fun ds s' h => ?_)
  obtain ⟨n, rfl, hn, hp⟩ := h
  refine ⟨⟨by omega, by omega⟩, ?_⟩
  simpa using hp
theorem lc_rng {P : List D → S → Prop} (h : WP ms (fun ds s' => ∃ n : Nat, ds = [.int (n : Int)] ∧ n ≤ 1000 ∧ s' = ⟨σ, M⟩ ∧ okW vs σ = true ∧ ∃ f : Nat → Option D,
    (∀ j, j < n → WP (lcEl g t e (.int (j : Int))) (fun o s' => wipeL vs s'.σ = wipeL vs σ ∧ s'.M = M ∧ o = f j) noEX ⟨wipeL vs σ, M⟩) ∧ P ((List.range n).filterMap f) ⟨σ, M⟩) E ⟨σ, M⟩) : WP (fLc vs (iR1 ms) g t e) P E ⟨σ, M⟩ := by
  refine lc_rule (wp_iR1 (h.imp fun ds s' h => ?_))
  obtain ⟨n, rfl, hn, rfl, hw, f, step, fin⟩ := h
  refine ⟨n, rfl, by omega, rfl, rngD n, by rw [rngD_len]; exact hn, hw, fun i acc M' => M' = M ∧ acc = ((List.range n).take i).filterMap f, fun i acc M' h => items_rng0, ⟨rfl, by simp⟩, fun i d acc M' ed h => ?_, fun acc M' h => ?_⟩
  · obtain ⟨rfl, rfl⟩ := h
    obtain ⟨rfl, hi⟩ := rngD_get ed
    refine (step i hi).imp fun o s' h => ⟨h.1, h.2.1, ?_⟩
    rw [h.2.2, List.take_add_one, List.getElem?_range hi, List.filterMap_append]
    cases hf : f i <;> simp [hf]
  · obtain ⟨rfl, rfl⟩ := h
    rw [rngD_len, List.take_of_length_le (by simp)]
    exact fin
/-- each item by an invariant -/
theorem lc_rngI {P : List D → S → Prop} (h : WP ms (fun ds s' => ∃ n : Nat, ds = [.int (n : Int)] ∧ n ≤ 1000 ∧ s'.σ = σ ∧ okW vs σ = true ∧ ∃ Inv : Nat → List D → List MO → Prop, Inv 0 [] s'.M ∧
    (∀ j acc M', j < n → Inv j acc M' → WP (lcEl g t e (.int (j : Int))) (fun o s' => wipeL vs s'.σ = wipeL vs σ ∧ Inv (j + 1) (acc ++ o.toList) s'.M) noEX ⟨wipeL vs σ, M'⟩) ∧ ∀ acc M', Inv n acc M' → P acc ⟨σ, M'⟩) E ⟨σ, M⟩) : WP (fLc vs (iR1 ms) g t e) P E ⟨σ, M⟩ := by
  unfold fLc
  refine WP_bind.mpr (wp_iR1 (h.imp fun ds s' h => ?_))
  obtain ⟨n, rfl, hn, hσ, hw, Inv, h0, step, fin⟩ := h
  obtain ⟨σ', M'⟩ := s'
  dsimp only at hσ h0
  subst hσ
  refine ⟨n, rfl, by omega, ?_⟩
  unfold WP
  dsimp only
  rw [items_rng0]
  dsimp only
  rw [if_pos hw]
  have r := lcN_rule (src := .rng 0 n) (g := g) (t := t) (e := e) (xs := rngD n) (σ := σ') (vs := vs) Inv (fun _ _ _ _ => items_rng0) (by rw [rngD_len]; exact hn) (fun i d acc M' ed hi => by
    obtain ⟨rfl, hj⟩ := rngD_get ed
    exact step i acc M' hj hi) (rngD n).length 0 [] ⟨σ', M'⟩ rfl h0 (by omega) (by omega) (by simp)
  unfold WP at r
  cases el : lcN vs (.rng 0 n) g t e (rngD n).length 0 [] ⟨σ', M'⟩ with
  | ok ys s' =>
    rw [el] at r
    dsimp only at r ⊢
    rw [r.1, back_wipe]
    exact fin ys s'.M (by rw [← rngD_len n]; exact r.2)
  | exc => rw [el] at r; exact r.elim
  | bad => rw [el] at r; exact r.elim
/-- a turn of a loop -/
def forEl (g : GD) (body : SM) (d : D) : SM := g d >>= fun _ => body
theorem for_rng {body : SM} {P : Option D → S → Prop} {s : S} (h : WP ms (fun ds s0 => ∃ n : Nat, ds = [.int (n : Int)] ∧ n < 1000000 ∧ ∃ Inv : Nat → S → Prop, Inv 0 s0 ∧
    (∀ i s, i < n → Inv i s → WP (forEl g body (.int (i : Int))) (fun o s' => (match o with
      | none => Inv (i + 1) s'
      | some d => P (some d) s')) E s) ∧ ∀ s, Inv n s → P none s) E s) : WP (sFor (iR1 ms) g body) P E s := by
  refine for_rule (wp_iR1 (h.imp fun ds s0 h => ?_))
  obtain ⟨n, rfl, hn, Inv, h0, step, fin⟩ := h
  refine ⟨n, rfl, hn, rngD n, Inv, fun _ _ _ => items_rng0, h0, fun i d s ed hi => ?_, fun s hi => fin s (by rw [← rngD_len n]; exact hi)⟩
  obtain ⟨rfl, hj⟩ := rngD_get ed
  have := step i s hj hi
  unfold forEl at this
  exact WP_bind.mp this
end
end Ev

set_option maxHeartbeats 2000000
/-! Ev29: methods of texts; str, int; list of a range, of a text table. -/
namespace Ev
open PySem PySem.Spec PyProof.Rows L2

/-! ### a text's method, of one argument -/
def asS (x : D) : PM String := match x with
  | .str z => pure z
  | _ => stuck
def apT (f : List MO → String → D → Option D) (z : String) (y : D) : PM D := fun s => match f s.M z y with
  | some d => .ok d s
  | none => .bad
def eT1 (f : List MO → String → D → Option D) (mo me : PM D) : PM D := mo >>= fun x => asS x >>= fun z => me >>= fun y => apT f z y
def apTF (f : List MO → String → D → Option (List D)) (z : String) (y : D) : PM (List D) := fun s => match f s.M z y with
  | some d => .ok d s
  | none => .bad
def fT1 (f : List MO → String → D → Option (List D)) (mo me : PM D) : PM (List D) := mo >>= fun x => asS x >>= fun z => me >>= fun y => apTF f z y
def OpT (f : List MO → String → D → Option D) (r : Cn → V → List V → Hp → VK → Prop) : Prop := ∀ (c : Cn) (G : GW) (s : S) (σ : L2.St) (H : Hp) (z : String) (y d : D) (w : V) (Q : VK), Rs c G s σ H → RDw c G H y w → f s.M z y = some d → Gives c G s σ H d Q → r c (.str (Str.ofString z)) [w] H Q
def OpTF (f : List MO → String → D → Option (List D)) (r : Cn → V → List V → Hp → VK → Prop) : Prop := ∀ (c : Cn) (G : GW) (s : S) (σ : L2.St) (H : Hp) (z : String) (y : D) (xs : List D) (w : V) (Q : VK), Rs c G s σ H → RDw c G H y w → f s.M z y = some xs → (∀ (p : Addr) (vs : List V), H p = none → RDs c G H xs vs → Q (.ref p) (upd H p (.lst vs))) → r c (.str (Str.ofString z)) [w] H Q
section
variable {c : Cn} {W : WX} {G : GW} {s : S} {σ : L2.St} {H : Hp} {Q : VK}
theorem asS_run {α β : Type} {R : Cn → GW → Hp → α → β → Prop} {g : String → PM α} {Q : β → Hp → Prop} {x : D} {v : V} (hx : RD c G H x v) (h : Run R c W (asS x >>= g) G s σ H Q) : ∃ z, x = .str z ∧ v = .str (Str.ofString z) ∧ Run R c W (g z) G s σ H Q := by
  cases x with
  | str z =>
    unfold RD at hx
    exact ⟨z, rfl, hx, h⟩
  | _ =>
    unfold Run at h
    rw [bind_eq] at h
    exact h.elim
theorem asS_runF {g : String → PM (List D)} {x : D} {v : V} (hx : RD c G H x v) (h : RunF c W (asS x >>= g) G s σ H Q) : ∃ z, x = .str z ∧ v = .str (Str.ofString z) ∧ RunF c W (g z) G s σ H Q := by
  cases x with
  | str z =>
    unfold RD at hx
    exact ⟨z, rfl, hx, h⟩
  | _ =>
    unfold RunF at h
    rw [bind_eq] at h
    exact h.elim
theorem apT_run {f : List MO → String → D → Option D} {z : String} {y : D} (h : Run RD c W (apT f z y) G s σ H Q) : ∃ d, f s.M z y = some d ∧ Gives c G s σ H d Q := by
  unfold Run apT at h
  cases e : f s.M z y with
  | none => rw [e] at h; exact h.elim
  | some d =>
    rw [e] at h
    exact ⟨d, rfl, h⟩
end
/-- what the layer's rule asks of a call of a text's method -/
structure TM (o : Expr) (name : Str) (apos : Pos) (e : Expr) (cpos : Pos) : Prop where
  st : ∀ env, starEach [e] env = [(false, eval e env)]
  base : ∀ env, attributeBase o name env (eval o env) = eval o env
  line : (apos.endLine == cpos.line) = true
section
variable {p : Pg} {Γ : NE} {o e : Expr} {mo me : PM D} {name : Str} {id : String} {r : Cn → V → List V → Hp → VK → Prop} {apos cpos : Pos}
structure TMeth (p : Pg) (Γ : NE) (name : Str) (id : String) (r : Cn → V → List V → Hp → VK → Prop) : Prop where
  slot : Slot "str" name id
  ty : typeOf (.builtin id) = pure (.type "method_descriptor")
  mt : ∀ X : Cx, XOk p Γ X → ∀ c, Cn.of p c → MtR X id (r c)
theorem se_t1 {f : List MO → String → D → Option D} (L : TMeth p Γ name id r) (op : OpT f r) (ho : SE p Γ o mo) (he : SL p Γ e me) (t : TM o name apos e cpos) : SE p Γ (.Call (.Attribute o name apos) [e] [] cpos) (eT1 f mo me) := by
  intro X ok W tk c hc
  refine (pe_m1 L.slot L.ty (L.mt X ok c hc) (ho X ok W tk c hc) (he X ok W tk c hc) (t.st _) (t.base _) t.line).weak fun σ H Q h => ?_
  obtain ⟨G, s, rs, h⟩ := h
  refine ⟨G, s, rs, (Run.bind (R := RD) h).mono fun v H1 ⟨G1, s1, x, x1, r1, q1, h1⟩ => ?_⟩
  obtain ⟨z, rfl, rfl, h1⟩ := asS_run q1 h1
  refine ⟨⟨_, rfl⟩, G1, s1, r1, (Run.bind (R := RDw) h1).mono fun w H2 ⟨G2, s2, y, x2, r2, q2, h2⟩ => ?_⟩
  obtain ⟨d, e2, g⟩ := apT_run h2
  exact op c G2 s2 σ H2 z y d w Q r2 q2 e2 g
theorem sf_t1 {f : List MO → String → D → Option (List D)} (L : TMeth p Γ name id r) (op : OpTF f r) (ho : SE p Γ o mo) (he : SL p Γ e me) (t : TM o name apos e cpos) : SF p Γ (.Call (.Attribute o name apos) [e] [] cpos) (fT1 f mo me) := by
  intro X ok W tk c hc
  refine (pe_m1 L.slot L.ty (L.mt X ok c hc) (ho X ok W tk c hc) (he X ok W tk c hc) (t.st _) (t.base _) t.line).weak fun σ H Q h => ?_
  obtain ⟨G, s, rs, h⟩ := h
  refine ⟨G, s, rs, (RunF.bind (R := RD) h).mono fun v H1 ⟨G1, s1, x, x1, r1, q1, h1⟩ => ?_⟩
  obtain ⟨z, rfl, rfl, h1⟩ := asS_runF q1 h1
  refine ⟨⟨_, rfl⟩, G1, s1, r1, (RunF.bind (R := RDw) h1).mono fun w H2 ⟨G2, s2, y, x2, r2, q2, h2⟩ => ?_⟩
  have h3 := h2
  unfold RunF apTF at h2
  cases e2 : f s2.M z y with
  | none => rw [e2] at h2; exact h2.elim
  | some xs => exact op c G2 s2 σ H2 z y xs w Q r2 q2 e2 fun p vs hp q => h3.new (by unfold apTF; rw [e2]) r2 q hp
end
/-! ### index -/
def sIndex (_ : List MO) (z : String) : D → Option D
  | .str y => match Builtin.Str.occurrences (Str.ofString z) (Str.ofString y) 0 (Str.ofString z).length 1 with
    | i :: _ => some (.int (i : Nat))
    | [] => none
  | _ => none
def rSIndex : Cn → V → List V → Hp → VK → Prop := fun _ x xs H Q => ∃ a b i rest, x = .str a ∧ xs = [.str b] ∧ Builtin.Str.occurrences a b 0 a.length 1 = i :: rest ∧ Q (.int (i : Nat)) H
theorem ot_index : OpT sIndex rSIndex := by
  intro c G s σ H z y d w Q r q e g
  unfold sIndex at e
  split at e
  · rename_i t
    split at e
    · rename_i i rest eo
      cases e
      simp only [RDw, RD] at q
      exact ⟨_, _, i, rest, rfl, by rw [q], eo, g.here r (by unfold RD; rfl)⟩
    · cases e
  · cases e
theorem tm_index {p : Pg} {Γ : NE} : TMeth p Γ "index" "str.index" rSIndex := ⟨PySem.F.slot_str_index, PySem.F.type_str_index, fun X ok c hc => mt_sindex⟩
/-! ### join -/
def jn (s : String) : List String → String
  | [] => ""
  | [x] => x
  | x :: y :: r => x ++ s ++ jn s (y :: r)
def strs? : List D → Option (List String)
  | [] => some []
  | .str x :: r => (strs? r).map (x :: ·)
  | _ => none
def sJoin (M : List MO) (z : String) (y : D) : Option D := match vw M y with
  | .lst ds => match strs? ds with
    | some ys => if (ys.map (·.length)).sum + ys.length * z.length ≤ 16777216 then some (.str (jn z ys)) else none
    | none => none
  | _ => none
def rSJoin : Cn → V → List V → Hp → VK → Prop := fun c x xs H Q => ∃ a p, ∃ ys : List Str, x = .str a ∧ xs = [.ref p] ∧ (SqL c.K H p (ys.map V.str) ∨ SqT c.K H p (ys.map V.str)) ∧ (ys.map (·.length)).sum + ys.length * a.length ≤ 16777216 ∧ Q (.str (Txt.join a ys)) H
theorem jn_of' (s : String) : ∀ ys : List String, Str.join (Str.ofString s) (ys.map Str.ofString) = Str.ofString (jn s ys)
  | [] => by rfl
  | [x] => rfl
  | x :: y :: r => by
    show Str.ofString x ++ Str.ofString s ++ Str.join (Str.ofString s) ((y :: r).map Str.ofString) = _
    rw [jn_of' s (y :: r), ofString_app, ofString_app]
    rfl
theorem jn_of (s : String) (ys : List String) : Txt.join (Str.ofString s) (ys.map Str.ofString) = Str.ofString (jn s ys) := (TL.join_eq _ _).trans (jn_of' s ys)
theorem RDs.strsOf {c : Cn} {G : GW} {H : Hp} : ∀ {ds : List D} {vs : List V} {ys : List String}, RDs c G H ds vs → strs? ds = some ys → vs = (ys.map Str.ofString).map V.str
  | [], vs, ys, h, e => by
    cases e
    exact h.zero
  | d :: ds, vs, ys, h, e => by
    cases d with
    | str x =>
      simp only [strs?, Option.map_eq_some_iff] at e
      obtain ⟨zs, e, rfl⟩ := e
      unfold RDs at h
      obtain ⟨v, t, rfl, h1, h2⟩ := h
      unfold RD at h1
      rw [h1, RDs.strsOf h2 e]
      rfl
    | _ => cases e
theorem ot_join : OpT sJoin rSJoin := by
  intro c G s σ H z y d w Q r q e g
  unfold sJoin at e
  have q' : RDw c G H (vw s.M y) w := by
    cases y with
    | ref n => exact r.view (show RD c G H (.ref n) w from q)
    | _ => exact q
  cases ey : vw s.M y with
  | lst ds =>
    rw [ey] at e q'
    dsimp only at e
    cases es : strs? ds with
    | none => rw [es] at e; cases e
    | some ys =>
      rw [es] at e
      dsimp only at e
      split at e
      · rename_i hl
        cases e
        obtain ⟨a, vs, rfl, k1, k2⟩ := q'
        refine ⟨_, a, ys.map Str.ofString, rfl, rfl, .inl (SqL.of (by rw [k1, RDs.strsOf k2 es])), ?_, g.here r (by unfold RD; rw [jn_of])⟩
        rw [ofString_len, List.length_map, List.map_map]
        have : (ys.map ((fun x : Str => x.length) ∘ Str.ofString)) = ys.map (·.length) := List.map_congr_left fun x _ => ofString_len x
        rw [this]
        exact hl
      · cases e
  | _ => rw [ey] at e; cases e
theorem tm_join {p : Pg} {Γ : NE} : TMeth p Γ "join" "str.join" rSJoin := ⟨PySem.F.slot_str_join, PySem.F.type_str_join, fun X ok c hc => by
  have e : c.K = X.K := hc.K.trans ok.K.symm
  unfold rSJoin
  rw [e]
  exact mt_join⟩
/-! ### split by one sign -/
def splC (ch : Char) : List Char → List (List Char)
  | [] => [[]]
  | x :: xs => if x = ch then [] :: splC ch xs else match splC ch xs with
    | h :: t => (x :: h) :: t
    | [] => [[x]]
def sSplit (_ : List MO) (z : String) : D → Option (List D)
  | .str y => match y.toList with
    | [ch] => if ch.toNat < 256 ∧ z.length ≤ 1000000 then some ((splC ch z.toList).map fun l => .str (String.ofList l)) else none
    | _ => none
  | _ => none
theorem splC_ne (ch : Char) : ∀ l, splC ch l ≠ []
  | [] => by simp [splC]
  | x :: xs => by
    unfold splC
    split
    · simp
    · split <;> simp
theorem spl_splC (ch : Char) : ∀ (l : List Char) (acc : List Nat), TL.spl [ch.toNat] 0 acc (l.map Char.toNat) = match splC ch l with
    | h :: t => (acc ++ h.map Char.toNat) :: t.map (List.map Char.toNat)
    | [] => []
  | [], acc => by simp [splC, TL.spl_nil]
  | x :: xs, acc => by
    rw [List.map_cons]
    by_cases e : x = ch
    · subst e
      have hp : TL.pre [x.toNat] (x.toNat :: xs.map Char.toNat) = true := by simp [TL.pre]
      rw [TL.spl_hit hp]
      show acc :: TL.spl [x.toNat] 0 [] (xs.map Char.toNat) = _
      rw [spl_splC x xs [], show splC x (x :: xs) = [] :: splC x xs from by rw [splC, if_pos rfl]]
      cases h : splC x xs with
      | nil => exact absurd h (splC_ne x xs)
      | cons a t => simp
    · have hp : TL.pre [ch.toNat] (x.toNat :: xs.map Char.toNat) = false := TL.pre_of_head _ _ (fun h => e (Char.toNat_inj.mp h))
      rw [TL.spl_miss hp, spl_splC ch xs]
      rw [show splC ch (x :: xs) = (match splC ch xs with
        | h :: t => (x :: h) :: t
        | [] => [[x]]) from by rw [splC, if_neg e]]
      cases h : splC ch xs with
      | nil => exact absurd h (splC_ne ch xs)
      | cons a t => simp
theorem split_of {z y : String} {ch : Char} (hy : y.toList = [ch]) (hc : ch.toNat < 256) : Txt.split (Str.ofString z) (Str.ofString y) = (splC ch z.toList).map fun l => Str.ofString (String.ofList l) := by
  refine TL.map_tl_inj ?_
  have ty : TL.tl (Str.ofString y) = [ch.toNat] := by rw [TL.tl_ofString, hy]; rfl
  rw [TL.split_spl _ _ (by rw [ty]; simp) (TL.kind_ok ?_), ty, TL.tl_ofString, spl_splC, List.map_map]
  · cases h : splC ch z.toList with
    | nil => exact absurd h (splC_ne ch _)
    | cons a t =>
      simp [TL.tl_ofString, Function.comp_def]
  · have : (Str.ofString y).cps = #[ch.toNat] := Array.toList_inj.mp (by rw [ofString_cps, hy]; rfl)
    rw [this]
    simpa using hc
def rSSplit : Cn → V → List V → Hp → VK → Prop := fun _ x xs H Q => ∃ a b, x = .str a ∧ xs = [.str b] ∧ (b.length == 0) = false ∧ a.length + 2 ≤ sizeLine ∧ rNewStrs (Txt.split a b) H Q
theorem RDs.ofStrs {c : Cn} {G : GW} {H : Hp} : ∀ ls : List (List Char), RDs c G H (ls.map fun l => .str (String.ofList l)) ((ls.map fun l => Str.ofString (String.ofList l)).map V.str)
  | [] => RDs.nil
  | l :: r => RDs.cons (by unfold RD; rfl) (RDs.ofStrs r)
theorem ot_split : OpTF sSplit rSSplit := by
  intro c G s σ H z y xs w Q r q e g
  unfold sSplit at e
  split at e
  · rename_i t
    split at e
    · rename_i ch et
      split at e
      · rename_i hh
        cases e
        simp only [RDw, RD] at q
        refine ⟨_, _, rfl, by rw [q], ?_, by rw [ofString_len, sizeLine_eq]; omega, fun p hp => ?_⟩
        · rw [ofString_len, ← String.length_toList, et]
          rfl
        · rw [split_of et hh.1]
          exact g p _ hp (RDs.ofStrs _)
      · cases e
    · cases e
  · cases e
theorem tm_split {p : Pg} {Γ : NE} : TMeth p Γ "split" "str.split" rSSplit := ⟨PySem.F.slot_str_split, PySem.F.type_str_split, fun X ok c hc => mt_split⟩
/-! ### str(x), int(text) -/
def oStr (_ : List MO) : D → Option D
  | .str z => some (.str z)
  | .int i => if i.natAbs < 2 ^ 64 then some (.str (toString i)) else none
  | _ => none
def rStrA : Cn → List V → Hp → VK → Prop := fun _ xs H Q => (∃ a, xs = [.str a] ∧ Q (.str a) H) ∨ ∃ i, xs = [.int i] ∧ i.natAbs.log2 < 1920 ∧ Q (.str (Str.ofString (toString i))) H
theorem call_strA {X : Cx} {c : Cn} : CallR X (.type "str") (rStrA c) := by
  intro pins s σ H xs us Q I r h
  rcases h with ⟨a, rfl, q⟩ | ⟨i, rfl, hl, q⟩
  · exact SkE.call_str_str pins s σ H _ us Q I r ⟨a, rfl, q⟩
  · exact call_str_int pins s σ H _ us Q I r ⟨i, rfl, hl, q⟩
theorem o_str : Op1 oStr (rOf rStrA) := by
  intro c G s σ H x d v Q r hx e g
  cases x with
  | str z =>
    cases e
    have hx : RD c G H (.str z) v := hx
    unfold RD at hx
    subst hx
    exact .inl ⟨_, rfl, g.here r (by unfold RD; rfl)⟩
  | int i =>
    simp only [oStr] at e
    split at e
    · rename_i hl
      cases e
      have hx : RD c G H (.int i) v := hx
      unfold RD at hx
      subst hx
      refine .inr ⟨i, rfl, ?_, g.here r (by unfold RD; rfl)⟩
      by_cases h0 : i.natAbs = 0
      · rw [h0]; decide
      · exact Nat.lt_of_lt_of_le ((Nat.log2_lt h0).mpr hl) (by decide)
    · cases e
  | _ => cases e
def oIntS (_ : List MO) : D → Option D
  | .str z => if z.length ≤ 600 then (PySem.intText? (Str.ofString z)).map .int else none
  | _ => none
def rIntSA : Cn → List V → Hp → VK → Prop := fun _ xs H Q => ∃ a n, xs = [.str a] ∧ PySem.intText? a = some n ∧ a.length ≤ 640 ∧ Q (.int n) H
theorem o_intS : Op1 oIntS (rOf rIntSA) := by
  intro c G s σ H x d v Q r hx e g
  cases x with
  | str z =>
    simp only [oIntS] at e
    split at e
    · rename_i hl
      rw [Option.map_eq_some_iff] at e
      obtain ⟨n, e, rfl⟩ := e
      have hx : RD c G H (.str z) v := hx
      unfold RD at hx
      subst hx
      exact ⟨_, n, rfl, e, by rw [ofString_len]; omega, g.here r (by unfold RD; rfl)⟩
    · cases e
  | _ => cases e
section
variable {p : Pg} {Γ : NE} {a : Expr} {m : PM D} {p' pos : Pos}
theorem se_str1 (hx : ("str" : Str) ∈ Γ.glo) (hm : p.mg "str" = none) (ha : SL p Γ a m) (he : ∀ env, starEach [a] env = (false, eval a env) :: starEach [] env) : SE p Γ (.Call (.Name "str" p') [a] [] pos) (e1 oStr m) :=
  se_o1 (one_ty (r := rStrA) (fun X ok c hc => call_strA) (by decide +kernel) hx hm he) o_str ha
theorem se_intS (hx : ("int" : Str) ∈ Γ.glo) (hm : p.mg "int" = none) (ha : SL p Γ a m) (he : ∀ env, starEach [a] env = (false, eval a env) :: starEach [] env) : SE p Γ (.Call (.Name "int" p') [a] [] pos) (e1 oIntS m) :=
  se_o1 (one_ty (r := rIntSA) (fun X ok c hc => call_int_str) (by decide +kernel) hx hm he) o_intS ha
end
end Ev

set_option maxHeartbeats 2000000
/-! Ev30: d.get; list of a text table, of a range; replace of one sign. -/
namespace Ev
open PySem PySem.Spec PyProof.Rows L2

/-! ### d.get(k), d.get(k, x) -/
def isDic (M : List MO) : D → Bool
  | .dic _ _ => true
  | .ref n => match M[n]? with
    | some (.dic _) => true
    | _ => false
  | _ => false
def dLook (M : List MO) (x : D) (k : KY) : Option (Option D) := match x with
  | .dic ks vs => match k with
    | .inr z => some (((ks.zip vs).find? fun q => decide (q.1 = z)).map (·.2))
    | .inl _ => none
  | .ref n => match M[n]? with
    | some (.dic kvs) => some (dGet kvs k)
    | _ => none
  | _ => none
def chkD (x : D) : PM Unit := fun s => if isDic s.M x then .ok () s else .bad
def getD_ (x y : D) (z : D) : PM D := fun s => match keyOf y with
  | some k => match dLook s.M x k with
    | some o => .ok (o.getD z) s
    | none => .bad
  | none => .bad
def eGet1 (mo mk : PM D) : PM D := mo >>= fun x => chkD x >>= fun _ => mk >>= fun y => getD_ x y .non
def eGet2 (mo mk mz : PM D) : PM D := mo >>= fun x => chkD x >>= fun _ => mk >>= fun y => mz >>= fun z => getD_ x y z
section
variable {c : Cn} {W : WX} {G : GW} {s : S} {σ : L2.St} {H : Hp} {Q : VK}
theorem isDic_ok {x : D} {v : V} (r : Rs c G s σ H) (hx : RD c G H x v) (h : isDic s.M x = true) : ∃ a, v = .ref a ∧ IsD H a := by
  unfold isDic at h
  split at h
  · unfold RD at hx
    obtain ⟨a, vs, rfl, _, h1, _⟩ := hx
    exact ⟨a, rfl, .inl ⟨_, .inl h1⟩⟩
  · rename_i n
    split at h
    · rename_i kvs e
      unfold RD at hx
      obtain ⟨a, rfl, ha⟩ := hx
      obtain ⟨ws, h1, _⟩ := r.obj n a _ ha e
      exact ⟨a, rfl, .inl ⟨_, .inl h1⟩⟩
    · cases h
  · cases h
theorem chkD_run {α β : Type} {R : Cn → GW → Hp → α → β → Prop} {g : Unit → PM α} {Q : β → Hp → Prop} {x : D} {v : V} (r : Rs c G s σ H) (hx : RD c G H x v) (h : Run R c W (chkD x >>= g) G s σ H Q) : ∃ a, v = .ref a ∧ IsD H a ∧ Run R c W (g ()) G s σ H Q := by
  unfold Run at h
  rw [bind_eq] at h
  unfold chkD at h
  by_cases e : isDic s.M x = true
  · rw [if_pos e] at h
    obtain ⟨a, h1, h2⟩ := isDic_ok r hx e
    exact ⟨a, h1, h2, h⟩
  · rw [if_neg e] at h
    exact h.elim
/-- what a look into a dict came to, by values -/
def OptR (c : Cn) (G : GW) (H : Hp) : Option D → Option V → Prop
  | some d, ov => ∃ u, ov = some u ∧ RD c G H d u
  | none, ov => ov = none
theorem dLook_ok {x : D} {v w : V} {y : D} {k : KY} {o : Option D} (r : Rs c G s σ H) (hx : RD c G H x v) (hy : RDw c G H y w) (ek : keyOf y = some k) (e : dLook s.M x k = some o) : ∃ a ov, v = .ref a ∧ DGet H a w ov ∧ OptR c G H o ov := by
  have hw := keyOf_rel ek hy
  unfold dLook at e
  split at e
  · rename_i ks vs
    split at e
    · rename_i z
      cases e
      unfold RD at hx
      obtain ⟨a, ws, rfl, f, h1, hl, h2⟩ := hx
      refine ⟨a, _, rfl, .inl ⟨_, .inr (Str.ofString z), .inl h1, hw, rfl⟩, ?_⟩
      rw [valV_zip ks ws (by rw [h2.length]; exact hl)]
      clear h1 hw ek hy
      have key : ∀ (ks : List String) (vs : List D) (ws : List V), RDs c G H vs ws → ks.length = vs.length → OptR c G H (((ks.zip vs).find? fun q => decide (q.1 = z)).map (·.2)) (((ks.zip ws).find? fun q => decide (q.1 = z)).map (·.2)) := by
        intro ks
        induction ks with
        | nil => intro vs ws _ _; rfl
        | cons x ks ih =>
          intro vs ws h2 hl
          cases vs with
          | nil => cases hl
          | cons d vs =>
            unfold RDs at h2
            obtain ⟨u, t, rfl, q1, q2⟩ := h2
            rw [List.zip_cons_cons, List.zip_cons_cons]
            by_cases hxz : x = z
            · subst hxz
              rw [List.find?_cons_of_pos (by simp), List.find?_cons_of_pos (by simp)]
              exact ⟨u, rfl, q1⟩
            · rw [List.find?_cons_of_neg (by simpa using hxz), List.find?_cons_of_neg (by simpa using hxz)]
              exact ih vs t q2 (by simpa using hl)
      exact key ks vs ws h2 hl
    · cases e
  · rename_i n
    split at e
    · rename_i kvs em
      cases e
      unfold RD at hx
      obtain ⟨a, rfl, ha⟩ := hx
      obtain ⟨ws, q1, q2⟩ := r.obj n a _ ha em
      refine ⟨a, _, rfl, .inl ⟨ws, toKey k, .inl q1, hw, rfl⟩, ?_⟩
      have g := RDk.get (k := k) q2
      cases hg : dGet kvs k with
      | some d =>
        rw [hg] at g
        exact g
      | none =>
        rw [hg] at g
        exact g
    · cases e
  · cases e
theorem getD_run {x y z : D} {v w u : V} (r : Rs c G s σ H) (hx : RD c G H x v) (hy : RDw c G H y w) (hz : RD c G H z u) (h : Run RD c W (getD_ x y z) G s σ H Q) : ∃ a ov, v = .ref a ∧ DGet H a w ov ∧ Q (ov.getD u) H := by
  unfold Run getD_ at h
  cases ek : keyOf y with
  | none => rw [ek] at h; exact h.elim
  | some k =>
    rw [ek] at h
    dsimp only at h
    cases e : dLook s.M x k with
    | none => rw [e] at h; exact h.elim
    | some o =>
      rw [e] at h
      obtain ⟨a, ov, h1, h2, h3⟩ := dLook_ok r hx hy ek e
      refine ⟨a, ov, h1, h2, h G H _ (.refl _ _) r ?_⟩
      cases o with
      | some d =>
        obtain ⟨u', rfl, q⟩ := h3
        exact q
      | none =>
        have h3 : ov = none := h3
        rw [h3]
        exact hz
end
/-- what the layer's rules ask of a call of a dict's method -/
structure DM1 (o : Expr) (name : Str) (apos : Pos) (e : Expr) (cpos : Pos) : Prop where
  base : ∀ env, attributeBase o name env (eval o env) = eval o env
  few : ∀ env, ((backTo cpos (starEach [e] env)).all (fun x => !x.1) && (backToKw cpos (keywordEach [] env)).all (fun x => x.1.isSome)
    && decide (([e] : List Expr).length + ([] : List Keyword).length + (if ([] : List Keyword).isEmpty then 0 else 1) < 30)) = true
  line : (apos.endLine == cpos.line) = true
  trees : ∀ env, backTo cpos (starEach [e] env) = [(false, eval e env)]
structure DM2 (o : Expr) (name : Str) (apos : Pos) (e f : Expr) (cpos : Pos) : Prop where
  base : ∀ env, attributeBase o name env (eval o env) = eval o env
  few : ∀ env, ((backTo cpos (starEach [e, f] env)).all (fun x => !x.1) && (backToKw cpos (keywordEach [] env)).all (fun x => x.1.isSome)
    && decide (([e, f] : List Expr).length + ([] : List Keyword).length + (if ([] : List Keyword).isEmpty then 0 else 1) < 30)) = true
  line : (apos.endLine == cpos.line) = true
  trees : ∀ env, backTo cpos (starEach [e, f] env) = [(false, eval e env), (false, eval f env)]
section
variable {p : Pg} {Γ : NE} {o e f : Expr} {mo mk mz : PM D} {apos cpos : Pos}
theorem se_get1 (ho : SE p Γ o mo) (he : SE p Γ e mk) (m : DM1 o "get" apos e cpos) : SE p Γ (.Call (.Attribute o "get" apos) [e] [] cpos) (eGet1 mo mk) := by
  intro X ok W tk c hc
  refine (pe_dget1 (by have := ok.u64; omega) (ho X ok W tk c hc) (he X ok W tk c hc) ⟨m.base _, m.few _, m.line, m.trees _⟩).weak fun σ H Q h => ?_
  obtain ⟨G, s, r, h⟩ := h
  refine ⟨G, s, r, (Run.bind (R := RD) h).mono fun v H1 ⟨G1, s1, x, x1, r1, q1, h1⟩ => ?_⟩
  obtain ⟨a, rfl, hd, h1⟩ := chkD_run r1 q1 h1
  refine ⟨a, rfl, hd, G1, s1, r1, (Run.bind (R := RD) h1).mono fun w H2 ⟨G2, s2, y, x2, r2, q2, h2⟩ => ?_⟩
  obtain ⟨a', ov, e1, e2, q⟩ := getD_run (u := V.non) r2 (q1.mono x2) q2.w (by unfold RD; rfl) h2
  cases e1
  exact ⟨ov, e2, q⟩
theorem se_get2 (ho : SE p Γ o mo) (he : SE p Γ e mk) (hf : SE p Γ f mz) (m : DM2 o "get" apos e f cpos) : SE p Γ (.Call (.Attribute o "get" apos) [e, f] [] cpos) (eGet2 mo mk mz) := by
  intro X ok W tk c hc
  refine (pe_dget2 (by have := ok.u64; omega) (ho X ok W tk c hc) (he X ok W tk c hc) (hf X ok W tk c hc) ⟨m.base _, m.few _, m.line, m.trees _⟩).weak fun σ H Q h => ?_
  obtain ⟨G, s, r, h⟩ := h
  refine ⟨G, s, r, (Run.bind (R := RD) h).mono fun v H1 ⟨G1, s1, x, x1, r1, q1, h1⟩ => ?_⟩
  obtain ⟨a, rfl, hd, h1⟩ := chkD_run r1 q1 h1
  refine ⟨a, rfl, hd, G1, s1, r1, (Run.bind (R := RD) h1).mono fun w H2 ⟨G2, s2, y, x2, r2, q2, h2⟩ => ?_⟩
  refine ⟨G2, s2, r2, (Run.bind (R := RD) h2).mono fun u H3 ⟨G3, s3, z, x3, r3, q3, h3⟩ => ?_⟩
  obtain ⟨a', ov, e1, e2, q⟩ := getD_run r3 (q1.mono (x2.trans x3)) (q2.mono x3).w q3 h3
  cases e1
  exact ⟨ov, e2, q⟩
end
/-! ### list(a text table) -/
def rListT : Cn → List V → Hp → VK → Prop := fun c xs H Q => ∃ (a : Addr) (kvs : List (String × String)), xs = [.ref a] ∧ KTab c.K c.w a kvs ∧ kvs.length ≤ 1000 ∧ ∀ q, H q = none → Q (.ref q) (upd H q (.lst (kvs.map fun kv => V.str (Str.ofString kv.1))))
theorem call_listT {X : Cx} {c : Cn} (hcm : X.calm = true) (hK : c.K = X.K) (hw : c.w = X.w) : CallR X (.type "list") (rListT c) := by
  intro pins s σ H xs us Q I r q
  obtain ⟨a, tvs, ex, hd, hl, q⟩ := q
  subst ex
  obtain ⟨u, eu, rx⟩ := vals1 r
  subst eu
  cases rx
  rw [hK, hw] at hd
  obtain ⟨lo, vs, rk, dd⟩ := tab_dict (P := X.prog) I.kIn hd
  obtain ⟨ep, hat⟩ := dd.dictAt
  have z : (tabK tvs).length ≤ sizeLine := by unfold tabK; rw [List.length_map]; exact line1000 hl
  have hlv : (tabK tvs).length = vs.length := Paired.length rk
  have ek : (tabK tvs).map (fun kv => kV kv.1) = tvs.map fun kv => V.str (Str.ofString kv.1) := by
    unfold tabK
    rw [List.map_map]
    rfl
  refine PySem.W.kdl_call (PySem.W.kdl_dict (knd := mixKind X.prog X.w) (kvs := vs) (ep := ep) lo) (I.ok.hd hcm) hat (by rw [← hlv]; exact z) fun h' tk acc' c' hkeep hS hacc => ?_
  refine ⟨.ref s.heap.objs.size, upd H s.heap.objs.size (.lst (tvs.map fun kv => V.str (Str.ofString kv.1))), I.laid hkeep (Nat.le_refl _) (show ObjOk X.prog X.w _ _ _ (.lst _) from ⟨?_, acc'.toList, c', ?_, ?_⟩), rfl, q _ (I.hok.fresh (Nat.le_refl _))⟩
  · rw [List.length_map]; exact line1000 hl
  · rw [← ek]
    have el : acc'.toList.length = acc'.size := by simp
    refine vals_of_at (by rw [List.length_map, el, hacc.1, hlv]) fun j x w h1 h2 => ?_
    obtain ⟨k, y, hky, hi⟩ := hacc.2 j w (by rw [← Array.getElem?_toList]; exact h2)
    have e1 : ((tabK tvs).map (·.1))[j]? = some k := by
      rw [KV.keys rk, List.getElem?_map, hky] <;> rfl
    have e2 : ((tabK tvs).map fun kv => kV kv.1)[j]? = some (kV k) := by
      have e3 : ((tabK tvs).map fun kv => kV kv.1) = ((tabK tvs).map (·.1)).map kV := by rw [List.map_map] <;> rfl
      rw [e3, List.getElem?_map, e1] <;> rfl
    rw [e2] at h1
    cases h1
    exact keyIs_rel hi
  · rw [Array.toArray_toList]; exact hS
def keysT (_ : List MO) : D → Option (List D)
  | .tab kvs => if kvs.length ≤ 1000 then some (kvs.map fun kv => .str kv.1) else none
  | _ => none
theorem RDs.keysT {c : Cn} {G : GW} {H : Hp} : ∀ kvs : List (String × String), RDs c G H (kvs.map fun kv => .str kv.1) (kvs.map fun kv => V.str (Str.ofString kv.1))
  | [] => RDs.nil
  | q :: r => RDs.cons (by unfold RD; rfl) (RDs.keysT r)
theorem o_keysT : Op1F keysT (rOf rListT) := by
  intro c G s σ H x xs v Q r hx e g
  cases x with
  | tab kvs =>
    simp only [Ev.keysT] at e
    split at e
    · rename_i hl
      cases e
      have hx : RD c G H (.tab kvs) v := hx
      unfold RD at hx
      obtain ⟨a, rfl, t⟩ := hx
      exact ⟨a, kvs, rfl, t, hl, fun q hq => g q _ hq (RDs.keysT kvs)⟩
    · cases e
  | _ => cases e
section
variable {p : Pg} {Γ : NE} {a b : Expr} {m ma mb : PM D} {p' p2 pos pos2 : Pos}
theorem sf_listT (hcm : Γ.calm = true) (hx : ("list" : Str) ∈ Γ.glo) (hm : p.mg "list" = none) (ha : SL p Γ a m) (he : ∀ env, starEach [a] env = (false, eval a env) :: starEach [] env) : SF p Γ (.Call (.Name "list" p') [a] [] pos) (f1 Ev.keysT m) :=
  sf_o1 (one_ty (r := rListT) (fun X ok c hc => call_listT (ok.calm hcm).1 (hc.K.trans ok.K.symm) (hc.w.trans ok.w.symm)) boot_list hx hm he) o_keysT ha
/-! ### list(range(a, b)) -/
def rngL (i j : Int) : List D := (List.range (j - i).toNat).map fun k => .int (i + (k : Nat))
def fRg2 (ma mb : PM D) : PM (List D) := ma >>= fun x => mb >>= fun y => fun s => match x, y with
  | .int i, .int j => if 0 ≤ i ∧ i ≤ 100000 ∧ 0 ≤ j ∧ j ≤ 100000 then .ok (rngL i j) s else .bad
  | _, _ => .bad
theorem RDs.rng {c : Cn} {G : GW} {H : Hp} (i j : Int) : RDs c G H (rngL i j) (rgV i j) := by
  unfold rngL rgV
  induction List.range (j - i).toNat with
  | nil => exact RDs.nil
  | cons x xs ih => exact RDs.cons (by unfold RD; rfl) ih
theorem sf_listR2 (hcm : Γ.calm = true) (hx : ("list" : Str) ∈ Γ.glo) (hm : p.mg "list" = none) (hx2 : ("range" : Str) ∈ Γ.glo) (hm2 : p.mg "range" = none) (ha : SE p Γ a ma) (hb : SE p Γ b mb)
    (na : ∀ env, starEach [.Call (.Name "range" p2) [a, b] [] pos2] env = (false, eval (.Call (.Name "range" p2) [a, b] [] pos2) env) :: starEach [] env)
    (na2 : ∀ env, starEach [a, b] env = (false, eval a env) :: starEach [b] env) (nb : ∀ env, starEach [b] env = (false, eval b env) :: starEach [] env) (hp : ∀ env, (backTo pos2 (starEach [b] env)).any (·.1) = false) :
    SF p Γ (.Call (.Name "list" p') [.Call (.Name "range" p2) [a, b] [] pos2] [] pos) (fRg2 ma mb) := by
  intro X ok W tk c hc
  obtain ⟨g1, g2, g3⟩ := ok.glo _ hx
  obtain ⟨k1, k2, k3⟩ := ok.glo _ hx2
  refine (pe_listRg (ok.calm hcm).1 g1 (by rw [ok.mg]; exact hm) (prg_2 k1 (by rw [ok.mg]; exact hm2) (ha X ok W tk c hc) (hb X ok W tk c hc) (na2 _) (nb _) (hp _)) (na _)).weak fun σ H Q h => ?_
  obtain ⟨G, s, r, h⟩ := h
  refine ⟨G, s, r, (RunF.bind (R := RD) h).mono fun v H1 ⟨G1, s1, x, x1, r1, q1, h1⟩ => ?_⟩
  refine ⟨G1, s1, r1, (RunF.bind (R := RD) h1).mono fun w H2 ⟨G2, s2, y, x2, r2, q2, h2⟩ => ?_⟩
  have h3 := h2
  unfold RunF at h2
  cases x with
  | int i =>
    cases y with
    | int j =>
      unfold RD at q1 q2
      by_cases hl : 0 ≤ i ∧ i ≤ 100000 ∧ 0 ≤ j ∧ j ≤ 100000
      · exact ⟨i, j, q1, q2, RgOk.of_le hl.1 (by omega) (by omega) hl.2.2.1, fun q hq => h3.new (by dsimp only; rw [if_pos hl]) r2 (RDs.rng i j) hq⟩
      · dsimp only at h2
        rw [if_neg hl] at h2
        exact h2.elim
    | _ => exact h2.elim
  | _ => exact h2.elim
/-! ### x[i].replace(one sign, nothing) -/
def repC (ch : Char) : Option String := if ch = 'n' then some "" else if ch = 'c' then some "c" else if ch = 'w' then some "w" else none
def eRepN (i : Int) (ma : PM D) : PM D := ma >>= fun x => fun s => match x with
  | .str t => if t.length ≤ small then match atI t.toList i with
      | some ch => match repC ch with
        | some z => .ok (.str z) s
        | none => .bad
      | none => .bad
    else .bad
  | _ => .bad
theorem repC_ok {ch : Char} {z : String} (h : repC ch = some z) : Txt.replace ⟨#[ch.toNat]⟩ (Str.ofString "n") (Str.ofString "") = Str.ofString z := by
  unfold repC at h
  split at h
  · rename_i e
    cases h
    subst e
    decide +kernel
  · split at h
    · rename_i e
      cases h
      subst e
      decide +kernel
    · split at h
      · rename_i e
        cases h
        subst e
        decide +kernel
      · cases h
theorem se_repN {i : Int} {j j1 j2 : Nat} {cp sp c0 c1 apos cpos : Pos} (ha : SE p Γ a ma)
    (hst : ∀ env, starEach [.Constant (.str (Str.ofString "n")) j1 c0, .Constant (.str (Str.ofString "")) j2 c1] env = [(false, eval (.Constant (.str (Str.ofString "n")) j1 c0) env), (false, eval (.Constant (.str (Str.ofString "")) j2 c1) env)])
    (hbase : ∀ env, attributeBase (.Subscript a (.Constant (.int i) j cp) sp) "replace" env (eval (.Subscript a (.Constant (.int i) j cp) sp) env) = eval (.Subscript a (.Constant (.int i) j cp) sp) env) (hline : (apos.endLine == cpos.line) = true) :
    SE p Γ (.Call (.Attribute (.Subscript a (.Constant (.int i) j cp) sp) "replace" apos) [.Constant (.str (Str.ofString "n")) j1 c0, .Constant (.str (Str.ofString "")) j2 c1] [] cpos) (eRepN i ma) := by
  intro X ok W tk c hc
  refine ⟨fun pins s σ H Q I h => ?_⟩
  obtain ⟨G, st, r, h⟩ := h
  refine PySem.Call_method2 (hbase _) (hst _) hline ?_
  refine Subscript_ (thn ((ha X ok W tk c hc).run pins s σ H _ I ⟨G, st, r, Run.bind (R := RD) h⟩) fun v s1 ⟨x, H1, I1, rx, G1, st1, d, x1, r1, q1, h1⟩ => wpAny_Constant_int ?_)
  unfold Run at h1
  cases d with
  | str t =>
    dsimp only at h1
    by_cases hl : t.length ≤ small
    · rw [if_pos hl] at h1
      cases e1 : atI t.toList i with
      | none => rw [e1] at h1; exact h1.elim
      | some ch =>
        rw [e1] at h1
        dsimp only at h1
        cases e2 : repC ch with
        | none => rw [e2] at h1; exact h1.elim
        | some z =>
          rw [e2] at h1
          unfold RD at q1
          subst q1
          have q2 : Q (.str (Str.ofString z)) H1 := h1 G1 H1 _ (.refl _ _) r1 (by unfold RD; rfl)
          have hix : rIxS (.str (Str.ofString t)) (.int i) H1 (fun w H2 => w = .str ⟨#[ch.toNat]⟩ ∧ H2 = H1) := ⟨_, i, ch.toNat, rfl, rfl, by rw [ofString_len]; exact smallLine hl, by rw [ofString_cps, ixN_map, e1]; rfl, rfl, rfl⟩
          refine wpAny_mono (PySem.wpAny_toks (ix_str a (.Constant (.int i) j cp) pins _ σ H1 _ _ v _ _ (I1.tok _) rx (show RelV (.int i) _ from ⟨_, rfl⟩) hix (by rfl))) (fun w s2 q => ?_) fun _ _ z => z.2
          obtain ⟨hk, w', H2, I2, rw', e3, e4⟩ := q
          subst e3
          subst e4
          obtain ⟨tx, rfl⟩ := rw'
          refine ⟨"str", _, PySem.F.plainAttrs_str, PySem.F.slot_str_replace, PySem.F.type_str_replace, typeIs_str _ _ _, (fun _ e => nomatch e), Calls.callWith_builtin rfl (Calls.evalArgs_plain (Calls.spliced_cons ?_))⟩
          refine Calls.Constant_str (Calls.spliced_cons (Calls.Constant_str (Calls.spliced_nil ?_)))
          have hk' : s1.toks + 1 ≤ s2.toks := hk
          exact PySem.SC.replace (by show s2.toks ≠ 0; omega) (by show s2.toks + 1 ≠ 0; omega) (by show s2.toks ≠ s2.toks + 1; omega) (by decide) (by show (1 : Nat) + (1 + 1) * 0 ≤ 16777216; omega) fun t' k => ⟨.str (Str.ofString z), H2, I2.tok k, ⟨t', by rw [repC_ok e2]⟩, q2⟩
    · rw [if_neg hl] at h1
      exact h1.elim
  | _ => exact h1.elim
end
end Ev

set_option maxHeartbeats 2000000
/-! Ev31: a lambda of one parameter that has a number for default, handed to a def. -/
namespace Ev
open PySem PySem.Spec PyProof.Rows L2

structure LamSD (X : Cx) (scope : Scope) (b : Str) : Prop where
  kind : scope.kind = .function
  co : scope.isCoroutine = false
  gen : scope.isGenerator = false
  own : ∀ y ∈ scope.names, y.2 ≠ .cell ∧ (y.2 = .local → y.1 = b)
  free : ∀ y ∈ scope.names, y.2 = .free → X.env.scope.names.lookup y.1 = some .cell ∨ X.env.scope.names.lookup y.1 = some .free
  loc : scope.names.lookup b = some .local
  out : b ∉ X.N
structure LamStD (Γ : NE) (scope : Scope) (b : Str) : Prop where
  kind : scope.kind = .function
  co : scope.isCoroutine = false
  gen : scope.isGenerator = false
  own : ∀ y ∈ scope.names, y.2 ≠ .cell ∧ (y.2 = .local → y.1 = b)
  free : ∀ y ∈ scope.names, y.2 = .free → y.1 ∈ Γ.cap
  loc : scope.names.lookup b = some .local
  out : b ∉ Γ.N
def lamStDB (Γ : NE) (scope : Scope) (b : Str) : Bool :=
  decide (scope.kind = .function) && (!scope.isCoroutine && (!scope.isGenerator && ((scope.names.all fun y => !decide (y.2 = .cell) && ((!decide (y.2 = .local) || decide (y.1 = b)) && (!decide (y.2 = .free) || decide (y.1 ∈ Γ.cap)))) && (decide (scope.names.lookup b = some .local) && !decide (b ∈ Γ.N)))))
theorem lamStD_by {Γ : NE} {scope : Scope} {b : Str} (h : lamStDB Γ scope b = true) : LamStD Γ scope b := by
  unfold lamStDB at h
  simp only [Bool.and_eq_true, Bool.or_eq_true, Bool.not_eq_true', decide_eq_true_eq, decide_eq_false_iff_not, List.all_eq_true] at h
  obtain ⟨h1, h2, h3, h4, h5, h6⟩ := h
  exact ⟨h1, h2, h3, fun y hy => ⟨(h4 y hy).1, fun e => (h4 y hy).2.1.resolve_left fun z => z e⟩, fun y hy e => (h4 y hy).2.2.resolve_left fun z => z e, h5, h6⟩
theorem LamStD.at {Γ Γ0 : NE} {scope : Scope} {b : Str} (L : LamStD Γ0 scope b) (h : Γ0.cap = Γ.cap) (hN : Γ0.N = Γ.N) : LamStD Γ scope b := ⟨L.kind, L.co, L.gen, L.own, fun y hy e => by rw [← h]; exact L.free y hy e, L.loc, by rw [← hN]; exact L.out⟩
theorem LamSD.has {X : Cx} {scope : Scope} {b : Str} (L : LamSD X scope b) (ok : X.Ok) : ∀ y ∈ scope.names, y.2 = .free → ∃ c, X.env.cells.lookup y.1 = some c := fun y hy e => by
  rcases L.free y hy e with k | k
  · exact ok.has _ (.inl k)
  · exact ok.has _ (.inr k)
/-- how the default is bound -/
def BindD (params : Arguments) (body : Expr) (scope : Scope) (b : Str) (di : Int) : Prop := ∀ (q : Str) (cl : List (Str × Addr)) (doc pm cv ctv : Value) (dT : Addr) (t : Tok), ∃ k : Option (Array Value) → Sem (List (Str × Value)),
  bindArgs (PySem.W.kdv_fn "<lambda>" q params (.expr body) scope cl (.ref dT) doc pm cv ctv) ⟨[], []⟩ = seqItems? (.ref dT) >>= k ∧ k (some #[.int di t]) = pure [(b, .int di t)]
abbrev lamO (X : Cx) (params : Arguments) (body : Expr) (scope : Scope) (dT : Addr) (doc pm : Value) (c' : Addr) (ctv : Value) : Obj :=
  PySem.W.kdv_obj "<lambda>" (X.env.qual ++ "<lambda>") params (.expr body) scope (L2.cloFrom X.env.cells scope.names []) (.ref dT) doc pm c' ctv
section
variable {X : Cx} {pins : List (Addr × Obj)} {σ : L2.St} {H : Hp} {s : Shared}
theorem lam_tail {T : List (Addr × Str)} {c P dT : Addr} {params : Arguments} {body : Expr} {scope : Scope} {pos : Pos} {E : Value → Shared → Prop} {Q : Value → Shared → Prop} (I : Inv X pins σ H s) (TB : LamX.TabB X.base X.mg c P) (hcode : X.env.code = .ref c)
    (hm : (P, X.env.qual ++ "<lambda>") ∈ T) (hu : ∀ p ∈ T, p.1 = P → p.2 = X.env.qual ++ "<lambda>") (hT : LamX.Tabs T H) (hfree : ∀ y ∈ scope.names, y.2 = .free → ∃ c, X.env.cells.lookup y.1 = some c)
    (h : ∀ (f c' : Addr) (pm ctv doc : Value) (H1 : Hp) (s' : Shared), Inv X pins σ H1 s' → LamX.ExtN H H1 → LamX.Tabs T H1 → s.heap.objs.size ≤ f → (∀ b o, b ≠ P → s.heap.get? b = some o → s'.heap.get? b = some o) → (∀ b, H b = none → b < s.heap.objs.size → H1 b = none) →
      s'.heap.get? f = some (lamO X params body scope dT doc pm c' ctv) → H1 f = none → f ∉ frs X.stack → H1 c' = some (LamX.CodeO c' (X.env.qual ++ "<lambda>")) → Q (.ref f) s') :
    wpAny (model X.prog X.w) X.A (makeTail "<lambda>" (X.env.qual ++ "<lambda>") params (.expr body) scope X.env (.ref dT) .none none pos pos.line) Q E s := by
  obtain ⟨ps, hP, ht, ha⟩ := hT _ hm
  have bP : s.heap.BuiltinsAt X.mg P := TB.bm.keeps I.bk
  have hP2 : s.heap.get? P = some { cls := .none, data := .fields ps } := I.hok P _ hP
  have far : ∀ f, s.heap.objs.size ≤ f → f ∉ frs X.stack := fun f hf z => by
    rcases List.mem_cons.mp (I.stkSub _ z) with e | e
    · have h1 := I.lt
      rw [← e] at h1
      exact absurd h1 (Nat.not_lt.mpr hf)
    · exact I.nofs hf e
  cases hc : codeAmong pos ps.toList with
  | none =>
    refine PySem.W.kdv_makeTail (mg := X.mg) (c := c) (P := P) (ps := ps) (L2.closure_ok hfree) I.ok.glob (I.mod.glob.keeps I.bk) hcode (TB.code.keeps I.bk) hP2 ht hc TB.gP bP fun c' ctv doc h' tk hx hge hlt hrec htb => ?_
    obtain ⟨c2, oc, vs, t, e2, hoc, hd, hv⟩ := hrec
    cases e2
    have hsz : s.heap.objs.size ≤ h'.objs.size := Nat.le_trans hge (Nat.le_of_lt hlt)
    have nC : H c' = none := I.hok.fresh hge
    have I1 := LamX.inv_table (t' := tk) (more := #[rawInt pos.line, rawInt pos.col, .ref c']) (h' := h'.push (lamO X params body scope dT doc ((X.mg "__name__").getD .none) c' ctv)) I hP
      (fun b o hb e => Heap.get?_push_of_some _ (hx b o hb e)) (Heap.get?_push_of_some _ htb) hge ⟨oc, vs, t, Heap.get?_push_of_some _ hoc, hd, hv⟩
    have hE : LamX.ExtN H (upd (upd H P (.tbl (ps ++ #[rawInt pos.line, rawInt pos.col, .ref c']))) c' (LamX.CodeO c' (X.env.qual ++ "<lambda>"))) := fun b o e n => by
      rw [upd_ne (ne_of_none e nC), upd_ne (fun z => n ps (Option.some.inj (e.symm.trans (by rw [z]; exact hP))))]
      exact e
    have eL : (ps ++ #[rawInt pos.line, rawInt pos.col, .ref c']).toList = ps.toList ++ [rawInt pos.line, rawInt pos.col, .ref c'] := by simp
    refine h h'.objs.size c' ((X.mg "__name__").getD .none) ctv doc _ _ I1 hE (fun p hp => ?_) hsz (fun b o hb e => Heap.get?_push_of_some _ (hx b o hb e)) (fun b hb hlt => ?_) (Heap.get?_push_size _ rfl) ?_ (far _ hsz) upd_same
    · by_cases hb : p.1 = P
      · rw [hu p hp hb, hb]
        refine ⟨_, by rw [upd_ne (ne_of_none hP nC), upd_same], by rw [eL]; exact PySem.TriplesOk_snoc _ _ _ _ ht, fun p' cv hcv => ?_⟩
        rw [eL] at hcv
        rcases LamX.among_app _ ht hcv with z | z
        · obtain ⟨c0, e1, e2⟩ := ha p' cv z
          exact ⟨c0, e1, hE _ _ e2 LamX.codeO_ne⟩
        · exact ⟨c', z, upd_same⟩
      · obtain ⟨ps', a1, a2, a3⟩ := hT p hp
        refine ⟨ps', by rw [upd_ne (ne_of_none a1 nC), upd_ne hb]; exact a1, a2, fun p' cv hcv => ?_⟩
        obtain ⟨c0, e1, e2⟩ := a3 p' cv hcv
        exact ⟨c0, e1, hE _ _ e2 LamX.codeO_ne⟩
    · have n1 : b ≠ c' := Nat.ne_of_lt (Nat.lt_of_lt_of_le hlt hge)
      have n2 : b ≠ P := fun z => by rw [z, hP] at hb; cases hb
      rw [upd_ne n1, upd_ne n2]
      exact hb
    · have n1 : h'.objs.size ≠ c' := Nat.ne_of_gt hlt
      have n2 : h'.objs.size ≠ P := Nat.ne_of_gt (Nat.lt_of_lt_of_le (Heap.lt_size hP2) hsz)
      rw [upd_ne n1, upd_ne n2]
      exact I.hok.fresh hsz
  | some cv =>
    obtain ⟨c', e, hco⟩ := ha pos cv hc
    subst e
    refine PySem.W.kdv_makeTailHit (mg := X.mg) (c := c) (P := P) (ps := ps) (L2.closure_ok hfree) I.ok.glob (I.mod.glob.keeps I.bk) hcode (TB.code.keeps I.bk) hP2 ht hc bP fun ctv doc h' tk hx hsz => ?_
    have I1 : Inv X pins σ H { s with heap := h'.push (lamO X params body scope dT doc ((X.mg "__name__").getD .none) c' ctv), toks := tk } := I.kept fun b o e => Heap.get?_push_of_some _ (hx b o e)
    exact h h'.objs.size c' ((X.mg "__name__").getD .none) ctv doc H _ I1 (LamX.ExtN.refl H) hT hsz (fun b o _ e => Heap.get?_push_of_some _ (hx b o e)) (fun b hb _ => hb) (Heap.get?_push_size _ rfl) (I.hok.fresh hsz) (far _ hsz) hco
theorem lam_make3 {T : List (Addr × Str)} {c P : Addr} {params : Arguments} {body : Expr} {scope : Scope} {pos dp : Pos} {di : Int} {dj : Nat} {E : Value → Shared → Prop} {Q : Value → Shared → Prop} (I : Inv X pins σ H s) (TB : LamX.TabB X.base X.mg c P) (hcode : X.env.code = .ref c)
    (hm : (P, X.env.qual ++ "<lambda>") ∈ T) (hu : ∀ p ∈ T, p.1 = P → p.2 = X.env.qual ++ "<lambda>") (hT : LamX.Tabs T H) (hdf : params.defaults = [.Constant (.int di) dj dp]) (hkd : params.kw_defaults = []) (hfree : ∀ y ∈ scope.names, y.2 = .free → ∃ c, X.env.cells.lookup y.1 = some c)
    (h : ∀ (f c' : Addr) (pm ctv doc : Value) (dT : Addr) (dt : Tok) (H1 : Hp) (s' : Shared), Inv X pins σ H1 s' → LamX.ExtN H H1 → LamX.Tabs T H1 →
      s'.heap.get? f = some (lamO X params body scope dT doc pm c' ctv) → H1 f = none → f ∉ frs X.stack → s'.heap.get? dT = some (PySem.W.kdv_tup [.int di dt]) → H1 dT = none → dT ∉ frs X.stack → H1 c' = some (LamX.CodeO c' (X.env.qual ++ "<lambda>")) → Q (.ref f) s') :
    wpAny (model X.prog X.w) X.A (eval (.Lambda params body scope pos) X.env) Q E s := by
  refine PySem.W.kdv_lam (by rw [hdf]; rfl) hkd ?_
  rw [hdf]
  refine PySem.W.kdv_all1 (wpAny_Constant_int (PySem.W.kdv_all0 ?_))
  rw [makeFunction_eq]
  simp only [List.zip_nil_right, List.filterMap_nil, List.isEmpty_nil, if_true, pure_bind, List.isEmpty_cons, Bool.false_eq_true, if_false]
  refine wpAny_bind (wpAny_newTextTuple ?_)
  have I1 : Inv X pins σ H { s with heap := s.heap.push { cls := .type "tuple", data := .seq [Value.int di s.toks].toArray }, toks := s.toks + 1 } := I.kept (t' := s.toks + 1) fun b o e => Heap.get?_push_of_some _ e
  have far : s.heap.objs.size ∉ frs X.stack := fun z => by
    rcases List.mem_cons.mp (I.stkSub _ z) with e | e
    · have h1 := I.lt
      rw [← e] at h1
      exact absurd h1 (Nat.lt_irrefl _)
    · exact I.nofs (Nat.le_refl _) e
  obtain ⟨ps, hP, _⟩ := hT _ hm
  have nP : s.heap.objs.size ≠ P := fun z => by
    have e := I.hok P _ hP
    have e : s.heap.get? P = some { cls := .none, data := .fields ps } := e
    have l := Heap.lt_size e
    rw [← z] at l
    exact absurd l (Nat.lt_irrefl _)
  refine lam_tail (dT := s.heap.objs.size) I1 TB hcode hm hu hT hfree fun f c' pm ctv doc H1 s' I2 eN T1 hge hk hn hf hfn hfr hco => ?_
  refine h f c' pm ctv doc s.heap.objs.size s.toks H1 s' I2 eN T1 hf hfn hfr (hk _ _ nP (Heap.get?_push_size _ rfl)) (hn _ (I.hok.fresh (Nat.le_refl _)) (by show s.heap.objs.size < (s.heap.push _).objs.size; rw [Heap.size_push]; omega)) far hco
end
section
variable {X : Cx} {pins : List (Addr × Obj)} {σ : L2.St} {H HZ : Hp} {s s1 : Shared}
theorem lam_start3 {A : Around} {outer : List Env} {E : XK} {scope : Scope} {f c' : Addr} {h₁ : Heap} {tk : Nat} {b : Str} {dv : Value} (I : Inv X pins σ H s) (L : LamSD X scope b) (e0 : Env0 X.prog X.w X.K X.mg X.base A outer s1 HZ) (hd : A.handled = none)
    (un : Un (frs X.stack) [] H HZ s.heap s1.heap) (hns : h₁.Ns s1.heap.objs.size fun y => ([(b, dv)] : List (Str × Value)).reverse.lookup y) (kp : ∀ b o, s1.heap.get? b = some o → h₁.get? b = some o) :
    Inv (LamX.lamCx X A outer s1 HZ E scope f c') [] σ HZ { s1 with heap := h₁, toks := tk } := by
  have hfree := L.has I.ok
  have cm : ∀ {y c}, (L2.cloFrom X.env.cells scope.names []).lookup y = some c → X.env.cells.lookup y = some c := fun {y c} e => by
    rcases L2.cloFrom_mem (PySem.mem_of_lookup e) with hm | ⟨h1, h2⟩
    · cases hm
    · obtain ⟨c1, hc⟩ := hfree _ h1 rfl
      have hc : X.env.cells.lookup y = some c1 := hc
      have e2 : c = c1 := by
        rw [h2, hc] <;> rfl
      rw [e2]
      exact hc
  have look : ∀ {y}, scope.names.lookup y = some .free → ∃ c, (L2.cloFrom X.env.cells scope.names []).lookup y = some c := fun {y} hl =>
    L2.mem_lookup (L2.cloFrom_has (cells := X.env.cells) (acc := []) (PySem.mem_of_lookup hl))
  have cellK : ∀ {c : Addr} {v : Option Value}, H c = none → s.heap.IsCell c v → h₁.IsCell c v := fun {c v} n ⟨o, ho, hd⟩ => by
    obtain ⟨sl, q⟩ := un.any ho n (by simp)
    exact ⟨_, kp _ _ q, hd⟩
  have noA : ∀ b : Addr, b ∉ (LamX.lamCx X A outer s1 HZ E scope f c').ex := fun b z => absurd (show b ∈ ([] : List Addr) from z) (by simp)
  refine ⟨⟨e0.mod, L.kind, rfl, rfl, Nat.le_refl _, fun y z c e1 e2 => I.ok.inj y z c (cm e1) (cm e2), fun y hy => ?_, fun y c z _ => ?_, fun _ => hd, Around.frames_deeper e0.frames, .inr ⟨rfl, rfl⟩, fun b z => absurd z (noA b), e0.bs, e0.bsz, fun b _ _ => noA b,
      fun b z => absurd z (noA b), e0.funs, e0.frf⟩,
    rfl, e0.bare, Un.kept kp, ⟨_, hns, fun i y v e1 e2 e3 => ?_⟩, fun y c e => ?_, e0.hok.fresh (Nat.le_refl _), fun y c e => ?_, fun q hq => absurd (show q ∈ ([] : List (Addr × Obj)) ++ [] from hq) (by simp), e0.hok.kept kp, I.len⟩
  · have hy : scope.names.lookup y = some .cell ∨ scope.names.lookup y = some .free := hy
    rcases hy with hy | hy
    · exact absurd rfl (L.own _ (PySem.mem_of_lookup hy)).1
    · exact look hy
  · have z : false = true := z
    cases z
  · have e3 : Vis scope y := e3
    rcases e3 with k | k | k
    · have : y = b := (L.own _ (PySem.mem_of_lookup k)).2 rfl
      subst this
      exact absurd (List.mem_of_getElem? e1) L.out
    · exact absurd rfl (L.own _ (PySem.mem_of_lookup k)).1
    · obtain ⟨m, hn, hl⟩ := I.loc
      have hvis : Vis X.env.scope y := (L.free _ (PySem.mem_of_lookup k) rfl).elim (fun k => .inr (.inl k)) (fun k => .inr (.inr k))
      obtain ⟨w', r, q⟩ := hl i y v e1 e2 hvis
      obtain ⟨c2, h2⟩ := look k
      refine ⟨w', r, .inr ⟨.inr k, c2, h2, ?_⟩⟩
      have c1 := cm h2
      rcases q with ⟨k', _⟩ | ⟨_, c3, e', z⟩
      · have k' : X.env.scope.names.lookup y = some .local := k'
        rcases L.free _ (PySem.mem_of_lookup k) rfl with k2 | k2 <;> rw [show X.env.scope.names.lookup y = _ from k2] at k' <;> cases k'
      · rw [c1] at e'
        cases e'
        exact cellK (I.freeC y _ c1) z
  · obtain ⟨w', z⟩ := I.cell y c (cm e)
    exact ⟨w', cellK (I.freeC y c (cm e)) z⟩
  · obtain ⟨v, o, ho, hd⟩ := I.cell y c (cm e)
    exact un.free c o ho (I.freeC y c (cm e)) (by simp)
/-- x(), in the def that got the lambda; the default is bound; exceptions pass -/
theorem pe_act3 {Eg : XK} {Ng : List Str} {qg : Str} {sg : Scope} {g f c' dT : Addr} {cdg pm ctv doc : Value} {dt : Tok} {params : Arguments} {body : Expr} {scope : Scope} {k i : Nat} {a b : Str} {di : Int} {pn : List (Addr × Obj)} {xe : Value → Shared → Prop} {W : WX} {tb : XK → TE} {p1 p2 : Pos}
    (I : Inv X pins σ H s) (L : LamSD X scope b) (hf : s.heap.get? f = some (lamO X params body scope dT doc pm c' ctv)) (hfn : H f = none) (hfr : f ∉ frs X.stack)
    (hdT : s.heap.get? dT = some (PySem.W.kdv_tup [.int di dt])) (hdn : H dT = none) (hdr : dT ∉ frs X.stack) (hbind : BindD params body scope b di)
    (tk : Takes ((cxOf (L2.CX X.prog X.w) X.prog X.w X.K X.mg X.base Ng qg sg g cdg X.A X.stack s H Eg).tr pn xe) W) (hr : Room (k + 1) (X.A.deeper (envOfC qg sg s.heap.objs.size g cdg)))
    (hbody : ∀ (A : Around) (outer : List Env) (s : Shared) (H : Hp) (E : XK), Room k (A.deeper (LamX.lamEnv X scope s.heap.objs.size f c')) → PE (LamX.lamCx X A outer s H E scope f c') body (tb E))
    (hN : Ng[i]? = some a) (hv : Vis sg a) (hd : (a == ("__debug__" : Str)) = false) (hcd : (a == ("__classdict__" : Str)) = false) :
    PE ((cxOf (L2.CX X.prog X.w) X.prog X.w X.K X.mg X.base Ng qg sg g cdg X.A X.stack s H Eg).tr pn xe) (.Call (.Name a p1) [] [] p2)
      (fun σZ HZ Q => σZ[i]? = some (some (.ref f)) ∧ HZ c' = some (LamX.CodeO c' (X.env.qual ++ "<lambda>")) ∧ tb (fun cls d H' => W cls d σZ H') σ HZ Q) := by
  refine ⟨fun pinsZ sZ σZ HZ Q IZ h => ?_⟩
  obtain ⟨hs, hc, ht⟩ := h
  refine wpAny_Call_Name_kw (thn ((pe_var (pos := p1) (i := i) hN hv hd hcd).run pinsZ sZ σZ HZ (fun v H1 => v = .ref f ∧ H1 = HZ) IZ ⟨.ref f, hs, rfl, rfl⟩) fun u s1 ⟨v, H1, I1, r1, q1⟩ => ?_)
  obtain ⟨ev, eH⟩ := q1
  subst ev
  rw [eH] at I1
  obtain rfl : u = Value.ref f := r1
  have of1 : s1.heap.get? f = some (lamO X params body scope dT doc pm c' ctv) := I1.base.keep f _ hf hfn hfr (fun z => nomatch (show f ∈ ([] : List Addr) from z))
  have of2 : s1.heap.get? dT = some (PySem.W.kdv_tup [.int di dt]) := I1.base.keep dT _ hdT hdn hdr (fun z => nomatch (show dT ∈ ([] : List Addr) from z))
  refine PySem.W.callWith_F0 ⟨_, _, _, _, of1⟩ ?_
  have un : Un (frs X.stack) [] H HZ s.heap s1.heap := I1.base
  obtain ⟨⟨oc, vs, t, hoc, hdc, hvc⟩, _, _⟩ := I1.hok c' _ hc
  have rc : codeAny (model X.prog X.w) (X.A.deeper (envOfC qg sg s.heap.objs.size g cdg)) (.call (.ref f) ⟨[], []⟩) (CR (L2.CX X.prog X.w) (envOfC qg sg s.heap.objs.size g cdg :: X.stack) X.prog X.w HZ s1 Q (fun cls d H' => W cls d σZ H')) s1 := by
    obtain ⟨kk, hb1, hb2⟩ := hbind (X.env.qual ++ "<lambda>") (L2.cloFrom X.env.cells scope.names []) doc pm (.ref c') ctv dT dt
    refine PySem.W.kla_callFunE hr.depth of1 rfl L.co L.gen rfl ⟨c', oc, vs, t, rfl, hoc, hdc, hvc⟩ ((BindsTo.of_defaults (T := dT) rfl of2 rfl hb1 hb2) _ _ _ _ ?_)
    refine wpAny_newFunctionEnv (fun y hy => (L.own y hy).1) (fun y hy => by rw [List.mem_singleton.mp hy]; exact L.loc) (fun h₁ hns hsb => ⟨I1.nolimit.fresh _ hsb, ?_⟩) L.kind
    show codeAny _ _ (.expr body (LamX.lamEnv X scope s1.heap.objs.size f c')) _ _
    have kp : ∀ b o, s1.heap.get? b = some o → h₁.get? b = some o := fun b o e => hsb.extBut b o (Nat.ne_of_lt (Heap.lt_size e)) (Heap.get?_push_of_some _ e)
    have J : Inv (LamX.lamCx X (X.A.deeper (envOfC qg sg s.heap.objs.size g cdg)) (envOfC qg sg s.heap.objs.size g cdg :: X.stack) s1 HZ (fun cls d H' => W cls d σZ H') scope f c') [] σ HZ { s1 with heap := h₁, toks := s1.toks + ([(b, .int di dt)] : List (Str × Value)).length } :=
      lam_start3 I L I1.env0 hr.hd un hns kp
    refine PySem.W.kla_codeExpr (wpAny_mono ((hbody _ _ s1 HZ _ (hr.deeper _)).run [] _ _ HZ Q J ht) (fun v s' hq => ?_) fun e s' hq => hq)
    obtain ⟨w', H', J', rv, q⟩ := hq
    exact ⟨w', H', J'.os, J'.bare, J'.base, J'.hok, rv, q⟩
  refine wpAny_call (codeAny_mono rc fun r s' hq => ?_)
  cases r with
  | error e => exact tk e s' (XE.of_call I1 (fun _ _ _ h => h) hq)
  | ok fl =>
    cases fl with
    | ret u => exact I1.after hq
    | next => exact False.elim hq
    | brk => exact False.elim hq
    | cont => exact False.elim hq
end
section
variable {p : Pg} {Γ Γg Γl : NE}
theorem se_lamD {x a b : Str} {di : Int} {dj : Nat} {dp : Pos} {paramsG params : Arguments} {bodyG : List Stmt} {scopeG scope : Scope} {body : Expr} {is : List Nat} {m : PM D} {mG : (List D → List MO → OutC) → SM} {kk : Nat} {p' lpos pos : Pos}
    (hx : x ∈ Γ.glo) (hcm : Γ.calm = true) (hF : LamFn p x paramsG bodyG scopeG a) (hB : LamBase p)
    (hk : Γ.k = kk + 2) (hkg : Γg.k = kk + 1) (hkl : Γl = ⟨Γ.N, is, [], Γl.glo, true, kk, [], [], false⟩) (hcg : Γg.calm = true)
    (S : FnScope Γg.N [a] scopeG) (scg : ScOk Γg scopeG) (hNg : Γg.N[0]? = some a) (hva : Vis scopeG a) (hd : (a == ("__debug__" : Str)) = false) (hcd : (a == ("__classdict__" : Str)) = false)
    (L : LamStD Γ scope b) (scl : ScOk Γl scope) (hdf : params.defaults = [.Constant (.int di) dj dp]) (hkd : params.kw_defaults = [])
    (hbind : BindD params body scope b di)
    (hm : SE { p with ex := none, lam := none, cod := none } Γl body m)
    (hG : ∀ l : LamC, SSs { p with ex := none, lam := some l, cod := none, an := a, act := lamAct Γ.N.length is m } Γg bodyG (mG (lamAct Γ.N.length is m))) :
    SE p Γ (.Call (.Name x p') [.Lambda params body scope lpos] [] pos) (eLam is (mkFnL Γg.N.length (mG (lamAct Γ.N.length is m)))) := by
  intro X ok W tk c hc
  obtain ⟨g, fd, name, qual, hmg, hkeep, F, hb⟩ := hF
  obtain ⟨ca, cq, P, hcod, TB, hmT, hu⟩ := hB
  obtain ⟨g1, g2, g3⟩ := ok.glo x hx
  obtain ⟨hcode, hq⟩ := ok.cod ca cq hcod
  have L' : LamSD X scope b := ⟨L.kind, L.co, L.gen, L.own, fun y hy e => ok.cap _ (L.free y hy e), L.loc, by rw [ok.N]; exact L.out⟩
  obtain ⟨oc, od, dV, kV, doc, pm, an, cdv, ct, osl, rfl, lk, hcdI, _, _⟩ := F.ex
  refine ⟨fun pins s σ H Q I h => ?_⟩
  obtain ⟨G, st, r, h⟩ := h
  obtain ⟨G1, s1, cap, vs, x1, r1, q1, hm1, h1⟩ := eCaps_run is r h
  have hn : σ.length = Γ.N.length := by rw [← ok.N]; exact I.len
  have hroom := ok.room hcm
  refine wpAny_Call_Name_kw (ld_glob I g1 (by rw [ok.mg]; exact hmg) ?_ g2)
  refine PySem.W.callWith_K (h₀ := X.base) I.ok.mod.kin (by rw [ok.K]; exact hkeep) ?_ (by rfl) (by rfl)
  show wpAny _ _ (spliced ((false, eval (.Lambda params body scope lpos) X.env) :: backTo pos (starEach [] X.env))) _ _ s
  refine Calls.spliced_cons (lam_make3 (T := p.T) (c := ca) (P := P) I (by rw [ok.base, ok.mg]; exact TB) hcode (by rw [hq]; exact hmT) (by rw [hq]; exact hu) (by rw [← hc.T]; exact r.tabs) hdf hkd (L'.has I.ok) fun f c' pm' ctv doc' dT dt H1 s' I1 eN T1 hf hfn hfr hfT hTn hTr hco => ?_)
  refine Calls.spliced_nil ⟨I1.kIn, ?_⟩
  obtain ⟨x2, r2⟩ := r1.extN eN (by rw [hc.T]; exact T1)
  have h2 := h1.ext x2
  have q2 := RDs.mono x2 _ q1
  have rc : codeAny (model X.prog X.w) X.A (.call (.ref g) ⟨[.ref f], []⟩) (CR (L2.CX X.prog X.w) X.stack X.prog X.w H1 s' Q (fun cls d H' => W cls d σ H')) s' := by
    refine LamX.run_ofS (k := 2 * Γg.k + 1) (N := Γg.N) (ps := [a]) (us := [.ref f]) (vs := [.ref f]) (by rw [ok.K]; exact lk) (by rw [ok.K]; exact hcdI) S (hroom.mono (by omega)) I1.env0 (hb s' [.ref f] (by rw [← ok.K]; exact I1.kIn) rfl) (.cons rfl .nil) rfl fun hr' => ?_
    let pg : Pg := { p with ex := none, lam := some ⟨σ, f, c', X.env.qual ++ "<lambda>", is⟩, cod := none, an := a, act := lamAct Γ.N.length is m }
    let pl : Pg := { p with ex := none, lam := none, cod := none }
    have ok' : XOk pg Γg (cxOf (L2.CX X.prog X.w) X.prog X.w X.K X.mg X.base Γg.N qual scopeG g cdv X.A X.stack s' H1 (fun cls d H' => W cls d σ H')) :=
      { prog := ok.prog, w := ok.w, K := ok.K, mg := ok.mg, base := ok.base, N := rfl, nd := S.nd, vis := scg.vis, sto := fun i hi x e => ⟨scg.sto i hi x e, .inl rfl⟩, glo := fun x hx => ⟨(scg.glo x hx).1, (scg.glo x hx).2.1, (scg.glo x hx).2.2⟩,
        calm := fun _ => ⟨rfl, hr'.hd⟩, dp := hr'.dp, un := hr'.un, pass := passes_of rfl, loc := scg.loc, kind := S.kind, cap := scg.cap, own := fun _ => ⟨rfl, rfl⟩, cod := fun a q e => (by cases e), hot := fun a cls dd e => (by cases e),
        act := fun _ l e pn xe W' tk' p1 p2 cz hcz => by
          refine (pe_act3 (tb := fun E σ' H' Q' => ∃ cl, Cn.of pl cl ∧ tE cl (fun cls d _ H'' => E cls d H'') m σ' H' Q') (k := 2 * kk + 1) (i := 0) I1 L' hf hfn hfr hfT hTn hTr hbind tk' (hr'.mono (by omega)) (fun A outer s2 H2 E hr2 => ?_) hNg hva hd hcd).weak fun σZ HZ QZ hz => ?_
          · refine ⟨fun pins3 s3 σ3 H3 Q3 I3 ⟨cl, hcl, h3⟩ => ?_⟩
            have okl : XOk pl Γl (LamX.lamCx X A outer s2 H2 E scope f c') := by
              rw [hkl] at scl ⊢
              exact { prog := ok.prog, w := ok.w, K := ok.K, mg := ok.mg, base := ok.base, N := ok.N, nd := ok.nd, vis := scl.vis, sto := (fun i hi => nomatch hi), glo := fun x hx => ⟨(scl.glo x hx).1, (scl.glo x hx).2.1, (scl.glo x hx).2.2⟩,
                      calm := fun _ => ⟨rfl, hr2.hd⟩, dp := hr2.dp, un := hr2.un, pass := passes_of rfl, loc := (fun i hi => nomatch hi), kind := L.kind, cap := (fun x hx => nomatch hx), own := (fun e => nomatch e), act := (fun _ l e => nomatch e), cod := (fun a q e => nomatch e), hot := (fun a cls dd e => nomatch e) }
            exact (hm _ okl _ (takes_of rfl rfl rfl rfl) cl hcl).run pins3 s3 σ3 H3 Q3 I3 h3
          · obtain ⟨GZ, sZ, rZ, hZ⟩ := hz
            cases ez : sZ.σ[(0 : Nat)]? with
            | none =>
              unfold Run at hZ
              unfold eAct at hZ
              rw [ez] at hZ
              exact hZ.elim
            | some v =>
              cases v with
              | lm capZ =>
                obtain ⟨l', vsZ, hl', hvZ, hcZ, hqZ, hmZ⟩ := rZ.at_ 0 _ ez
                have hl2 : some l' = some (⟨σ, f, c', X.env.qual ++ "<lambda>", is⟩ : LamC) := hl'.symm.trans hcz.lam
                cases hl2
                refine ⟨hvZ, hcZ, ent pl GZ HZ, ⟨rfl, rfl, rfl, rfl, rfl⟩, GZ, ⟨capSlots Γ.N.length is capZ, sZ.M⟩, caps_rs (Rs.nolam (c := ent pg GZ HZ) rfl rfl rfl rfl rfl rfl (rZ.enter hcz)) (RDs.re hcz.K hcz.w _ hqZ) hmZ hn, ?_⟩
                unfold Run at hZ
                unfold eAct at hZ
                rw [ez] at hZ
                unfold callM at hZ
                dsimp only at hZ
                rw [show pg.act capZ sZ.M = endE (m ⟨capSlots Γ.N.length is capZ, sZ.M⟩) from rfl] at hZ
                unfold Run
                cases em : m ⟨capSlots Γ.N.length is capZ, sZ.M⟩ with
                | ok d s5 =>
                  rw [em] at hZ
                  intro G5 H5 b x5 r5 q5
                  exact hZ G5 H5 b x5 (rZ.back hcz x5 (Rs.nolam (c := ent pl GZ HZ) (c' := ent pg GZ HZ) rfl rfl rfl rfl rfl rfl r5.forget)) (q5.re hcz.K.symm hcz.w.symm)
                | exc n fs s5 =>
                  rw [em] at hZ
                  intro G5 H5 cls dd x5 r5 q5
                  exact hZ G5 H5 cls dd x5 (rZ.back hcz x5 (Rs.nolam (c := ent pl GZ HZ) (c' := ent pg GZ HZ) rfl rfl rfl rfl rfl rfl r5.forget)) (q5.re hcz.K.symm hcz.w.symm)
                | bad =>
                  rw [em] at hZ
                  exact hZ
              | _ =>
                unfold Run at hZ
                unfold eAct at hZ
                rw [ez] at hZ
                exact hZ.elim }
    have rg : Rs (ent pg G1 H1) G1 ⟨[], s1.M⟩ [] H1 := Rs.nolam (c := ent p G1 H1) rfl rfl rfl rfl rfl rfl (r2.enter hc)
    have rs0 : Rs (ent pg G1 H1) G1 ⟨.lm cap :: List.replicate (Γg.N.length - 1) .un, s1.M⟩ (L2.start Γg.N [.ref f]) H1 := by
      refine { len := by simp [L2.start], at_ := fun i v e => ?_, sep := fun i j v w a e _ ov => ?_, hlen := rg.hlen, nd := rg.nd, obj := rg.obj, dis := rg.dis, live := rg.live, keep := rg.keep, pre := rg.pre, new := rg.new, newF := rg.newF, nF := rg.nF, nt := rg.nt, tabs := rg.tabs }
      · have e : (SV.lm cap :: List.replicate (Γg.N.length - 1) .un)[i]? = some v := e
        cases i with
        | zero =>
          cases e
          exact ⟨_, vs, rfl, rfl, hco, RDs.re hc.K hc.w _ q2, hm1⟩
        | succ i =>
          rw [List.getElem?_cons_succ, List.getElem?_replicate] at e
          split at e
          · cases e
            show ∃ x, (some (V.ref f) :: List.replicate (Γg.N.length - 1) none)[i + 1]? = some x
            rw [List.getElem?_cons_succ, List.getElem?_replicate, if_pos (by assumption)]
            exact ⟨_, rfl⟩
          · cases e
      · have e : (SV.lm cap :: List.replicate (Γg.N.length - 1) .un)[i]? = some v := e
        cases i with
        | zero => cases e; cases ov
        | succ i =>
          rw [List.getElem?_cons_succ, List.getElem?_replicate] at e
          split at e
          · cases e; cases ov
          · cases e
    refine ⟨_, hG _ _ ok' _ (takes_of rfl rfl rfl rfl) (ent pg G1 H1) ⟨rfl, rfl, rfl, rfl, rfl⟩, G1, _, rs0, ?_⟩
    unfold Run callM mkFnL at h2
    unfold RunS
    cases e : mG (lamAct Γ.N.length is m) ⟨.lm cap :: List.replicate (Γg.N.length - 1) .un, s1.M⟩ with
    | ok o s5 =>
      rw [e] at h2
      cases o with
      | none => exact fun G5 σ5 H5 x5 r5 => h2 G5 H5 .non x5 (r2.back hc x5 (Rs.nolam (c := ent pg G1 H1) (c' := ent p G1 H1) rfl rfl rfl rfl rfl rfl r5.forget)) (by unfold RD; rfl)
      | some d => exact fun G5 σ5 H5 v x5 r5 q5 => h2 G5 H5 v x5 (r2.back hc x5 (Rs.nolam (c := ent pg G1 H1) (c' := ent p G1 H1) rfl rfl rfl rfl rfl rfl r5.forget)) (q5.re hc.K.symm hc.w.symm)
    | exc n fs s5 =>
      rw [e] at h2
      exact fun G5 σ5 H5 cls dd x5 r5 q5 => h2 G5 H5 cls dd x5 (r2.back hc x5 (Rs.nolam (c := ent pg G1 H1) (c' := ent p G1 H1) rfl rfl rfl rfl rfl rfl r5.forget)) (q5.re hc.K.symm hc.w.symm)
    | bad =>
      rw [e] at h2
      exact h2
  refine wpAny_call (codeAny_mono rc fun r s2 hq => ?_)
  cases r with
  | error e => exact tk e s2 (XE.of_call I1 (fun _ _ _ h => h) hq)
  | ok fl =>
    cases fl with
    | ret u => exact I1.after hq
    | next => exact False.elim hq
    | brk => exact False.elim hq
    | cont => exact False.elim hq
end
end Ev

set_option maxHeartbeats 2000000
/-! Ev32: the WP calculus of Ev29, Ev30. -/
namespace Ev
open PySem L2

section
variable {E : EX} {s : S} {P : D → S → Prop} {Ps : List D → S → Prop}
@[simp ↓] theorem WP_asS {x : D} {Pz : String → S → Prop} : WP (asS x) Pz E s ↔ (match x with
  | .str z => Pz z s
  | _ => False) := by cases x <;> exact Iff.rfl
@[simp ↓] theorem WP_apT {f : List MO → String → D → Option D} {z : String} {y : D} : WP (apT f z y) P E s ↔ (match f s.M z y with
  | some d => P d s
  | none => False) := by
  unfold WP apT
  cases f s.M z y <;> exact Iff.rfl
@[simp ↓] theorem WP_apTF {f : List MO → String → D → Option (List D)} {z : String} {y : D} : WP (apTF f z y) Ps E s ↔ (match f s.M z y with
  | some d => Ps d s
  | none => False) := by
  unfold WP apTF
  cases f s.M z y <;> exact Iff.rfl
@[simp ↓] theorem WP_eT1 {f : List MO → String → D → Option D} {mo me : PM D} : WP (eT1 f mo me) P E s ↔ WP mo (fun x s1 => WP (asS x) (fun z s2 => WP me (fun y s3 => WP (apT f z y) P E s3) E s2) E s1) E s := by unfold eT1; simp only [WP_bind]
@[simp ↓] theorem WP_fT1 {f : List MO → String → D → Option (List D)} {mo me : PM D} : WP (fT1 f mo me) Ps E s ↔ WP mo (fun x s1 => WP (asS x) (fun z s2 => WP me (fun y s3 => WP (apTF f z y) Ps E s3) E s2) E s1) E s := by unfold fT1; simp only [WP_bind]
@[simp ↓] theorem WP_chkD {x : D} {Pu : Unit → S → Prop} : WP (chkD x) Pu E s ↔ isDic s.M x = true ∧ Pu () s := by
  unfold WP chkD
  by_cases h : isDic s.M x = true
  · rw [if_pos h]; simp [h]
  · rw [if_neg h]; simp [h]
@[simp ↓] theorem WP_getD_ {x y z : D} : WP (getD_ x y z) P E s ↔ (match keyOf y with
  | some k => (match dLook s.M x k with
    | some o => P (o.getD z) s
    | none => False)
  | none => False) := by
  unfold WP getD_
  cases keyOf y with
  | none => exact Iff.rfl
  | some k =>
    dsimp only
    cases dLook s.M x k <;> exact Iff.rfl
@[simp ↓] theorem WP_eGet1 {mo mk : PM D} : WP (eGet1 mo mk) P E s ↔ WP mo (fun x s1 => WP (chkD x) (fun _ s2 => WP mk (fun y s3 => WP (getD_ x y .non) P E s3) E s2) E s1) E s := by unfold eGet1; simp only [WP_bind]
@[simp ↓] theorem WP_eGet2 {mo mk mz : PM D} : WP (eGet2 mo mk mz) P E s ↔ WP mo (fun x s1 => WP (chkD x) (fun _ s2 => WP mk (fun y s3 => WP mz (fun z s4 => WP (getD_ x y z) P E s4) E s3) E s2) E s1) E s := by unfold eGet2; simp only [WP_bind]
@[simp ↓] theorem WP_fRg2 {ma mb : PM D} : WP (fRg2 ma mb) Ps E s ↔ WP ma (fun x s1 => WP mb (fun y s2 => (match x, y with
  | .int i, .int j => (0 ≤ i ∧ i ≤ 100000 ∧ 0 ≤ j ∧ j ≤ 100000) ∧ Ps (rngL i j) s2
  | _, _ => False)) E s1) E s := by
  unfold fRg2
  refine WP_bindI fun x s1 => ?_
  refine WP_bindI fun y s2 => ?_
  cases x with
  | int i =>
    cases y with
    | int j =>
      unfold WP
      by_cases h : 0 ≤ i ∧ i ≤ 100000 ∧ 0 ≤ j ∧ j ≤ 100000
      · dsimp only
        rw [if_pos h]
        simp [h]
      · dsimp only
        rw [if_neg h]
        simp [h]
    | _ => exact Iff.rfl
  | _ => cases y <;> exact Iff.rfl
def repM (i : Int) (x : D) : PM D := fun s => match x with
  | .str t => if t.length ≤ small then match atI t.toList i with
      | some ch => match repC ch with
        | some z => .ok (.str z) s
        | none => .bad
      | none => .bad
    else .bad
  | _ => .bad
theorem WP_eRepN {i : Int} {ma : PM D} : WP (eRepN i ma) P E s ↔ WP ma (fun x s1 => WP (repM i x) P E s1) E s := by
  show WP (ma >>= repM i) P E s ↔ _
  rw [WP_bind]
end
end Ev

set_option maxHeartbeats 4000000
namespace K14
open PySem PySem.Spec PyProof.Rows L2 Ev
def tab_ASKS : List (String × String) := [("rows", "tcp"), ("put", "tp"), ("drop", "tc"), ("set", "tkec")]
def tab_CONDITIONS : List (String × String) := [("all", ""), ("is", "ee"), ("less", "ee"), ("not", "c"), ("both", "cc")]
def fl_words : List String := ["Reader"]
def fl_place : List String := ["Reader"]
def xf_table : List String := ["BadTables"]
def xf_at : List String := ["BadAsk"]
def xf_number : List String := ["BadMessage"]
def xf_place : List String := ["BadText"]
def is_BadAsk : List (String × Bool) := [("PortalError", false), ("BadTables", false), ("BadAsk", true), ("BadWorths", false), ("Full", false), ("BadClient", false), ("BadMessage", false), ("BadText", false), ("BadPiece", false)]
def is_BadClient : List (String × Bool) := [("PortalError", false), ("BadTables", false), ("BadAsk", false), ("BadWorths", false), ("Full", false), ("BadClient", true), ("BadMessage", false), ("BadText", false), ("BadPiece", false)]
def is_BadMessage : List (String × Bool) := [("PortalError", false), ("BadTables", false), ("BadAsk", false), ("BadWorths", false), ("Full", false), ("BadClient", false), ("BadMessage", true), ("BadText", false), ("BadPiece", false)]
def is_BadPiece : List (String × Bool) := [("PortalError", false), ("BadTables", false), ("BadAsk", false), ("BadWorths", false), ("Full", false), ("BadClient", false), ("BadMessage", false), ("BadText", false), ("BadPiece", true)]
def is_BadTables : List (String × Bool) := [("PortalError", false), ("BadTables", true), ("BadAsk", false), ("BadWorths", false), ("Full", false), ("BadClient", false), ("BadMessage", false), ("BadText", false), ("BadPiece", false)]
def is_BadText : List (String × Bool) := [("PortalError", false), ("BadTables", false), ("BadAsk", false), ("BadWorths", false), ("Full", false), ("BadClient", false), ("BadMessage", false), ("BadText", true), ("BadPiece", false)]
def is_BadWorths : List (String × Bool) := [("PortalError", false), ("BadTables", false), ("BadAsk", false), ("BadWorths", true), ("Full", false), ("BadClient", false), ("BadMessage", false), ("BadText", false), ("BadPiece", false)]
def is_Full : List (String × Bool) := [("PortalError", false), ("BadTables", false), ("BadAsk", false), ("BadWorths", false), ("Full", true), ("BadClient", false), ("BadMessage", false), ("BadText", false), ("BadPiece", false)]
def ca_PortalError : List (String × Bool) := [("PortalError", true), ("BadTables", true), ("BadAsk", true), ("BadWorths", true), ("Full", true), ("BadClient", true), ("BadMessage", true), ("BadText", true), ("BadPiece", true)]
def is_ValueError : List (String × Bool) := [("PortalError", true), ("BadTables", true), ("BadAsk", true), ("BadWorths", true), ("Full", true), ("BadClient", true), ("BadMessage", true), ("BadText", true), ("BadPiece", true)]
def N0 : List Str := [PySem.Str.ofString "thing", PySem.Str.ofString "low", PySem.Str.ofString "high"]
def N1 : List Str := [PySem.Str.ofString "message", PySem.Str.ofString "word", PySem.Str.ofString "rest", PySem.Str.ofString "number"]
def N2 : List Str := [PySem.Str.ofString "sign"]
def N3 : List Str := [PySem.Str.ofString "thing", PySem.Str.ofString "found", PySem.Str.ofString "inner", PySem.Str.ofString "part"]
def N4 : List Str := [PySem.Str.ofString "message", PySem.Str.ofString "found", PySem.Str.ofString "part", PySem.Str.ofString "number"]
def N5 : List Str := [PySem.Str.ofString "message", PySem.Str.ofString "text", PySem.Str.ofString "sign"]
def N6 : List Str := [PySem.Str.ofString "word", PySem.Str.ofString "sign"]
def N7 : List Str := [PySem.Str.ofString "self", PySem.Str.ofString "words"]
def N8 : List Str := [PySem.Str.ofString "self", PySem.Str.ofString "some"]
def N9 : List Str := [PySem.Str.ofString "self", PySem.Str.ofString "found"]
def N10 : List Str := [PySem.Str.ofString "self", PySem.Str.ofString "word", PySem.Str.ofString "one", PySem.Str.ofString "kind"]
def N11 : List Str := [PySem.Str.ofString "self", PySem.Str.ofString "found", PySem.Str.ofString "kind"]
def N12 : List Str := [PySem.Str.ofString "self", PySem.Str.ofString "most", PySem.Str.ofString "found"]
def N13 : List Str := [PySem.Str.ofString "self", PySem.Str.ofString "found", PySem.Str.ofString "kind", PySem.Str.ofString "turn"]
def N14 : List Str := [PySem.Str.ofString "self", PySem.Str.ofString "word", PySem.Str.ofString "name", PySem.Str.ofString "portal", PySem.Str.ofString "turn"]
def N15 : List Str := [PySem.Str.ofString "text", PySem.Str.ofString "reader", PySem.Str.ofString "found"]
def N16 : List Str := [PySem.Str.ofString "_law_row", PySem.Str.ofString "_law_many", PySem.Str.ofString "_law_found", PySem.Str.ofString "_law_cell"]
def N17 : List Str := [PySem.Str.ofString "_law_found", PySem.Str.ofString "_law_due", PySem.Str.ofString "_law_k"]
def N18 : List Str := [PySem.Str.ofString "_law_work", PySem.Str.ofString "e", PySem.Str.ofString "_law_kinds", PySem.Str.ofString "_law_word_here"]
def N19 : List Str := [PySem.Str.ofString "_law_row", PySem.Str.ofString "_law_way"]
def N20 : List Str := [PySem.Str.ofString "_law_row", PySem.Str.ofString "_law_wide", PySem.Str.ofString "_law_deep_here", PySem.Str.ofString "_law_way"]
def N21 : List Str := [PySem.Str.ofString "_law_row", PySem.Str.ofString "_law_wide", PySem.Str.ofString "_law_deep_here", PySem.Str.ofString "_law_way"]
def N22 : List Str := [PySem.Str.ofString "_law_row", PySem.Str.ofString "_law_wide", PySem.Str.ofString "_law_part_here", PySem.Str.ofString "_law_condition_here", PySem.Str.ofString "_law_way", PySem.Str.ofString "_law_turn"]
def N23 : List Str := [PySem.Str.ofString "_law_row", PySem.Str.ofString "_law_widths", PySem.Str.ofString "_law_table", PySem.Str.ofString "_law_condition_here", PySem.Str.ofString "_law_part_here", PySem.Str.ofString "_law_some", PySem.Str.ofString "_law_wide", PySem.Str.ofString "_law_way", PySem.Str.ofString "_law_parts", PySem.Str.ofString "_law_k"]
def N24 : List Str := [PySem.Str.ofString "_law_thing", PySem.Str.ofString "_law_inner"]
def N25 : List Str := [PySem.Str.ofString "_law_row", PySem.Str.ofString "_law_widths", PySem.Str.ofString "_law_ask_here"]
def N26 : List Str := [PySem.Str.ofString "_law_thing", PySem.Str.ofString "_law_found", PySem.Str.ofString "_law_inner", PySem.Str.ofString "_law_part_here"]
def N27 : List Str := [PySem.Str.ofString "_law_row", PySem.Str.ofString "_law_widths", PySem.Str.ofString "_law_name", PySem.Str.ofString "_law_other", PySem.Str.ofString "_law_some", PySem.Str.ofString "_law_k"]
def N28 : List Str := [PySem.Str.ofString "_law_script", PySem.Str.ofString "_law_row", PySem.Str.ofString "_law_signs", PySem.Str.ofString "_law_codes", PySem.Str.ofString "_law_turn", PySem.Str.ofString "_law_message", PySem.Str.ofString "_law_words_here", PySem.Str.ofString "_law_part_here", PySem.Str.ofString "_law_text", PySem.Str.ofString "_law_body", PySem.Str.ofString "_law_again", PySem.Str.ofString "_law_found", PySem.Str.ofString "_law_odd", PySem.Str.ofString "_law_number_here", PySem.Str.ofString "_law_sign"]
/-- _law_word -/
def m18 (act : List D → List MO → OutC) : SM :=
    (sSeq (sTryAs ca_PortalError 1 (sExpr (eAct act)) (sSeq (sSetU 2 (fLst (aCons (eIsE is_BadTables 1) (aCons (eIsE is_BadAsk 1) (aCons (eIsE is_BadWorths 1) (aCons (eIsE is_Full 1) aNil))))))
    (sSeq (sSetU 2 (fAddP 2 (eFz (fLst (aCons (eIsE is_BadClient 1) (aCons (eIsE is_BadMessage 1) (aCons (eIsE is_BadText 1) aNil)))))))
    (sSeq (sExpr (eMutN 2 lAppend (aCons (eIsE is_BadPiece 1) aNil)))
    (sSeq (eIf (tOrM (asB (eBin oNe (eLookN countF 2 (pure (.bl true))) (pure (.int 1)))) (tNotM (asB (eIsE is_ValueError 1)))) (sRet (eTup (aCons (pure (.str "other")) (aCons (pure (.int 0)) aNil)))) sNil)
    (sSeq (sSet 3 (eBin oIx (eFz (fLst (aCons (pure (.str "tables")) (aCons (pure (.str "ask")) (aCons (pure (.str "worths")) (aCons (pure (.str "full")) (aCons (pure (.str "client")) (aCons (pure (.str "message")) (aCons (pure (.str "text")) (aCons (pure (.str "piece")) aNil)))))))))) (eLookN indexF 2 (pure (.bl true)))))
    (sSeq (eIf (asB (eBinP oIn 3 (eTup (aCons (pure (.str "tables")) (aCons (pure (.str "ask")) aNil))))) (sRet (eTup (aCons (eVar 3) (aCons (eIf (asB (eBinP oEq 3 (pure (.str "tables")))) (eXf xf_table "table" 1) (eXf xf_at "at" 1)) aNil)))) sNil)
    (sSeq (eIf (asB (eBinP oIn 3 (eTup (aCons (pure (.str "message")) (aCons (pure (.str "text")) aNil))))) (sRet (eTup (aCons (eVar 3) (aCons (eIf (asB (eBinP oEq 3 (pure (.str "message")))) (eXf xf_number "number" 1) (eXf xf_place "place" 1)) aNil)))) sNil)
    (sRet (eTup (aCons (eVar 3) (aCons (pure (.int 0)) aNil))))))))))))
    (sRet (pure .non)))
/-- is_whole -/
def m0 (T : Nat → Fn) : SM :=
    (sRet (eAnd (e1 (oIsi "int") (vName 0)) (eAnd (eNot (e1 (oIsi "bool") (vName 0))) (eChain oLe oLt (eVar 1) (eVar 0) (eVar 2)))))
/-- is_message -/
def m1 (T : Nat → Fn) : SM :=
    (sSeq (eIf (tOrM (tNotM (asB (e1 (oIsi "tuple") (vName 0)))) (tOrM (asB (eBinP oEq 0 (eTup aNil))) (tNotM (asB (e1 (oIsi "str") (vVal (eBinP oIx 0 (pure (.int 0))))))))) (sRet (pure (.bl false))) sNil)
    (sSeq (sPar 1 2 (aCons (eBinP oIx 0 (pure (.int 0))) (aCons (eSl (eVar 0) (oSm (pure (.int 1))) oNo) aNil)))
    (sSeq (eIf (asB (eBinP oIn 1 (eTup (aCons (pure (.str "begin")) (aCons (pure (.str "keep")) (aCons (pure (.str "undo")) (aCons (pure (.str "sync")) aNil))))))) (sRet (eBinP oEq 2 (eTup aNil))) sNil)
    (sSeq (eIf (asB (eBinP oEq 1 (pure (.str "ready")))) (sRet (eAnd (eBin oEq (e1 oLen (vName 2)) (pure (.int 2))) (eCall (T 0) (aCons (eBinP oIx 2 (pure (.int 0))) (aCons (pure (.int 0)) (aCons (pure (.int 6)) aNil)))))) sNil)
    (sSeq (eIf (asB (eBinP oEq 1 (pure (.str "close")))) (sRet (eAnd (eBin oEq (e1 oLen (vName 2)) (pure (.int 2))) (eAnd (eBin oIn (eBinP oIx 2 (pure (.int 0))) (eTup (aCons (pure (.str "ask")) (aCons (pure (.str "portal")) aNil)))) (eCall (T 0) (aCons (eBinP oIx 2 (pure (.int 1))) (aCons (pure (.int 0)) (aCons (pure (.int 6)) aNil))))))) sNil)
    (sSeq (eIf (asB (eBinP oEq 1 (pure (.str "fetch")))) (sRet (eAnd (eBin oEq (e1 oLen (vName 2)) (pure (.int 2))) (eAnd (eCall (T 0) (aCons (eBinP oIx 2 (pure (.int 0))) (aCons (pure (.int 0)) (aCons (pure (.int 6)) aNil)))) (eCall (T 0) (aCons (eBinP oIx 2 (pure (.int 1))) (aCons (pure (.int 0)) (aCons (eBin oAdd (pure (.int 20)) (pure (.int 1))) aNil))))))) sNil)
    (sSeq (eIf (tOrM (asB (eBinP oNe 1 (pure (.str "bind")))) (tOrM (asB (eBin oNe (e1 oLen (vName 2)) (pure (.int 3)))) (tOrM (tNotM (asB (eCall (T 0) (aCons (eBinP oIx 2 (pure (.int 0))) (aCons (pure (.int 0)) (aCons (pure (.int 6)) aNil)))))) (tNotM (asB (eCall (T 0) (aCons (eBinP oIx 2 (pure (.int 1))) (aCons (pure (.int 0)) (aCons (pure (.int 6)) aNil))))))))) (sRet (pure (.bl false))) sNil)
    (sSeq (eIf (tOrM (tNotM (asB (e1 (oIsi "tuple") (vVal (eBinP oIx 2 (pure (.int 2))))))) (asB (eBin oGt (e1 oLen (vVal (eBinP oIx 2 (pure (.int 2))))) (pure (.int 4))))) (sRet (pure (.bl false))) sNil)
    (sRet (eBin oEq (eFz (fLc [3] (iSeq (eBinP oIx 2 (pure (.int 2)))) (gN 3) (tNotM (asB (eCall (T 0) (aCons (eVar 3) (aCons (pure (.int 0)) (aCons (pure (.int 1000)) aNil)))))) (eVar 3))) (eFz (fLst aNil))))))))))))
/-- number_of_sign -/
def m2 (T : Nat → Fn) : SM :=
    (sSeq (eIf (asB (eBinP oEq 0 (pure (.str " ")))) (sRet (pure (.int 32))) sNil)
    (sRet (eIf (asB (eBinP oIn 0 (pure (.str "0123456789")))) (eBin oAdd (pure (.int 48)) (eT1 sIndex (pure (.str "0123456789")) (vName 0))) (eBin oAdd (pure (.int 97)) (eT1 sIndex (pure (.str "abcdefghijklmnopqrstuvwxyz")) (vName 0))))))
/-- words_of -/
def m3 (T : Nat → Fn) : SM :=
    (sSeq (eIf (asB (eBin oIn (eBinP oIx 0 (pure (.int 0))) (eTup (aCons (pure (.str "num")) (aCons (pure (.str "col")) (aCons (pure (.str "worth")) aNil)))))) (sRet (eFz (fLst (aCons (eBin oAdd (eBin oIx (eFzD (dDisp (dPair (.inr "num") (pure (.str "")) (dPair (.inr "col") (pure (.str "c")) (dPair (.inr "worth") (pure (.str "w")) (pure [])))))) (eBinP oIx 0 (pure (.int 0)))) (e1 oStr (vVal (eBinP oIx 0 (pure (.int 1)))))) aNil)))) sNil)
    (sSeq (sSetU 1 (fLst (aCons (eBinP oIx 0 (pure (.int 0))) aNil)))
    (sSeq (sFor (iSeq (eSl (eVar 0) (oSm (pure (.int 1))) oNo)) (gN 2) (eIf (asB (e1 (oIsi "int") (vName 2))) (sExpr (eMutN 1 lAppend (aCons (e1 oStr (vName 2)) aNil))) (eIf (tAndM (asB (eBinP oNe 2 (eTup aNil))) (asB (e1 (oIsi "str") (vVal (eBinP oIx 2 (pure (.int 0))))))) (sExpr (eMutN 1 lExtend (aCons (eCall (T 3) (aCons (eVar 2) aNil)) aNil))) (sSeq (sExpr (eMutN 1 lAppend (aCons (e1 oStr (vVal (e1 oLen (vName 2)))) aNil)))
    (sFor (iSeq (eVar 2)) (gN 3) (sExpr (eMutN 1 lExtend (aCons (eCall (T 3) (aCons (eVar 3) aNil)) aNil))))))))
    (sRet (eVar 1)))))
/-- written -/
def m4 (T : Nat → Fn) : SM :=
    (sSeq (eIf (tNotM (asB (eCall (T 1) (aCons (eVar 0) aNil)))) (sRaise1 "BadMessage" "number" (aCons (pure (.int 0)) aNil)) sNil)
    (sSeq (eIf (asB (eBin oEq (eBinP oIx 0 (pure (.int 0))) (pure (.str "ready")))) (sRet (eT1 sJoin (pure (.str " ")) (vVal (eFz (fAdd (eFz (fLst (aCons (pure (.str "ready")) (aCons (e1 oStr (vVal (eBinP oIx 0 (pure (.int 1))))) aNil)))) (eCall (T 3) (aCons (eBinP oIx 0 (pure (.int 2))) aNil))))))) sNil)
    (sSeq (sSet 1 (eFz (fLc [2] (iSeq (eVar 0)) (gN 2) (tNotM (asB (e1 (oIsi "tuple") (vName 2)))) (e1 oStr (vName 2)))))
    (sSeq (eIf (asB (eBin oEq (eBinP oIx 0 (pure (.int 0))) (pure (.str "bind")))) (sSet 1 (eFz (fAdd (eFz (fAddP 1 (eFz (fLst (aCons (e1 oStr (vVal (e1 oLen (vVal (eBinP oIx 0 (pure (.int 3))))))) aNil))))) (eFz (fLc [3] (iSeq (eBinP oIx 0 (pure (.int 3)))) (gN 3) (pure true) (e1 oStr (vName 3))))))) sNil)
    (sRet (eT1 sJoin (pure (.str " ")) (vName 1)))))))
/-- framed -/
def m5 (T : Nat → Fn) : SM :=
    (sSeq (sSet 1 (eCall (T 4) (aCons (eVar 0) aNil)))
    (sRet (eHp (fAdd (eFz (fLst (aCons (eBin oDiv (e1 oLen (vName 1)) (pure (.int 256))) (aCons (eBin oMod (e1 oLen (vName 1)) (pure (.int 256))) aNil)))) (eFz (fLc [2] (iSeq (eVar 1)) (gN 2) (pure true) (eCall (T 2) (aCons (eVar 2) aNil))))))))
/-- number_of -/
def m6 (T : Nat → Fn) : SM :=
    (sSeq (eIf (tOrM (tNotM (asB (eChain oLe oLe (pure (.int 1)) (e1 oLen (vName 0)) (pure (.int 3))))) (asB (eBin oNe (eFz (fLc [1] (iSeq (eVar 0)) (gN 1) (asB (eBinP oNotIn 1 (pure (.str "0123456789")))) (eVar 1))) (eFz (fLst aNil))))) (sRet (pure .non)) sNil)
    (sRet (eIf (asB (eBin oEq (e1 oStr (vVal (e1 oIntS (vName 0)))) (eVar 0))) (e1 oIntS (vName 0)) (pure .non))))
/-- Reader.__init__ -/
def m7 (T : Nat → Fn) : SM :=
    (sSeq (sFldS fl_words "words" (eVar 1) (eVar 0))
    (sFldS fl_place "place" (pure (.int 0)) (eVar 0)))
/-- Reader.word -/
def m8 (T : Nat → Fn) : SM :=
    (sSeq (eIf (tOrM (asB (eBin oGe (eFld fl_place "place" (eVar 0)) (e1 oLen (vVal (eFld fl_words "words" (eVar 0)))))) (tAndM (asB (eNotN (eVar 1))) (asB (eBin oNotIn (eBin oIx (eFld fl_words "words" (eVar 0)) (eFld fl_place "place" (eVar 0))) (eVar 1))))) (sRaise1 "BadText" "place" (aCons (eFld fl_place "place" (eVar 0)) aNil)) sNil)
    (sSeq (sFldS fl_place "place" (eBin oAdd (eFld fl_place "place" (eVar 0)) (pure (.int 1))) (eVar 0))
    (sRet (eBin oIx (eFld fl_words "words" (eVar 0)) (eBin oSub (eFld fl_place "place" (eVar 0)) (pure (.int 1)))))))
/-- Reader.figure -/
def m9 (T : Nat → Fn) : SM :=
    (sSeq (sSet 1 (eCall (T 6) (aCons (eMeth [("Reader", T 8)] "word" (eVar 0) (aCons (pure .non) aNil)) aNil)))
    (sSeq (eIf (asB (eIsN (eVar 1))) (sRaise1 "BadText" "place" (aCons (eBin oSub (eFld fl_place "place" (eVar 0)) (pure (.int 1))) aNil)) sNil)
    (sRet (eVar 1))))
/-- Reader.part -/
def m10 (T : Nat → Fn) : SM :=
    (sSeq (sSet 1 (eMeth [("Reader", T 8)] "word" (eVar 0) (aCons (pure .non) aNil)))
    (sSeq (eIf (asB (eBinP oEq 1 (pure (.str "add")))) (sSeq (sSet 2 (eMeth [("Reader", T 10)] "part" (eVar 0) (pure [])))
    (sRet (eTup (aCons (pure (.str "add")) (aCons (eVar 2) (aCons (eMeth [("Reader", T 10)] "part" (eVar 0) (pure [])) aNil)))))) sNil)
    (sSeq (eIf (asB (eNotN (eCall (T 6) (aCons (eVar 1) aNil)))) (sRet (eTup (aCons (pure (.str "num")) (aCons (eCall (T 6) (aCons (eVar 1) aNil)) aNil)))) sNil)
    (sSeq (sSet 3 (eGet1 (eFzD (dDisp (dPair (.inr "c") (pure (.str "col")) (dPair (.inr "w") (pure (.str "worth")) (pure []))))) (eSl (eVar 1) oNo (oSm (pure (.int 1))))))
    (sSeq (eIf (tOrM (asB (eIsN (eVar 3))) (asB (eIsN (eCall (T 6) (aCons (eSl (eVar 1) (oSm (pure (.int 1))) oNo) aNil))))) (sRaise1 "BadText" "place" (aCons (eBin oSub (eFld fl_place "place" (eVar 0)) (pure (.int 1))) aNil)) sNil)
    (sRet (eTup (aCons (eVar 3) (aCons (eCall (T 6) (aCons (eSl (eVar 1) (oSm (pure (.int 1))) oNo) aNil)) aNil)))))))))
/-- Reader.condition -/
def m11 (T : Nat → Fn) : SM :=
    (sSeq (sSetU 1 (fLst (aCons (eMeth [("Reader", T 8)] "word" (eVar 0) (aCons (eFz (f1 Ev.keysT (vVal (pure (.tab tab_CONDITIONS))))) aNil)) aNil)))
    (sSeq (sFor (iSeq (eBin oIx (pure (.tab tab_CONDITIONS)) (eBinP oIx 1 (pure (.int 0))))) (gN 2) (sExpr (eMutN 1 lAppend (aCons (eIf (asB (eBinP oEq 2 (pure (.str "e")))) (eMeth [("Reader", T 10)] "part" (eVar 0) (pure [])) (eMeth [("Reader", T 11)] "condition" (eVar 0) (pure []))) aNil))))
    (sRet (e1 oTup (vName 1)))))
/-- Reader.many -/
def m12 (T : Nat → Fn) : SM :=
    (sSeq (sSet 2 (eMeth [("Reader", T 9)] "figure" (eVar 0) (pure [])))
    (sSeq (eIf (asB (eBinP oGt 2 (eVar 1))) (sRaise1 "BadText" "place" (aCons (eBin oSub (eFld fl_place "place" (eVar 0)) (pure (.int 1))) aNil)) sNil)
    (sRet (eVar 2))))
/-- Reader.ask -/
def m13 (T : Nat → Fn) : SM :=
    (sSeq (sSetU 1 (fLst (aCons (eMeth [("Reader", T 8)] "word" (eVar 0) (aCons (eFz (f1 Ev.keysT (vVal (pure (.tab tab_ASKS))))) aNil)) aNil)))
    (sSeq (sFor (iSeq (eBin oIx (pure (.tab tab_ASKS)) (eBinP oIx 1 (pure (.int 0))))) (gN 2) (eIf (asB (eBinP oIn 2 (pure (.str "tk")))) (sExpr (eMutN 1 lAppend (aCons (eMeth [("Reader", T 9)] "figure" (eVar 0) (pure [])) aNil))) (eIf (asB (eBinP oEq 2 (pure (.str "c")))) (sExpr (eMutN 1 lAppend (aCons (eMeth [("Reader", T 11)] "condition" (eVar 0) (pure [])) aNil))) (eIf (asB (eBinP oEq 2 (pure (.str "e")))) (sExpr (eMutN 1 lAppend (aCons (eMeth [("Reader", T 10)] "part" (eVar 0) (pure [])) aNil))) (sExpr (eMutN 1 lAppend (aCons (e1 oTup (vVal (eFz (fLc [3] (iR1 (aCons (eMeth [("Reader", T 12)] "many" (eVar 0) (aCons (pure (.int 4)) aNil)) aNil)) (gN 3) (pure true) (eMeth [("Reader", T 10)] "part" (eVar 0) (pure [])))))) aNil)))))))
    (sRet (e1 oTup (vName 1)))))
/-- Reader.message -/
def m14 (T : Nat → Fn) : SM :=
    (sSeq (sSet 1 (eMeth [("Reader", T 8)] "word" (eVar 0) (aCons (eTup (aCons (pure (.str "ready")) (aCons (pure (.str "bind")) (aCons (pure (.str "fetch")) (aCons (pure (.str "close")) (aCons (pure (.str "begin")) (aCons (pure (.str "keep")) (aCons (pure (.str "undo")) (aCons (pure (.str "sync")) aNil))))))))) aNil)))
    (sSeq (eIf (asB (eBinP oEq 1 (pure (.str "ready")))) (sSeq (sSet 2 (eMeth [("Reader", T 9)] "figure" (eVar 0) (pure [])))
    (sRet (eTup (aCons (eVar 1) (aCons (eVar 2) (aCons (eMeth [("Reader", T 13)] "ask" (eVar 0) (pure [])) aNil)))))) sNil)
    (sSeq (eIf (asB (eBinP oEq 1 (pure (.str "bind")))) (sSeq (sPar 3 2 (aCons (eMeth [("Reader", T 9)] "figure" (eVar 0) (pure [])) (aCons (eMeth [("Reader", T 9)] "figure" (eVar 0) (pure [])) aNil)))
    (sRet (eTup (aCons (eVar 1) (aCons (eVar 3) (aCons (eVar 2) (aCons (e1 oTup (vVal (eFz (fLc [4] (iR1 (aCons (eMeth [("Reader", T 12)] "many" (eVar 0) (aCons (pure (.int 4)) aNil)) aNil)) (gN 4) (pure true) (eMeth [("Reader", T 9)] "figure" (eVar 0) (pure [])))))) aNil))))))) sNil)
    (sSeq (eIf (asB (eBinP oEq 1 (pure (.str "fetch")))) (sRet (eTup (aCons (eVar 1) (aCons (eMeth [("Reader", T 9)] "figure" (eVar 0) (pure [])) (aCons (eMeth [("Reader", T 9)] "figure" (eVar 0) (pure [])) aNil))))) sNil)
    (sSeq (eIf (asB (eBinP oEq 1 (pure (.str "close")))) (sRet (eTup (aCons (eVar 1) (aCons (eMeth [("Reader", T 8)] "word" (eVar 0) (aCons (eTup (aCons (pure (.str "ask")) (aCons (pure (.str "portal")) aNil))) aNil)) (aCons (eMeth [("Reader", T 9)] "figure" (eVar 0) (pure [])) aNil))))) sNil)
    (sRet (eTup (aCons (eVar 1) aNil))))))))
/-- read -/
def m15 (T : Nat → Fn) : SM :=
    (sSeq (sSet 1 (eMake "Reader" (T 7) (aCons (eFz (fT1 sSplit (eVar 0) (vVal (pure (.str " "))))) aNil)))
    (sSeq (sSet 2 (eMeth [("Reader", T 14)] "message" (eVar 1) (pure [])))
    (sSeq (eIf (asB (eBin oLt (eFld fl_place "place" (eVar 1)) (e1 oLen (vVal (eFld fl_words "words" (eVar 1)))))) (sRaise1 "BadText" "place" (aCons (eFld fl_place "place" (eVar 1)) aNil)) sNil)
    (sSeq (eIf (tNotM (asB (eCall (T 1) (aCons (eVar 2) aNil)))) (sRaise1 "BadText" "place" (aCons (e1 oLen (vVal (eFld fl_words "words" (eVar 1)))) aNil)) sNil)
    (sRet (eVar 2))))))
/-- _law_taken -/
def m16 (T : Nat → Fn) : SM :=
    (sSeq (eIf (asB (eBin oGt (eBinP oIx 0 (pure (.int 3))) (pure (.int 0)))) (sSeq (sSet 2 (eBin oMod (eBinP oIx 0 (pure (.int 3))) (eVar 1)))
    (sSeq (sIxN 0 (pure (.int 3)) (eBin oDiv (eBinP oIx 0 (pure (.int 3))) (eVar 1)))
    (sRet (eVar 2)))) sNil)
    (sSeq (sIxN 0 (pure (.int 1)) (eBin oAdd (eBinP oIx 0 (pure (.int 1))) (pure (.int 1))))
    (sSeq (eIf (asB (eBin oGt (eBinP oIx 0 (pure (.int 1))) (e1 oLen (vVal (eBinP oIx 0 (pure (.int 0))))))) (sSeq (sIxN 0 (pure (.int 2)) (eBin oMod (eBin oAdd (eBin oMul (eBinP oIx 0 (pure (.int 2))) (pure (.int 48271))) (pure (.int 11))) (pure (.int 2147483647))))
    (sRet (eBin oMod (eBin oDiv (eBinP oIx 0 (pure (.int 2))) (pure (.int 7))) (eVar 1)))) sNil)
    (sSeq (sSet 3 (eBin oIx (eBinP oIx 0 (pure (.int 0))) (eBin oSub (eBinP oIx 0 (pure (.int 1))) (pure (.int 1)))))
    (sSeq (sIxN 0 (pure (.int 2)) (eBin oMod (eBin oAdd (eBin oAdd (eBin oMul (eBinP oIx 0 (pure (.int 2))) (pure (.int 48271))) (eVar 3)) (pure (.int 11))) (pure (.int 2147483647))))
    (sSeq (eIf (asB (eBinP oGe 3 (eBin oPow (pure (.int 10)) (pure (.int 18))))) (sIxN 0 (pure (.int 3)) (eBinP oDiv 3 (eVar 1))) sNil)
    (sRet (eBinP oMod 3 (eVar 1)))))))))
/-- _law_alike -/
def m17 (T : Nat → Fn) : SM :=
    (sSeq (eIf (tOrM (asB (e1 (oIsi "tuple") (vName 1))) (asB (e1 (oIsi "list") (vName 1)))) (sSeq (eIf (tOrM (asB (eBin oNe (e1 (oIsi "tuple") (vName 0)) (e1 (oIsi "tuple") (vName 1)))) (tNotM (asB (e1 (oIsi2 "tuple" "list") (vName 0))))) (sRet (pure (.bl false))) sNil)
    (sSeq (eIf (asB (eBin oNe (e1 oLen (vName 0)) (e1 oLen (vName 1)))) (sRet (pure (.bl false))) sNil)
    (sRet (eBin oEq (eFz (fLc [2] (iR1 (aCons (e1 oLen (vName 1)) aNil)) (gN 2) (tNotM (asB (eCall (T 17) (aCons (eBinP oIx 0 (eVar 2)) (aCons (eBinP oIx 1 (eVar 2)) aNil))))) (eVar 2))) (eFz (fLst aNil)))))) sNil)
    (sSeq (eIf (tOrM (asB (eIsN (eVar 1))) (asB (eIsN (eVar 0)))) (sRet (eAnd (eIsN (eVar 1)) (eIsN (eVar 0)))) sNil)
    (sSeq (eIf (tOrM (asB (e1 (oIsi "bool") (vName 1))) (asB (e1 (oIsi "bool") (vName 0)))) (sRet (eAnd (e1 (oIsi "bool") (vName 1)) (eAnd (e1 (oIsi "bool") (vName 0)) (eBinP oEq 0 (eVar 1))))) sNil)
    (sSeq (eIf (asB (e1 (oIsi "str") (vName 1))) (sRet (eAnd (e1 (oIsi "str") (vName 0)) (eBinP oEq 0 (eVar 1)))) sNil)
    (sRet (eAnd (e1 (oIsi "int") (vName 0)) (eBinP oEq 0 (eVar 1))))))))
/-- _law_number -/
def m19 (T : Nat → Fn) : SM :=
    (sSeq (sSet 1 (eCall (T 16) (aCons (eVar 0) (aCons (pure (.int 5)) aNil))))
    (sRet (eIf (asB (eBinP oLt 1 (pure (.int 3)))) (eCall (T 16) (aCons (eVar 0) (aCons (pure (.int 4)) aNil))) (eBin oIx (eFz (fLst (aCons (eCall (T 16) (aCons (eVar 0) (aCons (pure (.int 1000)) aNil))) (aCons (eBin oSub (pure (.int 999)) (eCall (T 16) (aCons (eVar 0) (aCons (pure (.int 3)) aNil)))) aNil)))) (eBinP oSub 1 (pure (.int 3)))))))
/-- _law_part -/
def m20 (T : Nat → Fn) : SM :=
    (sSeq (sSet 3 (eCall (T 16) (aCons (eVar 0) (aCons (pure (.int 7)) aNil))))
    (sSeq (eIf (tAndM (asB (eBinP oEq 3 (pure (.int 6)))) (asB (eBinP oGt 2 (pure (.int 0))))) (sRet (eTup (aCons (pure (.str "add")) (aCons (eCall (T 20) (aCons (eVar 0) (aCons (eVar 1) (aCons (eBinP oSub 2 (pure (.int 1))) aNil)))) (aCons (eCall (T 20) (aCons (eVar 0) (aCons (eVar 1) (aCons (eBinP oSub 2 (pure (.int 1))) aNil)))) aNil))))) sNil)
    (sSeq (eIf (tAndM (asB (eBinP oLt 3 (pure (.int 3)))) (asB (eBinP oGt 1 (pure (.int 0))))) (sRet (eTup (aCons (pure (.str "col")) (aCons (eCall (T 16) (aCons (eVar 0) (aCons (eVar 1) aNil))) aNil)))) sNil)
    (sRet (eIf (asB (eBinP oLt 3 (pure (.int 5)))) (eTup (aCons (pure (.str "num")) (aCons (eCall (T 19) (aCons (eVar 0) aNil)) aNil))) (eTup (aCons (pure (.str "worth")) (aCons (eCall (T 16) (aCons (eVar 0) (aCons (pure (.int 4)) aNil))) aNil))))))))
/-- _law_condition -/
def m21 (T : Nat → Fn) : SM :=
    (sSeq (sSet 3 (eCall (T 16) (aCons (eVar 0) (aCons (pure (.int 8)) aNil))))
    (sSeq (eIf (asB (eBinP oEq 3 (pure (.int 0)))) (sRet (eTup (aCons (pure (.str "all")) aNil))) sNil)
    (sSeq (eIf (tOrM (asB (eBinP oLt 3 (pure (.int 5)))) (asB (eBinP oEq 2 (pure (.int 0))))) (sRet (eTup (aCons (eBin oIx (eFz (fLst (aCons (pure (.str "is")) (aCons (pure (.str "less")) aNil)))) (eCall (T 16) (aCons (eVar 0) (aCons (pure (.int 2)) aNil)))) (aCons (eCall (T 20) (aCons (eVar 0) (aCons (eVar 1) (aCons (pure (.int 1)) aNil)))) (aCons (eCall (T 20) (aCons (eVar 0) (aCons (eVar 1) (aCons (pure (.int 1)) aNil)))) aNil))))) sNil)
    (sSeq (eIf (asB (eBinP oEq 3 (pure (.int 5)))) (sRet (eTup (aCons (pure (.str "not")) (aCons (eCall (T 21) (aCons (eVar 0) (aCons (eVar 1) (aCons (eBinP oSub 2 (pure (.int 1))) aNil)))) aNil)))) sNil)
    (sRet (eTup (aCons (pure (.str "both")) (aCons (eCall (T 21) (aCons (eVar 0) (aCons (eVar 1) (aCons (eBinP oSub 2 (pure (.int 1))) aNil)))) (aCons (eCall (T 21) (aCons (eVar 0) (aCons (eVar 1) (aCons (eBinP oSub 2 (pure (.int 1))) aNil)))) aNil)))))))))
/-- _law_deep -/
def m22 (T : Nat → Fn) : SM :=
    (sSeq (sPar 2 3 (aCons (eTup (aCons (pure (.str "col")) (aCons (eCall (T 16) (aCons (eVar 0) (aCons (eVar 1) aNil))) aNil))) (aCons (eTup (aCons (eBin oIx (eFz (fLst (aCons (pure (.str "is")) (aCons (pure (.str "less")) aNil)))) (eCall (T 16) (aCons (eVar 0) (aCons (pure (.int 2)) aNil)))) (aCons (eTup (aCons (pure (.str "num")) (aCons (pure (.int 3)) aNil))) (aCons (eTup (aCons (pure (.str "worth")) (aCons (pure (.int 0)) aNil))) aNil)))) aNil)))
    (sSeq (sSet 4 (eCall (T 16) (aCons (eVar 0) (aCons (pure (.int 3)) aNil))))
    (sSeq (sFor (iR1 (aCons (eBin oAdd (eBin oIx (eFz (fLst (aCons (pure (.int 10)) (aCons (pure (.int 20)) (aCons (pure (.int 10)) aNil))))) (eVar 4)) (eCall (T 16) (aCons (eVar 0) (aCons (pure (.int 2)) aNil)))) aNil)) (gN 5) (eIf (asB (eBinP oEq 4 (pure (.int 0)))) (sSet 2 (eTup (aCons (pure (.str "add")) (aCons (eVar 2) (aCons (eTup (aCons (pure (.str "num")) (aCons (eBin oAdd (pure (.int 1)) (eCall (T 16) (aCons (eVar 0) (aCons (pure (.int 3)) aNil)))) aNil))) aNil))))) (eIf (asB (eBinP oEq 4 (pure (.int 1)))) (sSet 3 (eTup (aCons (pure (.str "not")) (aCons (eVar 3) aNil)))) (sSet 3 (eTup (aCons (pure (.str "both")) (aCons (eBin oIx (eFz (fLst (aCons (eVar 3) (aCons (eTup (aCons (pure (.str "all")) aNil)) aNil)))) (eBinP oMod 5 (pure (.int 2)))) (aCons (eBin oIx (eFz (fLst (aCons (eTup (aCons (pure (.str "all")) aNil)) (aCons (eVar 3) aNil)))) (eBinP oMod 5 (pure (.int 2)))) aNil))))))))
    (sRet (eTup (aCons (eVar 3) (aCons (eVar 2) aNil)))))))
/-- _law_any_ask -/
def m23 (T : Nat → Fn) : SM :=
    (sSeq (eIf (asB (eBin oEq (eCall (T 16) (aCons (eVar 0) (aCons (pure (.int 12)) aNil))) (pure (.int 11)))) (sSeq (sSet 2 (eCall (T 16) (aCons (eVar 0) (aCons (e1 oLen (vName 1)) aNil))))
    (sSeq (sAsg (eCall (T 22) (aCons (eVar 0) (aCons (eBinP oIx 1 (eVar 2)) aNil))) (gUn 2 (gMore (gN 3) (gMore (gN 4) gNone))))
    (sSeq (sSet 5 (eFz (fLst (aCons (eTup (aCons (pure (.str "rows")) (aCons (eVar 2) (aCons (eVar 3) (aCons (eTup (aCons (eVar 4) aNil)) aNil))))) (aCons (eTup (aCons (pure (.str "drop")) (aCons (eVar 2) (aCons (eVar 3) aNil)))) (aCons (eTup (aCons (pure (.str "set")) (aCons (eVar 2) (aCons (pure (.int 0)) (aCons (eVar 4) (aCons (eVar 3) aNil)))))) aNil))))))
    (sRet (eBinP oIx 5 (eCall (T 16) (aCons (eVar 0) (aCons (pure (.int 3)) aNil)))))))) sNil)
    (sSeq (sSet 2 (eCall (T 16) (aCons (eVar 0) (aCons (e1 oLen (vName 1)) aNil))))
    (sSeq (sSet 6 (eBinP oIx 1 (eVar 2)))
    (sSeq (sSet 7 (eCall (T 16) (aCons (eVar 0) (aCons (pure (.int 6)) aNil))))
    (sSeq (eIf (asB (eBinP oLt 7 (pure (.int 3)))) (sSeq (sSet 8 (e1 oTup (vVal (eFz (fLc [9] (iR1 (aCons (eBin oAdd (pure (.int 1)) (eCall (T 16) (aCons (eVar 0) (aCons (pure (.int 4)) aNil)))) aNil)) (gN 9) (pure true) (eCall (T 20) (aCons (eVar 0) (aCons (eVar 6) (aCons (pure (.int 1)) aNil)))))))))
    (sRet (eTup (aCons (pure (.str "rows")) (aCons (eVar 2) (aCons (eCall (T 21) (aCons (eVar 0) (aCons (eVar 6) (aCons (pure (.int 2)) aNil)))) (aCons (eVar 8) aNil))))))) sNil)
    (sSeq (eIf (asB (eBinP oEq 7 (pure (.int 3)))) (sRet (eTup (aCons (pure (.str "put")) (aCons (eVar 2) (aCons (e1 oTup (vVal (eFz (fLc [9] (iR1 (aCons (eVar 6) aNil)) (gN 9) (pure true) (eCall (T 20) (aCons (eVar 0) (aCons (pure (.int 0)) (aCons (pure (.int 1)) aNil)))))))) aNil))))) sNil)
    (sSeq (eIf (asB (eBinP oEq 7 (pure (.int 4)))) (sRet (eTup (aCons (pure (.str "drop")) (aCons (eVar 2) (aCons (eCall (T 21) (aCons (eVar 0) (aCons (eVar 6) (aCons (pure (.int 2)) aNil)))) aNil))))) sNil)
    (sRet (eTup (aCons (pure (.str "set")) (aCons (eVar 2) (aCons (eCall (T 16) (aCons (eVar 0) (aCons (eVar 6) aNil))) (aCons (eCall (T 20) (aCons (eVar 0) (aCons (eVar 6) (aCons (pure (.int 1)) aNil)))) (aCons (eCall (T 21) (aCons (eVar 0) (aCons (eVar 6) (aCons (pure (.int 2)) aNil)))) aNil))))))))))))))
/-- _law_things -/
def m24 (T : Nat → Fn) : SM :=
    (sSeq (eIf (tNotM (asB (e1 (oIsi "tuple") (vName 0)))) (sRet (pure (.int 0))) sNil)
    (sRet (eBin oAdd (e1 oInt (vVal (eAnd (eBinP oNe 0 (eTup aNil)) (e1 (oIsi "str") (vVal (eBinP oIx 0 (pure (.int 0)))))))) (e1 oSum (vVal (eFz (fLc [1] (iSeq (eVar 0)) (gN 1) (pure true) (eCall (T 24) (aCons (eVar 1) aNil)))))))))
/-- _law_ask -/
def m25 (T : Nat → Fn) : SM :=
    (sSeq (sSet 2 (eCall (T 23) (aCons (eVar 0) (aCons (eVar 1) aNil))))
    (sSeq (eIf (asB (eBin oLt (eCall (T 24) (aCons (eVar 2) aNil)) (pure (.int 31)))) (sRet (eVar 2)) sNil)
    (sRet (eTup (aCons (pure (.str "rows")) (aCons (eBinP oIx 2 (pure (.int 1))) (aCons (eTup (aCons (pure (.str "less")) (aCons (eTup (aCons (pure (.str "worth")) (aCons (pure (.int 0)) aNil))) (aCons (eTup (aCons (pure (.str "col")) (aCons (pure (.int 0)) aNil))) aNil)))) (aCons (eTup (aCons (eTup (aCons (pure (.str "col")) (aCons (pure (.int 0)) aNil))) aNil)) aNil))))))))
/-- _law_words -/
def m26 (T : Nat → Fn) : SM :=
    (sSeq (eIf (asB (eBin oIn (eBinP oIx 0 (pure (.int 0))) (eTup (aCons (pure (.str "num")) (aCons (pure (.str "col")) (aCons (pure (.str "worth")) aNil)))))) (sRet (eFz (fLst (aCons (eBin oAdd (eRepN 0 (eBinP oIx 0 (pure (.int 0)))) (e1 oStr (vVal (eBinP oIx 0 (pure (.int 1)))))) aNil)))) sNil)
    (sSeq (sSetU 1 (fLst (aCons (eBinP oIx 0 (pure (.int 0))) aNil)))
    (sSeq (sFor (iSeq (eSl (eVar 0) (oSm (pure (.int 1))) oNo)) (gN 2) (eIf (asB (e1 (oIsi "int") (vName 2))) (sExpr (eMutN 1 lAppend (aCons (e1 oStr (vName 2)) aNil))) (eIf (tAndM (asB (eBinP oNe 2 (eTup aNil))) (asB (e1 (oIsi "str") (vVal (eBinP oIx 2 (pure (.int 0))))))) (sSetU 1 (fAddP 1 (eCall (T 26) (aCons (eVar 2) aNil)))) (sSeq (sExpr (eMutN 1 lAppend (aCons (e1 oStr (vVal (e1 oLen (vName 2)))) aNil)))
    (sFor (iSeq (eVar 2)) (gN 3) (sSetU 1 (fAddP 1 (eCall (T 26) (aCons (eVar 3) aNil)))))))))
    (sRet (eVar 1)))))
/-- _law_any -/
def m27 (T : Nat → Fn) : SM :=
    (sSeq (sSet 1 (eFz (fLc [5] (iR1 (aCons (pure (.int 3)) aNil)) (gN 5) (pure true) (eBin oAdd (pure (.int 1)) (eCall (T 16) (aCons (eVar 0) (aCons (pure (.int 4)) aNil)))))))
    (sSeq (sPar 2 3 (aCons (eCall (T 16) (aCons (eVar 0) (aCons (pure (.int 6)) aNil))) (aCons (eCall (T 16) (aCons (eVar 0) (aCons (pure (.int 6)) aNil))) aNil)))
    (sSeq (sSetU 4 (fAdd (eBin oMul (eFz (fLst (aCons (eTup (aCons (pure (.str "ready")) (aCons (eVar 2) (aCons (eCall (T 25) (aCons (eVar 0) (aCons (eVar 1) aNil))) aNil)))) aNil))) (pure (.int 3))) (eFz (fLst (aCons (eTup (aCons (pure (.str "fetch")) (aCons (eVar 2) (aCons (eCall (T 16) (aCons (eVar 0) (aCons (pure (.int 21)) aNil))) aNil)))) aNil)))))
    (sSeq (sExpr (eMutN 4 lAppend (aCons (eTup (aCons (pure (.str "bind")) (aCons (eVar 2) (aCons (eVar 3) (aCons (e1 oTup (vVal (eFz (fLc [5] (iR1 (aCons (eCall (T 16) (aCons (eVar 0) (aCons (pure (.int 5)) aNil))) aNil)) (gN 5) (pure true) (eCall (T 19) (aCons (eVar 0) aNil)))))) aNil))))) aNil)))
    (sSeq (sSetU 4 (fAddP 4 (eFz (fLst (aCons (eTup (aCons (pure (.str "close")) (aCons (eBin oIx (eFz (fLst (aCons (pure (.str "ask")) (aCons (pure (.str "portal")) aNil)))) (eCall (T 16) (aCons (eVar 0) (aCons (pure (.int 2)) aNil)))) (aCons (eVar 2) aNil)))) (aCons (eTup (aCons (pure (.str "begin")) aNil)) (aCons (eTup (aCons (pure (.str "keep")) aNil)) (aCons (eTup (aCons (pure (.str "undo")) aNil)) (aCons (eTup (aCons (pure (.str "sync")) aNil)) aNil)))))))))
    (sRet (eBinP oIx 4 (eCall (T 16) (aCons (eVar 0) (aCons (pure (.int 10)) aNil))))))))))
/-- law -/
def m28 (T : Nat → Fn) : SM :=
    (sSeq (sSet 1 (eHp (fLst (aCons (eVar 0) (aCons (pure (.int 0)) (aCons (pure (.int 0)) (aCons (pure (.int 0)) aNil)))))))
    (sSeq (sSet 2 (pure (.str "0123456789abcdefghijklmnopqrstuvwxyz")))
    (sSeq (sSet 3 (eBin oAdd (eFz (fRg2 (pure (.int 48)) (pure (.int 58)))) (eFz (fRg2 (pure (.int 97)) (pure (.int 123))))))
    (sSeq (sFor (iR1 (aCons (pure (.int 8)) aNil)) (gN 4) (sSeq (sSet 5 (eCall (T 27) (aCons (eVar 1) aNil)))
    (sSeq (sSetU 6 (fLst (aCons (eBinP oIx 5 (pure (.int 0))) aNil)))
    (sSeq (sFor (iSeq (eSl (eVar 5) (oSm (pure (.int 1))) oNo)) (gN 7) (eIf (tAndM (asB (eBin oEq (eBinP oIx 5 (pure (.int 0))) (pure (.str "ready")))) (asB (e1 (oIsi "tuple") (vName 7)))) (sSetU 6 (fAddP 6 (eCall (T 26) (aCons (eVar 7) aNil)))) (eIf (asB (e1 (oIsi "tuple") (vName 7))) (sSetU 6 (fAdd (eFz (fAddP 6 (eFz (fLst (aCons (e1 oStr (vVal (e1 oLen (vName 7)))) aNil))))) (eFz (fLc [13] (iSeq (eVar 7)) (gN 13) (pure true) (e1 oStr (vName 13)))))) (sExpr (eMutN 6 lAppend (aCons (e1 oStr (vName 7)) aNil))))))
    (sSeq (sSet 8 (eT1 sJoin (pure (.str " ")) (vName 6)))
    (sSeq (eIf (tOrM (tNotM (asB (eCall (T 17) (aCons (eCall (T 4) (aCons (eVar 5) aNil)) (aCons (eVar 8) aNil))))) (tNotM (asB (eCall (T 17) (aCons (eCall (T 15) (aCons (eVar 8) aNil)) (aCons (eVar 5) aNil)))))) (sRet (pure (.bl false))) sNil)
    (sSeq (sSet 9 (eFz (fLc [14] (iSeq (eVar 8)) (gN 14) (pure true) (eIf (asB (eBinP oEq 14 (pure (.str " ")))) (pure (.int 32)) (eBinP oIx 3 (eT1 sIndex (eVar 2) (vName 14)))))))
    (sSeq (sFor (iR1 (aCons (pure (.int 2)) aNil)) (gN 10) (sSeq (sSet 11 (eCall (T 5) (aCons (eVar 5) aNil)))
    (sSeq (eIf (tNotM (asB (eCall (T 17) (aCons (eVar 11) (aCons (eFz (fAdd (eFz (fLst (aCons (eBin oDiv (e1 oLen (vName 8)) (pure (.int 256))) (aCons (eBin oMod (e1 oLen (vName 8)) (pure (.int 256))) aNil)))) (eVar 9))) aNil))))) (sRet (pure (.bl false))) sNil)
    (sExpr (eMutN 11 lAppend (aCons (pure (.int 0)) aNil))))))
    (sSeq (sSet 12 (eBin oIx (eFz (fLst (aCons (eTup (aCons (pure (.str "sync")) (aCons (pure (.int 1)) aNil))) (aCons (eTup (aCons (pure (.str "fetch")) (aCons (pure (.int 6)) (aCons (pure (.int 0)) aNil)))) (aCons (eTup (aCons (pure (.str "bind")) (aCons (pure (.int 0)) (aCons (pure (.int 0)) (aCons (eTup (aCons (pure (.int 1000)) aNil)) aNil))))) (aCons (eTup aNil) (aCons (eTup (aCons (pure (.str "close")) (aCons (pure (.str "portal")) (aCons (pure (.int 6)) aNil)))) aNil))))))) (eCall (T 16) (aCons (eVar 1) (aCons (pure (.int 5)) aNil)))))
    (eIf (asB (eBin oNe (eFz (fLst (aCons (eLam [12] (mkFnL N18.length (m18 (lamAct N28.length [12] (eCall (T 4) (aCons (eVar 12) aNil)))))) (aCons (eLam [12] (mkFnL N18.length (m18 (lamAct N28.length [12] (eCall (T 5) (aCons (eVar 12) aNil)))))) aNil)))) (eBin oMul (eFz (fLst (aCons (eTup (aCons (pure (.str "message")) (aCons (pure (.int 0)) aNil))) aNil))) (pure (.int 2))))) (sRet (pure (.bl false))) sNil))))))))))
    (sRet (pure (.bl true)))))))
def Fi (T : Nat → Fn) : Nat → Fn
  | 0 => mkFn N0.length 3 (m0 T)
  | 1 => mkFn N1.length 1 (m1 T)
  | 2 => mkFn N2.length 1 (m2 T)
  | 3 => mkFn N3.length 1 (m3 T)
  | 4 => mkFn N4.length 1 (m4 T)
  | 5 => mkFn N5.length 1 (m5 T)
  | 6 => mkFn N6.length 1 (m6 T)
  | 7 => mkFn N7.length 2 (m7 T)
  | 8 => mkFn N8.length 2 (m8 T)
  | 9 => mkFn N9.length 1 (m9 T)
  | 10 => mkFn N10.length 1 (m10 T)
  | 11 => mkFn N11.length 1 (m11 T)
  | 12 => mkFn N12.length 2 (m12 T)
  | 13 => mkFn N13.length 1 (m13 T)
  | 14 => mkFn N14.length 1 (m14 T)
  | 15 => mkFn N15.length 1 (m15 T)
  | 16 => mkFn N16.length 2 (m16 T)
  | 17 => mkFn N17.length 2 (m17 T)
  | 19 => mkFn N19.length 1 (m19 T)
  | 20 => mkFn N20.length 3 (m20 T)
  | 21 => mkFn N21.length 3 (m21 T)
  | 22 => mkFn N22.length 2 (m22 T)
  | 23 => mkFn N23.length 2 (m23 T)
  | 24 => mkFn N24.length 1 (m24 T)
  | 25 => mkFn N25.length 2 (m25 T)
  | 26 => mkFn N26.length 1 (m26 T)
  | 27 => mkFn N27.length 1 (m27 T)
  | _ => badFn
def Tk : Nat → Nat → Fn
  | 0 => fun _ => badFn
  | k + 1 => Fi (Tk k)
theorem T0 (k : Nat) : Tk (k + 1) 0 = mkFn N0.length 3 (m0 (Tk k)) := rfl
theorem T1 (k : Nat) : Tk (k + 1) 1 = mkFn N1.length 1 (m1 (Tk k)) := rfl
theorem T2 (k : Nat) : Tk (k + 1) 2 = mkFn N2.length 1 (m2 (Tk k)) := rfl
theorem T3 (k : Nat) : Tk (k + 1) 3 = mkFn N3.length 1 (m3 (Tk k)) := rfl
theorem T4 (k : Nat) : Tk (k + 1) 4 = mkFn N4.length 1 (m4 (Tk k)) := rfl
theorem T5 (k : Nat) : Tk (k + 1) 5 = mkFn N5.length 1 (m5 (Tk k)) := rfl
theorem T6 (k : Nat) : Tk (k + 1) 6 = mkFn N6.length 1 (m6 (Tk k)) := rfl
theorem T7 (k : Nat) : Tk (k + 1) 7 = mkFn N7.length 2 (m7 (Tk k)) := rfl
theorem T8 (k : Nat) : Tk (k + 1) 8 = mkFn N8.length 2 (m8 (Tk k)) := rfl
theorem T9 (k : Nat) : Tk (k + 1) 9 = mkFn N9.length 1 (m9 (Tk k)) := rfl
theorem T10 (k : Nat) : Tk (k + 1) 10 = mkFn N10.length 1 (m10 (Tk k)) := rfl
theorem T11 (k : Nat) : Tk (k + 1) 11 = mkFn N11.length 1 (m11 (Tk k)) := rfl
theorem T12 (k : Nat) : Tk (k + 1) 12 = mkFn N12.length 2 (m12 (Tk k)) := rfl
theorem T13 (k : Nat) : Tk (k + 1) 13 = mkFn N13.length 1 (m13 (Tk k)) := rfl
theorem T14 (k : Nat) : Tk (k + 1) 14 = mkFn N14.length 1 (m14 (Tk k)) := rfl
theorem T15 (k : Nat) : Tk (k + 1) 15 = mkFn N15.length 1 (m15 (Tk k)) := rfl
theorem T16 (k : Nat) : Tk (k + 1) 16 = mkFn N16.length 2 (m16 (Tk k)) := rfl
theorem T17 (k : Nat) : Tk (k + 1) 17 = mkFn N17.length 2 (m17 (Tk k)) := rfl
theorem T19 (k : Nat) : Tk (k + 1) 19 = mkFn N19.length 1 (m19 (Tk k)) := rfl
theorem T20 (k : Nat) : Tk (k + 1) 20 = mkFn N20.length 3 (m20 (Tk k)) := rfl
theorem T21 (k : Nat) : Tk (k + 1) 21 = mkFn N21.length 3 (m21 (Tk k)) := rfl
theorem T22 (k : Nat) : Tk (k + 1) 22 = mkFn N22.length 2 (m22 (Tk k)) := rfl
theorem T23 (k : Nat) : Tk (k + 1) 23 = mkFn N23.length 2 (m23 (Tk k)) := rfl
theorem T24 (k : Nat) : Tk (k + 1) 24 = mkFn N24.length 1 (m24 (Tk k)) := rfl
theorem T25 (k : Nat) : Tk (k + 1) 25 = mkFn N25.length 2 (m25 (Tk k)) := rfl
theorem T26 (k : Nat) : Tk (k + 1) 26 = mkFn N26.length 1 (m26 (Tk k)) := rfl
theorem T27 (k : Nat) : Tk (k + 1) 27 = mkFn N27.length 1 (m27 (Tk k)) := rfl
def lawFn (k : Nat) : Fn := mkFn N28.length 1 (m28 (Tk k))
end K14

set_option maxHeartbeats 4000000
namespace K14W
open PySem PySem.Spec PyProof.Rows L2 Ev K14
def top (i : Nat) : Stmt := PySem.Challenge.pw_portaldesk_k14_written_and_read.main.body.getD i (.Pass ⟨0, 0, 0, 0⟩)
def met (i j : Nat) : Stmt := inClass (top i) j
structure Fx (p : Pg) : Prop where
  b_ValueError : p.mg (Str.ofString "ValueError") = none
  b_bool : p.mg (Str.ofString "bool") = none
  b_int : p.mg (Str.ofString "int") = none
  b_isinstance : p.mg (Str.ofString "isinstance") = none
  b_len : p.mg (Str.ofString "len") = none
  b_list : p.mg (Str.ofString "list") = none
  b_range : p.mg (Str.ofString "range") = none
  b_str : p.mg (Str.ofString "str") = none
  b_sum : p.mg (Str.ofString "sum") = none
  b_tuple : p.mg (Str.ofString "tuple") = none
  c_BLANK : ∃ t, p.mg (Str.ofString "BLANK") = some (.int 32 t)
  c_FIRST_FIGURE : ∃ t, p.mg (Str.ofString "FIRST_FIGURE") = some (.int 48 t)
  c_FIRST_LETTER : ∃ t, p.mg (Str.ofString "FIRST_LETTER") = some (.int 97 t)
  c_MOST : ∃ t, p.mg (Str.ofString "MOST") = some (.int 1000 t)
  c_MOST_FETCH : ∃ t, p.mg (Str.ofString "MOST_FETCH") = some (.int 20 t)
  c_MOST_FIGURES : ∃ t, p.mg (Str.ofString "MOST_FIGURES") = some (.int 3 t)
  c_MOST_WIDE : ∃ t, p.mg (Str.ofString "MOST_WIDE") = some (.int 4 t)
  c_NAMES : ∃ t, p.mg (Str.ofString "NAMES") = some (.int 6 t)
  c_WORTHS : ∃ t, p.mg (Str.ofString "WORTHS") = some (.int 4 t)
  s_ASK : ∃ t, p.mg (Str.ofString "ASK") = some (.str (Str.ofString "ask") t)
  s_FIGURES : ∃ t, p.mg (Str.ofString "FIGURES") = some (.str (Str.ofString "0123456789") t)
  s_LETTERS : ∃ t, p.mg (Str.ofString "LETTERS") = some (.str (Str.ofString "abcdefghijklmnopqrstuvwxyz") t)
  s_PORTAL : ∃ t, p.mg (Str.ofString "PORTAL") = some (.str (Str.ofString "portal") t)
  t_ASKS : ∃ a, p.mg (Str.ofString "ASKS") = some (.ref a) ∧ KTab p.K p.w a tab_ASKS
  t_CONDITIONS : ∃ a, p.mg (Str.ofString "CONDITIONS") = some (.ref a) ∧ KTab p.K p.w a tab_CONDITIONS
  a_place : FldOk p fl_place "place"
  a_words : FldOk p fl_words "words"
  e_BadMessage : Ex1 p "BadMessage" "number"
  e_BadText : Ex1 p "BadText" "place"
  x_at : XfOk p xf_at "at"
  x_number : XfOk p xf_number "number"
  x_place : XfOk p xf_place "place"
  x_table : XfOk p xf_table "table"
  g_BadAsk : p.mg (Str.ofString "BadAsk") = some (.ref (He.ga p.K (Str.ofString "BadAsk")))
  g_BadClient : p.mg (Str.ofString "BadClient") = some (.ref (He.ga p.K (Str.ofString "BadClient")))
  g_BadMessage : p.mg (Str.ofString "BadMessage") = some (.ref (He.ga p.K (Str.ofString "BadMessage")))
  g_BadPiece : p.mg (Str.ofString "BadPiece") = some (.ref (He.ga p.K (Str.ofString "BadPiece")))
  g_BadTables : p.mg (Str.ofString "BadTables") = some (.ref (He.ga p.K (Str.ofString "BadTables")))
  g_BadText : p.mg (Str.ofString "BadText") = some (.ref (He.ga p.K (Str.ofString "BadText")))
  g_BadWorths : p.mg (Str.ofString "BadWorths") = some (.ref (He.ga p.K (Str.ofString "BadWorths")))
  g_Full : p.mg (Str.ofString "Full") = some (.ref (He.ga p.K (Str.ofString "Full")))
  g_PortalError : p.mg (Str.ofString "PortalError") = some (.ref (He.ga p.K (Str.ofString "PortalError")))
  i_BadAsk : IsEOk p (.ref (He.ga p.K (Str.ofString "BadAsk"))) is_BadAsk
  i_BadClient : IsEOk p (.ref (He.ga p.K (Str.ofString "BadClient"))) is_BadClient
  i_BadMessage : IsEOk p (.ref (He.ga p.K (Str.ofString "BadMessage"))) is_BadMessage
  i_BadPiece : IsEOk p (.ref (He.ga p.K (Str.ofString "BadPiece"))) is_BadPiece
  i_BadTables : IsEOk p (.ref (He.ga p.K (Str.ofString "BadTables"))) is_BadTables
  i_BadText : IsEOk p (.ref (He.ga p.K (Str.ofString "BadText"))) is_BadText
  i_BadWorths : IsEOk p (.ref (He.ga p.K (Str.ofString "BadWorths"))) is_BadWorths
  i_Full : IsEOk p (.ref (He.ga p.K (Str.ofString "Full"))) is_Full
  i_ValueError : IsEOk p (.type "ValueError") is_ValueError
  ca_PortalError : CatOk p (.ref (He.ga p.K (Str.ofString "PortalError"))) ca_PortalError
  lam__law_word : LamFn p (Str.ofString "_law_word") (defArgs (top 40)) (defBody (top 40)) (defScope (top 40)) (Str.ofString "_law_work")
theorem Fx.re {p p' : Pg} (F : Fx p) (h : p.Same p') : Fx p' := by
  obtain ⟨P, w, K, mg, base, ex, lam, T, an, act, cod⟩ := p
  obtain ⟨P', w', K', mg', base', ex', lam', T', an', act', cod'⟩ := p'
  obtain ⟨h1, h2, h3, h4, h5⟩ := h
  dsimp only at h1 h2 h3 h4 h5
  subst h1 h2 h3 h4 h5
  exact ⟨F.b_ValueError, F.b_bool, F.b_int, F.b_isinstance, F.b_len, F.b_list, F.b_range, F.b_str, F.b_sum, F.b_tuple, F.c_BLANK, F.c_FIRST_FIGURE, F.c_FIRST_LETTER, F.c_MOST, F.c_MOST_FETCH, F.c_MOST_FIGURES, F.c_MOST_WIDE, F.c_NAMES, F.c_WORTHS, F.s_ASK, F.s_FIGURES, F.s_LETTERS, F.s_PORTAL, F.t_ASKS, F.t_CONDITIONS, F.a_place, F.a_words, ⟨F.e_BadMessage.mg, F.e_BadMessage.oex, F.e_BadMessage.ini⟩, ⟨F.e_BadText.mg, F.e_BadText.oex, F.e_BadText.ini⟩, F.x_at, F.x_number, F.x_place, F.x_table, F.g_BadAsk, F.g_BadClient, F.g_BadMessage, F.g_BadPiece, F.g_BadTables, F.g_BadText, F.g_BadWorths, F.g_Full, F.g_PortalError, F.i_BadAsk, F.i_BadClient, F.i_BadMessage, F.i_BadPiece, F.i_BadTables, F.i_BadText, F.i_BadWorths, F.i_Full, F.i_ValueError, F.ca_PortalError, F.lam__law_word⟩
structure At (p : Pg) (T : Nat → Fn) (k : Nat) : Prop where
  hk : 1 ≤ k
  h0 : FnAt p k (Str.ofString "is_whole") (T 0)
  h1 : FnAt p k (Str.ofString "is_message") (T 1)
  h2 : FnAt p k (Str.ofString "number_of_sign") (T 2)
  h3 : FnAt p k (Str.ofString "words_of") (T 3)
  h4 : FnAt p k (Str.ofString "written") (T 4)
  h5 : FnAt p k (Str.ofString "framed") (T 5)
  h6 : FnAt p k (Str.ofString "number_of") (T 6)
  k7 : MkAt p k "Reader" (T 7)
  h8 : MtAt p k "Reader" (Str.ofString "word") (T 8)
  h9 : MtAt p k "Reader" (Str.ofString "figure") (T 9)
  h10 : MtAt p k "Reader" (Str.ofString "part") (T 10)
  h11 : MtAt p k "Reader" (Str.ofString "condition") (T 11)
  h12 : MtAt p k "Reader" (Str.ofString "many") (T 12)
  h13 : MtAt p k "Reader" (Str.ofString "ask") (T 13)
  h14 : MtAt p k "Reader" (Str.ofString "message") (T 14)
  h15 : FnAt p k (Str.ofString "read") (T 15)
  h16 : FnAt p k (Str.ofString "_law_taken") (T 16)
  h17 : FnAt p k (Str.ofString "_law_alike") (T 17)
  h19 : FnAt p k (Str.ofString "_law_number") (T 19)
  h20 : FnAt p k (Str.ofString "_law_part") (T 20)
  h21 : FnAt p k (Str.ofString "_law_condition") (T 21)
  h22 : FnAt p k (Str.ofString "_law_deep") (T 22)
  h23 : FnAt p k (Str.ofString "_law_any_ask") (T 23)
  h24 : FnAt p k (Str.ofString "_law_things") (T 24)
  h25 : FnAt p k (Str.ofString "_law_ask") (T 25)
  h26 : FnAt p k (Str.ofString "_law_words") (T 26)
  h27 : FnAt p k (Str.ofString "_law_any") (T 27)
theorem At.mono {p : Pg} {T : Nat → Fn} {j k : Nat} (H : At p T j) (h : j ≤ k) : At p T k := ⟨Nat.le_trans H.hk h, H.h0.mono h, H.h1.mono h, H.h2.mono h, H.h3.mono h, H.h4.mono h, H.h5.mono h, H.h6.mono h, H.k7.mono h, H.h8.mono h, H.h9.mono h, H.h10.mono h, H.h11.mono h, H.h12.mono h, H.h13.mono h, H.h14.mono h, H.h15.mono h, H.h16.mono h, H.h17.mono h, H.h19.mono h, H.h20.mono h, H.h21.mono h, H.h22.mono h, H.h23.mono h, H.h24.mono h, H.h25.mono h, H.h26.mono h, H.h27.mono h⟩
theorem At.re {p p' : Pg} {T : Nat → Fn} {k : Nat} (H : At p T k) (h : p.Alike p') : At p' T k := ⟨H.hk, H.h0.re h, H.h1.re h, H.h2.re h, H.h3.re h, H.h4.re h, H.h5.re h, H.h6.re h, H.k7.re h, H.h8.re h, H.h9.re h, H.h10.re h, H.h11.re h, H.h12.re h, H.h13.re h, H.h14.re h, H.h15.re h, H.h16.re h, H.h17.re h, H.h19.re h, H.h20.re h, H.h21.re h, H.h22.re h, H.h23.re h, H.h24.re h, H.h25.re h, H.h26.re h, H.h27.re h⟩
/-! _law_word -/
def g18_0 (k : Nat) : NE := ⟨N18, [0, 1, 2, 3], [0, 1, 2, 3], [PySem.Str.ofString "PortalError", PySem.Str.ofString "isinstance", PySem.Str.ofString "BadTables", PySem.Str.ofString "BadAsk", PySem.Str.ofString "BadWorths", PySem.Str.ofString "Full", PySem.Str.ofString "BadClient", PySem.Str.ofString "BadMessage", PySem.Str.ofString "BadText", PySem.Str.ofString "BadPiece", PySem.Str.ofString "ValueError"], true, k, [0, 1, 2, 3], [], true⟩
theorem d18 {p : Pg} (F : Fx p) (hex : p.ex = none) {act : List D → List MO → OutC} (han : p.an = Str.ofString "_law_work") (hact : p.act = act) (hl : ∃ l, p.lam = some l) {k : Nat} : SSs p (g18_0 k) (defBody (top 40)) (m18 act) :=
    (ss_cons (ss_tryas hex rfl rfl (mg 1) (mg 0) (.inl F.g_PortalError) F.ca_PortalError (ss_one (ss_expr (se_actE rfl han hact hl) (fun _ => rfl))) (fun a cls dd => (ss_cons (ss_afU (af_sf (i := 2) rfl (mg 2) (sf_lst (sa_cons (se_isE (cV := .ref (He.ga p.K (PySem.Str.ofString "BadTables"))) ⟨_, rfl⟩ rfl (mg 1) (mg 1) F.b_isinstance (mg 2) (.inl F.g_BadTables) rfl (fun _ z => z) F.i_BadTables (fun _ => rfl)) (sa_cons (se_isE (cV := .ref (He.ga p.K (PySem.Str.ofString "BadAsk"))) ⟨_, rfl⟩ rfl (mg 1) (mg 1) F.b_isinstance (mg 3) (.inl F.g_BadAsk) rfl (fun _ z => z) F.i_BadAsk (fun _ => rfl)) (sa_cons (se_isE (cV := .ref (He.ga p.K (PySem.Str.ofString "BadWorths"))) ⟨_, rfl⟩ rfl (mg 1) (mg 1) F.b_isinstance (mg 4) (.inl F.g_BadWorths) rfl (fun _ z => z) F.i_BadWorths (fun _ => rfl)) (sa_cons (se_isE (cV := .ref (He.ga p.K (PySem.Str.ofString "Full"))) ⟨_, rfl⟩ rfl (mg 1) (mg 1) F.b_isinstance (mg 5) (.inl F.g_Full) rfl (fun _ z => z) F.i_Full (fun _ => rfl)) sa_nil (fun _ => rfl)) (fun _ => rfl)) (fun _ => rfl)) (fun _ => rfl))) (fun _ => rfl)))
    (ss_cons (ss_afU (af_sf (i := 2) rfl (mg 2) (sf_addP (i := 2) rfl (mg 2) (se_fz (sf_lst (sa_cons (se_isE (cV := .ref (He.ga p.K (PySem.Str.ofString "BadClient"))) ⟨_, rfl⟩ rfl (mg 1) (mg 1) F.b_isinstance (mg 6) (.inl F.g_BadClient) rfl (fun _ z => z) F.i_BadClient (fun _ => rfl)) (sa_cons (se_isE (cV := .ref (He.ga p.K (PySem.Str.ofString "BadMessage"))) ⟨_, rfl⟩ rfl (mg 1) (mg 1) F.b_isinstance (mg 7) (.inl F.g_BadMessage) rfl (fun _ z => z) F.i_BadMessage (fun _ => rfl)) (sa_cons (se_isE (cV := .ref (He.ga p.K (PySem.Str.ofString "BadText"))) ⟨_, rfl⟩ rfl (mg 1) (mg 1) F.b_isinstance (mg 8) (.inl F.g_BadText) rfl (fun _ z => z) F.i_BadText (fun _ => rfl)) sa_nil (fun _ => rfl)) (fun _ => rfl)) (fun _ => rfl))))) (fun _ => rfl)))
    (ss_cons (ss_expr (se_mutN (i := 2) l_append m_append rfl (mg 2) (sa_cons (se_isE (cV := .ref (He.ga p.K (PySem.Str.ofString "BadPiece"))) ⟨_, rfl⟩ rfl (mg 1) (mg 1) F.b_isinstance (mg 9) (.inl F.g_BadPiece) rfl (fun _ z => z) F.i_BadPiece (fun _ => rfl)) sa_nil (fun _ => rfl)) ⟨fun _ => rfl, fun _ => rfl, rfl, fun _ => rfl, fun _ => rfl⟩) (fun _ => rfl))
    (ss_cons (ss_if (sw_st (sw_or (st_two (twoT opr_ne (nomark _)) o_ne (se_lookN (i := 2) ld_count look_count rfl (mg 2) se_bl ⟨fun _ => rfl, fun _ => rfl, rfl, fun _ => rfl, fun _ => rfl⟩) se_int) (sw_or1 (st_not (st_val (se_isE (cV := .ty "ValueError") ⟨_, rfl⟩ rfl (mg 1) (mg 1) F.b_isinstance (mg 10) (.inr ⟨F.b_ValueError, by decide +kernel⟩) rfl (fun _ z => z) F.i_ValueError (fun _ => rfl)) (fun _ _ => rfl)))))) (ss_one (ss_ret (se_tup (sa_cons se_str (sa_cons se_int sa_nil (fun _ => rfl)) (fun _ => rfl))))) ss_nil)
    (ss_cons (ss_set (i := 3) rfl (mg 3) (se_two (two_ix (fun _ _ => rfl)) o_ix (se_fz (sf_lst (sa_cons se_str (sa_cons se_str (sa_cons se_str (sa_cons se_str (sa_cons se_str (sa_cons se_str (sa_cons se_str (sa_cons se_str sa_nil (fun _ => rfl)) (fun _ => rfl)) (fun _ => rfl)) (fun _ => rfl)) (fun _ => rfl)) (fun _ => rfl)) (fun _ => rfl)) (fun _ => rfl)))) (se_lookN (i := 2) ld_index look_index rfl (mg 2) se_bl ⟨fun _ => rfl, fun _ => rfl, rfl, fun _ => rfl, fun _ => rfl⟩)) (fun _ => rfl))
    (ss_cons (ss_if (st_twoP (i := 3) (twoT opr_in rfl) o_in rfl (mg 3) (se_tup (sa_cons se_str (sa_cons se_str sa_nil (fun _ => rfl)) (fun _ => rfl)))) (ss_one (ss_ret (se_tup (sa_cons (se_var (i := 3) rfl (mg 3)) (sa_cons (se_if (st_twoP (i := 3) (twoT opr_eq (nomark _)) o_eq rfl (mg 3) se_str) (se_xf ⟨_, rfl⟩ rfl (mg 1) F.x_table (fun _ => rfl)) (se_xf ⟨_, rfl⟩ rfl (mg 1) F.x_at (fun _ => rfl))) sa_nil (fun _ => rfl)) (fun _ => rfl))))) ss_nil)
    (ss_cons (ss_if (st_twoP (i := 3) (twoT opr_in rfl) o_in rfl (mg 3) (se_tup (sa_cons se_str (sa_cons se_str sa_nil (fun _ => rfl)) (fun _ => rfl)))) (ss_one (ss_ret (se_tup (sa_cons (se_var (i := 3) rfl (mg 3)) (sa_cons (se_if (st_twoP (i := 3) (twoT opr_eq (nomark _)) o_eq rfl (mg 3) se_str) (se_xf ⟨_, rfl⟩ rfl (mg 1) F.x_number (fun _ => rfl)) (se_xf ⟨_, rfl⟩ rfl (mg 1) F.x_place (fun _ => rfl))) sa_nil (fun _ => rfl)) (fun _ => rfl))))) ss_nil)
    (ss_one (ss_ret (se_tup (sa_cons (se_var (i := 3) rfl (mg 3)) (sa_cons se_int sa_nil (fun _ => rfl)) (fun _ => rfl))))))))))))))
    (ss_one (ss_ret se_non)))
/-! is_whole -/
def g0_0 (k : Nat) : NE := ⟨N0, [0, 1, 2], [0, 1, 2], [PySem.Str.ofString "isinstance", PySem.Str.ofString "int", PySem.Str.ofString "bool"], true, k, [0, 1, 2], [], true⟩
theorem d0 {p : Pg} (F : Fx p) (hex : p.ex = none) (hlam : p.lam = none) {T : Nat → Fn} {k : Nat} (H : At p T k) : SSs p (g0_0 k) (defBody (top 16)) (m0 T) :=
    (ss_one (ss_ret (se_and (se_isi (b := "int") (mg 0) F.b_isinstance (mg 1) F.b_int (by decide +kernel) (by decide) (sl_name (i := 0) rfl (mg 0)) (fun _ => rfl)) (se_and (se_not (se_isi (b := "bool") (mg 0) F.b_isinstance (mg 2) F.b_bool (by decide +kernel) (by decide) (sl_name (i := 0) rfl (mg 0)) (fun _ => rfl))) (se_one (se_chainE opr_le opr_lt o_cmp o_cmp (se_var (i := 1) rfl (mg 1)) (se_var (i := 0) rfl (mg 0)) (se_var (i := 2) rfl (mg 2))))))))
/-! is_message -/
def g1_0 (k : Nat) : NE := ⟨N1, [0, 1, 2], [0, 1, 2], [PySem.Str.ofString "isinstance", PySem.Str.ofString "tuple", PySem.Str.ofString "str", PySem.Str.ofString "len", PySem.Str.ofString "is_whole", PySem.Str.ofString "NAMES", PySem.Str.ofString "ASK", PySem.Str.ofString "PORTAL", PySem.Str.ofString "MOST_FETCH", PySem.Str.ofString "WORTHS"], true, k, [0, 1, 2], [], true⟩
def g1_1 (k : Nat) : NE := ⟨N1, [3], [3], [PySem.Str.ofString "is_whole", PySem.Str.ofString "MOST"], true, k, [3], [], false⟩
theorem d1 {p : Pg} (F : Fx p) (hex : p.ex = none) (hlam : p.lam = none) {T : Nat → Fn} {k : Nat} (H : At p T k) : SSs p (g1_0 k) (defBody (top 22)) (m1 T) :=
    (ss_cons (ss_if (sw_st (sw_or (st_not (st_val (se_isi (b := "tuple") (mg 0) F.b_isinstance (mg 1) F.b_tuple (by decide +kernel) (by decide) (sl_name (i := 0) rfl (mg 0)) (fun _ => rfl)) (fun _ _ => rfl))) (sw_or (st_twoP (i := 0) (twoT opr_eq (nomark _)) o_eq rfl (mg 0) (se_tup sa_nil)) (sw_or1 (st_not (st_val (se_isi (b := "str") (mg 0) F.b_isinstance (mg 2) F.b_str (by decide +kernel) (by decide) (sl_val (se_twoP (i := 0) (two_ix (fun _ _ => rfl)) o_ix rfl (mg 0) se_int)) (fun _ => rfl)) (fun _ _ => rfl))))))) (ss_one (ss_ret se_bl)) ss_nil)
    (ss_cons (ss_par (i := 1) (j := 2) rfl rfl rfl (by decide) (mg 1) (mg 2) (sa_cons (se_twoP (i := 0) (two_ix (fun _ _ => rfl)) o_ix rfl (mg 0) se_int) (sa_cons (se_sl (se_var (i := 0) rfl (mg 0)) (so_some se_int) so_none) sa_nil (fun _ => rfl)) (fun _ => rfl)) (par2 rfl (by decide +kernel) (fun _ _ h => nomatch h) (fun _ _ h => nomatch h) rfl rfl) (fun _ => rfl))
    (ss_cons (ss_if (st_twoP (i := 1) (twoT opr_in rfl) o_in rfl (mg 1) (se_tup (sa_cons se_str (sa_cons se_str (sa_cons se_str (sa_cons se_str sa_nil (fun _ => rfl)) (fun _ => rfl)) (fun _ => rfl)) (fun _ => rfl)))) (ss_one (ss_ret (se_twoP (i := 2) two_eq o_eq rfl (mg 2) (se_tup sa_nil)))) ss_nil)
    (ss_cons (ss_if (st_twoP (i := 1) (twoT opr_eq (nomark _)) o_eq rfl (mg 1) se_str) (ss_one (ss_ret (se_and (se_two two_eq o_eq (se_len (mg 3) F.b_len (sl_name (i := 2) rfl (mg 2)) (fun _ => rfl)) se_int) (se_one (se_call (mg 4) rfl H.h0 (sa_cons (se_twoP (i := 2) (two_ix (fun _ _ => rfl)) o_ix rfl (mg 2) se_int) (sa_cons se_int (sa_cons (se_cintE (mg 5) F.c_NAMES) sa_nil (fun _ => rfl)) (fun _ => rfl)) (fun _ => rfl)) (fun _ => rfl) (fun _ => rfl)))))) ss_nil)
    (ss_cons (ss_if (st_twoP (i := 1) (twoT opr_eq (nomark _)) o_eq rfl (mg 1) se_str) (ss_one (ss_ret (se_and (se_two two_eq o_eq (se_len (mg 3) F.b_len (sl_name (i := 2) rfl (mg 2)) (fun _ => rfl)) se_int) (se_and (se_two (two_in rfl) o_in (se_twoP (i := 2) (two_ix (fun _ _ => rfl)) o_ix rfl (mg 2) se_int) (se_tup (sa_cons (se_cstrE (mg 6) F.s_ASK) (sa_cons (se_cstrE (mg 7) F.s_PORTAL) sa_nil (fun _ => rfl)) (fun _ => rfl)))) (se_one (se_call (mg 4) rfl H.h0 (sa_cons (se_twoP (i := 2) (two_ix (fun _ _ => rfl)) o_ix rfl (mg 2) se_int) (sa_cons se_int (sa_cons (se_cintE (mg 5) F.c_NAMES) sa_nil (fun _ => rfl)) (fun _ => rfl)) (fun _ => rfl)) (fun _ => rfl) (fun _ => rfl))))))) ss_nil)
    (ss_cons (ss_if (st_twoP (i := 1) (twoT opr_eq (nomark _)) o_eq rfl (mg 1) se_str) (ss_one (ss_ret (se_and (se_two two_eq o_eq (se_len (mg 3) F.b_len (sl_name (i := 2) rfl (mg 2)) (fun _ => rfl)) se_int) (se_and (se_call (mg 4) rfl H.h0 (sa_cons (se_twoP (i := 2) (two_ix (fun _ _ => rfl)) o_ix rfl (mg 2) se_int) (sa_cons se_int (sa_cons (se_cintE (mg 5) F.c_NAMES) sa_nil (fun _ => rfl)) (fun _ => rfl)) (fun _ => rfl)) (fun _ => rfl) (fun _ => rfl)) (se_one (se_call (mg 4) rfl H.h0 (sa_cons (se_twoP (i := 2) (two_ix (fun _ _ => rfl)) o_ix rfl (mg 2) se_int) (sa_cons se_int (sa_cons (se_two two_add o_add (se_cintE (mg 8) F.c_MOST_FETCH) se_int) sa_nil (fun _ => rfl)) (fun _ => rfl)) (fun _ => rfl)) (fun _ => rfl) (fun _ => rfl))))))) ss_nil)
    (ss_cons (ss_if (sw_st (sw_or (st_twoP (i := 1) (twoT opr_ne (nomark _)) o_ne rfl (mg 1) se_str) (sw_or (st_two (twoT opr_ne (nomark _)) o_ne (se_len (mg 3) F.b_len (sl_name (i := 2) rfl (mg 2)) (fun _ => rfl)) se_int) (sw_or (st_not (st_val (se_call (mg 4) rfl H.h0 (sa_cons (se_twoP (i := 2) (two_ix (fun _ _ => rfl)) o_ix rfl (mg 2) se_int) (sa_cons se_int (sa_cons (se_cintE (mg 5) F.c_NAMES) sa_nil (fun _ => rfl)) (fun _ => rfl)) (fun _ => rfl)) (fun _ => rfl) (fun _ => rfl)) (fun _ _ => rfl))) (sw_or1 (st_not (st_val (se_call (mg 4) rfl H.h0 (sa_cons (se_twoP (i := 2) (two_ix (fun _ _ => rfl)) o_ix rfl (mg 2) se_int) (sa_cons se_int (sa_cons (se_cintE (mg 5) F.c_NAMES) sa_nil (fun _ => rfl)) (fun _ => rfl)) (fun _ => rfl)) (fun _ => rfl) (fun _ => rfl)) (fun _ _ => rfl)))))))) (ss_one (ss_ret se_bl)) ss_nil)
    (ss_cons (ss_if (sw_st (sw_or (st_not (st_val (se_isi (b := "tuple") (mg 0) F.b_isinstance (mg 1) F.b_tuple (by decide +kernel) (by decide) (sl_val (se_twoP (i := 2) (two_ix (fun _ _ => rfl)) o_ix rfl (mg 2) se_int)) (fun _ => rfl)) (fun _ _ => rfl))) (sw_or1 (st_two (twoT opr_gt (nomark _)) o_cmp (se_len (mg 3) F.b_len (sl_val (se_twoP (i := 2) (two_ix (fun _ _ => rfl)) o_ix rfl (mg 2) se_int)) (fun _ => rfl)) (se_cintE (mg 9) F.c_WORTHS))))) (ss_one (ss_ret se_bl)) ss_nil)
    (ss_one (ss_ret (se_two two_eq o_eq (se_fz (sf_lc (Γ' := g1_1 k) (own := [((PySem.Str.ofString "number"), 3)]) (lcok (Γ0 := g1_0 0) (Γ0' := g1_1 0) (own := [((PySem.Str.ofString "number"), 3)]) rfl rfl rfl rfl rfl rfl (by decide +kernel) (by decide +kernel) hex hlam) (si_seq (se_twoP (i := 2) (two_ix (fun _ _ => rfl)) o_ix rfl (mg 2) se_int)) (sg_name (i := 3) rfl (mg 0)) (sts_one (st_not (st_val (se_call (mg 0) rfl H.h0 (sa_cons (se_var (i := 3) rfl (mg 0)) (sa_cons se_int (sa_cons (se_cintE (mg 1) F.c_MOST) sa_nil (fun _ => rfl)) (fun _ => rfl)) (fun _ => rfl)) (fun _ => rfl) (fun _ => rfl)) (fun _ _ => rfl)))) (se_var (i := 3) rfl (mg 0)) (fun _ _ => rfl))) (se_fz (sf_lst sa_nil)))))))))))))
/-! number_of_sign -/
def g2_0 (k : Nat) : NE := ⟨N2, [0], [0], [PySem.Str.ofString "BLANK", PySem.Str.ofString "FIGURES", PySem.Str.ofString "FIRST_FIGURE", PySem.Str.ofString "FIRST_LETTER", PySem.Str.ofString "LETTERS"], true, k, [0], [], true⟩
theorem d2 {p : Pg} (F : Fx p) (hex : p.ex = none) (hlam : p.lam = none) {T : Nat → Fn} {k : Nat} (H : At p T k) : SSs p (g2_0 k) (defBody (top 30)) (m2 T) :=
    (ss_cons (ss_if (st_twoP (i := 0) (twoT opr_eq (nomark _)) o_eq rfl (mg 0) se_str) (ss_one (ss_ret (se_cintE (mg 0) F.c_BLANK))) ss_nil)
    (ss_one (ss_ret (se_if (st_twoP (i := 0) (twoT opr_in rfl) o_in rfl (mg 0) (se_cstrE (mg 1) F.s_FIGURES)) (se_two two_add o_add (se_cintE (mg 2) F.c_FIRST_FIGURE) (se_t1 tm_index ot_index (se_cstrE (mg 1) F.s_FIGURES) (sl_name (i := 0) rfl (mg 0)) ⟨fun _ => rfl, fun _ => rfl, rfl⟩)) (se_two two_add o_add (se_cintE (mg 3) F.c_FIRST_LETTER) (se_t1 tm_index ot_index (se_cstrE (mg 4) F.s_LETTERS) (sl_name (i := 0) rfl (mg 0)) ⟨fun _ => rfl, fun _ => rfl, rfl⟩))))))
/-! words_of -/
def g3_0 (k : Nat) : NE := ⟨N3, [0, 1, 2, 3], [0, 1, 2, 3], [PySem.Str.ofString "str", PySem.Str.ofString "isinstance", PySem.Str.ofString "int", PySem.Str.ofString "words_of", PySem.Str.ofString "len"], true, k, [0, 1, 2, 3], [], true⟩
theorem d3 {p : Pg} (F : Fx p) (hex : p.ex = none) (hlam : p.lam = none) {T : Nat → Fn} {k : Nat} (H : At p T k) : SSs p (g3_0 k) (defBody (top 31)) (m3 T) :=
    (ss_cons (ss_if (st_two (twoT opr_in rfl) o_in (se_twoP (i := 0) (two_ix (fun _ _ => rfl)) o_ix rfl (mg 0) se_int) (se_tup (sa_cons se_str (sa_cons se_str (sa_cons se_str sa_nil (fun _ => rfl)) (fun _ => rfl)) (fun _ => rfl)))) (ss_one (ss_ret (se_fz (sf_lst (sa_cons (se_two two_add o_add (se_two (two_ix (fun _ _ => rfl)) o_ix (se_fzD (sd_disp (dp_cons kk_str se_str (dp_cons kk_str se_str (dp_cons kk_str se_str dp_nil))) rfl rfl (by simp) (by simp))) (se_twoP (i := 0) (two_ix (fun _ _ => rfl)) o_ix rfl (mg 0) se_int)) (se_str1 (mg 0) F.b_str (sl_val (se_twoP (i := 0) (two_ix (fun _ _ => rfl)) o_ix rfl (mg 0) se_int)) (fun _ => rfl))) sa_nil (fun _ => rfl)))))) ss_nil)
    (ss_cons (ss_afU (af_sf (i := 1) rfl (mg 1) (sf_lst (sa_cons (se_twoP (i := 0) (two_ix (fun _ _ => rfl)) o_ix rfl (mg 0) se_int) sa_nil (fun _ => rfl))) (fun _ => rfl)))
    (ss_cons (ss_for rfl (si_seq (se_sl (se_var (i := 0) rfl (mg 0)) (so_some se_int) so_none)) (sg_name (i := 2) rfl (mg 2)) nx_name (ss_one (ss_if (st_val (se_isi (b := "int") (mg 1) F.b_isinstance (mg 2) F.b_int (by decide +kernel) (by decide) (sl_name (i := 2) rfl (mg 2)) (fun _ => rfl)) (fun _ _ => rfl)) (ss_one (ss_expr (se_mutN (i := 1) l_append m_append rfl (mg 1) (sa_cons (se_str1 (mg 0) F.b_str (sl_name (i := 2) rfl (mg 2)) (fun _ => rfl)) sa_nil (fun _ => rfl)) ⟨fun _ => rfl, fun _ => rfl, rfl, fun _ => rfl, fun _ => rfl⟩) (fun _ => rfl))) (ss_one (ss_if (sw_st (sw_and (st_twoP (i := 2) (twoT opr_ne (nomark _)) o_ne rfl (mg 2) (se_tup sa_nil)) (sw_and1 (st_val (se_isi (b := "str") (mg 1) F.b_isinstance (mg 0) F.b_str (by decide +kernel) (by decide) (sl_val (se_twoP (i := 2) (two_ix (fun _ _ => rfl)) o_ix rfl (mg 2) se_int)) (fun _ => rfl)) (fun _ _ => rfl))))) (ss_one (ss_expr (se_mutN (i := 1) l_extend m_extend rfl (mg 1) (sa_cons (se_call (mg 3) rfl H.h3 (sa_cons (se_var (i := 2) rfl (mg 2)) sa_nil (fun _ => rfl)) (fun _ => rfl) (fun _ => rfl)) sa_nil (fun _ => rfl)) ⟨fun _ => rfl, fun _ => rfl, rfl, fun _ => rfl, fun _ => rfl⟩) (fun _ => rfl))) (ss_cons (ss_expr (se_mutN (i := 1) l_append m_append rfl (mg 1) (sa_cons (se_str1 (mg 0) F.b_str (sl_val (se_len (mg 4) F.b_len (sl_name (i := 2) rfl (mg 2)) (fun _ => rfl))) (fun _ => rfl)) sa_nil (fun _ => rfl)) ⟨fun _ => rfl, fun _ => rfl, rfl, fun _ => rfl, fun _ => rfl⟩) (fun _ => rfl))
    (ss_one (ss_for rfl (si_seq (se_var (i := 2) rfl (mg 2))) (sg_name (i := 3) rfl (mg 3)) nx_name (ss_one (ss_expr (se_mutN (i := 1) l_extend m_extend rfl (mg 1) (sa_cons (se_call (mg 3) rfl H.h3 (sa_cons (se_var (i := 3) rfl (mg 3)) sa_nil (fun _ => rfl)) (fun _ => rfl) (fun _ => rfl)) sa_nil (fun _ => rfl)) ⟨fun _ => rfl, fun _ => rfl, rfl, fun _ => rfl, fun _ => rfl⟩) (fun _ => rfl))) (fun _ _ => rfl)))))))) (fun _ _ => rfl))
    (ss_one (ss_ret (se_var (i := 1) rfl (mg 1)))))))
/-! written -/
def g4_0 (k : Nat) : NE := ⟨N4, [0, 1], [0, 1], [PySem.Str.ofString "is_message", PySem.Str.ofString "BadMessage", PySem.Str.ofString "str", PySem.Str.ofString "words_of", PySem.Str.ofString "len"], true, k, [0, 1], [], true⟩
def g4_1 (k : Nat) : NE := ⟨N4, [2], [2], [PySem.Str.ofString "isinstance", PySem.Str.ofString "tuple", PySem.Str.ofString "str"], true, k, [2], [], false⟩
def g4_2 (k : Nat) : NE := ⟨N4, [3], [3], [PySem.Str.ofString "str"], true, k, [3], [], false⟩
theorem d4 {p : Pg} (F : Fx p) (hex : p.ex = none) (hlam : p.lam = none) {T : Nat → Fn} {k : Nat} (H : At p T k) : SSs p (g4_0 k) (defBody (top 32)) (m4 T) :=
    (ss_cons (ss_if (st_not (st_val (se_call (mg 0) rfl H.h1 (sa_cons (se_var (i := 0) rfl (mg 0)) sa_nil (fun _ => rfl)) (fun _ => rfl) (fun _ => rfl)) (fun _ _ => rfl))) (ss_one (ss_raise1 rfl H.hk (mg 1) F.e_BadMessage (sa_cons se_int sa_nil (fun _ => rfl)) (fun _ => rfl))) ss_nil)
    (ss_cons (ss_if (st_two (twoT opr_eq (nomark _)) o_eq (se_twoP (i := 0) (two_ix (fun _ _ => rfl)) o_ix rfl (mg 0) se_int) se_str) (ss_one (ss_ret (se_t1 tm_join ot_join se_str (sl_val (se_fz (sf_add (se_fz (sf_lst (sa_cons se_str (sa_cons (se_str1 (mg 2) F.b_str (sl_val (se_twoP (i := 0) (two_ix (fun _ _ => rfl)) o_ix rfl (mg 0) se_int)) (fun _ => rfl)) sa_nil (fun _ => rfl)) (fun _ => rfl)))) (se_call (mg 3) rfl H.h3 (sa_cons (se_twoP (i := 0) (two_ix (fun _ _ => rfl)) o_ix rfl (mg 0) se_int) sa_nil (fun _ => rfl)) (fun _ => rfl) (fun _ => rfl))))) ⟨fun _ => rfl, fun _ => rfl, rfl⟩))) ss_nil)
    (ss_cons (ss_afF (af_lc (i := 1) rfl (mg 1) (Γ' := g4_1 k) (own := [((PySem.Str.ofString "part"), 2)]) (lcok (Γ0 := g4_0 0) (Γ0' := g4_1 0) (own := [((PySem.Str.ofString "part"), 2)]) rfl rfl rfl rfl rfl rfl (by decide +kernel) (by decide +kernel) hex hlam) (si_seq (se_var (i := 0) rfl (mg 0))) (sg_name (i := 2) rfl (mg 0)) (sts_one (st_not (st_val (se_isi (b := "tuple") (mg 0) F.b_isinstance (mg 1) F.b_tuple (by decide +kernel) (by decide) (sl_name (i := 2) rfl (mg 0)) (fun _ => rfl)) (fun _ _ => rfl)))) (se_str1 (mg 2) F.b_str (sl_name (i := 2) rfl (mg 0)) (fun _ => rfl)) (fun _ _ => rfl) rfl rfl))
    (ss_cons (ss_if (st_two (twoT opr_eq (nomark _)) o_eq (se_twoP (i := 0) (two_ix (fun _ _ => rfl)) o_ix rfl (mg 0) se_int) se_str) (ss_one (ss_afF (af_sf (i := 1) rfl (mg 1) (sf_add (se_fz (sf_addP (i := 1) rfl (mg 1) (se_fz (sf_lst (sa_cons (se_str1 (mg 2) F.b_str (sl_val (se_len (mg 4) F.b_len (sl_val (se_twoP (i := 0) (two_ix (fun _ _ => rfl)) o_ix rfl (mg 0) se_int)) (fun _ => rfl))) (fun _ => rfl)) sa_nil (fun _ => rfl)))))) (se_fz (sf_lc (Γ' := g4_2 k) (own := [((PySem.Str.ofString "number"), 3)]) (lcok (Γ0 := g4_0 0) (Γ0' := g4_2 0) (own := [((PySem.Str.ofString "number"), 3)]) rfl rfl rfl rfl rfl rfl (by decide +kernel) (by decide +kernel) hex hlam) (si_seq (se_twoP (i := 0) (two_ix (fun _ _ => rfl)) o_ix rfl (mg 0) se_int)) (sg_name (i := 3) rfl (mg 0)) sts_nil (se_str1 (mg 0) F.b_str (sl_name (i := 3) rfl (mg 0)) (fun _ => rfl)) (fun _ _ => rfl)))) (fun _ => rfl)))) ss_nil)
    (ss_one (ss_ret (se_t1 tm_join ot_join se_str (sl_name (i := 1) rfl (mg 1)) ⟨fun _ => rfl, fun _ => rfl, rfl⟩)))))))
/-! framed -/
def g5_0 (k : Nat) : NE := ⟨N5, [0, 1], [0, 1], [PySem.Str.ofString "written", PySem.Str.ofString "len"], true, k, [0, 1], [], true⟩
def g5_1 (k : Nat) : NE := ⟨N5, [2], [2], [PySem.Str.ofString "number_of_sign"], true, k, [2], [], false⟩
theorem d5 {p : Pg} (F : Fx p) (hex : p.ex = none) (hlam : p.lam = none) {T : Nat → Fn} {k : Nat} (H : At p T k) : SSs p (g5_0 k) (defBody (top 33)) (m5 T) :=
    (ss_cons (ss_set (i := 1) rfl (mg 1) (se_call (mg 0) rfl H.h4 (sa_cons (se_var (i := 0) rfl (mg 0)) sa_nil (fun _ => rfl)) (fun _ => rfl) (fun _ => rfl)) (fun _ => rfl))
    (ss_one (ss_ret (se_hp (sf_add (se_fz (sf_lst (sa_cons (se_two two_div o_div (se_len (mg 1) F.b_len (sl_name (i := 1) rfl (mg 1)) (fun _ => rfl)) se_int) (sa_cons (se_two two_mod o_mod (se_len (mg 1) F.b_len (sl_name (i := 1) rfl (mg 1)) (fun _ => rfl)) se_int) sa_nil (fun _ => rfl)) (fun _ => rfl)))) (se_fz (sf_lc (Γ' := g5_1 k) (own := [((PySem.Str.ofString "sign"), 2)]) (lcok (Γ0 := g5_0 0) (Γ0' := g5_1 0) (own := [((PySem.Str.ofString "sign"), 2)]) rfl rfl rfl rfl rfl rfl (by decide +kernel) (by decide +kernel) hex hlam) (si_seq (se_var (i := 1) rfl (mg 1))) (sg_name (i := 2) rfl (mg 0)) sts_nil (se_call (mg 0) rfl H.h2 (sa_cons (se_var (i := 2) rfl (mg 0)) sa_nil (fun _ => rfl)) (fun _ => rfl) (fun _ => rfl)) (fun _ _ => rfl))))))))
/-! number_of -/
def g6_0 (k : Nat) : NE := ⟨N6, [0], [0], [PySem.Str.ofString "len", PySem.Str.ofString "MOST_FIGURES", PySem.Str.ofString "str", PySem.Str.ofString "int"], true, k, [0], [], true⟩
def g6_1 (k : Nat) : NE := ⟨N6, [1], [1], [PySem.Str.ofString "FIGURES"], true, k, [1], [], false⟩
theorem d6 {p : Pg} (F : Fx p) (hex : p.ex = none) (hlam : p.lam = none) {T : Nat → Fn} {k : Nat} (H : At p T k) : SSs p (g6_0 k) (defBody (top 34)) (m6 T) :=
    (ss_cons (ss_if (sw_st (sw_or (st_not (st_chainE opr_le opr_le o_cmp o_cmp se_int (se_len (mg 0) F.b_len (sl_name (i := 0) rfl (mg 0)) (fun _ => rfl)) (se_cintE (mg 1) F.c_MOST_FIGURES))) (sw_or1 (st_two (twoT opr_ne (nomark _)) o_ne (se_fz (sf_lc (Γ' := g6_1 k) (own := [((PySem.Str.ofString "sign"), 1)]) (lcok (Γ0 := g6_0 0) (Γ0' := g6_1 0) (own := [((PySem.Str.ofString "sign"), 1)]) rfl rfl rfl rfl rfl rfl (by decide +kernel) (by decide +kernel) hex hlam) (si_seq (se_var (i := 0) rfl (mg 0))) (sg_name (i := 1) rfl (mg 0)) (sts_one (st_twoP (i := 1) (twoT opr_notin rfl) o_notin rfl (mg 0) (se_cstrE (mg 0) F.s_FIGURES))) (se_var (i := 1) rfl (mg 0)) (fun _ _ => rfl))) (se_fz (sf_lst sa_nil)))))) (ss_one (ss_ret se_non)) ss_nil)
    (ss_one (ss_ret (se_if (st_two (twoT opr_eq (nomark _)) o_eq (se_str1 (mg 2) F.b_str (sl_val (se_intS (mg 3) F.b_int (sl_name (i := 0) rfl (mg 0)) (fun _ => rfl))) (fun _ => rfl)) (se_var (i := 0) rfl (mg 0))) (se_intS (mg 3) F.b_int (sl_name (i := 0) rfl (mg 0)) (fun _ => rfl)) se_non))))
/-! Reader.__init__ -/
def g7_0 (k : Nat) : NE := ⟨N7, [0, 1], [0, 1], [], true, k, [0, 1], [], true⟩
theorem d7 {p : Pg} (F : Fx p) (hex : p.ex = none) (hlam : p.lam = none) {T : Nat → Fn} {k : Nat} (H : At p T k) : SSs p (g7_0 k) (defBody (met 35 0)) (m7 T) :=
    (ss_cons (ss_fld F.a_words (se_var (i := 0) rfl (mg 0)) (se_var (i := 1) rfl (mg 1)) (fun _ => rfl))
    (ss_one (ss_fld F.a_place (se_var (i := 0) rfl (mg 0)) se_int (fun _ => rfl))))
/-! Reader.word -/
def g8_0 (k : Nat) : NE := ⟨N8, [0, 1], [0, 1], [PySem.Str.ofString "len", PySem.Str.ofString "BadText"], true, k, [0, 1], [], true⟩
theorem d8 {p : Pg} (F : Fx p) (hex : p.ex = none) (hlam : p.lam = none) {T : Nat → Fn} {k : Nat} (H : At p T k) : SSs p (g8_0 k) (defBody (met 35 1)) (m8 T) :=
    (ss_cons (ss_if (sw_st (sw_or (st_two (twoT opr_ge (nomark _)) o_cmp (se_fld F.a_place (se_var (i := 0) rfl (mg 0)) (fun _ => rfl)) (se_len (mg 0) F.b_len (sl_val (se_fld F.a_words (se_var (i := 0) rfl (mg 0)) (fun _ => rfl))) (fun _ => rfl))) (sw_or1 (sw_st (sw_and (st_notN (se_var (i := 1) rfl (mg 1))) (sw_and1 (st_two (twoT opr_notin rfl) o_notin (se_two (two_ix (fun _ _ => rfl)) o_ix (se_fld F.a_words (se_var (i := 0) rfl (mg 0)) (fun _ => rfl)) (se_fld F.a_place (se_var (i := 0) rfl (mg 0)) (fun _ => rfl))) (se_var (i := 1) rfl (mg 1))))))))) (ss_one (ss_raise1 rfl H.hk (mg 1) F.e_BadText (sa_cons (se_fld F.a_place (se_var (i := 0) rfl (mg 0)) (fun _ => rfl)) sa_nil (fun _ => rfl)) (fun _ => rfl))) ss_nil)
    (ss_cons (ss_fld F.a_place (se_var (i := 0) rfl (mg 0)) (se_two two_add o_add (se_fld F.a_place (se_var (i := 0) rfl (mg 0)) (fun _ => rfl)) se_int) (fun _ => rfl))
    (ss_one (ss_ret (se_two (two_ix (fun _ _ => rfl)) o_ix (se_fld F.a_words (se_var (i := 0) rfl (mg 0)) (fun _ => rfl)) (se_two two_sub o_sub (se_fld F.a_place (se_var (i := 0) rfl (mg 0)) (fun _ => rfl)) se_int))))))
/-! Reader.figure -/
def g9_0 (k : Nat) : NE := ⟨N9, [0, 1], [0, 1], [PySem.Str.ofString "number_of", PySem.Str.ofString "BadText"], true, k, [0, 1], [], true⟩
theorem d9 {p : Pg} (F : Fx p) (hex : p.ex = none) (hlam : p.lam = none) {T : Nat → Fn} {k : Nat} (H : At p T k) : SSs p (g9_0 k) (defBody (met 35 2)) (m9 T) :=
    (ss_cons (ss_set (i := 1) rfl (mg 1) (se_call (mg 0) rfl H.h6 (sa_cons (se_meth rfl (mt_cons H.h8 mt_nil) (se_var (i := 0) rfl (mg 0)) (sa_cons se_non sa_nil (fun _ => rfl)) (fun _ => rfl) (fun _ => rfl) (fun _ => rfl)) sa_nil (fun _ => rfl)) (fun _ => rfl) (fun _ => rfl)) (fun _ => rfl))
    (ss_cons (ss_if (st_isN (se_var (i := 1) rfl (mg 1))) (ss_one (ss_raise1 rfl H.hk (mg 1) F.e_BadText (sa_cons (se_two two_sub o_sub (se_fld F.a_place (se_var (i := 0) rfl (mg 0)) (fun _ => rfl)) se_int) sa_nil (fun _ => rfl)) (fun _ => rfl))) ss_nil)
    (ss_one (ss_ret (se_var (i := 1) rfl (mg 1))))))
/-! Reader.part -/
def g10_0 (k : Nat) : NE := ⟨N10, [0, 1, 2, 3], [0, 1, 2, 3], [PySem.Str.ofString "number_of", PySem.Str.ofString "BadText"], true, k, [0, 1, 2, 3], [], true⟩
theorem d10 {p : Pg} (F : Fx p) (hex : p.ex = none) (hlam : p.lam = none) {T : Nat → Fn} {k : Nat} (H : At p T k) : SSs p (g10_0 k) (defBody (met 35 3)) (m10 T) :=
    (ss_cons (ss_set (i := 1) rfl (mg 1) (se_meth rfl (mt_cons H.h8 mt_nil) (se_var (i := 0) rfl (mg 0)) (sa_cons se_non sa_nil (fun _ => rfl)) (fun _ => rfl) (fun _ => rfl) (fun _ => rfl)) (fun _ => rfl))
    (ss_cons (ss_if (st_twoP (i := 1) (twoT opr_eq (nomark _)) o_eq rfl (mg 1) se_str) (ss_cons (ss_set (i := 2) rfl (mg 2) (se_meth0 rfl (mt_cons H.h10 mt_nil) (se_var (i := 0) rfl (mg 0)) (fun _ => rfl)) (fun _ => rfl))
    (ss_one (ss_ret (se_tup (sa_cons se_str (sa_cons (se_var (i := 2) rfl (mg 2)) (sa_cons (se_meth0 rfl (mt_cons H.h10 mt_nil) (se_var (i := 0) rfl (mg 0)) (fun _ => rfl)) sa_nil (fun _ => rfl)) (fun _ => rfl)) (fun _ => rfl)))))) ss_nil)
    (ss_cons (ss_if (st_notN (se_call (mg 0) rfl H.h6 (sa_cons (se_var (i := 1) rfl (mg 1)) sa_nil (fun _ => rfl)) (fun _ => rfl) (fun _ => rfl))) (ss_one (ss_ret (se_tup (sa_cons se_str (sa_cons (se_call (mg 0) rfl H.h6 (sa_cons (se_var (i := 1) rfl (mg 1)) sa_nil (fun _ => rfl)) (fun _ => rfl) (fun _ => rfl)) sa_nil (fun _ => rfl)) (fun _ => rfl))))) ss_nil)
    (ss_cons (ss_set (i := 3) rfl (mg 3) (se_get1 (se_fzD (sd_disp (dp_cons kk_str se_str (dp_cons kk_str se_str dp_nil)) rfl rfl (by simp) (by simp))) (se_sl (se_var (i := 1) rfl (mg 1)) so_none (so_some se_int)) ⟨fun _ => rfl, fun _ => rfl, rfl, fun _ => rfl⟩) (fun _ => rfl))
    (ss_cons (ss_if (sw_st (sw_or (st_isN (se_var (i := 3) rfl (mg 3))) (sw_or1 (st_isN (se_call (mg 0) rfl H.h6 (sa_cons (se_sl (se_var (i := 1) rfl (mg 1)) (so_some se_int) so_none) sa_nil (fun _ => rfl)) (fun _ => rfl) (fun _ => rfl)))))) (ss_one (ss_raise1 rfl H.hk (mg 1) F.e_BadText (sa_cons (se_two two_sub o_sub (se_fld F.a_place (se_var (i := 0) rfl (mg 0)) (fun _ => rfl)) se_int) sa_nil (fun _ => rfl)) (fun _ => rfl))) ss_nil)
    (ss_one (ss_ret (se_tup (sa_cons (se_var (i := 3) rfl (mg 3)) (sa_cons (se_call (mg 0) rfl H.h6 (sa_cons (se_sl (se_var (i := 1) rfl (mg 1)) (so_some se_int) so_none) sa_nil (fun _ => rfl)) (fun _ => rfl) (fun _ => rfl)) sa_nil (fun _ => rfl)) (fun _ => rfl))))))))))
/-! Reader.condition -/
def g11_0 (k : Nat) : NE := ⟨N11, [0, 1, 2], [0, 1, 2], [PySem.Str.ofString "list", PySem.Str.ofString "CONDITIONS", PySem.Str.ofString "tuple"], true, k, [0, 1, 2], [], true⟩
theorem d11 {p : Pg} (F : Fx p) (hex : p.ex = none) (hlam : p.lam = none) {T : Nat → Fn} {k : Nat} (H : At p T k) : SSs p (g11_0 k) (defBody (met 35 4)) (m11 T) :=
    (ss_cons (ss_afU (af_sf (i := 1) rfl (mg 1) (sf_lst (sa_cons (se_meth rfl (mt_cons H.h8 mt_nil) (se_var (i := 0) rfl (mg 0)) (sa_cons (se_fz (sf_listT rfl (mg 0) F.b_list (sl_val (se_ctabE (mg 1) F.t_CONDITIONS)) (fun _ => rfl))) sa_nil (fun _ => rfl)) (fun _ => rfl) (fun _ => rfl) (fun _ => rfl)) sa_nil (fun _ => rfl))) (fun _ => rfl)))
    (ss_cons (ss_for rfl (si_seq (se_two (two_ix (fun _ _ => rfl)) o_ix (se_ctabE (mg 1) F.t_CONDITIONS) (se_twoP (i := 1) (two_ix (fun _ _ => rfl)) o_ix rfl (mg 1) se_int))) (sg_name (i := 2) rfl (mg 2)) nx_name (ss_one (ss_expr (se_mutN (i := 1) l_append m_append rfl (mg 1) (sa_cons (se_if (st_twoP (i := 2) (twoT opr_eq (nomark _)) o_eq rfl (mg 2) se_str) (se_meth0 rfl (mt_cons H.h10 mt_nil) (se_var (i := 0) rfl (mg 0)) (fun _ => rfl)) (se_meth0 rfl (mt_cons H.h11 mt_nil) (se_var (i := 0) rfl (mg 0)) (fun _ => rfl))) sa_nil (fun _ => rfl)) ⟨fun _ => rfl, fun _ => rfl, rfl, fun _ => rfl, fun _ => rfl⟩) (fun _ => rfl))) (fun _ _ => rfl))
    (ss_one (ss_ret (se_tuple (mg 2) F.b_tuple (sl_name (i := 1) rfl (mg 1)) (fun _ => rfl))))))
/-! Reader.many -/
def g12_0 (k : Nat) : NE := ⟨N12, [0, 1, 2], [0, 1, 2], [PySem.Str.ofString "BadText"], true, k, [0, 1, 2], [], true⟩
theorem d12 {p : Pg} (F : Fx p) (hex : p.ex = none) (hlam : p.lam = none) {T : Nat → Fn} {k : Nat} (H : At p T k) : SSs p (g12_0 k) (defBody (met 35 5)) (m12 T) :=
    (ss_cons (ss_set (i := 2) rfl (mg 2) (se_meth0 rfl (mt_cons H.h9 mt_nil) (se_var (i := 0) rfl (mg 0)) (fun _ => rfl)) (fun _ => rfl))
    (ss_cons (ss_if (st_twoP (i := 2) (twoT opr_gt (nomark _)) o_cmp rfl (mg 2) (se_var (i := 1) rfl (mg 1))) (ss_one (ss_raise1 rfl H.hk (mg 0) F.e_BadText (sa_cons (se_two two_sub o_sub (se_fld F.a_place (se_var (i := 0) rfl (mg 0)) (fun _ => rfl)) se_int) sa_nil (fun _ => rfl)) (fun _ => rfl))) ss_nil)
    (ss_one (ss_ret (se_var (i := 2) rfl (mg 2))))))
/-! Reader.ask -/
def g13_0 (k : Nat) : NE := ⟨N13, [0, 1, 2], [0, 1, 2], [PySem.Str.ofString "list", PySem.Str.ofString "ASKS", PySem.Str.ofString "tuple", PySem.Str.ofString "range", PySem.Str.ofString "MOST_WIDE"], true, k, [1, 2], [PySem.Str.ofString "self"], true⟩
def g13_1 (k : Nat) : NE := ⟨N13, [0, 3], [3], [], true, k, [3], [PySem.Str.ofString "self"], false⟩
theorem d13 {p : Pg} (F : Fx p) (hex : p.ex = none) (hlam : p.lam = none) {T : Nat → Fn} {k : Nat} (H : At p T k) : SSs p (g13_0 k) (defBody (met 35 6)) (m13 T) :=
    (ss_cons (ss_afU (af_sf (i := 1) rfl (mg 1) (sf_lst (sa_cons (se_meth rfl (mt_cons H.h8 mt_nil) (se_var (i := 0) rfl (mg 0)) (sa_cons (se_fz (sf_listT rfl (mg 0) F.b_list (sl_val (se_ctabE (mg 1) F.t_ASKS)) (fun _ => rfl))) sa_nil (fun _ => rfl)) (fun _ => rfl) (fun _ => rfl) (fun _ => rfl)) sa_nil (fun _ => rfl))) (fun _ => rfl)))
    (ss_cons (ss_for rfl (si_seq (se_two (two_ix (fun _ _ => rfl)) o_ix (se_ctabE (mg 1) F.t_ASKS) (se_twoP (i := 1) (two_ix (fun _ _ => rfl)) o_ix rfl (mg 1) se_int))) (sg_name (i := 2) rfl (mg 2)) nx_name (ss_one (ss_if (st_twoP (i := 2) (twoT opr_in rfl) o_in rfl (mg 2) se_str) (ss_one (ss_expr (se_mutN (i := 1) l_append m_append rfl (mg 1) (sa_cons (se_meth0 rfl (mt_cons H.h9 mt_nil) (se_var (i := 0) rfl (mg 0)) (fun _ => rfl)) sa_nil (fun _ => rfl)) ⟨fun _ => rfl, fun _ => rfl, rfl, fun _ => rfl, fun _ => rfl⟩) (fun _ => rfl))) (ss_one (ss_if (st_twoP (i := 2) (twoT opr_eq (nomark _)) o_eq rfl (mg 2) se_str) (ss_one (ss_expr (se_mutN (i := 1) l_append m_append rfl (mg 1) (sa_cons (se_meth0 rfl (mt_cons H.h11 mt_nil) (se_var (i := 0) rfl (mg 0)) (fun _ => rfl)) sa_nil (fun _ => rfl)) ⟨fun _ => rfl, fun _ => rfl, rfl, fun _ => rfl, fun _ => rfl⟩) (fun _ => rfl))) (ss_one (ss_if (st_twoP (i := 2) (twoT opr_eq (nomark _)) o_eq rfl (mg 2) se_str) (ss_one (ss_expr (se_mutN (i := 1) l_append m_append rfl (mg 1) (sa_cons (se_meth0 rfl (mt_cons H.h10 mt_nil) (se_var (i := 0) rfl (mg 0)) (fun _ => rfl)) sa_nil (fun _ => rfl)) ⟨fun _ => rfl, fun _ => rfl, rfl, fun _ => rfl, fun _ => rfl⟩) (fun _ => rfl))) (ss_one (ss_expr (se_mutN (i := 1) l_append m_append rfl (mg 1) (sa_cons (se_tuple (mg 2) F.b_tuple (sl_val (se_fz (sf_lc (Γ' := g13_1 k) (own := [((PySem.Str.ofString "turn"), 3)]) (lcok (Γ0 := g13_0 0) (Γ0' := g13_1 0) (own := [((PySem.Str.ofString "turn"), 3)]) rfl rfl rfl rfl rfl rfl (by decide +kernel) (by decide +kernel) hex hlam) (si_r1 (mg 3) F.b_range (sa_cons (se_meth rfl (mt_cons H.h12 mt_nil) (se_var (i := 0) rfl (mg 0)) (sa_cons (se_cintE (mg 4) F.c_MOST_WIDE) sa_nil (fun _ => rfl)) (fun _ => rfl) (fun _ => rfl) (fun _ => rfl)) sa_nil (fun _ => rfl)) (fun _ => rfl)) (sg_name (i := 3) rfl (mg 0)) sts_nil (se_meth0 rfl (mt_cons H.h10 mt_nil) (se_var (i := 0) rfl (mg 0)) (fun _ => rfl)) (fun _ _ => rfl)))) (fun _ => rfl)) sa_nil (fun _ => rfl)) ⟨fun _ => rfl, fun _ => rfl, rfl, fun _ => rfl, fun _ => rfl⟩) (fun _ => rfl))))))))) (fun _ _ => rfl))
    (ss_one (ss_ret (se_tuple (mg 2) F.b_tuple (sl_name (i := 1) rfl (mg 1)) (fun _ => rfl))))))
/-! Reader.message -/
def g14_0 (k : Nat) : NE := ⟨N14, [0, 1, 2, 3], [0, 1, 2, 3], [PySem.Str.ofString "tuple", PySem.Str.ofString "range", PySem.Str.ofString "WORTHS"], true, k, [1, 2, 3], [PySem.Str.ofString "self"], true⟩
def g14_1 (k : Nat) : NE := ⟨N14, [0, 4], [4], [], true, k, [4], [PySem.Str.ofString "self"], false⟩
theorem d14 {p : Pg} (F : Fx p) (hex : p.ex = none) (hlam : p.lam = none) {T : Nat → Fn} {k : Nat} (H : At p T k) : SSs p (g14_0 k) (defBody (met 35 7)) (m14 T) :=
    (ss_cons (ss_set (i := 1) rfl (mg 1) (se_meth rfl (mt_cons H.h8 mt_nil) (se_var (i := 0) rfl (mg 0)) (sa_cons (se_tup (sa_cons se_str (sa_cons se_str (sa_cons se_str (sa_cons se_str (sa_cons se_str (sa_cons se_str (sa_cons se_str (sa_cons se_str sa_nil (fun _ => rfl)) (fun _ => rfl)) (fun _ => rfl)) (fun _ => rfl)) (fun _ => rfl)) (fun _ => rfl)) (fun _ => rfl)) (fun _ => rfl))) sa_nil (fun _ => rfl)) (fun _ => rfl) (fun _ => rfl) (fun _ => rfl)) (fun _ => rfl))
    (ss_cons (ss_if (st_twoP (i := 1) (twoT opr_eq (nomark _)) o_eq rfl (mg 1) se_str) (ss_cons (ss_set (i := 2) rfl (mg 2) (se_meth0 rfl (mt_cons H.h9 mt_nil) (se_var (i := 0) rfl (mg 0)) (fun _ => rfl)) (fun _ => rfl))
    (ss_one (ss_ret (se_tup (sa_cons (se_var (i := 1) rfl (mg 1)) (sa_cons (se_var (i := 2) rfl (mg 2)) (sa_cons (se_meth0 rfl (mt_cons H.h13 mt_nil) (se_var (i := 0) rfl (mg 0)) (fun _ => rfl)) sa_nil (fun _ => rfl)) (fun _ => rfl)) (fun _ => rfl)))))) ss_nil)
    (ss_cons (ss_if (st_twoP (i := 1) (twoT opr_eq (nomark _)) o_eq rfl (mg 1) se_str) (ss_cons (ss_par (i := 3) (j := 2) rfl rfl rfl (by decide) (mg 2) (mg 1) (sa_cons (se_meth0 rfl (mt_cons H.h9 mt_nil) (se_var (i := 0) rfl (mg 0)) (fun _ => rfl)) (sa_cons (se_meth0 rfl (mt_cons H.h9 mt_nil) (se_var (i := 0) rfl (mg 0)) (fun _ => rfl)) sa_nil (fun _ => rfl)) (fun _ => rfl)) (par2 rfl (by decide +kernel) (fun _ _ h => nomatch h) (fun _ _ h => nomatch h) rfl rfl) (fun _ => rfl))
    (ss_one (ss_ret (se_tup (sa_cons (se_var (i := 1) rfl (mg 1)) (sa_cons (se_var (i := 3) rfl (mg 3)) (sa_cons (se_var (i := 2) rfl (mg 2)) (sa_cons (se_tuple (mg 0) F.b_tuple (sl_val (se_fz (sf_lc (Γ' := g14_1 k) (own := [((PySem.Str.ofString "turn"), 4)]) (lcok (Γ0 := g14_0 0) (Γ0' := g14_1 0) (own := [((PySem.Str.ofString "turn"), 4)]) rfl rfl rfl rfl rfl rfl (by decide +kernel) (by decide +kernel) hex hlam) (si_r1 (mg 1) F.b_range (sa_cons (se_meth rfl (mt_cons H.h12 mt_nil) (se_var (i := 0) rfl (mg 0)) (sa_cons (se_cintE (mg 2) F.c_WORTHS) sa_nil (fun _ => rfl)) (fun _ => rfl) (fun _ => rfl) (fun _ => rfl)) sa_nil (fun _ => rfl)) (fun _ => rfl)) (sg_name (i := 4) rfl (mg 0)) sts_nil (se_meth0 rfl (mt_cons H.h9 mt_nil) (se_var (i := 0) rfl (mg 0)) (fun _ => rfl)) (fun _ _ => rfl)))) (fun _ => rfl)) sa_nil (fun _ => rfl)) (fun _ => rfl)) (fun _ => rfl)) (fun _ => rfl)))))) ss_nil)
    (ss_cons (ss_if (st_twoP (i := 1) (twoT opr_eq (nomark _)) o_eq rfl (mg 1) se_str) (ss_one (ss_ret (se_tup (sa_cons (se_var (i := 1) rfl (mg 1)) (sa_cons (se_meth0 rfl (mt_cons H.h9 mt_nil) (se_var (i := 0) rfl (mg 0)) (fun _ => rfl)) (sa_cons (se_meth0 rfl (mt_cons H.h9 mt_nil) (se_var (i := 0) rfl (mg 0)) (fun _ => rfl)) sa_nil (fun _ => rfl)) (fun _ => rfl)) (fun _ => rfl))))) ss_nil)
    (ss_cons (ss_if (st_twoP (i := 1) (twoT opr_eq (nomark _)) o_eq rfl (mg 1) se_str) (ss_one (ss_ret (se_tup (sa_cons (se_var (i := 1) rfl (mg 1)) (sa_cons (se_meth rfl (mt_cons H.h8 mt_nil) (se_var (i := 0) rfl (mg 0)) (sa_cons (se_tup (sa_cons se_str (sa_cons se_str sa_nil (fun _ => rfl)) (fun _ => rfl))) sa_nil (fun _ => rfl)) (fun _ => rfl) (fun _ => rfl) (fun _ => rfl)) (sa_cons (se_meth0 rfl (mt_cons H.h9 mt_nil) (se_var (i := 0) rfl (mg 0)) (fun _ => rfl)) sa_nil (fun _ => rfl)) (fun _ => rfl)) (fun _ => rfl))))) ss_nil)
    (ss_one (ss_ret (se_tup (sa_cons (se_var (i := 1) rfl (mg 1)) sa_nil (fun _ => rfl))))))))))
/-! read -/
def g15_0 (k : Nat) : NE := ⟨N15, [0, 1, 2], [0, 1, 2], [PySem.Str.ofString "Reader", PySem.Str.ofString "len", PySem.Str.ofString "BadText", PySem.Str.ofString "is_message"], true, k, [0, 1, 2], [], true⟩
theorem d15 {p : Pg} (F : Fx p) (hex : p.ex = none) (hlam : p.lam = none) {T : Nat → Fn} {k : Nat} (H : At p T k) : SSs p (g15_0 k) (defBody (top 36)) (m15 T) :=
    (ss_cons (ss_set (i := 1) rfl (mg 1) (se_make (mg 0) rfl H.k7 (sa_cons (se_fz (sf_t1 tm_split ot_split (se_var (i := 0) rfl (mg 0)) (sl_val se_str) ⟨fun _ => rfl, fun _ => rfl, rfl⟩)) sa_nil (fun _ => rfl)) (fun _ => rfl) (fun _ => rfl)) (fun _ => rfl))
    (ss_cons (ss_set (i := 2) rfl (mg 2) (se_meth0 rfl (mt_cons H.h14 mt_nil) (se_var (i := 1) rfl (mg 1)) (fun _ => rfl)) (fun _ => rfl))
    (ss_cons (ss_if (st_two (twoT opr_lt (nomark _)) o_cmp (se_fld F.a_place (se_var (i := 1) rfl (mg 1)) (fun _ => rfl)) (se_len (mg 1) F.b_len (sl_val (se_fld F.a_words (se_var (i := 1) rfl (mg 1)) (fun _ => rfl))) (fun _ => rfl))) (ss_one (ss_raise1 rfl H.hk (mg 2) F.e_BadText (sa_cons (se_fld F.a_place (se_var (i := 1) rfl (mg 1)) (fun _ => rfl)) sa_nil (fun _ => rfl)) (fun _ => rfl))) ss_nil)
    (ss_cons (ss_if (st_not (st_val (se_call (mg 3) rfl H.h1 (sa_cons (se_var (i := 2) rfl (mg 2)) sa_nil (fun _ => rfl)) (fun _ => rfl) (fun _ => rfl)) (fun _ _ => rfl))) (ss_one (ss_raise1 rfl H.hk (mg 2) F.e_BadText (sa_cons (se_len (mg 1) F.b_len (sl_val (se_fld F.a_words (se_var (i := 1) rfl (mg 1)) (fun _ => rfl))) (fun _ => rfl)) sa_nil (fun _ => rfl)) (fun _ => rfl))) ss_nil)
    (ss_one (ss_ret (se_var (i := 2) rfl (mg 2))))))))
/-! _law_taken -/
def g16_0 (k : Nat) : NE := ⟨N16, [0, 1, 2, 3], [0, 1, 2, 3], [PySem.Str.ofString "len"], true, k, [0, 1, 2, 3], [], true⟩
theorem d16 {p : Pg} (F : Fx p) (hex : p.ex = none) (hlam : p.lam = none) {T : Nat → Fn} {k : Nat} (H : At p T k) : SSs p (g16_0 k) (defBody (top 38)) (m16 T) :=
    (ss_cons (ss_if (st_two (twoT opr_gt (nomark _)) o_cmp (se_twoP (i := 0) (two_ix (fun _ _ => rfl)) o_ix rfl (mg 0) se_int) se_int) (ss_cons (ss_set (i := 2) rfl (mg 2) (se_two two_mod o_mod (se_twoP (i := 0) (two_ix (fun _ _ => rfl)) o_ix rfl (mg 0) se_int) (se_var (i := 1) rfl (mg 1))) (fun _ => rfl))
    (ss_cons (ss_ixN (n := 0) rfl (mg 0) se_int (se_two two_div o_div (se_twoP (i := 0) (two_ix (fun _ _ => rfl)) o_ix rfl (mg 0) se_int) (se_var (i := 1) rfl (mg 1))) (fun _ _ => rfl) (fun _ => rfl) (fun _ => rfl) (fun _ => rfl))
    (ss_one (ss_ret (se_var (i := 2) rfl (mg 2)))))) ss_nil)
    (ss_cons (ss_ixN (n := 0) rfl (mg 0) se_int (se_two two_add o_add (se_twoP (i := 0) (two_ix (fun _ _ => rfl)) o_ix rfl (mg 0) se_int) se_int) (fun _ _ => rfl) (fun _ => rfl) (fun _ => rfl) (fun _ => rfl))
    (ss_cons (ss_if (st_two (twoT opr_gt (nomark _)) o_cmp (se_twoP (i := 0) (two_ix (fun _ _ => rfl)) o_ix rfl (mg 0) se_int) (se_len (mg 0) F.b_len (sl_val (se_twoP (i := 0) (two_ix (fun _ _ => rfl)) o_ix rfl (mg 0) se_int)) (fun _ => rfl))) (ss_cons (ss_ixN (n := 0) rfl (mg 0) se_int (se_two two_mod o_mod (se_two two_add o_add (se_two two_mul o_mul (se_twoP (i := 0) (two_ix (fun _ _ => rfl)) o_ix rfl (mg 0) se_int) se_int) se_int) se_int) (fun _ _ => rfl) (fun _ => rfl) (fun _ => rfl) (fun _ => rfl))
    (ss_one (ss_ret (se_two two_mod o_mod (se_two two_div o_div (se_twoP (i := 0) (two_ix (fun _ _ => rfl)) o_ix rfl (mg 0) se_int) se_int) (se_var (i := 1) rfl (mg 1)))))) ss_nil)
    (ss_cons (ss_set (i := 3) rfl (mg 3) (se_two (two_ix (fun _ _ => rfl)) o_ix (se_twoP (i := 0) (two_ix (fun _ _ => rfl)) o_ix rfl (mg 0) se_int) (se_two two_sub o_sub (se_twoP (i := 0) (two_ix (fun _ _ => rfl)) o_ix rfl (mg 0) se_int) se_int)) (fun _ => rfl))
    (ss_cons (ss_ixN (n := 0) rfl (mg 0) se_int (se_two two_mod o_mod (se_two two_add o_add (se_two two_add o_add (se_two two_mul o_mul (se_twoP (i := 0) (two_ix (fun _ _ => rfl)) o_ix rfl (mg 0) se_int) se_int) (se_var (i := 3) rfl (mg 3))) se_int) se_int) (fun _ _ => rfl) (fun _ => rfl) (fun _ => rfl) (fun _ => rfl))
    (ss_cons (ss_if (st_twoP (i := 3) (twoT opr_ge (nomark _)) o_cmp rfl (mg 3) (se_two two_pow o_pow se_int se_int)) (ss_one (ss_ixN (n := 0) rfl (mg 0) se_int (se_twoP (i := 3) two_div o_div rfl (mg 3) (se_var (i := 1) rfl (mg 1))) (fun _ _ => rfl) (fun _ => rfl) (fun _ => rfl) (fun _ => rfl))) ss_nil)
    (ss_one (ss_ret (se_twoP (i := 3) two_mod o_mod rfl (mg 3) (se_var (i := 1) rfl (mg 1)))))))))))
/-! _law_alike -/
def g17_0 (k : Nat) : NE := ⟨N17, [0, 1], [0, 1], [PySem.Str.ofString "isinstance", PySem.Str.ofString "tuple", PySem.Str.ofString "list", PySem.Str.ofString "len", PySem.Str.ofString "range", PySem.Str.ofString "bool", PySem.Str.ofString "str", PySem.Str.ofString "int"], true, k, [], [PySem.Str.ofString "_law_found", PySem.Str.ofString "_law_due"], true⟩
def g17_1 (k : Nat) : NE := ⟨N17, [0, 1, 2], [2], [PySem.Str.ofString "_law_alike"], true, k, [2], [PySem.Str.ofString "_law_due", PySem.Str.ofString "_law_found"], false⟩
theorem d17 {p : Pg} (F : Fx p) (hex : p.ex = none) (hlam : p.lam = none) {T : Nat → Fn} {k : Nat} (H : At p T k) : SSs p (g17_0 k) (defBody (top 39)) (m17 T) :=
    (ss_cons (ss_if (sw_st (sw_or (st_val (se_isi (b := "tuple") (mg 0) F.b_isinstance (mg 1) F.b_tuple (by decide +kernel) (by decide) (sl_name (i := 1) rfl (mg 1)) (fun _ => rfl)) (fun _ _ => rfl)) (sw_or1 (st_val (se_isi (b := "list") (mg 0) F.b_isinstance (mg 2) F.b_list (by decide +kernel) (by decide) (sl_name (i := 1) rfl (mg 1)) (fun _ => rfl)) (fun _ _ => rfl))))) (ss_cons (ss_if (sw_st (sw_or (st_two (twoT opr_ne (nomark _)) o_ne (se_isi (b := "tuple") (mg 0) F.b_isinstance (mg 1) F.b_tuple (by decide +kernel) (by decide) (sl_name (i := 0) rfl (mg 0)) (fun _ => rfl)) (se_isi (b := "tuple") (mg 0) F.b_isinstance (mg 1) F.b_tuple (by decide +kernel) (by decide) (sl_name (i := 1) rfl (mg 1)) (fun _ => rfl))) (sw_or1 (st_not (st_val (se_isi2 (b := "tuple") (b' := "list") (mg 0) F.b_isinstance (mg 1) F.b_tuple (by decide +kernel) (by decide) (mg 2) F.b_list (by decide +kernel) (by decide) (sl_name (i := 0) rfl (mg 0)) (fun _ => rfl)) (fun _ _ => rfl)))))) (ss_one (ss_ret se_bl)) ss_nil)
    (ss_cons (ss_if (st_two (twoT opr_ne (nomark _)) o_ne (se_len (mg 3) F.b_len (sl_name (i := 0) rfl (mg 0)) (fun _ => rfl)) (se_len (mg 3) F.b_len (sl_name (i := 1) rfl (mg 1)) (fun _ => rfl))) (ss_one (ss_ret se_bl)) ss_nil)
    (ss_one (ss_ret (se_two two_eq o_eq (se_fz (sf_lc (Γ' := g17_1 k) (own := [((PySem.Str.ofString "_law_k"), 2)]) (lcok (Γ0 := g17_0 0) (Γ0' := g17_1 0) (own := [((PySem.Str.ofString "_law_k"), 2)]) rfl rfl rfl rfl rfl rfl (by decide +kernel) (by decide +kernel) hex hlam) (si_r1 (mg 4) F.b_range (sa_cons (se_len (mg 3) F.b_len (sl_name (i := 1) rfl (mg 1)) (fun _ => rfl)) sa_nil (fun _ => rfl)) (fun _ => rfl)) (sg_name (i := 2) rfl (mg 0)) (sts_one (st_not (st_val (se_call (mg 0) rfl H.h17 (sa_cons (se_twoP (i := 0) (two_ix (fun _ _ => rfl)) o_ix rfl (mg 0) (se_var (i := 2) rfl (mg 2))) (sa_cons (se_twoP (i := 1) (two_ix (fun _ _ => rfl)) o_ix rfl (mg 1) (se_var (i := 2) rfl (mg 2))) sa_nil (fun _ => rfl)) (fun _ => rfl)) (fun _ => rfl) (fun _ => rfl)) (fun _ _ => rfl)))) (se_var (i := 2) rfl (mg 2)) (fun _ _ => rfl))) (se_fz (sf_lst sa_nil))))))) ss_nil)
    (ss_cons (ss_if (sw_st (sw_or (st_isN (se_var (i := 1) rfl (mg 1))) (sw_or1 (st_isN (se_var (i := 0) rfl (mg 0)))))) (ss_one (ss_ret (se_and (se_isN (se_var (i := 1) rfl (mg 1))) (se_one (se_isN (se_var (i := 0) rfl (mg 0))))))) ss_nil)
    (ss_cons (ss_if (sw_st (sw_or (st_val (se_isi (b := "bool") (mg 0) F.b_isinstance (mg 5) F.b_bool (by decide +kernel) (by decide) (sl_name (i := 1) rfl (mg 1)) (fun _ => rfl)) (fun _ _ => rfl)) (sw_or1 (st_val (se_isi (b := "bool") (mg 0) F.b_isinstance (mg 5) F.b_bool (by decide +kernel) (by decide) (sl_name (i := 0) rfl (mg 0)) (fun _ => rfl)) (fun _ _ => rfl))))) (ss_one (ss_ret (se_and (se_isi (b := "bool") (mg 0) F.b_isinstance (mg 5) F.b_bool (by decide +kernel) (by decide) (sl_name (i := 1) rfl (mg 1)) (fun _ => rfl)) (se_and (se_isi (b := "bool") (mg 0) F.b_isinstance (mg 5) F.b_bool (by decide +kernel) (by decide) (sl_name (i := 0) rfl (mg 0)) (fun _ => rfl)) (se_one (se_twoP (i := 0) two_eq o_eq rfl (mg 0) (se_var (i := 1) rfl (mg 1)))))))) ss_nil)
    (ss_cons (ss_if (st_val (se_isi (b := "str") (mg 0) F.b_isinstance (mg 6) F.b_str (by decide +kernel) (by decide) (sl_name (i := 1) rfl (mg 1)) (fun _ => rfl)) (fun _ _ => rfl)) (ss_one (ss_ret (se_and (se_isi (b := "str") (mg 0) F.b_isinstance (mg 6) F.b_str (by decide +kernel) (by decide) (sl_name (i := 0) rfl (mg 0)) (fun _ => rfl)) (se_one (se_twoP (i := 0) two_eq o_eq rfl (mg 0) (se_var (i := 1) rfl (mg 1))))))) ss_nil)
    (ss_one (ss_ret (se_and (se_isi (b := "int") (mg 0) F.b_isinstance (mg 7) F.b_int (by decide +kernel) (by decide) (sl_name (i := 0) rfl (mg 0)) (fun _ => rfl)) (se_one (se_twoP (i := 0) two_eq o_eq rfl (mg 0) (se_var (i := 1) rfl (mg 1)))))))))))
/-! _law_number -/
def g19_0 (k : Nat) : NE := ⟨N19, [0, 1], [0, 1], [PySem.Str.ofString "_law_taken"], true, k, [0, 1], [], true⟩
theorem d19 {p : Pg} (F : Fx p) (hex : p.ex = none) (hlam : p.lam = none) {T : Nat → Fn} {k : Nat} (H : At p T k) : SSs p (g19_0 k) (defBody (top 41)) (m19 T) :=
    (ss_cons (ss_set (i := 1) rfl (mg 1) (se_call (mg 0) rfl H.h16 (sa_cons (se_var (i := 0) rfl (mg 0)) (sa_cons se_int sa_nil (fun _ => rfl)) (fun _ => rfl)) (fun _ => rfl) (fun _ => rfl)) (fun _ => rfl))
    (ss_one (ss_ret (se_if (st_twoP (i := 1) (twoT opr_lt (nomark _)) o_cmp rfl (mg 1) se_int) (se_call (mg 0) rfl H.h16 (sa_cons (se_var (i := 0) rfl (mg 0)) (sa_cons se_int sa_nil (fun _ => rfl)) (fun _ => rfl)) (fun _ => rfl) (fun _ => rfl)) (se_two (two_ix (fun _ _ => rfl)) o_ix (se_fz (sf_lst (sa_cons (se_call (mg 0) rfl H.h16 (sa_cons (se_var (i := 0) rfl (mg 0)) (sa_cons se_int sa_nil (fun _ => rfl)) (fun _ => rfl)) (fun _ => rfl) (fun _ => rfl)) (sa_cons (se_two two_sub o_sub se_int (se_call (mg 0) rfl H.h16 (sa_cons (se_var (i := 0) rfl (mg 0)) (sa_cons se_int sa_nil (fun _ => rfl)) (fun _ => rfl)) (fun _ => rfl) (fun _ => rfl))) sa_nil (fun _ => rfl)) (fun _ => rfl)))) (se_twoP (i := 1) two_sub o_sub rfl (mg 1) se_int))))))
/-! _law_part -/
def g20_0 (k : Nat) : NE := ⟨N20, [0, 1, 2, 3], [0, 1, 2, 3], [PySem.Str.ofString "_law_taken", PySem.Str.ofString "_law_part", PySem.Str.ofString "_law_number"], true, k, [0, 1, 2, 3], [], true⟩
theorem d20 {p : Pg} (F : Fx p) (hex : p.ex = none) (hlam : p.lam = none) {T : Nat → Fn} {k : Nat} (H : At p T k) : SSs p (g20_0 k) (defBody (top 42)) (m20 T) :=
    (ss_cons (ss_set (i := 3) rfl (mg 3) (se_call (mg 0) rfl H.h16 (sa_cons (se_var (i := 0) rfl (mg 0)) (sa_cons se_int sa_nil (fun _ => rfl)) (fun _ => rfl)) (fun _ => rfl) (fun _ => rfl)) (fun _ => rfl))
    (ss_cons (ss_if (sw_st (sw_and (st_twoP (i := 3) (twoT opr_eq (nomark _)) o_eq rfl (mg 3) se_int) (sw_and1 (st_twoP (i := 2) (twoT opr_gt (nomark _)) o_cmp rfl (mg 2) se_int)))) (ss_one (ss_ret (se_tup (sa_cons se_str (sa_cons (se_call (mg 1) rfl H.h20 (sa_cons (se_var (i := 0) rfl (mg 0)) (sa_cons (se_var (i := 1) rfl (mg 1)) (sa_cons (se_twoP (i := 2) two_sub o_sub rfl (mg 2) se_int) sa_nil (fun _ => rfl)) (fun _ => rfl)) (fun _ => rfl)) (fun _ => rfl) (fun _ => rfl)) (sa_cons (se_call (mg 1) rfl H.h20 (sa_cons (se_var (i := 0) rfl (mg 0)) (sa_cons (se_var (i := 1) rfl (mg 1)) (sa_cons (se_twoP (i := 2) two_sub o_sub rfl (mg 2) se_int) sa_nil (fun _ => rfl)) (fun _ => rfl)) (fun _ => rfl)) (fun _ => rfl) (fun _ => rfl)) sa_nil (fun _ => rfl)) (fun _ => rfl)) (fun _ => rfl))))) ss_nil)
    (ss_cons (ss_if (sw_st (sw_and (st_twoP (i := 3) (twoT opr_lt (nomark _)) o_cmp rfl (mg 3) se_int) (sw_and1 (st_twoP (i := 1) (twoT opr_gt (nomark _)) o_cmp rfl (mg 1) se_int)))) (ss_one (ss_ret (se_tup (sa_cons se_str (sa_cons (se_call (mg 0) rfl H.h16 (sa_cons (se_var (i := 0) rfl (mg 0)) (sa_cons (se_var (i := 1) rfl (mg 1)) sa_nil (fun _ => rfl)) (fun _ => rfl)) (fun _ => rfl) (fun _ => rfl)) sa_nil (fun _ => rfl)) (fun _ => rfl))))) ss_nil)
    (ss_one (ss_ret (se_if (st_twoP (i := 3) (twoT opr_lt (nomark _)) o_cmp rfl (mg 3) se_int) (se_tup (sa_cons se_str (sa_cons (se_call (mg 2) rfl H.h19 (sa_cons (se_var (i := 0) rfl (mg 0)) sa_nil (fun _ => rfl)) (fun _ => rfl) (fun _ => rfl)) sa_nil (fun _ => rfl)) (fun _ => rfl))) (se_tup (sa_cons se_str (sa_cons (se_call (mg 0) rfl H.h16 (sa_cons (se_var (i := 0) rfl (mg 0)) (sa_cons se_int sa_nil (fun _ => rfl)) (fun _ => rfl)) (fun _ => rfl) (fun _ => rfl)) sa_nil (fun _ => rfl)) (fun _ => rfl)))))))))
/-! _law_condition -/
def g21_0 (k : Nat) : NE := ⟨N21, [0, 1, 2, 3], [0, 1, 2, 3], [PySem.Str.ofString "_law_taken", PySem.Str.ofString "_law_part", PySem.Str.ofString "_law_condition"], true, k, [0, 1, 2, 3], [], true⟩
theorem d21 {p : Pg} (F : Fx p) (hex : p.ex = none) (hlam : p.lam = none) {T : Nat → Fn} {k : Nat} (H : At p T k) : SSs p (g21_0 k) (defBody (top 43)) (m21 T) :=
    (ss_cons (ss_set (i := 3) rfl (mg 3) (se_call (mg 0) rfl H.h16 (sa_cons (se_var (i := 0) rfl (mg 0)) (sa_cons se_int sa_nil (fun _ => rfl)) (fun _ => rfl)) (fun _ => rfl) (fun _ => rfl)) (fun _ => rfl))
    (ss_cons (ss_if (st_twoP (i := 3) (twoT opr_eq (nomark _)) o_eq rfl (mg 3) se_int) (ss_one (ss_ret (se_tup (sa_cons se_str sa_nil (fun _ => rfl))))) ss_nil)
    (ss_cons (ss_if (sw_st (sw_or (st_twoP (i := 3) (twoT opr_lt (nomark _)) o_cmp rfl (mg 3) se_int) (sw_or1 (st_twoP (i := 2) (twoT opr_eq (nomark _)) o_eq rfl (mg 2) se_int)))) (ss_one (ss_ret (se_tup (sa_cons (se_two (two_ix (fun _ _ => rfl)) o_ix (se_fz (sf_lst (sa_cons se_str (sa_cons se_str sa_nil (fun _ => rfl)) (fun _ => rfl)))) (se_call (mg 0) rfl H.h16 (sa_cons (se_var (i := 0) rfl (mg 0)) (sa_cons se_int sa_nil (fun _ => rfl)) (fun _ => rfl)) (fun _ => rfl) (fun _ => rfl))) (sa_cons (se_call (mg 1) rfl H.h20 (sa_cons (se_var (i := 0) rfl (mg 0)) (sa_cons (se_var (i := 1) rfl (mg 1)) (sa_cons se_int sa_nil (fun _ => rfl)) (fun _ => rfl)) (fun _ => rfl)) (fun _ => rfl) (fun _ => rfl)) (sa_cons (se_call (mg 1) rfl H.h20 (sa_cons (se_var (i := 0) rfl (mg 0)) (sa_cons (se_var (i := 1) rfl (mg 1)) (sa_cons se_int sa_nil (fun _ => rfl)) (fun _ => rfl)) (fun _ => rfl)) (fun _ => rfl) (fun _ => rfl)) sa_nil (fun _ => rfl)) (fun _ => rfl)) (fun _ => rfl))))) ss_nil)
    (ss_cons (ss_if (st_twoP (i := 3) (twoT opr_eq (nomark _)) o_eq rfl (mg 3) se_int) (ss_one (ss_ret (se_tup (sa_cons se_str (sa_cons (se_call (mg 2) rfl H.h21 (sa_cons (se_var (i := 0) rfl (mg 0)) (sa_cons (se_var (i := 1) rfl (mg 1)) (sa_cons (se_twoP (i := 2) two_sub o_sub rfl (mg 2) se_int) sa_nil (fun _ => rfl)) (fun _ => rfl)) (fun _ => rfl)) (fun _ => rfl) (fun _ => rfl)) sa_nil (fun _ => rfl)) (fun _ => rfl))))) ss_nil)
    (ss_one (ss_ret (se_tup (sa_cons se_str (sa_cons (se_call (mg 2) rfl H.h21 (sa_cons (se_var (i := 0) rfl (mg 0)) (sa_cons (se_var (i := 1) rfl (mg 1)) (sa_cons (se_twoP (i := 2) two_sub o_sub rfl (mg 2) se_int) sa_nil (fun _ => rfl)) (fun _ => rfl)) (fun _ => rfl)) (fun _ => rfl) (fun _ => rfl)) (sa_cons (se_call (mg 2) rfl H.h21 (sa_cons (se_var (i := 0) rfl (mg 0)) (sa_cons (se_var (i := 1) rfl (mg 1)) (sa_cons (se_twoP (i := 2) two_sub o_sub rfl (mg 2) se_int) sa_nil (fun _ => rfl)) (fun _ => rfl)) (fun _ => rfl)) (fun _ => rfl) (fun _ => rfl)) sa_nil (fun _ => rfl)) (fun _ => rfl)) (fun _ => rfl)))))))))
/-! _law_deep -/
def g22_0 (k : Nat) : NE := ⟨N22, [0, 1, 2, 3, 4, 5], [0, 1, 2, 3, 4, 5], [PySem.Str.ofString "_law_taken", PySem.Str.ofString "range"], true, k, [0, 1, 2, 3, 4, 5], [], true⟩
theorem d22 {p : Pg} (F : Fx p) (hex : p.ex = none) (hlam : p.lam = none) {T : Nat → Fn} {k : Nat} (H : At p T k) : SSs p (g22_0 k) (defBody (top 44)) (m22 T) :=
    (ss_cons (ss_par (i := 2) (j := 3) rfl rfl rfl (by decide) (mg 2) (mg 3) (sa_cons (se_tup (sa_cons se_str (sa_cons (se_call (mg 0) rfl H.h16 (sa_cons (se_var (i := 0) rfl (mg 0)) (sa_cons (se_var (i := 1) rfl (mg 1)) sa_nil (fun _ => rfl)) (fun _ => rfl)) (fun _ => rfl) (fun _ => rfl)) sa_nil (fun _ => rfl)) (fun _ => rfl))) (sa_cons (se_tup (sa_cons (se_two (two_ix (fun _ _ => rfl)) o_ix (se_fz (sf_lst (sa_cons se_str (sa_cons se_str sa_nil (fun _ => rfl)) (fun _ => rfl)))) (se_call (mg 0) rfl H.h16 (sa_cons (se_var (i := 0) rfl (mg 0)) (sa_cons se_int sa_nil (fun _ => rfl)) (fun _ => rfl)) (fun _ => rfl) (fun _ => rfl))) (sa_cons (se_tup (sa_cons se_str (sa_cons se_int sa_nil (fun _ => rfl)) (fun _ => rfl))) (sa_cons (se_tup (sa_cons se_str (sa_cons se_int sa_nil (fun _ => rfl)) (fun _ => rfl))) sa_nil (fun _ => rfl)) (fun _ => rfl)) (fun _ => rfl))) sa_nil (fun _ => rfl)) (fun _ => rfl)) (par2 rfl (by decide +kernel) (fun _ _ h => nomatch h) (fun _ _ h => nomatch h) rfl rfl) (fun _ => rfl))
    (ss_cons (ss_set (i := 4) rfl (mg 4) (se_call (mg 0) rfl H.h16 (sa_cons (se_var (i := 0) rfl (mg 0)) (sa_cons se_int sa_nil (fun _ => rfl)) (fun _ => rfl)) (fun _ => rfl) (fun _ => rfl)) (fun _ => rfl))
    (ss_cons (ss_for rfl (si_r1 (mg 1) F.b_range (sa_cons (se_two two_add o_add (se_two (two_ix (fun _ _ => rfl)) o_ix (se_fz (sf_lst (sa_cons se_int (sa_cons se_int (sa_cons se_int sa_nil (fun _ => rfl)) (fun _ => rfl)) (fun _ => rfl)))) (se_var (i := 4) rfl (mg 4))) (se_call (mg 0) rfl H.h16 (sa_cons (se_var (i := 0) rfl (mg 0)) (sa_cons se_int sa_nil (fun _ => rfl)) (fun _ => rfl)) (fun _ => rfl) (fun _ => rfl))) sa_nil (fun _ => rfl)) (fun _ => rfl)) (sg_name (i := 5) rfl (mg 5)) nx_name (ss_one (ss_if (st_twoP (i := 4) (twoT opr_eq (nomark _)) o_eq rfl (mg 4) se_int) (ss_one (ss_set (i := 2) rfl (mg 2) (se_tup (sa_cons se_str (sa_cons (se_var (i := 2) rfl (mg 2)) (sa_cons (se_tup (sa_cons se_str (sa_cons (se_two two_add o_add se_int (se_call (mg 0) rfl H.h16 (sa_cons (se_var (i := 0) rfl (mg 0)) (sa_cons se_int sa_nil (fun _ => rfl)) (fun _ => rfl)) (fun _ => rfl) (fun _ => rfl))) sa_nil (fun _ => rfl)) (fun _ => rfl))) sa_nil (fun _ => rfl)) (fun _ => rfl)) (fun _ => rfl))) (fun _ => rfl))) (ss_one (ss_if (st_twoP (i := 4) (twoT opr_eq (nomark _)) o_eq rfl (mg 4) se_int) (ss_one (ss_set (i := 3) rfl (mg 3) (se_tup (sa_cons se_str (sa_cons (se_var (i := 3) rfl (mg 3)) sa_nil (fun _ => rfl)) (fun _ => rfl))) (fun _ => rfl))) (ss_one (ss_set (i := 3) rfl (mg 3) (se_tup (sa_cons se_str (sa_cons (se_two (two_ix (fun _ _ => rfl)) o_ix (se_fz (sf_lst (sa_cons (se_var (i := 3) rfl (mg 3)) (sa_cons (se_tup (sa_cons se_str sa_nil (fun _ => rfl))) sa_nil (fun _ => rfl)) (fun _ => rfl)))) (se_twoP (i := 5) two_mod o_mod rfl (mg 5) se_int)) (sa_cons (se_two (two_ix (fun _ _ => rfl)) o_ix (se_fz (sf_lst (sa_cons (se_tup (sa_cons se_str sa_nil (fun _ => rfl))) (sa_cons (se_var (i := 3) rfl (mg 3)) sa_nil (fun _ => rfl)) (fun _ => rfl)))) (se_twoP (i := 5) two_mod o_mod rfl (mg 5) se_int)) sa_nil (fun _ => rfl)) (fun _ => rfl)) (fun _ => rfl))) (fun _ => rfl))))))) (fun _ _ => rfl))
    (ss_one (ss_ret (se_tup (sa_cons (se_var (i := 3) rfl (mg 3)) (sa_cons (se_var (i := 2) rfl (mg 2)) sa_nil (fun _ => rfl)) (fun _ => rfl))))))))
/-! _law_any_ask -/
def g23_0 (k : Nat) : NE := ⟨N23, [0, 1, 2, 3, 4, 5, 6, 7, 8], [0, 1, 2, 3, 4, 5, 6, 7, 8], [PySem.Str.ofString "_law_taken", PySem.Str.ofString "len", PySem.Str.ofString "_law_deep", PySem.Str.ofString "tuple", PySem.Str.ofString "range", PySem.Str.ofString "_law_condition", PySem.Str.ofString "_law_part"], true, k, [1, 2, 3, 4, 5, 7, 8], [PySem.Str.ofString "_law_row", PySem.Str.ofString "_law_wide"], true⟩
def g23_1 (k : Nat) : NE := ⟨N23, [0, 6, 9], [9], [PySem.Str.ofString "_law_part"], true, k, [9], [PySem.Str.ofString "_law_row", PySem.Str.ofString "_law_wide"], false⟩
def g23_2 (k : Nat) : NE := ⟨N23, [0, 9], [9], [PySem.Str.ofString "_law_part"], true, k, [9], [PySem.Str.ofString "_law_row"], false⟩
theorem d23 {p : Pg} (F : Fx p) (hex : p.ex = none) (hlam : p.lam = none) {T : Nat → Fn} {k : Nat} (H : At p T k) : SSs p (g23_0 k) (defBody (top 45)) (m23 T) :=
    (ss_cons (ss_if (st_two (twoT opr_eq (nomark _)) o_eq (se_call (mg 0) rfl H.h16 (sa_cons (se_var (i := 0) rfl (mg 0)) (sa_cons se_int sa_nil (fun _ => rfl)) (fun _ => rfl)) (fun _ => rfl) (fun _ => rfl)) se_int) (ss_cons (ss_set (i := 2) rfl (mg 2) (se_call (mg 0) rfl H.h16 (sa_cons (se_var (i := 0) rfl (mg 0)) (sa_cons (se_len (mg 1) F.b_len (sl_name (i := 1) rfl (mg 1)) (fun _ => rfl)) sa_nil (fun _ => rfl)) (fun _ => rfl)) (fun _ => rfl) (fun _ => rfl)) (fun _ => rfl))
    (ss_cons (ss_asg (sg_un (n := 2) rfl (sgs_cons (sg_name (i := 3) rfl (mg 3)) (sgs_cons (sg_name (i := 4) rfl (mg 4)) sgs_nil (fun _ => rfl)) (fun _ => rfl)) (fun _ => rfl) (fun _ => rfl)) (nx_un (nx_more nx_name (nx_more nx_name nx_none))) (se_call (mg 2) rfl H.h22 (sa_cons (se_var (i := 0) rfl (mg 0)) (sa_cons (se_twoP (i := 1) (two_ix (fun _ _ => rfl)) o_ix rfl (mg 1) (se_var (i := 2) rfl (mg 2))) sa_nil (fun _ => rfl)) (fun _ => rfl)) (fun _ => rfl) (fun _ => rfl)) (fun _ => rfl) (fun _ => rfl) (fun _ => rfl))
    (ss_cons (ss_afF (af_sf (i := 5) rfl (mg 5) (sf_lst (sa_cons (se_tup (sa_cons se_str (sa_cons (se_var (i := 2) rfl (mg 2)) (sa_cons (se_var (i := 3) rfl (mg 3)) (sa_cons (se_tup (sa_cons (se_var (i := 4) rfl (mg 4)) sa_nil (fun _ => rfl))) sa_nil (fun _ => rfl)) (fun _ => rfl)) (fun _ => rfl)) (fun _ => rfl))) (sa_cons (se_tup (sa_cons se_str (sa_cons (se_var (i := 2) rfl (mg 2)) (sa_cons (se_var (i := 3) rfl (mg 3)) sa_nil (fun _ => rfl)) (fun _ => rfl)) (fun _ => rfl))) (sa_cons (se_tup (sa_cons se_str (sa_cons (se_var (i := 2) rfl (mg 2)) (sa_cons se_int (sa_cons (se_var (i := 4) rfl (mg 4)) (sa_cons (se_var (i := 3) rfl (mg 3)) sa_nil (fun _ => rfl)) (fun _ => rfl)) (fun _ => rfl)) (fun _ => rfl)) (fun _ => rfl))) sa_nil (fun _ => rfl)) (fun _ => rfl)) (fun _ => rfl))) (fun _ => rfl)))
    (ss_one (ss_ret (se_twoP (i := 5) (two_ix (fun _ _ => rfl)) o_ix rfl (mg 5) (se_call (mg 0) rfl H.h16 (sa_cons (se_var (i := 0) rfl (mg 0)) (sa_cons se_int sa_nil (fun _ => rfl)) (fun _ => rfl)) (fun _ => rfl) (fun _ => rfl)))))))) ss_nil)
    (ss_cons (ss_set (i := 2) rfl (mg 2) (se_call (mg 0) rfl H.h16 (sa_cons (se_var (i := 0) rfl (mg 0)) (sa_cons (se_len (mg 1) F.b_len (sl_name (i := 1) rfl (mg 1)) (fun _ => rfl)) sa_nil (fun _ => rfl)) (fun _ => rfl)) (fun _ => rfl) (fun _ => rfl)) (fun _ => rfl))
    (ss_cons (ss_set (i := 6) rfl (mg 6) (se_twoP (i := 1) (two_ix (fun _ _ => rfl)) o_ix rfl (mg 1) (se_var (i := 2) rfl (mg 2))) (fun _ => rfl))
    (ss_cons (ss_set (i := 7) rfl (mg 7) (se_call (mg 0) rfl H.h16 (sa_cons (se_var (i := 0) rfl (mg 0)) (sa_cons se_int sa_nil (fun _ => rfl)) (fun _ => rfl)) (fun _ => rfl) (fun _ => rfl)) (fun _ => rfl))
    (ss_cons (ss_if (st_twoP (i := 7) (twoT opr_lt (nomark _)) o_cmp rfl (mg 7) se_int) (ss_cons (ss_set (i := 8) rfl (mg 8) (se_tuple (mg 3) F.b_tuple (sl_val (se_fz (sf_lc (Γ' := g23_1 k) (own := [((PySem.Str.ofString "_law_k"), 9)]) (lcok (Γ0 := g23_0 0) (Γ0' := g23_1 0) (own := [((PySem.Str.ofString "_law_k"), 9)]) rfl rfl rfl rfl rfl rfl (by decide +kernel) (by decide +kernel) hex hlam) (si_r1 (mg 4) F.b_range (sa_cons (se_two two_add o_add se_int (se_call (mg 0) rfl H.h16 (sa_cons (se_var (i := 0) rfl (mg 0)) (sa_cons se_int sa_nil (fun _ => rfl)) (fun _ => rfl)) (fun _ => rfl) (fun _ => rfl))) sa_nil (fun _ => rfl)) (fun _ => rfl)) (sg_name (i := 9) rfl (mg 0)) sts_nil (se_call (mg 0) rfl H.h20 (sa_cons (se_var (i := 0) rfl (mg 0)) (sa_cons (se_var (i := 6) rfl (mg 1)) (sa_cons se_int sa_nil (fun _ => rfl)) (fun _ => rfl)) (fun _ => rfl)) (fun _ => rfl) (fun _ => rfl)) (fun _ _ => rfl)))) (fun _ => rfl)) (fun _ => rfl))
    (ss_one (ss_ret (se_tup (sa_cons se_str (sa_cons (se_var (i := 2) rfl (mg 2)) (sa_cons (se_call (mg 5) rfl H.h21 (sa_cons (se_var (i := 0) rfl (mg 0)) (sa_cons (se_var (i := 6) rfl (mg 6)) (sa_cons se_int sa_nil (fun _ => rfl)) (fun _ => rfl)) (fun _ => rfl)) (fun _ => rfl) (fun _ => rfl)) (sa_cons (se_var (i := 8) rfl (mg 8)) sa_nil (fun _ => rfl)) (fun _ => rfl)) (fun _ => rfl)) (fun _ => rfl)))))) ss_nil)
    (ss_cons (ss_if (st_twoP (i := 7) (twoT opr_eq (nomark _)) o_eq rfl (mg 7) se_int) (ss_one (ss_ret (se_tup (sa_cons se_str (sa_cons (se_var (i := 2) rfl (mg 2)) (sa_cons (se_tuple (mg 3) F.b_tuple (sl_val (se_fz (sf_lc (Γ' := g23_2 k) (own := [((PySem.Str.ofString "_law_k"), 9)]) (lcok (Γ0 := g23_0 0) (Γ0' := g23_2 0) (own := [((PySem.Str.ofString "_law_k"), 9)]) rfl rfl rfl rfl rfl rfl (by decide +kernel) (by decide +kernel) hex hlam) (si_r1 (mg 4) F.b_range (sa_cons (se_var (i := 6) rfl (mg 6)) sa_nil (fun _ => rfl)) (fun _ => rfl)) (sg_name (i := 9) rfl (mg 0)) sts_nil (se_call (mg 0) rfl H.h20 (sa_cons (se_var (i := 0) rfl (mg 0)) (sa_cons se_int (sa_cons se_int sa_nil (fun _ => rfl)) (fun _ => rfl)) (fun _ => rfl)) (fun _ => rfl) (fun _ => rfl)) (fun _ _ => rfl)))) (fun _ => rfl)) sa_nil (fun _ => rfl)) (fun _ => rfl)) (fun _ => rfl))))) ss_nil)
    (ss_cons (ss_if (st_twoP (i := 7) (twoT opr_eq (nomark _)) o_eq rfl (mg 7) se_int) (ss_one (ss_ret (se_tup (sa_cons se_str (sa_cons (se_var (i := 2) rfl (mg 2)) (sa_cons (se_call (mg 5) rfl H.h21 (sa_cons (se_var (i := 0) rfl (mg 0)) (sa_cons (se_var (i := 6) rfl (mg 6)) (sa_cons se_int sa_nil (fun _ => rfl)) (fun _ => rfl)) (fun _ => rfl)) (fun _ => rfl) (fun _ => rfl)) sa_nil (fun _ => rfl)) (fun _ => rfl)) (fun _ => rfl))))) ss_nil)
    (ss_one (ss_ret (se_tup (sa_cons se_str (sa_cons (se_var (i := 2) rfl (mg 2)) (sa_cons (se_call (mg 0) rfl H.h16 (sa_cons (se_var (i := 0) rfl (mg 0)) (sa_cons (se_var (i := 6) rfl (mg 6)) sa_nil (fun _ => rfl)) (fun _ => rfl)) (fun _ => rfl) (fun _ => rfl)) (sa_cons (se_call (mg 6) rfl H.h20 (sa_cons (se_var (i := 0) rfl (mg 0)) (sa_cons (se_var (i := 6) rfl (mg 6)) (sa_cons se_int sa_nil (fun _ => rfl)) (fun _ => rfl)) (fun _ => rfl)) (fun _ => rfl) (fun _ => rfl)) (sa_cons (se_call (mg 5) rfl H.h21 (sa_cons (se_var (i := 0) rfl (mg 0)) (sa_cons (se_var (i := 6) rfl (mg 6)) (sa_cons se_int sa_nil (fun _ => rfl)) (fun _ => rfl)) (fun _ => rfl)) (fun _ => rfl) (fun _ => rfl)) sa_nil (fun _ => rfl)) (fun _ => rfl)) (fun _ => rfl)) (fun _ => rfl)) (fun _ => rfl))))))))))))
/-! _law_things -/
def g24_0 (k : Nat) : NE := ⟨N24, [0], [0], [PySem.Str.ofString "isinstance", PySem.Str.ofString "tuple", PySem.Str.ofString "int", PySem.Str.ofString "str", PySem.Str.ofString "sum"], true, k, [0], [], true⟩
def g24_1 (k : Nat) : NE := ⟨N24, [1], [1], [PySem.Str.ofString "_law_things"], true, k, [1], [], false⟩
theorem d24 {p : Pg} (F : Fx p) (hex : p.ex = none) (hlam : p.lam = none) {T : Nat → Fn} {k : Nat} (H : At p T k) : SSs p (g24_0 k) (defBody (top 46)) (m24 T) :=
    (ss_cons (ss_if (st_not (st_val (se_isi (b := "tuple") (mg 0) F.b_isinstance (mg 1) F.b_tuple (by decide +kernel) (by decide) (sl_name (i := 0) rfl (mg 0)) (fun _ => rfl)) (fun _ _ => rfl))) (ss_one (ss_ret se_int)) ss_nil)
    (ss_one (ss_ret (se_two two_add o_add (se_int1 (mg 2) F.b_int (sl_val (se_and (se_twoP (i := 0) two_ne o_ne rfl (mg 0) (se_tup sa_nil)) (se_one (se_isi (b := "str") (mg 0) F.b_isinstance (mg 3) F.b_str (by decide +kernel) (by decide) (sl_val (se_twoP (i := 0) (two_ix (fun _ _ => rfl)) o_ix rfl (mg 0) se_int)) (fun _ => rfl))))) (fun _ => rfl)) (se_sum rfl (mg 4) F.b_sum (sl_val (se_fz (sf_lc (Γ' := g24_1 k) (own := [((PySem.Str.ofString "_law_inner"), 1)]) (lcok (Γ0 := g24_0 0) (Γ0' := g24_1 0) (own := [((PySem.Str.ofString "_law_inner"), 1)]) rfl rfl rfl rfl rfl rfl (by decide +kernel) (by decide +kernel) hex hlam) (si_seq (se_var (i := 0) rfl (mg 0))) (sg_name (i := 1) rfl (mg 0)) sts_nil (se_call (mg 0) rfl H.h24 (sa_cons (se_var (i := 1) rfl (mg 0)) sa_nil (fun _ => rfl)) (fun _ => rfl) (fun _ => rfl)) (fun _ _ => rfl)))) (fun _ => rfl))))))
/-! _law_ask -/
def g25_0 (k : Nat) : NE := ⟨N25, [0, 1, 2], [0, 1, 2], [PySem.Str.ofString "_law_any_ask", PySem.Str.ofString "_law_things"], true, k, [0, 1, 2], [], true⟩
theorem d25 {p : Pg} (F : Fx p) (hex : p.ex = none) (hlam : p.lam = none) {T : Nat → Fn} {k : Nat} (H : At p T k) : SSs p (g25_0 k) (defBody (top 47)) (m25 T) :=
    (ss_cons (ss_set (i := 2) rfl (mg 2) (se_call (mg 0) rfl H.h23 (sa_cons (se_var (i := 0) rfl (mg 0)) (sa_cons (se_var (i := 1) rfl (mg 1)) sa_nil (fun _ => rfl)) (fun _ => rfl)) (fun _ => rfl) (fun _ => rfl)) (fun _ => rfl))
    (ss_cons (ss_if (st_two (twoT opr_lt (nomark _)) o_cmp (se_call (mg 1) rfl H.h24 (sa_cons (se_var (i := 2) rfl (mg 2)) sa_nil (fun _ => rfl)) (fun _ => rfl) (fun _ => rfl)) se_int) (ss_one (ss_ret (se_var (i := 2) rfl (mg 2)))) ss_nil)
    (ss_one (ss_ret (se_tup (sa_cons se_str (sa_cons (se_twoP (i := 2) (two_ix (fun _ _ => rfl)) o_ix rfl (mg 2) se_int) (sa_cons (se_tup (sa_cons se_str (sa_cons (se_tup (sa_cons se_str (sa_cons se_int sa_nil (fun _ => rfl)) (fun _ => rfl))) (sa_cons (se_tup (sa_cons se_str (sa_cons se_int sa_nil (fun _ => rfl)) (fun _ => rfl))) sa_nil (fun _ => rfl)) (fun _ => rfl)) (fun _ => rfl))) (sa_cons (se_tup (sa_cons (se_tup (sa_cons se_str (sa_cons se_int sa_nil (fun _ => rfl)) (fun _ => rfl))) sa_nil (fun _ => rfl))) sa_nil (fun _ => rfl)) (fun _ => rfl)) (fun _ => rfl)) (fun _ => rfl)))))))
/-! _law_words -/
def g26_0 (k : Nat) : NE := ⟨N26, [0, 1, 2, 3], [0, 1, 2, 3], [PySem.Str.ofString "str", PySem.Str.ofString "isinstance", PySem.Str.ofString "int", PySem.Str.ofString "_law_words", PySem.Str.ofString "len"], true, k, [0, 1, 2, 3], [], true⟩
theorem d26 {p : Pg} (F : Fx p) (hex : p.ex = none) (hlam : p.lam = none) {T : Nat → Fn} {k : Nat} (H : At p T k) : SSs p (g26_0 k) (defBody (top 48)) (m26 T) :=
    (ss_cons (ss_if (st_two (twoT opr_in rfl) o_in (se_twoP (i := 0) (two_ix (fun _ _ => rfl)) o_ix rfl (mg 0) se_int) (se_tup (sa_cons se_str (sa_cons se_str (sa_cons se_str sa_nil (fun _ => rfl)) (fun _ => rfl)) (fun _ => rfl)))) (ss_one (ss_ret (se_fz (sf_lst (sa_cons (se_two two_add o_add (se_repN (se_twoP (i := 0) (two_ix (fun _ _ => rfl)) o_ix rfl (mg 0) se_int) (fun _ => rfl) (fun _ => rfl) rfl) (se_str1 (mg 0) F.b_str (sl_val (se_twoP (i := 0) (two_ix (fun _ _ => rfl)) o_ix rfl (mg 0) se_int)) (fun _ => rfl))) sa_nil (fun _ => rfl)))))) ss_nil)
    (ss_cons (ss_afU (af_sf (i := 1) rfl (mg 1) (sf_lst (sa_cons (se_twoP (i := 0) (two_ix (fun _ _ => rfl)) o_ix rfl (mg 0) se_int) sa_nil (fun _ => rfl))) (fun _ => rfl)))
    (ss_cons (ss_for rfl (si_seq (se_sl (se_var (i := 0) rfl (mg 0)) (so_some se_int) so_none)) (sg_name (i := 2) rfl (mg 2)) nx_name (ss_one (ss_if (st_val (se_isi (b := "int") (mg 1) F.b_isinstance (mg 2) F.b_int (by decide +kernel) (by decide) (sl_name (i := 2) rfl (mg 2)) (fun _ => rfl)) (fun _ _ => rfl)) (ss_one (ss_expr (se_mutN (i := 1) l_append m_append rfl (mg 1) (sa_cons (se_str1 (mg 0) F.b_str (sl_name (i := 2) rfl (mg 2)) (fun _ => rfl)) sa_nil (fun _ => rfl)) ⟨fun _ => rfl, fun _ => rfl, rfl, fun _ => rfl, fun _ => rfl⟩) (fun _ => rfl))) (ss_one (ss_if (sw_st (sw_and (st_twoP (i := 2) (twoT opr_ne (nomark _)) o_ne rfl (mg 2) (se_tup sa_nil)) (sw_and1 (st_val (se_isi (b := "str") (mg 1) F.b_isinstance (mg 0) F.b_str (by decide +kernel) (by decide) (sl_val (se_twoP (i := 2) (two_ix (fun _ _ => rfl)) o_ix rfl (mg 2) se_int)) (fun _ => rfl)) (fun _ _ => rfl))))) (ss_one (ss_afU (af_sf (i := 1) rfl (mg 1) (sf_addP (i := 1) rfl (mg 1) (se_call (mg 3) rfl H.h26 (sa_cons (se_var (i := 2) rfl (mg 2)) sa_nil (fun _ => rfl)) (fun _ => rfl) (fun _ => rfl))) (fun _ => rfl)))) (ss_cons (ss_expr (se_mutN (i := 1) l_append m_append rfl (mg 1) (sa_cons (se_str1 (mg 0) F.b_str (sl_val (se_len (mg 4) F.b_len (sl_name (i := 2) rfl (mg 2)) (fun _ => rfl))) (fun _ => rfl)) sa_nil (fun _ => rfl)) ⟨fun _ => rfl, fun _ => rfl, rfl, fun _ => rfl, fun _ => rfl⟩) (fun _ => rfl))
    (ss_one (ss_for rfl (si_seq (se_var (i := 2) rfl (mg 2))) (sg_name (i := 3) rfl (mg 3)) nx_name (ss_one (ss_afU (af_sf (i := 1) rfl (mg 1) (sf_addP (i := 1) rfl (mg 1) (se_call (mg 3) rfl H.h26 (sa_cons (se_var (i := 3) rfl (mg 3)) sa_nil (fun _ => rfl)) (fun _ => rfl) (fun _ => rfl))) (fun _ => rfl)))) (fun _ _ => rfl)))))))) (fun _ _ => rfl))
    (ss_one (ss_ret (se_var (i := 1) rfl (mg 1)))))))
/-! _law_any -/
def g27_0 (k : Nat) : NE := ⟨N27, [0, 1, 2, 3, 4], [0, 1, 2, 3, 4], [PySem.Str.ofString "range", PySem.Str.ofString "_law_taken", PySem.Str.ofString "_law_ask", PySem.Str.ofString "tuple"], true, k, [1, 2, 3, 4], [PySem.Str.ofString "_law_row"], true⟩
def g27_1 (k : Nat) : NE := ⟨N27, [0, 5], [5], [PySem.Str.ofString "_law_taken"], true, k, [5], [PySem.Str.ofString "_law_row"], false⟩
def g27_2 (k : Nat) : NE := ⟨N27, [0, 5], [5], [PySem.Str.ofString "_law_number"], true, k, [5], [PySem.Str.ofString "_law_row"], false⟩
theorem d27 {p : Pg} (F : Fx p) (hex : p.ex = none) (hlam : p.lam = none) {T : Nat → Fn} {k : Nat} (H : At p T k) : SSs p (g27_0 k) (defBody (top 49)) (m27 T) :=
    (ss_cons (ss_afF (af_lc (i := 1) rfl (mg 0) (Γ' := g27_1 k) (own := [((PySem.Str.ofString "_law_k"), 5)]) (lcok (Γ0 := g27_0 0) (Γ0' := g27_1 0) (own := [((PySem.Str.ofString "_law_k"), 5)]) rfl rfl rfl rfl rfl rfl (by decide +kernel) (by decide +kernel) hex hlam) (si_r1 (mg 0) F.b_range (sa_cons se_int sa_nil (fun _ => rfl)) (fun _ => rfl)) (sg_name (i := 5) rfl (mg 0)) sts_nil (se_two two_add o_add se_int (se_call (mg 0) rfl H.h16 (sa_cons (se_var (i := 0) rfl (mg 0)) (sa_cons se_int sa_nil (fun _ => rfl)) (fun _ => rfl)) (fun _ => rfl) (fun _ => rfl))) (fun _ _ => rfl) rfl rfl))
    (ss_cons (ss_par (i := 2) (j := 3) rfl rfl rfl (by decide) (mg 1) (mg 2) (sa_cons (se_call (mg 1) rfl H.h16 (sa_cons (se_var (i := 0) rfl (mg 0)) (sa_cons se_int sa_nil (fun _ => rfl)) (fun _ => rfl)) (fun _ => rfl) (fun _ => rfl)) (sa_cons (se_call (mg 1) rfl H.h16 (sa_cons (se_var (i := 0) rfl (mg 0)) (sa_cons se_int sa_nil (fun _ => rfl)) (fun _ => rfl)) (fun _ => rfl) (fun _ => rfl)) sa_nil (fun _ => rfl)) (fun _ => rfl)) (par2 rfl (by decide +kernel) (fun _ _ h => nomatch h) (fun _ _ h => nomatch h) rfl rfl) (fun _ => rfl))
    (ss_cons (ss_afU (af_sf (i := 4) rfl (mg 4) (sf_add (se_two two_mul o_mul (se_fz (sf_lst (sa_cons (se_tup (sa_cons se_str (sa_cons (se_var (i := 2) rfl (mg 2)) (sa_cons (se_call (mg 2) rfl H.h25 (sa_cons (se_var (i := 0) rfl (mg 0)) (sa_cons (se_var (i := 1) rfl (mg 1)) sa_nil (fun _ => rfl)) (fun _ => rfl)) (fun _ => rfl) (fun _ => rfl)) sa_nil (fun _ => rfl)) (fun _ => rfl)) (fun _ => rfl))) sa_nil (fun _ => rfl)))) se_int) (se_fz (sf_lst (sa_cons (se_tup (sa_cons se_str (sa_cons (se_var (i := 2) rfl (mg 2)) (sa_cons (se_call (mg 1) rfl H.h16 (sa_cons (se_var (i := 0) rfl (mg 0)) (sa_cons se_int sa_nil (fun _ => rfl)) (fun _ => rfl)) (fun _ => rfl) (fun _ => rfl)) sa_nil (fun _ => rfl)) (fun _ => rfl)) (fun _ => rfl))) sa_nil (fun _ => rfl))))) (fun _ => rfl)))
    (ss_cons (ss_expr (se_mutN (i := 4) l_append m_append rfl (mg 4) (sa_cons (se_tup (sa_cons se_str (sa_cons (se_var (i := 2) rfl (mg 2)) (sa_cons (se_var (i := 3) rfl (mg 3)) (sa_cons (se_tuple (mg 3) F.b_tuple (sl_val (se_fz (sf_lc (Γ' := g27_2 k) (own := [((PySem.Str.ofString "_law_k"), 5)]) (lcok (Γ0 := g27_0 0) (Γ0' := g27_2 0) (own := [((PySem.Str.ofString "_law_k"), 5)]) rfl rfl rfl rfl rfl rfl (by decide +kernel) (by decide +kernel) hex hlam) (si_r1 (mg 0) F.b_range (sa_cons (se_call (mg 1) rfl H.h16 (sa_cons (se_var (i := 0) rfl (mg 0)) (sa_cons se_int sa_nil (fun _ => rfl)) (fun _ => rfl)) (fun _ => rfl) (fun _ => rfl)) sa_nil (fun _ => rfl)) (fun _ => rfl)) (sg_name (i := 5) rfl (mg 0)) sts_nil (se_call (mg 0) rfl H.h19 (sa_cons (se_var (i := 0) rfl (mg 0)) sa_nil (fun _ => rfl)) (fun _ => rfl) (fun _ => rfl)) (fun _ _ => rfl)))) (fun _ => rfl)) sa_nil (fun _ => rfl)) (fun _ => rfl)) (fun _ => rfl)) (fun _ => rfl))) sa_nil (fun _ => rfl)) ⟨fun _ => rfl, fun _ => rfl, rfl, fun _ => rfl, fun _ => rfl⟩) (fun _ => rfl))
    (ss_cons (ss_afU (af_sf (i := 4) rfl (mg 4) (sf_addP (i := 4) rfl (mg 4) (se_fz (sf_lst (sa_cons (se_tup (sa_cons se_str (sa_cons (se_two (two_ix (fun _ _ => rfl)) o_ix (se_fz (sf_lst (sa_cons se_str (sa_cons se_str sa_nil (fun _ => rfl)) (fun _ => rfl)))) (se_call (mg 1) rfl H.h16 (sa_cons (se_var (i := 0) rfl (mg 0)) (sa_cons se_int sa_nil (fun _ => rfl)) (fun _ => rfl)) (fun _ => rfl) (fun _ => rfl))) (sa_cons (se_var (i := 2) rfl (mg 2)) sa_nil (fun _ => rfl)) (fun _ => rfl)) (fun _ => rfl))) (sa_cons (se_tup (sa_cons se_str sa_nil (fun _ => rfl))) (sa_cons (se_tup (sa_cons se_str sa_nil (fun _ => rfl))) (sa_cons (se_tup (sa_cons se_str sa_nil (fun _ => rfl))) (sa_cons (se_tup (sa_cons se_str sa_nil (fun _ => rfl))) sa_nil (fun _ => rfl)) (fun _ => rfl)) (fun _ => rfl)) (fun _ => rfl)) (fun _ => rfl))))) (fun _ => rfl)))
    (ss_one (ss_ret (se_twoP (i := 4) (two_ix (fun _ _ => rfl)) o_ix rfl (mg 4) (se_call (mg 1) rfl H.h16 (sa_cons (se_var (i := 0) rfl (mg 0)) (sa_cons se_int sa_nil (fun _ => rfl)) (fun _ => rfl)) (fun _ => rfl) (fun _ => rfl))))))))))
/-! law -/
def g28_0 (k : Nat) : NE := ⟨N28, [0, 1, 2, 3, 4, 5, 6, 7, 8, 9, 10, 11, 12], [0, 1, 2, 3, 4, 5, 6, 7, 8, 9, 10, 11, 12], [PySem.Str.ofString "list", PySem.Str.ofString "range", PySem.Str.ofString "_law_any", PySem.Str.ofString "isinstance", PySem.Str.ofString "tuple", PySem.Str.ofString "_law_words", PySem.Str.ofString "str", PySem.Str.ofString "len", PySem.Str.ofString "_law_alike", PySem.Str.ofString "written", PySem.Str.ofString "read", PySem.Str.ofString "framed", PySem.Str.ofString "_law_taken", PySem.Str.ofString "_law_word"], true, k, [0, 1, 4, 5, 6, 7, 8, 9, 10, 11], [PySem.Str.ofString "_law_signs", PySem.Str.ofString "_law_codes", PySem.Str.ofString "_law_odd"], true⟩
def g28_1 (k : Nat) : NE := ⟨N28, [13], [13], [PySem.Str.ofString "str"], true, k, [13], [], false⟩
def g28_2 (k : Nat) : NE := ⟨N28, [2, 3, 14], [14], [], true, k, [14], [PySem.Str.ofString "_law_codes", PySem.Str.ofString "_law_signs"], false⟩
def l28_0 (k : Nat) : NE := ⟨N28, [12], [], [PySem.Str.ofString "written"], true, k, [], [], false⟩
def l28_1 (k : Nat) : NE := ⟨N28, [12], [], [PySem.Str.ofString "framed"], true, k, [], [], false⟩
theorem d28 {p : Pg} (F : Fx p) (hex : p.ex = none) (hlam : p.lam = none) (hB : LamBase p) {T : Nat → Fn} {k : Nat} (H0 : At p T k) : SSs p (g28_0 (k + 2)) (defBody (top 50)) (m28 T) :=
    have H : At p T (k + 2) := H0.mono (by omega)
    (ss_cons (ss_afM (af_sf (i := 1) rfl (mg 1) (sf_lst (sa_cons (se_var (i := 0) rfl (mg 0)) (sa_cons se_int (sa_cons se_int (sa_cons se_int sa_nil (fun _ => rfl)) (fun _ => rfl)) (fun _ => rfl)) (fun _ => rfl))) (fun _ => rfl)))
    (ss_cons (ss_set (i := 2) rfl (mg 2) se_str (fun _ => rfl))
    (ss_cons (ss_set (i := 3) rfl (mg 3) (se_two two_add o_add (se_fz (sf_listR2 rfl (mg 0) F.b_list (mg 1) F.b_range se_int se_int (fun _ => rfl) (fun _ => rfl) (fun _ => rfl) (fun _ => rfl))) (se_fz (sf_listR2 rfl (mg 0) F.b_list (mg 1) F.b_range se_int se_int (fun _ => rfl) (fun _ => rfl) (fun _ => rfl) (fun _ => rfl)))) (fun _ => rfl))
    (ss_cons (ss_for rfl (si_r1 (mg 1) F.b_range (sa_cons se_int sa_nil (fun _ => rfl)) (fun _ => rfl)) (sg_name (i := 4) rfl (mg 4)) nx_name (ss_cons (ss_set (i := 5) rfl (mg 5) (se_call (mg 2) rfl H.h27 (sa_cons (se_var (i := 1) rfl (mg 1)) sa_nil (fun _ => rfl)) (fun _ => rfl) (fun _ => rfl)) (fun _ => rfl))
    (ss_cons (ss_afU (af_sf (i := 6) rfl (mg 6) (sf_lst (sa_cons (se_twoP (i := 5) (two_ix (fun _ _ => rfl)) o_ix rfl (mg 5) se_int) sa_nil (fun _ => rfl))) (fun _ => rfl)))
    (ss_cons (ss_for rfl (si_seq (se_sl (se_var (i := 5) rfl (mg 5)) (so_some se_int) so_none)) (sg_name (i := 7) rfl (mg 7)) nx_name (ss_one (ss_if (sw_st (sw_and (st_two (twoT opr_eq (nomark _)) o_eq (se_twoP (i := 5) (two_ix (fun _ _ => rfl)) o_ix rfl (mg 5) se_int) se_str) (sw_and1 (st_val (se_isi (b := "tuple") (mg 3) F.b_isinstance (mg 4) F.b_tuple (by decide +kernel) (by decide) (sl_name (i := 7) rfl (mg 7)) (fun _ => rfl)) (fun _ _ => rfl))))) (ss_one (ss_afU (af_sf (i := 6) rfl (mg 6) (sf_addP (i := 6) rfl (mg 6) (se_call (mg 5) rfl H.h26 (sa_cons (se_var (i := 7) rfl (mg 7)) sa_nil (fun _ => rfl)) (fun _ => rfl) (fun _ => rfl))) (fun _ => rfl)))) (ss_one (ss_if (st_val (se_isi (b := "tuple") (mg 3) F.b_isinstance (mg 4) F.b_tuple (by decide +kernel) (by decide) (sl_name (i := 7) rfl (mg 7)) (fun _ => rfl)) (fun _ _ => rfl)) (ss_one (ss_afU (af_sf (i := 6) rfl (mg 6) (sf_add (se_fz (sf_addP (i := 6) rfl (mg 6) (se_fz (sf_lst (sa_cons (se_str1 (mg 6) F.b_str (sl_val (se_len (mg 7) F.b_len (sl_name (i := 7) rfl (mg 7)) (fun _ => rfl))) (fun _ => rfl)) sa_nil (fun _ => rfl)))))) (se_fz (sf_lc (Γ' := g28_1 (k + 2)) (own := [((PySem.Str.ofString "_law_number_here"), 13)]) (lcok (Γ0 := g28_0 0) (Γ0' := g28_1 0) (own := [((PySem.Str.ofString "_law_number_here"), 13)]) rfl rfl rfl rfl rfl rfl (by decide +kernel) (by decide +kernel) hex hlam) (si_seq (se_var (i := 7) rfl (mg 7))) (sg_name (i := 13) rfl (mg 0)) sts_nil (se_str1 (mg 0) F.b_str (sl_name (i := 13) rfl (mg 0)) (fun _ => rfl)) (fun _ _ => rfl)))) (fun _ => rfl)))) (ss_one (ss_expr (se_mutN (i := 6) l_append m_append rfl (mg 6) (sa_cons (se_str1 (mg 6) F.b_str (sl_name (i := 7) rfl (mg 7)) (fun _ => rfl)) sa_nil (fun _ => rfl)) ⟨fun _ => rfl, fun _ => rfl, rfl, fun _ => rfl, fun _ => rfl⟩) (fun _ => rfl))))))) (fun _ _ => rfl))
    (ss_cons (ss_set (i := 8) rfl (mg 8) (se_t1 tm_join ot_join se_str (sl_name (i := 6) rfl (mg 6)) ⟨fun _ => rfl, fun _ => rfl, rfl⟩) (fun _ => rfl))
    (ss_cons (ss_if (sw_st (sw_or (st_not (st_val (se_call (mg 8) rfl H.h17 (sa_cons (se_call (mg 9) rfl H.h4 (sa_cons (se_var (i := 5) rfl (mg 5)) sa_nil (fun _ => rfl)) (fun _ => rfl) (fun _ => rfl)) (sa_cons (se_var (i := 8) rfl (mg 8)) sa_nil (fun _ => rfl)) (fun _ => rfl)) (fun _ => rfl) (fun _ => rfl)) (fun _ _ => rfl))) (sw_or1 (st_not (st_val (se_call (mg 8) rfl H.h17 (sa_cons (se_call (mg 10) rfl H.h15 (sa_cons (se_var (i := 8) rfl (mg 8)) sa_nil (fun _ => rfl)) (fun _ => rfl) (fun _ => rfl)) (sa_cons (se_var (i := 5) rfl (mg 5)) sa_nil (fun _ => rfl)) (fun _ => rfl)) (fun _ => rfl) (fun _ => rfl)) (fun _ _ => rfl)))))) (ss_one (ss_ret se_bl)) ss_nil)
    (ss_cons (ss_afF (af_lc (i := 9) rfl (mg 7) (Γ' := g28_2 (k + 2)) (own := [((PySem.Str.ofString "_law_sign"), 14)]) (lcok (Γ0 := g28_0 0) (Γ0' := g28_2 0) (own := [((PySem.Str.ofString "_law_sign"), 14)]) rfl rfl rfl rfl rfl rfl (by decide +kernel) (by decide +kernel) hex hlam) (si_seq (se_var (i := 8) rfl (mg 8))) (sg_name (i := 14) rfl (mg 0)) sts_nil (se_if (st_twoP (i := 14) (twoT opr_eq (nomark _)) o_eq rfl (mg 2) se_str) se_int (se_twoP (i := 3) (two_ix (fun _ _ => rfl)) o_ix rfl (mg 1) (se_t1 tm_index ot_index (se_var (i := 2) rfl (mg 0)) (sl_name (i := 14) rfl (mg 2)) ⟨fun _ => rfl, fun _ => rfl, rfl⟩))) (fun _ _ => rfl) rfl rfl))
    (ss_cons (ss_for rfl (si_r1 (mg 1) F.b_range (sa_cons se_int sa_nil (fun _ => rfl)) (fun _ => rfl)) (sg_name (i := 10) rfl (mg 10)) nx_name (ss_cons (ss_set (i := 11) rfl (mg 11) (se_call (mg 11) rfl H.h5 (sa_cons (se_var (i := 5) rfl (mg 5)) sa_nil (fun _ => rfl)) (fun _ => rfl) (fun _ => rfl)) (fun _ => rfl))
    (ss_cons (ss_if (st_not (st_val (se_call (mg 8) rfl H.h17 (sa_cons (se_var (i := 11) rfl (mg 11)) (sa_cons (se_fz (sf_add (se_fz (sf_lst (sa_cons (se_two two_div o_div (se_len (mg 7) F.b_len (sl_name (i := 8) rfl (mg 8)) (fun _ => rfl)) se_int) (sa_cons (se_two two_mod o_mod (se_len (mg 7) F.b_len (sl_name (i := 8) rfl (mg 8)) (fun _ => rfl)) se_int) sa_nil (fun _ => rfl)) (fun _ => rfl)))) (se_var (i := 9) rfl (mg 9)))) sa_nil (fun _ => rfl)) (fun _ => rfl)) (fun _ => rfl) (fun _ => rfl)) (fun _ _ => rfl))) (ss_one (ss_ret se_bl)) ss_nil)
    (ss_one (ss_expr (se_mutN (i := 11) l_append m_append rfl (mg 11) (sa_cons se_int sa_nil (fun _ => rfl)) ⟨fun _ => rfl, fun _ => rfl, rfl, fun _ => rfl, fun _ => rfl⟩) (fun _ => rfl))))) (fun _ _ => rfl))
    (ss_cons (ss_set (i := 12) rfl (mg 12) (se_two (two_ix (fun _ _ => rfl)) o_ix (se_fz (sf_lst (sa_cons (se_tup (sa_cons se_str (sa_cons se_int sa_nil (fun _ => rfl)) (fun _ => rfl))) (sa_cons (se_tup (sa_cons se_str (sa_cons se_int (sa_cons se_int sa_nil (fun _ => rfl)) (fun _ => rfl)) (fun _ => rfl))) (sa_cons (se_tup (sa_cons se_str (sa_cons se_int (sa_cons se_int (sa_cons (se_tup (sa_cons se_int sa_nil (fun _ => rfl))) sa_nil (fun _ => rfl)) (fun _ => rfl)) (fun _ => rfl)) (fun _ => rfl))) (sa_cons (se_tup sa_nil) (sa_cons (se_tup (sa_cons se_str (sa_cons se_str (sa_cons se_int sa_nil (fun _ => rfl)) (fun _ => rfl)) (fun _ => rfl))) sa_nil (fun _ => rfl)) (fun _ => rfl)) (fun _ => rfl)) (fun _ => rfl)) (fun _ => rfl)))) (se_call (mg 12) rfl H.h16 (sa_cons (se_var (i := 1) rfl (mg 1)) (sa_cons se_int sa_nil (fun _ => rfl)) (fun _ => rfl)) (fun _ => rfl) (fun _ => rfl))) (fun _ => rfl))
    (ss_one (ss_if (st_two (twoT opr_ne (nomark _)) o_ne (se_fz (sf_lst (sa_cons (se_lam (Γg := g18_0 (k + 1)) (Γl := l28_0 k) (is := [12]) (m := (eCall (T 4) (aCons (eVar 12) aNil))) (mG := m18) (kk := k) (mg 13) rfl F.lam__law_word hB rfl rfl rfl rfl
      ((defOk_by (Γ := g18_0 0) (by decide +kernel)).at rfl).S ((scOkB_ok (Γ := g18_0 0) (by decide +kernel)).at rfl) rfl (.inl rfl) (by decide) (by decide) ((lamSt_by (Γ := g28_0 0) (by decide +kernel)).at rfl) ((scOkB_ok (Γ := l28_0 0) (by decide +kernel)).at rfl) (fun _ => rfl) (fun _ _ _ _ _ => rfl)
      (have F : Fx ({ p with ex := none, lam := none, cod := none } : Pg) := F.re ⟨rfl, rfl, rfl, rfl, rfl⟩; have H : At ({ p with ex := none, lam := none, cod := none } : Pg) T k := H0.re ⟨⟨rfl, rfl, rfl, rfl, rfl⟩, hlam.symm, rfl⟩; have hex : ({ p with ex := none, lam := none, cod := none } : Pg).ex = none := rfl; have hlam : ({ p with ex := none, lam := none, cod := none } : Pg).lam = none := rfl; (se_call (mg 0) rfl H.h4 (sa_cons (se_var (i := 12) rfl (mg 0)) sa_nil (fun _ => rfl)) (fun _ => rfl) (fun _ => rfl)))
      (fun l => d18 (p := { p with ex := none, lam := some l, cod := none, an := Str.ofString "_law_work", act := lamAct N28.length [12] (eCall (T 4) (aCons (eVar 12) aNil)) }) (F.re ⟨rfl, rfl, rfl, rfl, rfl⟩) rfl rfl rfl ⟨l, rfl⟩)) (sa_cons (se_lamD (Γg := g18_0 (k + 1)) (Γl := l28_1 k) (is := [12]) (m := (eCall (T 5) (aCons (eVar 12) aNil))) (mG := m18) (kk := k) (b := Str.ofString "_law_a") (mg 13) rfl F.lam__law_word hB rfl rfl rfl rfl
      ((defOk_by (Γ := g18_0 0) (by decide +kernel)).at rfl).S ((scOkB_ok (Γ := g18_0 0) (by decide +kernel)).at rfl) rfl (.inl rfl) (by decide) (by decide) ((lamStD_by (Γ := g28_0 0) (b := Str.ofString "_law_a") (by decide +kernel)).at rfl rfl) ((scOkB_ok (Γ := l28_1 0) (by decide +kernel)).at rfl) rfl rfl (fun _ _ _ _ _ _ _ _ => ⟨_, rfl, rfl⟩)
      (have F : Fx ({ p with ex := none, lam := none, cod := none } : Pg) := F.re ⟨rfl, rfl, rfl, rfl, rfl⟩; have H : At ({ p with ex := none, lam := none, cod := none } : Pg) T k := H0.re ⟨⟨rfl, rfl, rfl, rfl, rfl⟩, hlam.symm, rfl⟩; have hex : ({ p with ex := none, lam := none, cod := none } : Pg).ex = none := rfl; have hlam : ({ p with ex := none, lam := none, cod := none } : Pg).lam = none := rfl; (se_call (mg 0) rfl H.h5 (sa_cons (se_var (i := 12) rfl (mg 0)) sa_nil (fun _ => rfl)) (fun _ => rfl) (fun _ => rfl)))
      (fun l => d18 (p := { p with ex := none, lam := some l, cod := none, an := Str.ofString "_law_work", act := lamAct N28.length [12] (eCall (T 5) (aCons (eVar 12) aNil)) }) (F.re ⟨rfl, rfl, rfl, rfl, rfl⟩) rfl rfl rfl ⟨l, rfl⟩)) sa_nil (fun _ => rfl)) (fun _ => rfl)))) (se_two two_mul o_mul (se_fz (sf_lst (sa_cons (se_tup (sa_cons se_str (sa_cons se_int sa_nil (fun _ => rfl)) (fun _ => rfl))) sa_nil (fun _ => rfl)))) se_int)) (ss_one (ss_ret se_bl)) ss_nil)))))))))) (fun _ _ => rfl))
    (ss_one (ss_ret se_bl))))))
end K14W

set_option maxHeartbeats 0
namespace K14W
open PySem PySem.Spec PyProof.Rows L2 Ev K14
def fn : List He.DefD := [⟨(Str.ofString "BadTables", some (Str.ofString "__init__")), Str.ofString "__init__", Str.ofString "BadTables.__init__", defArgs (met 2 0), defBody (met 2 0), defScope (met 2 0), [], []⟩,
  ⟨(Str.ofString "BadAsk", some (Str.ofString "__init__")), Str.ofString "__init__", Str.ofString "BadAsk.__init__", defArgs (met 3 0), defBody (met 3 0), defScope (met 3 0), [], []⟩,
  ⟨(Str.ofString "BadMessage", some (Str.ofString "__init__")), Str.ofString "__init__", Str.ofString "BadMessage.__init__", defArgs (met 7 0), defBody (met 7 0), defScope (met 7 0), [], []⟩,
  ⟨(Str.ofString "BadText", some (Str.ofString "__init__")), Str.ofString "__init__", Str.ofString "BadText.__init__", defArgs (met 8 0), defBody (met 8 0), defScope (met 8 0), [], []⟩,
  ⟨(Str.ofString "is_whole", none), Str.ofString "is_whole", Str.ofString "is_whole", defArgs (top 16), defBody (top 16), defScope (top 16), [], []⟩,
  ⟨(Str.ofString "is_message", none), Str.ofString "is_message", Str.ofString "is_message", defArgs (top 22), defBody (top 22), defScope (top 22), [], []⟩,
  ⟨(Str.ofString "number_of_sign", none), Str.ofString "number_of_sign", Str.ofString "number_of_sign", defArgs (top 30), defBody (top 30), defScope (top 30), [], []⟩,
  ⟨(Str.ofString "words_of", none), Str.ofString "words_of", Str.ofString "words_of", defArgs (top 31), defBody (top 31), defScope (top 31), [], []⟩,
  ⟨(Str.ofString "written", none), Str.ofString "written", Str.ofString "written", defArgs (top 32), defBody (top 32), defScope (top 32), [], []⟩,
  ⟨(Str.ofString "framed", none), Str.ofString "framed", Str.ofString "framed", defArgs (top 33), defBody (top 33), defScope (top 33), [], []⟩,
  ⟨(Str.ofString "number_of", none), Str.ofString "number_of", Str.ofString "number_of", defArgs (top 34), defBody (top 34), defScope (top 34), [], []⟩,
  ⟨(Str.ofString "Reader", some (Str.ofString "__init__")), Str.ofString "__init__", Str.ofString "Reader.__init__", defArgs (met 35 0), defBody (met 35 0), defScope (met 35 0), [], []⟩,
  ⟨(Str.ofString "Reader", some (Str.ofString "word")), Str.ofString "word", Str.ofString "Reader.word", defArgs (met 35 1), defBody (met 35 1), defScope (met 35 1), [], []⟩,
  ⟨(Str.ofString "Reader", some (Str.ofString "figure")), Str.ofString "figure", Str.ofString "Reader.figure", defArgs (met 35 2), defBody (met 35 2), defScope (met 35 2), [], []⟩,
  ⟨(Str.ofString "Reader", some (Str.ofString "part")), Str.ofString "part", Str.ofString "Reader.part", defArgs (met 35 3), defBody (met 35 3), defScope (met 35 3), [], []⟩,
  ⟨(Str.ofString "Reader", some (Str.ofString "condition")), Str.ofString "condition", Str.ofString "Reader.condition", defArgs (met 35 4), defBody (met 35 4), defScope (met 35 4), [], []⟩,
  ⟨(Str.ofString "Reader", some (Str.ofString "many")), Str.ofString "many", Str.ofString "Reader.many", defArgs (met 35 5), defBody (met 35 5), defScope (met 35 5), [], []⟩,
  ⟨(Str.ofString "Reader", some (Str.ofString "ask")), Str.ofString "ask", Str.ofString "Reader.ask", defArgs (met 35 6), defBody (met 35 6), defScope (met 35 6), [], []⟩,
  ⟨(Str.ofString "Reader", some (Str.ofString "message")), Str.ofString "message", Str.ofString "Reader.message", defArgs (met 35 7), defBody (met 35 7), defScope (met 35 7), [], []⟩,
  ⟨(Str.ofString "read", none), Str.ofString "read", Str.ofString "read", defArgs (top 36), defBody (top 36), defScope (top 36), [], []⟩,
  ⟨(Str.ofString "_law_taken", none), Str.ofString "_law_taken", Str.ofString "_law_taken", defArgs (top 38), defBody (top 38), defScope (top 38), [], []⟩,
  ⟨(Str.ofString "_law_alike", none), Str.ofString "_law_alike", Str.ofString "_law_alike", defArgs (top 39), defBody (top 39), defScope (top 39), [], []⟩,
  ⟨(Str.ofString "_law_word", none), Str.ofString "_law_word", Str.ofString "_law_word", defArgs (top 40), defBody (top 40), defScope (top 40), [], []⟩,
  ⟨(Str.ofString "_law_number", none), Str.ofString "_law_number", Str.ofString "_law_number", defArgs (top 41), defBody (top 41), defScope (top 41), [], []⟩,
  ⟨(Str.ofString "_law_part", none), Str.ofString "_law_part", Str.ofString "_law_part", defArgs (top 42), defBody (top 42), defScope (top 42), [], []⟩,
  ⟨(Str.ofString "_law_condition", none), Str.ofString "_law_condition", Str.ofString "_law_condition", defArgs (top 43), defBody (top 43), defScope (top 43), [], []⟩,
  ⟨(Str.ofString "_law_deep", none), Str.ofString "_law_deep", Str.ofString "_law_deep", defArgs (top 44), defBody (top 44), defScope (top 44), [], []⟩,
  ⟨(Str.ofString "_law_any_ask", none), Str.ofString "_law_any_ask", Str.ofString "_law_any_ask", defArgs (top 45), defBody (top 45), defScope (top 45), [], []⟩,
  ⟨(Str.ofString "_law_things", none), Str.ofString "_law_things", Str.ofString "_law_things", defArgs (top 46), defBody (top 46), defScope (top 46), [], []⟩,
  ⟨(Str.ofString "_law_ask", none), Str.ofString "_law_ask", Str.ofString "_law_ask", defArgs (top 47), defBody (top 47), defScope (top 47), [], []⟩,
  ⟨(Str.ofString "_law_words", none), Str.ofString "_law_words", Str.ofString "_law_words", defArgs (top 48), defBody (top 48), defScope (top 48), [], []⟩,
  ⟨(Str.ofString "_law_any", none), Str.ofString "_law_any", Str.ofString "_law_any", defArgs (top 49), defBody (top 49), defScope (top 49), [], []⟩,
  ⟨(Str.ofString "law", none), Str.ofString "law", Str.ofString "law", defArgs (top 50), defBody (top 50), defScope (top 50), [], []⟩]
def fa : List He.Fa := [.glo (Str.ofString "PortalError"),
  .glo (Str.ofString "BadTables"),
  .glo (Str.ofString "BadAsk"),
  .glo (Str.ofString "BadWorths"),
  .glo (Str.ofString "Full"),
  .glo (Str.ofString "BadClient"),
  .glo (Str.ofString "BadMessage"),
  .glo (Str.ofString "BadText"),
  .glo (Str.ofString "BadPiece"),
  .glo (Str.ofString "is_whole"),
  .glo (Str.ofString "is_message"),
  .glo (Str.ofString "number_of_sign"),
  .glo (Str.ofString "words_of"),
  .glo (Str.ofString "written"),
  .glo (Str.ofString "framed"),
  .glo (Str.ofString "number_of"),
  .glo (Str.ofString "Reader"),
  .glo (Str.ofString "read"),
  .glo (Str.ofString "_law_taken"),
  .glo (Str.ofString "_law_alike"),
  .glo (Str.ofString "_law_word"),
  .glo (Str.ofString "_law_number"),
  .glo (Str.ofString "_law_part"),
  .glo (Str.ofString "_law_condition"),
  .glo (Str.ofString "_law_deep"),
  .glo (Str.ofString "_law_any_ask"),
  .glo (Str.ofString "_law_things"),
  .glo (Str.ofString "_law_ask"),
  .glo (Str.ofString "_law_words"),
  .glo (Str.ofString "_law_any"),
  .glo (Str.ofString "law"),
  .glo (Str.ofString "ASKS"),
  .glo (Str.ofString "CONDITIONS"),
  .free (Str.ofString "ValueError"),
  .free (Str.ofString "bool"),
  .free (Str.ofString "int"),
  .free (Str.ofString "isinstance"),
  .free (Str.ofString "len"),
  .free (Str.ofString "list"),
  .free (Str.ofString "range"),
  .free (Str.ofString "str"),
  .free (Str.ofString "sum"),
  .free (Str.ofString "tuple"),
  .int (Str.ofString "BLANK") 32,
  .int (Str.ofString "FIRST_FIGURE") 48,
  .int (Str.ofString "FIRST_LETTER") 97,
  .int (Str.ofString "MOST") 1000,
  .int (Str.ofString "MOST_FETCH") 20,
  .int (Str.ofString "MOST_FIGURES") 3,
  .int (Str.ofString "MOST_WIDE") 4,
  .int (Str.ofString "NAMES") 6,
  .int (Str.ofString "WORTHS") 4,
  .str (Str.ofString "ASK") (Str.ofString "ask"),
  .str (Str.ofString "FIGURES") (Str.ofString "0123456789"),
  .str (Str.ofString "LETTERS") (Str.ofString "abcdefghijklmnopqrstuvwxyz"),
  .str (Str.ofString "PORTAL") (Str.ofString "portal"),
  .cls (Str.ofString "Reader"),
  .noat (Str.ofString "Reader") (Str.ofString "place"),
  .noat (Str.ofString "Reader") (Str.ofString "words"),
  .mkr (Str.ofString "Reader"),
  .meth (Str.ofString "Reader") (Str.ofString "word"),
  .meth (Str.ofString "Reader") (Str.ofString "figure"),
  .meth (Str.ofString "Reader") (Str.ofString "part"),
  .meth (Str.ofString "Reader") (Str.ofString "condition"),
  .meth (Str.ofString "Reader") (Str.ofString "many"),
  .meth (Str.ofString "Reader") (Str.ofString "ask"),
  .meth (Str.ofString "Reader") (Str.ofString "message")]
def ts : List He.Tab := [(fun K => He.ga K (Str.ofString "ASKS"), [Str.ofString "rows", Str.ofString "put", Str.ofString "drop", Str.ofString "set"]), (fun K => He.ga K (Str.ofString "CONDITIONS"), [Str.ofString "all", Str.ofString "is", Str.ofString "less", Str.ofString "not", Str.ofString "both"])]
def xs : List (PySem.W.Frag → Bool) := [noList,
  ktabB (Str.ofString "ASKS") tab_ASKS,
  ktabB (Str.ofString "CONDITIONS") tab_CONDITIONS,
  oexCB "BadMessage",
  initB "BadMessage",
  noAtB "BadMessage" "number",
  baseB "PortalError",
  oexCB "BadText",
  initB "BadText",
  noAtB "BadText" "place",
  xfOB xf_at "at",
  xfOB xf_number "number",
  xfOB xf_place "place",
  xfOB xf_table "table",
  isEB (fun K => .ref (He.ga K (Str.ofString "BadAsk"))) is_BadAsk,
  isEB (fun K => .ref (He.ga K (Str.ofString "BadClient"))) is_BadClient,
  isEB (fun K => .ref (He.ga K (Str.ofString "BadMessage"))) is_BadMessage,
  isEB (fun K => .ref (He.ga K (Str.ofString "BadPiece"))) is_BadPiece,
  isEB (fun K => .ref (He.ga K (Str.ofString "BadTables"))) is_BadTables,
  isEB (fun K => .ref (He.ga K (Str.ofString "BadText"))) is_BadText,
  isEB (fun K => .ref (He.ga K (Str.ofString "BadWorths"))) is_BadWorths,
  isEB (fun K => .ref (He.ga K (Str.ofString "Full"))) is_Full,
  isEB (fun K => .type "ValueError") is_ValueError,
  catB "PortalError" ca_PortalError]
def lx : List Str := [Str.ofString "law"]
abbrev R : PySem.W.OpenRow := PySem.W.OpenLaw.row PySem.Challenge.rw_portaldesk_k14_written_and_read
abbrev hk : PySem.W.Hook := hookV 5 fa fn ts xs lx
def ob (s : PySem.W.SharedT) : AlV := obsV 5 fa fn ts xs lx (HandSHeadRun.getT s)
theorem ob_eq (s : PySem.W.SharedT) : ob s = hk.obs s.abs := obsV_eq (HandSHeadRun.getT_eq s)
def names : List PySem.Str := ([PySem.Str.ofString "PortalError", PySem.Str.ofString "BadTables", PySem.Str.ofString "BadAsk", PySem.Str.ofString "BadWorths", PySem.Str.ofString "Full", PySem.Str.ofString "BadClient", PySem.Str.ofString "BadMessage", PySem.Str.ofString "BadText", PySem.Str.ofString "BadPiece", PySem.Str.ofString "MOST_WIDE", PySem.Str.ofString "MOST", PySem.Str.ofString "WORTHS", PySem.Str.ofString "ASKS", PySem.Str.ofString "CONDITIONS", PySem.Str.ofString "is_whole", PySem.Str.ofString "NAMES", PySem.Str.ofString "MOST_FETCH", PySem.Str.ofString "ASK", PySem.Str.ofString "PORTAL", PySem.Str.ofString "is_message"] : List PySem.Str) ++ ([PySem.Str.ofString "FIGURES", PySem.Str.ofString "LETTERS", PySem.Str.ofString "BLANK", PySem.Str.ofString "FIRST_FIGURE", PySem.Str.ofString "FIRST_LETTER", PySem.Str.ofString "MOST_FIGURES", PySem.Str.ofString "number_of_sign", PySem.Str.ofString "words_of", PySem.Str.ofString "written", PySem.Str.ofString "framed", PySem.Str.ofString "number_of", PySem.Str.ofString "Reader", PySem.Str.ofString "read", PySem.Str.ofString "_law_taken", PySem.Str.ofString "_law_alike", PySem.Str.ofString "_law_word", PySem.Str.ofString "_law_number", PySem.Str.ofString "_law_part", PySem.Str.ofString "_law_condition", PySem.Str.ofString "_law_deep"] : List PySem.Str) ++ ([PySem.Str.ofString "_law_any_ask", PySem.Str.ofString "_law_things", PySem.Str.ofString "_law_ask", PySem.Str.ofString "_law_words", PySem.Str.ofString "_law_any"] : List PySem.Str)
theorem runF (w : World) : HandSHeadRun.RunEq R (PySem.W.view R.prog [50]) hk ob 6000 names (w.withFollow "special-get-raises" false) := by
  intro os
  kernel_rfl
theorem runT (w : World) : HandSHeadRun.RunEq R (PySem.W.view R.prog [50]) hk ob 6000 names (w.withFollow "special-get-raises" true) := by
  intro os
  kernel_rfl
theorem run (w : World) : HandSHeadRun.RunEq R (PySem.W.view R.prog [50]) hk ob 6000 names w := PySem.W.byRow2 "special-get-raises" runF runT w
end K14W

set_option maxHeartbeats 4000000
namespace K14W
open PySem PySem.Spec PyProof.Rows L2 Ev K14
theorem ok0 : DefOk (g0_0 0) [Str.ofString "thing", Str.ofString "low", Str.ofString "high"] (defScope (top 16)) := defOk_by (by decide +kernel)
theorem pl0 : PlainPs (defArgs (top 16)) [Str.ofString "thing", Str.ofString "low", Str.ofString "high"] := (fun _ _ _ _ _ _ _ _ _ _ us h => match us, h with | [_, _, _], _ => rfl)
theorem ok1 : DefOk (g1_0 0) [Str.ofString "message"] (defScope (top 22)) := defOk_by (by decide +kernel)
theorem pl1 : PlainPs (defArgs (top 22)) [Str.ofString "message"] := (fun _ _ _ _ _ _ _ _ _ _ us h => match us, h with | [_], _ => rfl)
theorem ok2 : DefOk (g2_0 0) [Str.ofString "sign"] (defScope (top 30)) := defOk_by (by decide +kernel)
theorem pl2 : PlainPs (defArgs (top 30)) [Str.ofString "sign"] := (fun _ _ _ _ _ _ _ _ _ _ us h => match us, h with | [_], _ => rfl)
theorem ok3 : DefOk (g3_0 0) [Str.ofString "thing"] (defScope (top 31)) := defOk_by (by decide +kernel)
theorem pl3 : PlainPs (defArgs (top 31)) [Str.ofString "thing"] := (fun _ _ _ _ _ _ _ _ _ _ us h => match us, h with | [_], _ => rfl)
theorem ok4 : DefOk (g4_0 0) [Str.ofString "message"] (defScope (top 32)) := defOk_by (by decide +kernel)
theorem pl4 : PlainPs (defArgs (top 32)) [Str.ofString "message"] := (fun _ _ _ _ _ _ _ _ _ _ us h => match us, h with | [_], _ => rfl)
theorem ok5 : DefOk (g5_0 0) [Str.ofString "message"] (defScope (top 33)) := defOk_by (by decide +kernel)
theorem pl5 : PlainPs (defArgs (top 33)) [Str.ofString "message"] := (fun _ _ _ _ _ _ _ _ _ _ us h => match us, h with | [_], _ => rfl)
theorem ok6 : DefOk (g6_0 0) [Str.ofString "word"] (defScope (top 34)) := defOk_by (by decide +kernel)
theorem pl6 : PlainPs (defArgs (top 34)) [Str.ofString "word"] := (fun _ _ _ _ _ _ _ _ _ _ us h => match us, h with | [_], _ => rfl)
theorem ok7 : DefOk (g7_0 0) [Str.ofString "self", Str.ofString "words"] (defScope (met 35 0)) := defOk_by (by decide +kernel)
theorem pl7 : PlainPs (defArgs (met 35 0)) [Str.ofString "self", Str.ofString "words"] := (fun _ _ _ _ _ _ _ _ _ _ us h => match us, h with | [_, _], _ => rfl)
theorem ok8 : DefOk (g8_0 0) [Str.ofString "self", Str.ofString "some"] (defScope (met 35 1)) := defOk_by (by decide +kernel)
theorem pl8 : PlainPs (defArgs (met 35 1)) [Str.ofString "self", Str.ofString "some"] := (fun _ _ _ _ _ _ _ _ _ _ us h => match us, h with | [_, _], _ => rfl)
theorem ok9 : DefOk (g9_0 0) [Str.ofString "self"] (defScope (met 35 2)) := defOk_by (by decide +kernel)
theorem pl9 : PlainPs (defArgs (met 35 2)) [Str.ofString "self"] := (fun _ _ _ _ _ _ _ _ _ _ us h => match us, h with | [_], _ => rfl)
theorem ok10 : DefOk (g10_0 0) [Str.ofString "self"] (defScope (met 35 3)) := defOk_by (by decide +kernel)
theorem pl10 : PlainPs (defArgs (met 35 3)) [Str.ofString "self"] := (fun _ _ _ _ _ _ _ _ _ _ us h => match us, h with | [_], _ => rfl)
theorem ok11 : DefOk (g11_0 0) [Str.ofString "self"] (defScope (met 35 4)) := defOk_by (by decide +kernel)
theorem pl11 : PlainPs (defArgs (met 35 4)) [Str.ofString "self"] := (fun _ _ _ _ _ _ _ _ _ _ us h => match us, h with | [_], _ => rfl)
theorem ok12 : DefOk (g12_0 0) [Str.ofString "self", Str.ofString "most"] (defScope (met 35 5)) := defOk_by (by decide +kernel)
theorem pl12 : PlainPs (defArgs (met 35 5)) [Str.ofString "self", Str.ofString "most"] := (fun _ _ _ _ _ _ _ _ _ _ us h => match us, h with | [_, _], _ => rfl)
theorem ok13 : DefOk (g13_0 0) [Str.ofString "self"] (defScope (met 35 6)) := defOk_by (by decide +kernel)
theorem pl13 : PlainPs (defArgs (met 35 6)) [Str.ofString "self"] := (fun _ _ _ _ _ _ _ _ _ _ us h => match us, h with | [_], _ => rfl)
theorem ok14 : DefOk (g14_0 0) [Str.ofString "self"] (defScope (met 35 7)) := defOk_by (by decide +kernel)
theorem pl14 : PlainPs (defArgs (met 35 7)) [Str.ofString "self"] := (fun _ _ _ _ _ _ _ _ _ _ us h => match us, h with | [_], _ => rfl)
theorem ok15 : DefOk (g15_0 0) [Str.ofString "text"] (defScope (top 36)) := defOk_by (by decide +kernel)
theorem pl15 : PlainPs (defArgs (top 36)) [Str.ofString "text"] := (fun _ _ _ _ _ _ _ _ _ _ us h => match us, h with | [_], _ => rfl)
theorem ok16 : DefOk (g16_0 0) [Str.ofString "_law_row", Str.ofString "_law_many"] (defScope (top 38)) := defOk_by (by decide +kernel)
theorem pl16 : PlainPs (defArgs (top 38)) [Str.ofString "_law_row", Str.ofString "_law_many"] := (fun _ _ _ _ _ _ _ _ _ _ us h => match us, h with | [_, _], _ => rfl)
theorem ok17 : DefOk (g17_0 0) [Str.ofString "_law_found", Str.ofString "_law_due"] (defScope (top 39)) := defOk_by (by decide +kernel)
theorem pl17 : PlainPs (defArgs (top 39)) [Str.ofString "_law_found", Str.ofString "_law_due"] := (fun _ _ _ _ _ _ _ _ _ _ us h => match us, h with | [_, _], _ => rfl)
theorem ok18 : DefOk (g18_0 0) [Str.ofString "_law_work"] (defScope (top 40)) := defOk_by (by decide +kernel)
theorem pl18 : PlainPs (defArgs (top 40)) [Str.ofString "_law_work"] := (fun _ _ _ _ _ _ _ _ _ _ us h => match us, h with | [_], _ => rfl)
theorem ok19 : DefOk (g19_0 0) [Str.ofString "_law_row"] (defScope (top 41)) := defOk_by (by decide +kernel)
theorem pl19 : PlainPs (defArgs (top 41)) [Str.ofString "_law_row"] := (fun _ _ _ _ _ _ _ _ _ _ us h => match us, h with | [_], _ => rfl)
theorem ok20 : DefOk (g20_0 0) [Str.ofString "_law_row", Str.ofString "_law_wide", Str.ofString "_law_deep_here"] (defScope (top 42)) := defOk_by (by decide +kernel)
theorem pl20 : PlainPs (defArgs (top 42)) [Str.ofString "_law_row", Str.ofString "_law_wide", Str.ofString "_law_deep_here"] := (fun _ _ _ _ _ _ _ _ _ _ us h => match us, h with | [_, _, _], _ => rfl)
theorem ok21 : DefOk (g21_0 0) [Str.ofString "_law_row", Str.ofString "_law_wide", Str.ofString "_law_deep_here"] (defScope (top 43)) := defOk_by (by decide +kernel)
theorem pl21 : PlainPs (defArgs (top 43)) [Str.ofString "_law_row", Str.ofString "_law_wide", Str.ofString "_law_deep_here"] := (fun _ _ _ _ _ _ _ _ _ _ us h => match us, h with | [_, _, _], _ => rfl)
theorem ok22 : DefOk (g22_0 0) [Str.ofString "_law_row", Str.ofString "_law_wide"] (defScope (top 44)) := defOk_by (by decide +kernel)
theorem pl22 : PlainPs (defArgs (top 44)) [Str.ofString "_law_row", Str.ofString "_law_wide"] := (fun _ _ _ _ _ _ _ _ _ _ us h => match us, h with | [_, _], _ => rfl)
theorem ok23 : DefOk (g23_0 0) [Str.ofString "_law_row", Str.ofString "_law_widths"] (defScope (top 45)) := defOk_by (by decide +kernel)
theorem pl23 : PlainPs (defArgs (top 45)) [Str.ofString "_law_row", Str.ofString "_law_widths"] := (fun _ _ _ _ _ _ _ _ _ _ us h => match us, h with | [_, _], _ => rfl)
theorem ok24 : DefOk (g24_0 0) [Str.ofString "_law_thing"] (defScope (top 46)) := defOk_by (by decide +kernel)
theorem pl24 : PlainPs (defArgs (top 46)) [Str.ofString "_law_thing"] := (fun _ _ _ _ _ _ _ _ _ _ us h => match us, h with | [_], _ => rfl)
theorem ok25 : DefOk (g25_0 0) [Str.ofString "_law_row", Str.ofString "_law_widths"] (defScope (top 47)) := defOk_by (by decide +kernel)
theorem pl25 : PlainPs (defArgs (top 47)) [Str.ofString "_law_row", Str.ofString "_law_widths"] := (fun _ _ _ _ _ _ _ _ _ _ us h => match us, h with | [_, _], _ => rfl)
theorem ok26 : DefOk (g26_0 0) [Str.ofString "_law_thing"] (defScope (top 48)) := defOk_by (by decide +kernel)
theorem pl26 : PlainPs (defArgs (top 48)) [Str.ofString "_law_thing"] := (fun _ _ _ _ _ _ _ _ _ _ us h => match us, h with | [_], _ => rfl)
theorem ok27 : DefOk (g27_0 0) [Str.ofString "_law_row"] (defScope (top 49)) := defOk_by (by decide +kernel)
theorem pl27 : PlainPs (defArgs (top 49)) [Str.ofString "_law_row"] := (fun _ _ _ _ _ _ _ _ _ _ us h => match us, h with | [_], _ => rfl)
theorem ok28 : DefOk (g28_0 0) [Str.ofString "_law_script"] (defScope (top 50)) := defOk_by (by decide +kernel)
theorem pl28 : PlainPs (defArgs (top 50)) [Str.ofString "_law_script"] := (fun _ _ _ _ _ _ _ _ _ _ us h => match us, h with | [_], _ => rfl)
section
variable {P : Program} {w : World} {K : PySem.W.Frag} {gm : Str → Option Value} {h base : Heap} {T : List (Addr × Str)} {cod : Option (Addr × Str)}
theorem f0 (S : SaysV fa fn ts xs lx w h K) : ∃ fd, FunD K (Str.ofString "__init__") (Str.ofString "BadTables.__init__") (defArgs (met 2 0)) (defBody (met 2 0)) (defScope (met 2 0)) [] [] (He.fAd K (Str.ofString "BadTables", some (Str.ofString "__init__"))) fd := S.def_ 0
theorem f1 (S : SaysV fa fn ts xs lx w h K) : ∃ fd, FunD K (Str.ofString "__init__") (Str.ofString "BadAsk.__init__") (defArgs (met 3 0)) (defBody (met 3 0)) (defScope (met 3 0)) [] [] (He.fAd K (Str.ofString "BadAsk", some (Str.ofString "__init__"))) fd := S.def_ 1
theorem f2 (S : SaysV fa fn ts xs lx w h K) : ∃ fd, FunD K (Str.ofString "__init__") (Str.ofString "BadMessage.__init__") (defArgs (met 7 0)) (defBody (met 7 0)) (defScope (met 7 0)) [] [] (He.fAd K (Str.ofString "BadMessage", some (Str.ofString "__init__"))) fd := S.def_ 2
theorem f3 (S : SaysV fa fn ts xs lx w h K) : ∃ fd, FunD K (Str.ofString "__init__") (Str.ofString "BadText.__init__") (defArgs (met 8 0)) (defBody (met 8 0)) (defScope (met 8 0)) [] [] (He.fAd K (Str.ofString "BadText", some (Str.ofString "__init__"))) fd := S.def_ 3
theorem f4 (S : SaysV fa fn ts xs lx w h K) : ∃ fd, FunD K (Str.ofString "is_whole") (Str.ofString "is_whole") (defArgs (top 16)) (defBody (top 16)) (defScope (top 16)) [] [] (He.fAd K (Str.ofString "is_whole", none)) fd := S.def_ 4
theorem f5 (S : SaysV fa fn ts xs lx w h K) : ∃ fd, FunD K (Str.ofString "is_message") (Str.ofString "is_message") (defArgs (top 22)) (defBody (top 22)) (defScope (top 22)) [] [] (He.fAd K (Str.ofString "is_message", none)) fd := S.def_ 5
theorem f6 (S : SaysV fa fn ts xs lx w h K) : ∃ fd, FunD K (Str.ofString "number_of_sign") (Str.ofString "number_of_sign") (defArgs (top 30)) (defBody (top 30)) (defScope (top 30)) [] [] (He.fAd K (Str.ofString "number_of_sign", none)) fd := S.def_ 6
theorem f7 (S : SaysV fa fn ts xs lx w h K) : ∃ fd, FunD K (Str.ofString "words_of") (Str.ofString "words_of") (defArgs (top 31)) (defBody (top 31)) (defScope (top 31)) [] [] (He.fAd K (Str.ofString "words_of", none)) fd := S.def_ 7
theorem f8 (S : SaysV fa fn ts xs lx w h K) : ∃ fd, FunD K (Str.ofString "written") (Str.ofString "written") (defArgs (top 32)) (defBody (top 32)) (defScope (top 32)) [] [] (He.fAd K (Str.ofString "written", none)) fd := S.def_ 8
theorem f9 (S : SaysV fa fn ts xs lx w h K) : ∃ fd, FunD K (Str.ofString "framed") (Str.ofString "framed") (defArgs (top 33)) (defBody (top 33)) (defScope (top 33)) [] [] (He.fAd K (Str.ofString "framed", none)) fd := S.def_ 9
theorem f10 (S : SaysV fa fn ts xs lx w h K) : ∃ fd, FunD K (Str.ofString "number_of") (Str.ofString "number_of") (defArgs (top 34)) (defBody (top 34)) (defScope (top 34)) [] [] (He.fAd K (Str.ofString "number_of", none)) fd := S.def_ 10
theorem f11 (S : SaysV fa fn ts xs lx w h K) : ∃ fd, FunD K (Str.ofString "__init__") (Str.ofString "Reader.__init__") (defArgs (met 35 0)) (defBody (met 35 0)) (defScope (met 35 0)) [] [] (He.fAd K (Str.ofString "Reader", some (Str.ofString "__init__"))) fd := S.def_ 11
theorem f12 (S : SaysV fa fn ts xs lx w h K) : ∃ fd, FunD K (Str.ofString "word") (Str.ofString "Reader.word") (defArgs (met 35 1)) (defBody (met 35 1)) (defScope (met 35 1)) [] [] (He.fAd K (Str.ofString "Reader", some (Str.ofString "word"))) fd := S.def_ 12
theorem f13 (S : SaysV fa fn ts xs lx w h K) : ∃ fd, FunD K (Str.ofString "figure") (Str.ofString "Reader.figure") (defArgs (met 35 2)) (defBody (met 35 2)) (defScope (met 35 2)) [] [] (He.fAd K (Str.ofString "Reader", some (Str.ofString "figure"))) fd := S.def_ 13
theorem f14 (S : SaysV fa fn ts xs lx w h K) : ∃ fd, FunD K (Str.ofString "part") (Str.ofString "Reader.part") (defArgs (met 35 3)) (defBody (met 35 3)) (defScope (met 35 3)) [] [] (He.fAd K (Str.ofString "Reader", some (Str.ofString "part"))) fd := S.def_ 14
theorem f15 (S : SaysV fa fn ts xs lx w h K) : ∃ fd, FunD K (Str.ofString "condition") (Str.ofString "Reader.condition") (defArgs (met 35 4)) (defBody (met 35 4)) (defScope (met 35 4)) [] [] (He.fAd K (Str.ofString "Reader", some (Str.ofString "condition"))) fd := S.def_ 15
theorem f16 (S : SaysV fa fn ts xs lx w h K) : ∃ fd, FunD K (Str.ofString "many") (Str.ofString "Reader.many") (defArgs (met 35 5)) (defBody (met 35 5)) (defScope (met 35 5)) [] [] (He.fAd K (Str.ofString "Reader", some (Str.ofString "many"))) fd := S.def_ 16
theorem f17 (S : SaysV fa fn ts xs lx w h K) : ∃ fd, FunD K (Str.ofString "ask") (Str.ofString "Reader.ask") (defArgs (met 35 6)) (defBody (met 35 6)) (defScope (met 35 6)) [] [] (He.fAd K (Str.ofString "Reader", some (Str.ofString "ask"))) fd := S.def_ 17
theorem f18 (S : SaysV fa fn ts xs lx w h K) : ∃ fd, FunD K (Str.ofString "message") (Str.ofString "Reader.message") (defArgs (met 35 7)) (defBody (met 35 7)) (defScope (met 35 7)) [] [] (He.fAd K (Str.ofString "Reader", some (Str.ofString "message"))) fd := S.def_ 18
theorem f19 (S : SaysV fa fn ts xs lx w h K) : ∃ fd, FunD K (Str.ofString "read") (Str.ofString "read") (defArgs (top 36)) (defBody (top 36)) (defScope (top 36)) [] [] (He.fAd K (Str.ofString "read", none)) fd := S.def_ 19
theorem f20 (S : SaysV fa fn ts xs lx w h K) : ∃ fd, FunD K (Str.ofString "_law_taken") (Str.ofString "_law_taken") (defArgs (top 38)) (defBody (top 38)) (defScope (top 38)) [] [] (He.fAd K (Str.ofString "_law_taken", none)) fd := S.def_ 20
theorem f21 (S : SaysV fa fn ts xs lx w h K) : ∃ fd, FunD K (Str.ofString "_law_alike") (Str.ofString "_law_alike") (defArgs (top 39)) (defBody (top 39)) (defScope (top 39)) [] [] (He.fAd K (Str.ofString "_law_alike", none)) fd := S.def_ 21
theorem f22 (S : SaysV fa fn ts xs lx w h K) : ∃ fd, FunD K (Str.ofString "_law_word") (Str.ofString "_law_word") (defArgs (top 40)) (defBody (top 40)) (defScope (top 40)) [] [] (He.fAd K (Str.ofString "_law_word", none)) fd := S.def_ 22
theorem f23 (S : SaysV fa fn ts xs lx w h K) : ∃ fd, FunD K (Str.ofString "_law_number") (Str.ofString "_law_number") (defArgs (top 41)) (defBody (top 41)) (defScope (top 41)) [] [] (He.fAd K (Str.ofString "_law_number", none)) fd := S.def_ 23
theorem f24 (S : SaysV fa fn ts xs lx w h K) : ∃ fd, FunD K (Str.ofString "_law_part") (Str.ofString "_law_part") (defArgs (top 42)) (defBody (top 42)) (defScope (top 42)) [] [] (He.fAd K (Str.ofString "_law_part", none)) fd := S.def_ 24
theorem f25 (S : SaysV fa fn ts xs lx w h K) : ∃ fd, FunD K (Str.ofString "_law_condition") (Str.ofString "_law_condition") (defArgs (top 43)) (defBody (top 43)) (defScope (top 43)) [] [] (He.fAd K (Str.ofString "_law_condition", none)) fd := S.def_ 25
theorem f26 (S : SaysV fa fn ts xs lx w h K) : ∃ fd, FunD K (Str.ofString "_law_deep") (Str.ofString "_law_deep") (defArgs (top 44)) (defBody (top 44)) (defScope (top 44)) [] [] (He.fAd K (Str.ofString "_law_deep", none)) fd := S.def_ 26
theorem f27 (S : SaysV fa fn ts xs lx w h K) : ∃ fd, FunD K (Str.ofString "_law_any_ask") (Str.ofString "_law_any_ask") (defArgs (top 45)) (defBody (top 45)) (defScope (top 45)) [] [] (He.fAd K (Str.ofString "_law_any_ask", none)) fd := S.def_ 27
theorem f28 (S : SaysV fa fn ts xs lx w h K) : ∃ fd, FunD K (Str.ofString "_law_things") (Str.ofString "_law_things") (defArgs (top 46)) (defBody (top 46)) (defScope (top 46)) [] [] (He.fAd K (Str.ofString "_law_things", none)) fd := S.def_ 28
theorem f29 (S : SaysV fa fn ts xs lx w h K) : ∃ fd, FunD K (Str.ofString "_law_ask") (Str.ofString "_law_ask") (defArgs (top 47)) (defBody (top 47)) (defScope (top 47)) [] [] (He.fAd K (Str.ofString "_law_ask", none)) fd := S.def_ 29
theorem f30 (S : SaysV fa fn ts xs lx w h K) : ∃ fd, FunD K (Str.ofString "_law_words") (Str.ofString "_law_words") (defArgs (top 48)) (defBody (top 48)) (defScope (top 48)) [] [] (He.fAd K (Str.ofString "_law_words", none)) fd := S.def_ 30
theorem f31 (S : SaysV fa fn ts xs lx w h K) : ∃ fd, FunD K (Str.ofString "_law_any") (Str.ofString "_law_any") (defArgs (top 49)) (defBody (top 49)) (defScope (top 49)) [] [] (He.fAd K (Str.ofString "_law_any", none)) fd := S.def_ 31
theorem f32 (S : SaysV fa fn ts xs lx w h K) : ∃ fd, FunD K (Str.ofString "law") (Str.ofString "law") (defArgs (top 50)) (defBody (top 50)) (defScope (top 50)) [] [] (He.fAd K (Str.ofString "law", none)) fd := S.def_ 32
theorem ex_BadMessage (S : SaysV fa fn ts xs lx w h K) (G : h.Ns mainGlobals gm) : Ex1 (pgOf P w K gm base T none) "BadMessage" "number" := by
  obtain ⟨fd, F⟩ := f2 S
  have hi := initB_ok (S.x (initB "BadMessage") (Ev.mg 4 rfl))
  have T1 := oexB_ok (S.x (oexCB "BadMessage") (Ev.mg 3 rfl))
  have d : DefOk ⟨[Str.ofString "self", Str.ofString "number"], [0, 1], [], [Str.ofString "PortalError"], true, 0, [], [], true⟩ [Str.ofString "self", Str.ofString "number"] (defScope (met 7 0)) := defOk_by (by decide +kernel)
  exact ⟨(He.glo_ok S.in_ G (S.fact (f := .glo (Str.ofString "BadMessage")) (Ev.mg 6 rfl))), T1, _, fd, [Str.ofString "self", Str.ofString "number"], hi.1, hi.2, bindsP F (fun _ _ _ _ _ _ _ _ _ _ us h => match us, h with | [_, _], _ => rfl), init_ok F d.S d.sc (He.glo_ok S.in_ G (S.fact (f := .glo (Str.ofString "PortalError")) (Ev.mg 0 rfl))) (baseB_ok (S.x (baseB "PortalError") (Ev.mg 6 rfl))) T1 (of_decide_eq_true (S.x (noAtB "BadMessage" "number") (Ev.mg 5 rfl))) rfl rfl rfl (fun _ => rfl)⟩
theorem ex_BadText (S : SaysV fa fn ts xs lx w h K) (G : h.Ns mainGlobals gm) : Ex1 (pgOf P w K gm base T none) "BadText" "place" := by
  obtain ⟨fd, F⟩ := f3 S
  have hi := initB_ok (S.x (initB "BadText") (Ev.mg 8 rfl))
  have T1 := oexB_ok (S.x (oexCB "BadText") (Ev.mg 7 rfl))
  have d : DefOk ⟨[Str.ofString "self", Str.ofString "place"], [0, 1], [], [Str.ofString "PortalError"], true, 0, [], [], true⟩ [Str.ofString "self", Str.ofString "place"] (defScope (met 8 0)) := defOk_by (by decide +kernel)
  exact ⟨(He.glo_ok S.in_ G (S.fact (f := .glo (Str.ofString "BadText")) (Ev.mg 7 rfl))), T1, _, fd, [Str.ofString "self", Str.ofString "place"], hi.1, hi.2, bindsP F (fun _ _ _ _ _ _ _ _ _ _ us h => match us, h with | [_, _], _ => rfl), init_ok F d.S d.sc (He.glo_ok S.in_ G (S.fact (f := .glo (Str.ofString "PortalError")) (Ev.mg 0 rfl))) (baseB_ok (S.x (baseB "PortalError") (Ev.mg 6 rfl))) T1 (of_decide_eq_true (S.x (noAtB "BadText" "place") (Ev.mg 9 rfl))) rfl rfl rfl (fun _ => rfl)⟩
theorem fx (S : SaysV fa fn ts xs lx w h K) (G : h.Ns mainGlobals gm) : Fx (pgOf P w K gm base T none) where
  b_ValueError := He.free_ok S.in_ G (S.fact (f := .free (Str.ofString "ValueError")) (Ev.mg 33 rfl))
  b_bool := He.free_ok S.in_ G (S.fact (f := .free (Str.ofString "bool")) (Ev.mg 34 rfl))
  b_int := He.free_ok S.in_ G (S.fact (f := .free (Str.ofString "int")) (Ev.mg 35 rfl))
  b_isinstance := He.free_ok S.in_ G (S.fact (f := .free (Str.ofString "isinstance")) (Ev.mg 36 rfl))
  b_len := He.free_ok S.in_ G (S.fact (f := .free (Str.ofString "len")) (Ev.mg 37 rfl))
  b_list := He.free_ok S.in_ G (S.fact (f := .free (Str.ofString "list")) (Ev.mg 38 rfl))
  b_range := He.free_ok S.in_ G (S.fact (f := .free (Str.ofString "range")) (Ev.mg 39 rfl))
  b_str := He.free_ok S.in_ G (S.fact (f := .free (Str.ofString "str")) (Ev.mg 40 rfl))
  b_sum := He.free_ok S.in_ G (S.fact (f := .free (Str.ofString "sum")) (Ev.mg 41 rfl))
  b_tuple := He.free_ok S.in_ G (S.fact (f := .free (Str.ofString "tuple")) (Ev.mg 42 rfl))
  c_BLANK := He.int_ok S.in_ G (S.fact (f := .int (Str.ofString "BLANK") 32) (Ev.mg 43 rfl))
  c_FIRST_FIGURE := He.int_ok S.in_ G (S.fact (f := .int (Str.ofString "FIRST_FIGURE") 48) (Ev.mg 44 rfl))
  c_FIRST_LETTER := He.int_ok S.in_ G (S.fact (f := .int (Str.ofString "FIRST_LETTER") 97) (Ev.mg 45 rfl))
  c_MOST := He.int_ok S.in_ G (S.fact (f := .int (Str.ofString "MOST") 1000) (Ev.mg 46 rfl))
  c_MOST_FETCH := He.int_ok S.in_ G (S.fact (f := .int (Str.ofString "MOST_FETCH") 20) (Ev.mg 47 rfl))
  c_MOST_FIGURES := He.int_ok S.in_ G (S.fact (f := .int (Str.ofString "MOST_FIGURES") 3) (Ev.mg 48 rfl))
  c_MOST_WIDE := He.int_ok S.in_ G (S.fact (f := .int (Str.ofString "MOST_WIDE") 4) (Ev.mg 49 rfl))
  c_NAMES := He.int_ok S.in_ G (S.fact (f := .int (Str.ofString "NAMES") 6) (Ev.mg 50 rfl))
  c_WORTHS := He.int_ok S.in_ G (S.fact (f := .int (Str.ofString "WORTHS") 4) (Ev.mg 51 rfl))
  s_ASK := He.str_ok S.in_ G (S.fact (f := .str (Str.ofString "ASK") (Str.ofString "ask")) (Ev.mg 52 rfl))
  s_FIGURES := He.str_ok S.in_ G (S.fact (f := .str (Str.ofString "FIGURES") (Str.ofString "0123456789")) (Ev.mg 53 rfl))
  s_LETTERS := He.str_ok S.in_ G (S.fact (f := .str (Str.ofString "LETTERS") (Str.ofString "abcdefghijklmnopqrstuvwxyz")) (Ev.mg 54 rfl))
  s_PORTAL := He.str_ok S.in_ G (S.fact (f := .str (Str.ofString "PORTAL") (Str.ofString "portal")) (Ev.mg 55 rfl))
  t_ASKS := ⟨_, (He.glo_ok S.in_ G (S.fact (f := .glo (Str.ofString "ASKS")) (Ev.mg 31 rfl))), ktab_ok (x := Str.ofString "ASKS") (S.t.tab (t := (fun K => He.ga K (Str.ofString "ASKS"), [Str.ofString "rows", Str.ofString "put", Str.ofString "drop", Str.ofString "set"])) 0 rfl) (S.x (ktabB (Str.ofString "ASKS") tab_ASKS) (Ev.mg 1 rfl)) (by decide)⟩
  t_CONDITIONS := ⟨_, (He.glo_ok S.in_ G (S.fact (f := .glo (Str.ofString "CONDITIONS")) (Ev.mg 32 rfl))), ktab_ok (x := Str.ofString "CONDITIONS") (S.t.tab (t := (fun K => He.ga K (Str.ofString "CONDITIONS"), [Str.ofString "all", Str.ofString "is", Str.ofString "less", Str.ofString "not", Str.ofString "both"])) 1 rfl) (S.x (ktabB (Str.ofString "CONDITIONS") tab_CONDITIONS) (Ev.mg 2 rfl)) (by decide)⟩
  a_place := fun C hC => by
    rcases List.mem_cons.mp hC with e | hC
    · subst e
      exact ⟨He.cls_ok (S.fact (f := .cls (Str.ofString "Reader")) (Ev.mg 56 rfl)), He.noat_ok (S.fact (f := .noat (Str.ofString "Reader") (Str.ofString "place")) (Ev.mg 57 rfl))⟩
    cases hC
  a_words := fun C hC => by
    rcases List.mem_cons.mp hC with e | hC
    · subst e
      exact ⟨He.cls_ok (S.fact (f := .cls (Str.ofString "Reader")) (Ev.mg 56 rfl)), He.noat_ok (S.fact (f := .noat (Str.ofString "Reader") (Str.ofString "words")) (Ev.mg 58 rfl))⟩
    cases hC
  e_BadMessage := (ex_BadMessage S G)
  e_BadText := (ex_BadText S G)
  x_at := xfOB_ok (p := pgOf P w K gm base T none) (S.x (xfOB xf_at "at") (Ev.mg 10 rfl))
  x_number := xfOB_ok (p := pgOf P w K gm base T none) (S.x (xfOB xf_number "number") (Ev.mg 11 rfl))
  x_place := xfOB_ok (p := pgOf P w K gm base T none) (S.x (xfOB xf_place "place") (Ev.mg 12 rfl))
  x_table := xfOB_ok (p := pgOf P w K gm base T none) (S.x (xfOB xf_table "table") (Ev.mg 13 rfl))
  g_BadAsk := (He.glo_ok S.in_ G (S.fact (f := .glo (Str.ofString "BadAsk")) (Ev.mg 2 rfl)))
  g_BadClient := (He.glo_ok S.in_ G (S.fact (f := .glo (Str.ofString "BadClient")) (Ev.mg 5 rfl)))
  g_BadMessage := (He.glo_ok S.in_ G (S.fact (f := .glo (Str.ofString "BadMessage")) (Ev.mg 6 rfl)))
  g_BadPiece := (He.glo_ok S.in_ G (S.fact (f := .glo (Str.ofString "BadPiece")) (Ev.mg 8 rfl)))
  g_BadTables := (He.glo_ok S.in_ G (S.fact (f := .glo (Str.ofString "BadTables")) (Ev.mg 1 rfl)))
  g_BadText := (He.glo_ok S.in_ G (S.fact (f := .glo (Str.ofString "BadText")) (Ev.mg 7 rfl)))
  g_BadWorths := (He.glo_ok S.in_ G (S.fact (f := .glo (Str.ofString "BadWorths")) (Ev.mg 3 rfl)))
  g_Full := (He.glo_ok S.in_ G (S.fact (f := .glo (Str.ofString "Full")) (Ev.mg 4 rfl)))
  g_PortalError := (He.glo_ok S.in_ G (S.fact (f := .glo (Str.ofString "PortalError")) (Ev.mg 0 rfl)))
  i_BadAsk := isEB_ok (p := pgOf P w K gm base T none) (cv := (fun K => .ref (He.ga K (Str.ofString "BadAsk")))) (S.x (isEB (fun K => .ref (He.ga K (Str.ofString "BadAsk"))) is_BadAsk) (Ev.mg 14 rfl))
  i_BadClient := isEB_ok (p := pgOf P w K gm base T none) (cv := (fun K => .ref (He.ga K (Str.ofString "BadClient")))) (S.x (isEB (fun K => .ref (He.ga K (Str.ofString "BadClient"))) is_BadClient) (Ev.mg 15 rfl))
  i_BadMessage := isEB_ok (p := pgOf P w K gm base T none) (cv := (fun K => .ref (He.ga K (Str.ofString "BadMessage")))) (S.x (isEB (fun K => .ref (He.ga K (Str.ofString "BadMessage"))) is_BadMessage) (Ev.mg 16 rfl))
  i_BadPiece := isEB_ok (p := pgOf P w K gm base T none) (cv := (fun K => .ref (He.ga K (Str.ofString "BadPiece")))) (S.x (isEB (fun K => .ref (He.ga K (Str.ofString "BadPiece"))) is_BadPiece) (Ev.mg 17 rfl))
  i_BadTables := isEB_ok (p := pgOf P w K gm base T none) (cv := (fun K => .ref (He.ga K (Str.ofString "BadTables")))) (S.x (isEB (fun K => .ref (He.ga K (Str.ofString "BadTables"))) is_BadTables) (Ev.mg 18 rfl))
  i_BadText := isEB_ok (p := pgOf P w K gm base T none) (cv := (fun K => .ref (He.ga K (Str.ofString "BadText")))) (S.x (isEB (fun K => .ref (He.ga K (Str.ofString "BadText"))) is_BadText) (Ev.mg 19 rfl))
  i_BadWorths := isEB_ok (p := pgOf P w K gm base T none) (cv := (fun K => .ref (He.ga K (Str.ofString "BadWorths")))) (S.x (isEB (fun K => .ref (He.ga K (Str.ofString "BadWorths"))) is_BadWorths) (Ev.mg 20 rfl))
  i_Full := isEB_ok (p := pgOf P w K gm base T none) (cv := (fun K => .ref (He.ga K (Str.ofString "Full")))) (S.x (isEB (fun K => .ref (He.ga K (Str.ofString "Full"))) is_Full) (Ev.mg 21 rfl))
  i_ValueError := isEB_ok (p := pgOf P w K gm base T none) (cv := (fun K => .type "ValueError")) (S.x (isEB (fun K => .type "ValueError") is_ValueError) (Ev.mg 22 rfl))
  ca_PortalError := catB_ok (p := pgOf P w K gm base T none) (S.x (catB "PortalError" ca_PortalError) (Ev.mg 23 rfl))
  lam__law_word := (let ⟨fd, F⟩ := f22 S; ⟨_, fd, _, _, (He.glo_ok S.in_ G (S.fact (f := .glo (Str.ofString "_law_word")) (Ev.mg 20 rfl))), F.kp, F, bindsP F pl18⟩)
theorem at0 (S : SaysV fa fn ts xs lx w h K) (G : h.Ns mainGlobals gm) : At (pgOf P w K gm base T none) (Tk 0) 1 where
  hk := Nat.le_refl 1
  h0 := (let ⟨fd, F⟩ := f4 S; ⟨_, (He.glo_ok S.in_ G (S.fact (f := .glo (Str.ofString "is_whole")) (Ev.mg 9 rfl))), F.kp, fnr_bad⟩)
  h1 := (let ⟨fd, F⟩ := f5 S; ⟨_, (He.glo_ok S.in_ G (S.fact (f := .glo (Str.ofString "is_message")) (Ev.mg 10 rfl))), F.kp, fnr_bad⟩)
  h2 := (let ⟨fd, F⟩ := f6 S; ⟨_, (He.glo_ok S.in_ G (S.fact (f := .glo (Str.ofString "number_of_sign")) (Ev.mg 11 rfl))), F.kp, fnr_bad⟩)
  h3 := (let ⟨fd, F⟩ := f7 S; ⟨_, (He.glo_ok S.in_ G (S.fact (f := .glo (Str.ofString "words_of")) (Ev.mg 12 rfl))), F.kp, fnr_bad⟩)
  h4 := (let ⟨fd, F⟩ := f8 S; ⟨_, (He.glo_ok S.in_ G (S.fact (f := .glo (Str.ofString "written")) (Ev.mg 13 rfl))), F.kp, fnr_bad⟩)
  h5 := (let ⟨fd, F⟩ := f9 S; ⟨_, (He.glo_ok S.in_ G (S.fact (f := .glo (Str.ofString "framed")) (Ev.mg 14 rfl))), F.kp, fnr_bad⟩)
  h6 := (let ⟨fd, F⟩ := f10 S; ⟨_, (He.glo_ok S.in_ G (S.fact (f := .glo (Str.ofString "number_of")) (Ev.mg 15 rfl))), F.kp, fnr_bad⟩)
  k7 := ⟨_, (He.glo_ok S.in_ G (S.fact (f := .glo (Str.ofString "Reader")) (Ev.mg 16 rfl))), (He.mkr_ok (S.fact (f := .mkr (Str.ofString "Reader")) (Ev.mg 59 rfl))), fnr_bad⟩
  h8 := ⟨_, (He.cls_ok (S.fact (f := .cls (Str.ofString "Reader")) (Ev.mg 56 rfl))), (He.meth_ok (S.fact (f := .meth (Str.ofString "Reader") (Str.ofString "word")) (Ev.mg 60 rfl))), fnr_bad⟩
  h9 := ⟨_, (He.cls_ok (S.fact (f := .cls (Str.ofString "Reader")) (Ev.mg 56 rfl))), (He.meth_ok (S.fact (f := .meth (Str.ofString "Reader") (Str.ofString "figure")) (Ev.mg 61 rfl))), fnr_bad⟩
  h10 := ⟨_, (He.cls_ok (S.fact (f := .cls (Str.ofString "Reader")) (Ev.mg 56 rfl))), (He.meth_ok (S.fact (f := .meth (Str.ofString "Reader") (Str.ofString "part")) (Ev.mg 62 rfl))), fnr_bad⟩
  h11 := ⟨_, (He.cls_ok (S.fact (f := .cls (Str.ofString "Reader")) (Ev.mg 56 rfl))), (He.meth_ok (S.fact (f := .meth (Str.ofString "Reader") (Str.ofString "condition")) (Ev.mg 63 rfl))), fnr_bad⟩
  h12 := ⟨_, (He.cls_ok (S.fact (f := .cls (Str.ofString "Reader")) (Ev.mg 56 rfl))), (He.meth_ok (S.fact (f := .meth (Str.ofString "Reader") (Str.ofString "many")) (Ev.mg 64 rfl))), fnr_bad⟩
  h13 := ⟨_, (He.cls_ok (S.fact (f := .cls (Str.ofString "Reader")) (Ev.mg 56 rfl))), (He.meth_ok (S.fact (f := .meth (Str.ofString "Reader") (Str.ofString "ask")) (Ev.mg 65 rfl))), fnr_bad⟩
  h14 := ⟨_, (He.cls_ok (S.fact (f := .cls (Str.ofString "Reader")) (Ev.mg 56 rfl))), (He.meth_ok (S.fact (f := .meth (Str.ofString "Reader") (Str.ofString "message")) (Ev.mg 66 rfl))), fnr_bad⟩
  h15 := (let ⟨fd, F⟩ := f19 S; ⟨_, (He.glo_ok S.in_ G (S.fact (f := .glo (Str.ofString "read")) (Ev.mg 17 rfl))), F.kp, fnr_bad⟩)
  h16 := (let ⟨fd, F⟩ := f20 S; ⟨_, (He.glo_ok S.in_ G (S.fact (f := .glo (Str.ofString "_law_taken")) (Ev.mg 18 rfl))), F.kp, fnr_bad⟩)
  h17 := (let ⟨fd, F⟩ := f21 S; ⟨_, (He.glo_ok S.in_ G (S.fact (f := .glo (Str.ofString "_law_alike")) (Ev.mg 19 rfl))), F.kp, fnr_bad⟩)
  h19 := (let ⟨fd, F⟩ := f23 S; ⟨_, (He.glo_ok S.in_ G (S.fact (f := .glo (Str.ofString "_law_number")) (Ev.mg 21 rfl))), F.kp, fnr_bad⟩)
  h20 := (let ⟨fd, F⟩ := f24 S; ⟨_, (He.glo_ok S.in_ G (S.fact (f := .glo (Str.ofString "_law_part")) (Ev.mg 22 rfl))), F.kp, fnr_bad⟩)
  h21 := (let ⟨fd, F⟩ := f25 S; ⟨_, (He.glo_ok S.in_ G (S.fact (f := .glo (Str.ofString "_law_condition")) (Ev.mg 23 rfl))), F.kp, fnr_bad⟩)
  h22 := (let ⟨fd, F⟩ := f26 S; ⟨_, (He.glo_ok S.in_ G (S.fact (f := .glo (Str.ofString "_law_deep")) (Ev.mg 24 rfl))), F.kp, fnr_bad⟩)
  h23 := (let ⟨fd, F⟩ := f27 S; ⟨_, (He.glo_ok S.in_ G (S.fact (f := .glo (Str.ofString "_law_any_ask")) (Ev.mg 25 rfl))), F.kp, fnr_bad⟩)
  h24 := (let ⟨fd, F⟩ := f28 S; ⟨_, (He.glo_ok S.in_ G (S.fact (f := .glo (Str.ofString "_law_things")) (Ev.mg 26 rfl))), F.kp, fnr_bad⟩)
  h25 := (let ⟨fd, F⟩ := f29 S; ⟨_, (He.glo_ok S.in_ G (S.fact (f := .glo (Str.ofString "_law_ask")) (Ev.mg 27 rfl))), F.kp, fnr_bad⟩)
  h26 := (let ⟨fd, F⟩ := f30 S; ⟨_, (He.glo_ok S.in_ G (S.fact (f := .glo (Str.ofString "_law_words")) (Ev.mg 28 rfl))), F.kp, fnr_bad⟩)
  h27 := (let ⟨fd, F⟩ := f31 S; ⟨_, (He.glo_ok S.in_ G (S.fact (f := .glo (Str.ofString "_law_any")) (Ev.mg 29 rfl))), F.kp, fnr_bad⟩)
theorem atS (S : SaysV fa fn ts xs lx w h K) (G : h.Ns mainGlobals gm) {k : Nat} (F : Fx (pgOf P w K gm base T none)) (H : At (pgOf P w K gm base T none) (Tk k) (k + 1)) : At (pgOf P w K gm base T none) (Tk (k + 1)) (k + 1 + 1) where
  hk := Nat.le_add_left 1 (k + 1)
  h0 := fnAt_of (Γ := g0_0 (k + 1)) (f4 S) (He.glo_ok S.in_ G (S.fact (f := .glo (Str.ofString "is_whole")) (Ev.mg 9 rfl))) pl0 ok0 rfl rfl rfl rfl rfl rfl (d0 F rfl rfl H)
  h1 := fnAt_of (Γ := g1_0 (k + 1)) (f5 S) (He.glo_ok S.in_ G (S.fact (f := .glo (Str.ofString "is_message")) (Ev.mg 10 rfl))) pl1 ok1 rfl rfl rfl rfl rfl rfl (d1 F rfl rfl H)
  h2 := fnAt_of (Γ := g2_0 (k + 1)) (f6 S) (He.glo_ok S.in_ G (S.fact (f := .glo (Str.ofString "number_of_sign")) (Ev.mg 11 rfl))) pl2 ok2 rfl rfl rfl rfl rfl rfl (d2 F rfl rfl H)
  h3 := fnAt_of (Γ := g3_0 (k + 1)) (f7 S) (He.glo_ok S.in_ G (S.fact (f := .glo (Str.ofString "words_of")) (Ev.mg 12 rfl))) pl3 ok3 rfl rfl rfl rfl rfl rfl (d3 F rfl rfl H)
  h4 := fnAt_of (Γ := g4_0 (k + 1)) (f8 S) (He.glo_ok S.in_ G (S.fact (f := .glo (Str.ofString "written")) (Ev.mg 13 rfl))) pl4 ok4 rfl rfl rfl rfl rfl rfl (d4 F rfl rfl H)
  h5 := fnAt_of (Γ := g5_0 (k + 1)) (f9 S) (He.glo_ok S.in_ G (S.fact (f := .glo (Str.ofString "framed")) (Ev.mg 14 rfl))) pl5 ok5 rfl rfl rfl rfl rfl rfl (d5 F rfl rfl H)
  h6 := fnAt_of (Γ := g6_0 (k + 1)) (f10 S) (He.glo_ok S.in_ G (S.fact (f := .glo (Str.ofString "number_of")) (Ev.mg 15 rfl))) pl6 ok6 rfl rfl rfl rfl rfl rfl (d6 F rfl rfl H)
  k7 := mkAt_of (Γ := g7_0 (k + 1)) (f11 S) (He.glo_ok S.in_ G (S.fact (f := .glo (Str.ofString "Reader")) (Ev.mg 16 rfl))) (He.mkr_ok (S.fact (f := .mkr (Str.ofString "Reader")) (Ev.mg 59 rfl))) pl7 ok7 rfl rfl rfl rfl rfl rfl (d7 F rfl rfl H)
  h8 := mtAt_of (Γ := g8_0 (k + 1)) (f12 S) (He.cls_ok (S.fact (f := .cls (Str.ofString "Reader")) (Ev.mg 56 rfl))) (He.meth_ok (S.fact (f := .meth (Str.ofString "Reader") (Str.ofString "word")) (Ev.mg 60 rfl))) pl8 ok8 rfl rfl rfl rfl rfl rfl (d8 F rfl rfl H)
  h9 := mtAt_of (Γ := g9_0 (k + 1)) (f13 S) (He.cls_ok (S.fact (f := .cls (Str.ofString "Reader")) (Ev.mg 56 rfl))) (He.meth_ok (S.fact (f := .meth (Str.ofString "Reader") (Str.ofString "figure")) (Ev.mg 61 rfl))) pl9 ok9 rfl rfl rfl rfl rfl rfl (d9 F rfl rfl H)
  h10 := mtAt_of (Γ := g10_0 (k + 1)) (f14 S) (He.cls_ok (S.fact (f := .cls (Str.ofString "Reader")) (Ev.mg 56 rfl))) (He.meth_ok (S.fact (f := .meth (Str.ofString "Reader") (Str.ofString "part")) (Ev.mg 62 rfl))) pl10 ok10 rfl rfl rfl rfl rfl rfl (d10 F rfl rfl H)
  h11 := mtAt_of (Γ := g11_0 (k + 1)) (f15 S) (He.cls_ok (S.fact (f := .cls (Str.ofString "Reader")) (Ev.mg 56 rfl))) (He.meth_ok (S.fact (f := .meth (Str.ofString "Reader") (Str.ofString "condition")) (Ev.mg 63 rfl))) pl11 ok11 rfl rfl rfl rfl rfl rfl (d11 F rfl rfl H)
  h12 := mtAt_of (Γ := g12_0 (k + 1)) (f16 S) (He.cls_ok (S.fact (f := .cls (Str.ofString "Reader")) (Ev.mg 56 rfl))) (He.meth_ok (S.fact (f := .meth (Str.ofString "Reader") (Str.ofString "many")) (Ev.mg 64 rfl))) pl12 ok12 rfl rfl rfl rfl rfl rfl (d12 F rfl rfl H)
  h13 := mtAt_of (Γ := g13_0 (k + 1)) (f17 S) (He.cls_ok (S.fact (f := .cls (Str.ofString "Reader")) (Ev.mg 56 rfl))) (He.meth_ok (S.fact (f := .meth (Str.ofString "Reader") (Str.ofString "ask")) (Ev.mg 65 rfl))) pl13 ok13 rfl rfl rfl rfl rfl rfl (d13 F rfl rfl H)
  h14 := mtAt_of (Γ := g14_0 (k + 1)) (f18 S) (He.cls_ok (S.fact (f := .cls (Str.ofString "Reader")) (Ev.mg 56 rfl))) (He.meth_ok (S.fact (f := .meth (Str.ofString "Reader") (Str.ofString "message")) (Ev.mg 66 rfl))) pl14 ok14 rfl rfl rfl rfl rfl rfl (d14 F rfl rfl H)
  h15 := fnAt_of (Γ := g15_0 (k + 1)) (f19 S) (He.glo_ok S.in_ G (S.fact (f := .glo (Str.ofString "read")) (Ev.mg 17 rfl))) pl15 ok15 rfl rfl rfl rfl rfl rfl (d15 F rfl rfl H)
  h16 := fnAt_of (Γ := g16_0 (k + 1)) (f20 S) (He.glo_ok S.in_ G (S.fact (f := .glo (Str.ofString "_law_taken")) (Ev.mg 18 rfl))) pl16 ok16 rfl rfl rfl rfl rfl rfl (d16 F rfl rfl H)
  h17 := fnAt_of (Γ := g17_0 (k + 1)) (f21 S) (He.glo_ok S.in_ G (S.fact (f := .glo (Str.ofString "_law_alike")) (Ev.mg 19 rfl))) pl17 ok17 rfl rfl rfl rfl rfl rfl (d17 F rfl rfl H)
  h19 := fnAt_of (Γ := g19_0 (k + 1)) (f23 S) (He.glo_ok S.in_ G (S.fact (f := .glo (Str.ofString "_law_number")) (Ev.mg 21 rfl))) pl19 ok19 rfl rfl rfl rfl rfl rfl (d19 F rfl rfl H)
  h20 := fnAt_of (Γ := g20_0 (k + 1)) (f24 S) (He.glo_ok S.in_ G (S.fact (f := .glo (Str.ofString "_law_part")) (Ev.mg 22 rfl))) pl20 ok20 rfl rfl rfl rfl rfl rfl (d20 F rfl rfl H)
  h21 := fnAt_of (Γ := g21_0 (k + 1)) (f25 S) (He.glo_ok S.in_ G (S.fact (f := .glo (Str.ofString "_law_condition")) (Ev.mg 23 rfl))) pl21 ok21 rfl rfl rfl rfl rfl rfl (d21 F rfl rfl H)
  h22 := fnAt_of (Γ := g22_0 (k + 1)) (f26 S) (He.glo_ok S.in_ G (S.fact (f := .glo (Str.ofString "_law_deep")) (Ev.mg 24 rfl))) pl22 ok22 rfl rfl rfl rfl rfl rfl (d22 F rfl rfl H)
  h23 := fnAt_of (Γ := g23_0 (k + 1)) (f27 S) (He.glo_ok S.in_ G (S.fact (f := .glo (Str.ofString "_law_any_ask")) (Ev.mg 25 rfl))) pl23 ok23 rfl rfl rfl rfl rfl rfl (d23 F rfl rfl H)
  h24 := fnAt_of (Γ := g24_0 (k + 1)) (f28 S) (He.glo_ok S.in_ G (S.fact (f := .glo (Str.ofString "_law_things")) (Ev.mg 26 rfl))) pl24 ok24 rfl rfl rfl rfl rfl rfl (d24 F rfl rfl H)
  h25 := fnAt_of (Γ := g25_0 (k + 1)) (f29 S) (He.glo_ok S.in_ G (S.fact (f := .glo (Str.ofString "_law_ask")) (Ev.mg 27 rfl))) pl25 ok25 rfl rfl rfl rfl rfl rfl (d25 F rfl rfl H)
  h26 := fnAt_of (Γ := g26_0 (k + 1)) (f30 S) (He.glo_ok S.in_ G (S.fact (f := .glo (Str.ofString "_law_words")) (Ev.mg 28 rfl))) pl26 ok26 rfl rfl rfl rfl rfl rfl (d26 F rfl rfl H)
  h27 := fnAt_of (Γ := g27_0 (k + 1)) (f31 S) (He.glo_ok S.in_ G (S.fact (f := .glo (Str.ofString "_law_any")) (Ev.mg 29 rfl))) pl27 ok27 rfl rfl rfl rfl rfl rfl (d27 F rfl rfl H)
theorem at_ (S : SaysV fa fn ts xs lx w h K) (G : h.Ns mainGlobals gm) : ∀ k, At (pgOf P w K gm base T none) (Tk k) (k + 1)
  | 0 => at0 S G
  | k + 1 => atS S G (fx S G) (at_ S G k)
end
theorem law_holds (KK : Nat) (hr : Room (2 * (KK + 3) + 1 + 1) callerA) (hm : ∀ (ns : List Int) (d : Ev.D), ns.length ≤ 63 → (∀ z ∈ ns, Builtin.Int.intBits z ≤ 1048576) → IsScr d ns → ∃ M, lawFn KK [d] [] = .ok (.bl true) M) : PySem.Challenge.rw_portaldesk_k14_written_and_read.Holds := by
  open PySem.W PySem.Calls in
  w_on; o_law
  refine HandSHeadRun.head_any (r := OpenLaw.row PySem.Challenge.rw_portaldesk_k14_written_and_read) (q := view (OpenLaw.row PySem.Challenge.rw_portaldesk_k14_written_and_read).prog [50]) (H := hk) (ob := ob) (M := 6000) (loose := names) (d := HandSHeadRun.topDef (OpenLaw.row PySem.Challenge.rw_portaldesk_k14_written_and_read).prog 50) (kwd := []) ob_eq
    (by kernel_rfl) (fun s => by kernel_rfl) run (by kernel_rfl) (by kernel_rfl) (by kernel_rfl) (by rfl) (by first | assumption | decide +kernel) (by decide +kernel) ⟨rfl, rfl, rfl, rfl, rfl, by decide +kernel⟩ ?hw ?hc
  case hw => w_witness2
  case hc =>
    refine LamX.walk_ofTsE (l := PySem.Challenge.rw_portaldesk_k14_written_and_read) (n := 63) (k := 2 * (KK + 3) + 1 + 1) (x := Str.ofString "_law_script") (CX := fun w => L2.CX PySem.Challenge.pw_portaldesk_k14_written_and_read w) rfl (by decide) (by kernel_rfl) hr ?F (fun w H s e s' z => ?_)
    · intro w gm fa' h Y G hmg0
      obtain ⟨K, S⟩ := Y
      refine ⟨K, S.in_, ?_⟩
      have hmg : gm (Str.ofString "law") = some (.ref fa') := by
        have e : (HandSHeadRun.topDef (OpenLaw.row PySem.Challenge.rw_portaldesk_k14_written_and_read).prog 50).name = Str.ofString "law" := by kernel_rfl
        rw [← e]
        exact hmg0
      obtain ⟨fd, F⟩ := f32 S
      obtain ⟨c, P, ht, hcd, hP, hPh⟩ := S.l _ (Ev.mg 0 rfl)
      have e := hmg.symm.trans (He.glo_ok S.in_ G (S.fact (f := .glo (Str.ofString "law")) (Ev.mg 30 rfl)))
      cases e
      have hcode := tab_code ht F
      refine law_at (F := lawFn KK) (qual := Str.ofString "law" ++ ".<locals>.") (tq := Str.ofString "law" ++ ".<locals>." ++ "<lambda>") (c := c) (P := P) (fun s u => bindsPA F pl28 s [u] rfl) (S.x noList (Ev.mg 0 rfl)) hPh hP hcd hm fun base hB hN TB => ?_
      have F0 : Fx (pgOf PySem.Challenge.pw_portaldesk_k14_written_and_read w K gm base [(P, Str.ofString "law" ++ ".<locals>." ++ "<lambda>")] none) := fx S G
      have A0 := at_ (P := PySem.Challenge.pw_portaldesk_k14_written_and_read) (base := base) (T := [(P, Str.ofString "law" ++ ".<locals>." ++ "<lambda>")]) S G KK
      have d' := ok28.at (Γ := g28_0 (KK + 1 + 2)) rfl
      refine fn_okV (p := pgOf PySem.Challenge.pw_portaldesk_k14_written_and_read w K gm base [(P, Str.ofString "law" ++ ".<locals>." ++ "<lambda>")] (some (c, Str.ofString "law" ++ ".<locals>."))) (Γ := g28_0 (KK + 1 + 2)) F d'.S d'.sc rfl rfl rfl (fun a q e => ?_) (d28 (p := pgOf PySem.Challenge.pw_portaldesk_k14_written_and_read w K gm base [(P, Str.ofString "law" ++ ".<locals>." ++ "<lambda>")] (some (c, Str.ofString "law" ++ ".<locals>."))) (F0.re ⟨rfl, rfl, rfl, rfl, rfl⟩) rfl rfl ⟨c, _, P, rfl, TB, List.mem_singleton_self _, fun t ht _ => by rw [List.mem_singleton.mp ht]⟩ (A0.re ⟨⟨rfl, rfl, rfl, rfl, rfl⟩, rfl, rfl⟩))
      cases e
      exact ⟨hcode, rfl⟩
    · obtain ⟨a, B, H', cls, d, rfl, fl, hok, ub, na, os, ag, hE⟩ := z
      exact hE
end K14W

set_option maxHeartbeats 2000000
/-! k14, the plain law: numbers as texts. -/
namespace K14
open PySem L2 Ev

def sI (i : Int) : String := toString i
def figs : String := "0123456789"
def chkN (n : Nat) : Bool :=
  let s := sI (n : Int)
  decide (1 ≤ s.length) && (decide (s.length ≤ 3) && (s.toList.all (fun c => figs.toList.contains c) && decide (PySem.intText? (PySem.Str.ofString s) = some (n : Int))))
theorem all1000 : ∀ n, n < 1000 → chkN n = true := by decide +kernel
structure NumT (n : Int) : Prop where
  l1 : 1 ≤ (sI n).length
  l3 : (sI n).length ≤ 3
  fg : ∀ c ∈ (sI n).toList, c ∈ figs.toList
  int : PySem.intText? (PySem.Str.ofString (sI n)) = some n
theorem numT {n : Int} (h0 : 0 ≤ n) (h1 : n < 1000) : NumT n := by
  obtain ⟨m, rfl⟩ := Int.eq_ofNat_of_zero_le h0
  have h := all1000 m (by omega)
  unfold chkN at h
  simp only [Bool.and_eq_true, decide_eq_true_eq, List.all_eq_true, List.contains_iff_mem] at h
  exact ⟨h.1, h.2.1, h.2.2.1, h.2.2.2⟩
end K14

set_option maxHeartbeats 2000000
/-! k14, the plain law: asks; how many things. -/
namespace K14
open PySem L2 Ev

inductive Part where
  | num (n : Int) | col (k : Nat) | worth (k : Nat) | add (a b : Part)
inductive Cond where
  | all | is (a b : Part) | less (a b : Part) | not (c : Cond) | both (c d : Cond)
inductive Ask where
  | rows (t : Nat) (c : Cond) (ps : List Part) | put (t : Nat) (ps : List Part) | drop (t : Nat) (c : Cond) | set (t k : Nat) (e : Part) (c : Cond)
def encP : Part → D
  | .num n => .tup [.str "num", .int n]
  | .col k => .tup [.str "col", .int k]
  | .worth k => .tup [.str "worth", .int k]
  | .add a b => .tup [.str "add", encP a, encP b]
def encC : Cond → D
  | .all => .tup [.str "all"]
  | .is a b => .tup [.str "is", encP a, encP b]
  | .less a b => .tup [.str "less", encP a, encP b]
  | .not c => .tup [.str "not", encC c]
  | .both c d => .tup [.str "both", encC c, encC d]
def encA : Ask → D
  | .rows t c ps => .tup [.str "rows", .int t, encC c, .tup (ps.map encP)]
  | .put t ps => .tup [.str "put", .int t, .tup (ps.map encP)]
  | .drop t c => .tup [.str "drop", .int t, encC c]
  | .set t k e c => .tup [.str "set", .int t, .int k, encP e, encC c]
/-- fits rows so wide, worths so many -/
def okP (wide many : Nat) : Part → Prop
  | .num n => 0 ≤ n ∧ n < 1000
  | .col k => k < wide
  | .worth k => k < many
  | .add a b => okP wide many a ∧ okP wide many b
def okC (wide many : Nat) : Cond → Prop
  | .all => True
  | .is a b => okP wide many a ∧ okP wide many b
  | .less a b => okP wide many a ∧ okP wide many b
  | .not c => okC wide many c
  | .both c d => okC wide many c ∧ okC wide many d
def szP : Part → Nat
  | .add a b => szP a + szP b + 1
  | _ => 1
def szC : Cond → Nat
  | .all => 1
  | .is a b => szP a + szP b + 1
  | .less a b => szP a + szP b + 1
  | .not c => szC c + 1
  | .both c d => szC c + szC d + 1
def encR (row : List Int) : D := .tup (row.map .int)
theorem Tk_succ (k : Nat) : Tk (k + 1) = Fi (Tk k) := rfl
theorem szP_pos : ∀ p : Part, 0 < szP p := fun p => by cases p <;> simp [szP]
theorem szC_pos : ∀ p : Cond, 0 < szC p := fun p => by cases p <;> simp [szC]
theorem plains_map {α : Type} {f : α → D} {xs : List α} (h : ∀ x, Ev.plain (f x) = true) : plains (xs.map f) = true := by
  induction xs with
  | nil => rfl
  | cons x xs ih => simp [plains, h, ih]
theorem depDs_map {α : Type} {f : α → D} {xs : List α} {n : Nat} (h : ∀ x ∈ xs, depD (f x) ≤ n) : depDs (xs.map f) ≤ n := by
  induction xs with
  | nil => simp [depDs]
  | cons x xs ih =>
    simp only [List.map_cons, depDs]
    exact Nat.max_le.mpr ⟨h x List.mem_cons_self, ih fun y hy => h y (List.mem_cons_of_mem _ hy)⟩
theorem get_lt {M : List MO} {n : Nat} {o : MO} (h : M[n]? = some o) : n < M.length := (List.getElem?_eq_some_iff.mp h).1
theorem gs {M : List MO} {n : Nat} {o : MO} (h : M[n]? = some o) (a : MO) : (M.set n a)[n]? = some a := List.getElem?_set_self (get_lt h)
theorem plain_encP : ∀ p : Part, Ev.plain (encP p) = true
  | .num _ => by simp [encP, Ev.plain, plains]
  | .col _ => by simp [encP, Ev.plain, plains]
  | .worth _ => by simp [encP, Ev.plain, plains]
  | .add a b => by simp [encP, Ev.plain, plains, plain_encP a, plain_encP b]
theorem dep_encP : ∀ p : Part, depD (encP p) ≤ szP p
  | .num _ => by simp [encP, depD, depDs, szP]
  | .col _ => by simp [encP, depD, depDs, szP]
  | .worth _ => by simp [encP, depD, depDs, szP]
  | .add a b => by
    have h1 := dep_encP a
    have h2 := dep_encP b
    simp [encP, depD, depDs, szP]
    omega
theorem plain_encC : ∀ p : Cond, Ev.plain (encC p) = true
  | .all => by simp [encC, Ev.plain, plains]
  | .is a b => by simp [encC, Ev.plain, plains, plain_encP]
  | .less a b => by simp [encC, Ev.plain, plains, plain_encP]
  | .not c => by simp [encC, Ev.plain, plains, plain_encC c]
  | .both c d => by simp [encC, Ev.plain, plains, plain_encC c, plain_encC d]
theorem dep_encC : ∀ p : Cond, depD (encC p) ≤ szC p
  | .all => by simp [encC, depD, depDs, szC]
  | .is a b => by
    have h1 := dep_encP a
    have h2 := dep_encP b
    simp [encC, depD, depDs, szC]
    omega
  | .less a b => by
    have h1 := dep_encP a
    have h2 := dep_encP b
    simp [encC, depD, depDs, szC]
    omega
  | .not c => by
    have h1 := dep_encC c
    simp [encC, depD, depDs, szC]
    omega
  | .both c d => by
    have h1 := dep_encC c
    have h2 := dep_encC d
    simp [encC, depD, depDs, szC]
    omega
def szPs : List Part → Nat
  | [] => 0
  | p :: ps => szP p + szPs ps
def szA : Ask → Nat
  | .rows _ c ps => szC c + szPs ps + 1
  | .put _ ps => szPs ps + 1
  | .drop _ c => szC c + 1
  | .set _ _ e c => szP e + szC c + 1
/-- fits tables so wide; worths so many -/
def okA (W : List Nat) (many : Nat) : Ask → Prop
  | .rows t c ps => ∃ w, W[t]? = some w ∧ okC w many c ∧ (∀ p ∈ ps, okP w many p) ∧ 1 ≤ ps.length ∧ ps.length ≤ 4
  | .put t ps => ∃ w, W[t]? = some w ∧ (∀ p ∈ ps, okP 0 many p) ∧ ps.length = w ∧ 1 ≤ ps.length ∧ ps.length ≤ 4
  | .drop t c => ∃ w, W[t]? = some w ∧ okC w many c
  | .set t k e c => ∃ w, W[t]? = some w ∧ k < w ∧ okP w many e ∧ okC w many c
theorem atI_W {W : List Nat} {t w : Nat} (h : W[t]? = some w) : atI (W.map fun (n : Nat) => D.int (n : Int)) (t : Int) = some (.int w) := by
  have := (List.getElem?_eq_some_iff.mp h).1
  rw [atI_nat (by omega) (by simp; omega)]
  simp [h]
theorem szPs_app {ps qs : List Part} : szPs (ps ++ qs) = szPs ps + szPs qs := by
  induction ps with
  | nil => simp [szPs]
  | cons p ps ih => simp [szPs, ih]; omega
theorem szPs_mem {ps : List Part} {p : Part} (h : p ∈ ps) : szP p ≤ szPs ps := by
  induction ps with
  | nil => cases h
  | cons q ps ih =>
    rcases List.mem_cons.mp h with rfl | h
    · simp [szPs]
    · have := ih h
      simp [szPs]
      omega
theorem set_same {M : List MO} {n : Nat} {o : MO} (h : M[n]? = some o) : M.set n o = M := by
  have := (List.getElem?_eq_some_iff.mp h).2
  rw [← this, List.set_getElem_self]
def dep_Ps {ps : List Part} : depDs (ps.map encP) ≤ szPs ps := depDs_map fun p hp => Nat.le_trans (dep_encP p) (szPs_mem hp)
/-- what a loop has put together behind i turns -/
def accF {α β : Type} (f : α → Option β) (l : List α) (i : Nat) : List β := (l.take i).filterMap f
theorem accF_0 {α β : Type} {f : α → Option β} {l : List α} : accF f l 0 = [] := by simp [accF]
theorem accF_all {α β : Type} {f : α → Option β} {l : List α} : accF f l l.length = l.filterMap f := by simp [accF]
theorem accF_succ {α β : Type} {f : α → Option β} {l : List α} {i : Nat} {x : α} (h : l[i]? = some x) : accF f l (i + 1) = accF f l i ++ (f x).toList := by
  unfold accF
  rw [List.take_add_one, h, List.filterMap_append]
  cases hf : f x <;> simp [hf]
theorem accF_le {α β : Type} {f : α → Option β} {l : List α} {i : Nat} : (accF f l i).length ≤ l.length := Nat.le_trans (List.length_filterMap_le _ _) (by simp; omega)
theorem fm_none {α β : Type} {ys : List α} : ys.filterMap (fun _ => (none : Option β)) = [] := by
  induction ys with
  | nil => rfl
  | cons y ys ih => simp [ih]
theorem atI_j {α : Type} {xs : List α} {j : Nat} {x : α} (h : xs[j]? = some x) : atI xs (j : Int) = some x := by
  have := (List.getElem?_eq_some_iff.mp h).1
  rw [atI_nat (by omega) (by omega)]
  simpa using h
theorem intsOf_map {ns : List Int} : intsOf (ns.map D.int) = some ns := by
  induction ns with
  | nil => rfl
  | cons n ns ih => simp [intsOf, ih]
@[simp] theorem oSum_ints {M : List MO} {ns : List Int} : oSum M (.lst (ns.map D.int)) = some (.int ns.sum) := by
  show (intsOf (ns.map D.int)).map _ = _
  rw [intsOf_map]
  rfl
theorem th_int {M : List MO} {k : Nat} {n : Int} : Tk (k + 1) 24 [.int n] M = .ok (.int 0) M := by
  refine CP.eq ?_
  rw [T24, CP_mkFn]
  simp [m24, N24, isI]
theorem th_str {M : List MO} {k : Nat} {n : String} : Tk (k + 1) 24 [.str n] M = .ok (.int 0) M := by
  refine CP.eq ?_
  rw [T24, CP_mkFn]
  simp [m24, N24, isI]
/-- a thing with a word ahead -/
theorem th_word {M : List MO} {k : Nat} {x : String} {q : List (D × Int)} (hq : ∀ z ∈ q, Tk (k + 1) 24 [z.1] M = .ok (.int z.2) M) (hp : plains (q.map Prod.fst) = true) (hd : depDs (q.map Prod.fst) ≤ 62) (hl : q.length ≤ 10) : Tk (k + 2) 24 [.tup (.str x :: q.map Prod.fst)] M = .ok (.int (1 + (q.map Prod.snd).sum)) M := by
  refine CP.eq ?_
  rw [T24, CP_mkFn]
  have e1 : eqWhole M (.tup (.str x :: q.map Prod.fst)) (.tup []) = some false := by
    rw [eqW_tupN (by simp [plains, hp, Ev.plain]) (by simp [depD, depDs]; omega)]
    rfl
  simp [m24, N24, isI, e1]
  refine lc_map ((D.str x, (0 : Int)) :: q) Prod.fst (fun z => some (.int z.2)) (by simp; omega) (by simp) (by simp [okW, SV.own]) (fun z hz => ?_) ?_
  · have h1 : Tk (k + 1) 24 [z.1] M = .ok (.int z.2) M := by
      rcases List.mem_cons.mp hz with rfl | hz
      · exact th_str
      · exact hq z hz
    simp [lcEl, wipeL, h1]
  · rw [fm_some]
    have e2 : ((D.str x, (0 : Int)) :: q).map (fun z => D.int z.2) = (0 :: q.map Prod.snd).map D.int := by simp
    rw [e2]
    simp only [oSum_ints, WP_pure]
    simp
theorem th_tup {M : List MO} {k : Nat} {q : List (D × Int)} (hq : ∀ z ∈ q, Tk (k + 1) 24 [z.1] M = .ok (.int z.2) M) (ht : ∀ z ∈ q, ∃ xs, z.1 = .tup xs) (hp : plains (q.map Prod.fst) = true) (hd : depDs (q.map Prod.fst) ≤ 62) (hl : q.length ≤ 10) (h0 : 0 < q.length) : Tk (k + 2) 24 [.tup (q.map Prod.fst)] M = .ok (.int (q.map Prod.snd).sum) M := by
  refine CP.eq ?_
  rw [T24, CP_mkFn]
  obtain ⟨z0, q', rfl⟩ : ∃ z0 q', q = z0 :: q' := by cases q with | nil => simp at h0 | cons a b => exact ⟨a, b, rfl⟩
  obtain ⟨d0, n0⟩ := z0
  obtain ⟨xs, hx⟩ := ht (d0, n0) List.mem_cons_self
  dsimp only at hx
  subst hx
  have e1 : eqWhole M (.tup (((.tup xs, n0) :: q').map Prod.fst)) (.tup []) = some false := by
    rw [eqW_tupN hp (by simp only [depD]; omega)]
    rfl
  simp only [List.map_cons] at e1
  simp [m24, N24, isI, e1]
  refine lc_map ((.tup xs, n0) :: q') Prod.fst (fun z => some (.int z.2)) (by simp at hl ⊢; omega) (by simp) (by simp [okW, SV.own]) (fun z hz => ?_) ?_
  · have h1 := hq z hz
    simp [lcEl, wipeL, h1]
  · rw [fm_some]
    have e2 : (((.tup xs, n0) : D × Int) :: q').map (fun z => D.int z.2) = ((((.tup xs, n0) : D × Int) :: q').map Prod.snd).map D.int := by simp
    rw [e2]
    simp only [oSum_ints]
    simp
theorem th_P {M : List MO} : ∀ (p : Part) (k : Nat), szP p + 1 ≤ k → szP p ≤ 60 → Tk k 24 [encP p] M = .ok (.int (szP p)) M
  | .num n, k, hk, hs => by
    obtain ⟨k, rfl⟩ : ∃ j, k = j + 2 := ⟨k - 2, by have : 1 + 1 ≤ k := hk; omega⟩
    have := th_word (M := M) (k := k) (x := "num") (q := [(.int n, 0)]) (by simp [th_int]) (by rfl) (by simp [depDs, depD]) (by simp)
    exact this
  | .col n, k, hk, hs => by
    obtain ⟨k, rfl⟩ : ∃ j, k = j + 2 := ⟨k - 2, by have : 1 + 1 ≤ k := hk; omega⟩
    have := th_word (M := M) (k := k) (x := "col") (q := [(.int n, 0)]) (by simp [th_int]) (by rfl) (by simp [depDs, depD]) (by simp)
    exact this
  | .worth n, k, hk, hs => by
    obtain ⟨k, rfl⟩ : ∃ j, k = j + 2 := ⟨k - 2, by have : 1 + 1 ≤ k := hk; omega⟩
    have := th_word (M := M) (k := k) (x := "worth") (q := [(.int n, 0)]) (by simp [th_int]) (by rfl) (by simp [depDs, depD]) (by simp)
    exact this
  | .add a b, k, hk, hs => by
    have p1 := szP_pos a
    have p2 := szP_pos b
    have hs : szP a + szP b + 1 ≤ 60 := hs
    have hk : szP a + szP b + 1 + 1 ≤ k := hk
    obtain ⟨k, rfl⟩ : ∃ j, k = j + 2 := ⟨k - 2, by omega⟩
    have h1 := th_P (M := M) a (k + 1) (by omega) (by omega)
    have h2 := th_P (M := M) b (k + 1) (by omega) (by omega)
    have d1 := dep_encP a
    have d2 := dep_encP b
    have := th_word (M := M) (k := k) (x := "add") (q := [(encP a, szP a), (encP b, szP b)]) (by simp [h1, h2]) (by simp [plains, plain_encP]) (by simp [depDs]; omega) (by simp)
    rw [show szP (.add a b) = szP a + szP b + 1 from rfl]
    rw [show (((szP a + szP b + 1 : Nat) : Int)) = 1 + ([(encP a, (szP a : Int)), (encP b, (szP b : Int))].map Prod.snd).sum by simp; omega]
    exact this
theorem th_C {M : List MO} : ∀ (p : Cond) (k : Nat), szC p + 1 ≤ k → szC p ≤ 60 → Tk k 24 [encC p] M = .ok (.int (szC p)) M
  | .all, k, hk, hs => by
    obtain ⟨k, rfl⟩ : ∃ j, k = j + 2 := ⟨k - 2, by have : 1 + 1 ≤ k := hk; omega⟩
    have := th_word (M := M) (k := k) (x := "all") (q := []) (by simp) (by rfl) (by simp [depDs, depD]) (by simp)
    exact this
  | .is a b, k, hk, hs => by
    have p1 := szP_pos a
    have p2 := szP_pos b
    have hs : szP a + szP b + 1 ≤ 60 := hs
    have hk : szP a + szP b + 1 + 1 ≤ k := hk
    obtain ⟨k, rfl⟩ : ∃ j, k = j + 2 := ⟨k - 2, by omega⟩
    have h1 := th_P (M := M) a (k + 1) (by omega) (by omega)
    have h2 := th_P (M := M) b (k + 1) (by omega) (by omega)
    have d1 := dep_encP a
    have d2 := dep_encP b
    have := th_word (M := M) (k := k) (x := "is") (q := [(encP a, szP a), (encP b, szP b)]) (by simp [h1, h2]) (by simp [plains, plain_encP]) (by simp [depDs]; omega) (by simp)
    rw [show szC (.is a b) = szP a + szP b + 1 from rfl]
    rw [show (((szP a + szP b + 1 : Nat) : Int)) = 1 + ([(encP a, (szP a : Int)), (encP b, (szP b : Int))].map Prod.snd).sum by simp; omega]
    exact this
  | .less a b, k, hk, hs => by
    have p1 := szP_pos a
    have p2 := szP_pos b
    have hs : szP a + szP b + 1 ≤ 60 := hs
    have hk : szP a + szP b + 1 + 1 ≤ k := hk
    obtain ⟨k, rfl⟩ : ∃ j, k = j + 2 := ⟨k - 2, by omega⟩
    have h1 := th_P (M := M) a (k + 1) (by omega) (by omega)
    have h2 := th_P (M := M) b (k + 1) (by omega) (by omega)
    have d1 := dep_encP a
    have d2 := dep_encP b
    have := th_word (M := M) (k := k) (x := "less") (q := [(encP a, szP a), (encP b, szP b)]) (by simp [h1, h2]) (by simp [plains, plain_encP]) (by simp [depDs]; omega) (by simp)
    rw [show szC (.less a b) = szP a + szP b + 1 from rfl]
    rw [show (((szP a + szP b + 1 : Nat) : Int)) = 1 + ([(encP a, (szP a : Int)), (encP b, (szP b : Int))].map Prod.snd).sum by simp; omega]
    exact this
  | .not c, k, hk, hs => by
    have p1 := szC_pos c
    have hs : szC c + 1 ≤ 60 := hs
    have hk : szC c + 1 + 1 ≤ k := hk
    obtain ⟨k, rfl⟩ : ∃ j, k = j + 2 := ⟨k - 2, by omega⟩
    have h1 := th_C (M := M) c (k + 1) (by omega) (by omega)
    have d1 := dep_encC c
    have := th_word (M := M) (k := k) (x := "not") (q := [(encC c, szC c)]) (by simp [h1]) (by simp [plains, plain_encC]) (by simp [depDs]; omega) (by simp)
    rw [show szC (.not c) = szC c + 1 from rfl]
    rw [show (((szC c + 1 : Nat) : Int)) = 1 + ([(encC c, (szC c : Int))].map Prod.snd).sum by simp; omega]
    exact this
  | .both c d, k, hk, hs => by
    have p1 := szC_pos c
    have p2 := szC_pos d
    have hs : szC c + szC d + 1 ≤ 60 := hs
    have hk : szC c + szC d + 1 + 1 ≤ k := hk
    obtain ⟨k, rfl⟩ : ∃ j, k = j + 2 := ⟨k - 2, by omega⟩
    have h1 := th_C (M := M) c (k + 1) (by omega) (by omega)
    have h2 := th_C (M := M) d (k + 1) (by omega) (by omega)
    have d1 := dep_encC c
    have d2 := dep_encC d
    have := th_word (M := M) (k := k) (x := "both") (q := [(encC c, szC c), (encC d, szC d)]) (by simp [h1, h2]) (by simp [plains, plain_encC]) (by simp [depDs]; omega) (by simp)
    rw [show szC (.both c d) = szC c + szC d + 1 from rfl]
    rw [show (((szC c + szC d + 1 : Nat) : Int)) = 1 + ([(encC c, (szC c : Int)), (encC d, (szC d : Int))].map Prod.snd).sum by simp; omega]
    exact this
theorem encP_tup (p : Part) : ∃ xs, encP p = .tup xs := by cases p <;> exact ⟨_, rfl⟩
theorem sum_szPs {ps : List Part} : (ps.map fun p => (szP p : Int)).sum = (szPs ps : Nat) := by
  induction ps with
  | nil => rfl
  | cons p ps ih => simp [szPs, ih]
theorem th_Ps {M : List MO} {ps : List Part} {k : Nat} (hk : szPs ps + 2 ≤ k) (hs : szPs ps ≤ 60) (h0 : 0 < ps.length) (hl : ps.length ≤ 10) : Tk k 24 [.tup (ps.map encP)] M = .ok (.int (szPs ps)) M := by
  obtain ⟨k, rfl⟩ : ∃ j, k = j + 2 := ⟨k - 2, by omega⟩
  have d := dep_Ps (ps := ps)
  have e1 : (ps.map fun p => (encP p, (szP p : Int))).map Prod.fst = ps.map encP := by simp
  have e2 : ((ps.map fun p => (encP p, (szP p : Int))).map Prod.snd).sum = (szPs ps : Nat) := by rw [← sum_szPs]; simp [Function.comp_def]
  have := th_tup (M := M) (k := k) (q := ps.map fun p => (encP p, (szP p : Int))) (fun z hz => by
    obtain ⟨p, hp, rfl⟩ := List.mem_map.mp hz
    have := szPs_mem hp
    exact th_P p (k + 1) (by omega) (by omega)) (fun z hz => by
    obtain ⟨p, hp, rfl⟩ := List.mem_map.mp hz
    exact encP_tup p) (by rw [e1]; exact plains_map plain_encP) (by rw [e1]; omega) (by simpa using hl) (by simpa using h0)
  rw [e1, e2] at this
  exact this
def goodLen : Ask → Prop
  | .rows _ _ ps => 0 < ps.length ∧ ps.length ≤ 10
  | .put _ ps => 0 < ps.length ∧ ps.length ≤ 10
  | _ => True
theorem th_A {M : List MO} (a : Ask) {k : Nat} (hk : 70 ≤ k) (hs : szA a ≤ 60) (hg : goodLen a) : Tk k 24 [encA a] M = .ok (.int (szA a)) M := by
  obtain ⟨k, rfl⟩ : ∃ j, k = j + 2 := ⟨k - 2, by omega⟩
  cases a with
  | rows t c ps =>
    have hs : szC c + szPs ps + 1 ≤ 60 := hs
    have h1 := th_C (M := M) c (k + 1) (by omega) (by omega)
    have h2 := th_Ps (M := M) (ps := ps) (k := k + 1) (by omega) (by omega) hg.1 hg.2
    have d1 := dep_encC c
    have d2 := dep_Ps (ps := ps)
    have := th_word (M := M) (k := k) (x := "rows") (q := [(.int t, 0), (encC c, szC c), (.tup (ps.map encP), szPs ps)]) (by simp [h1, h2, th_int]) (by simp [plains, plain_encC, Ev.plain, plains_map plain_encP]) (by simp [depDs, depD]; omega) (by simp)
    rw [show szA (.rows t c ps) = szC c + szPs ps + 1 from rfl]
    rw [show (((szC c + szPs ps + 1 : Nat) : Int)) = 1 + ([((.int t : D), (0 : Int)), (encC c, (szC c : Int)), (.tup (ps.map encP), (szPs ps : Int))].map Prod.snd).sum by simp; omega]
    exact this
  | put t ps =>
    have hs : szPs ps + 1 ≤ 60 := hs
    have h2 := th_Ps (M := M) (ps := ps) (k := k + 1) (by omega) (by omega) hg.1 hg.2
    have d2 := dep_Ps (ps := ps)
    have := th_word (M := M) (k := k) (x := "put") (q := [(.int t, 0), (.tup (ps.map encP), szPs ps)]) (by simp [h2, th_int]) (by simp [plains, Ev.plain, plains_map plain_encP]) (by simp [depDs, depD]; omega) (by simp)
    rw [show szA (.put t ps) = szPs ps + 1 from rfl]
    rw [show (((szPs ps + 1 : Nat) : Int)) = 1 + ([((.int t : D), (0 : Int)), (.tup (ps.map encP), (szPs ps : Int))].map Prod.snd).sum by simp; omega]
    exact this
  | drop t c =>
    have hs : szC c + 1 ≤ 60 := hs
    have h1 := th_C (M := M) c (k + 1) (by omega) (by omega)
    have d1 := dep_encC c
    have := th_word (M := M) (k := k) (x := "drop") (q := [(.int t, 0), (encC c, szC c)]) (by simp [h1, th_int]) (by simp [plains, plain_encC, Ev.plain]) (by simp [depDs, depD]; omega) (by simp)
    rw [show szA (.drop t c) = szC c + 1 from rfl]
    rw [show (((szC c + 1 : Nat) : Int)) = 1 + ([((.int t : D), (0 : Int)), (encC c, (szC c : Int))].map Prod.snd).sum by simp; omega]
    exact this
  | set t j e c =>
    have hs : szP e + szC c + 1 ≤ 60 := hs
    have h1 := th_C (M := M) c (k + 1) (by omega) (by omega)
    have h2 := th_P (M := M) e (k + 1) (by omega) (by omega)
    have d1 := dep_encC c
    have d2 := dep_encP e
    have := th_word (M := M) (k := k) (x := "set") (q := [(.int t, 0), (.int j, 0), (encP e, szP e), (encC c, szC c)]) (by simp [h1, h2, th_int]) (by simp [plains, plain_encC, plain_encP, Ev.plain]) (by simp [depDs, depD]; omega) (by simp)
    rw [show szA (.set t j e c) = szP e + szC c + 1 from rfl]
    rw [show (((szP e + szC c + 1 : Nat) : Int)) = 1 + ([((.int t : D), (0 : Int)), (.int j, 0), (encP e, (szP e : Int)), (encC c, (szC c : Int))].map Prod.snd).sum by simp; omega]
    exact this
/-- the ask's table -/
def tblA : Ask → Nat
  | .rows t _ _ => t
  | .put t _ => t
  | .drop t _ => t
  | .set t _ _ _ => t
theorem okA_t {W : List Nat} {n : Nat} {a : Ask} (h : okA W n a) : tblA a < W.length := by
  cases a <;> (obtain ⟨w, h, _⟩ := h; exact (List.getElem?_eq_some_iff.mp h).1)
theorem encA_1 (a : Ask) : ∃ x r, encA a = .tup (.str x :: .int (tblA a) :: r) := by cases a <;> exact ⟨_, _, rfl⟩
end K14

set_option maxHeartbeats 2000000
/-! k14, the plain law: what is drawn. -/
namespace K14
open PySem L2 Ev

/-- the row of what is taken: the script at its head -/
def Rw (d : D) (M : List MO) : Prop := ∃ a b c : Int, 0 ≤ a ∧ M[0]? = some (.lst [d, .int a, .int b, .int c])
theorem CP_ex {o : OutC} {Q : D → List MO → Prop} (h : CP o Q noEX) : ∃ v M', o = .ok v M' ∧ Q v M' := by
  cases o with
  | ok a b => exact ⟨a, b, rfl, h⟩
  | exc => exact h.elim
  | bad => exact h.elim
theorem scr_len {d : D} {ns : List Int} {M : List MO} (h : IsScr d ns) : oLen M d = some (.int ns.length) ∧ vw M d = d := by
  rcases h with rfl | rfl <;> simp
theorem scr_ix {d : D} {ns : List Int} {M : List MO} {i : Int} (h : IsScr d ns) (h0 : 0 ≤ i) (h1 : i < ns.length) : ∃ x : Int, oIx M d (.int i) = some (.int x) := by
  have e : ns[i.toNat]? = some (ns[i.toNat]'(by omega)) := List.getElem?_eq_getElem _
  rcases h with rfl | rfl
  · refine ⟨ns[i.toNat]'(by omega), ?_⟩
    rw [oIx_scr, atI_nat h0 h1, e]
    rfl
  · refine ⟨ns[i.toNat]'(by omega), ?_⟩
    rw [oIx_lst, atI_nat h0 (by simpa using h1), List.getElem?_map, e]
    rfl
theorem pow18 {M : List MO} : oPow M (.int 10) (.int 18) = some (.int 1000000000000000000) := by rfl
section
variable {d : D} {ns : List Int} {M : List MO}
theorem taken_spec {m : Int} {k : Nat} (hd : IsScr d ns) (hM : Rw d M) (h1 : 1 ≤ m) (h2 : m < 1000000) : ∃ (x : Int) (M' : List MO), Tk (k + 1) 16 [.ref 0, .int m] M = .ok (.int x) M' ∧ Rw d M' ∧ 0 ≤ x ∧ x < m := by
  obtain ⟨a, b, c, ha, hM⟩ := hM
  have key : CP (Tk (k + 1) 16 [.ref 0, .int m] M) (fun v M' => ∃ x : Int, v = .int x ∧ Rw d M' ∧ 0 ≤ x ∧ x < m) noEX := by
    rw [T16, CP_mkFn]
    have hm0 : m ≠ 0 := by omega
    have hma : m.natAbs < 1073741824 := by omega
    have f1 : ∀ x : Int, 0 ≤ x.fmod m := fun x => Int.fmod_nonneg_of_pos x (by omega)
    have f2 : ∀ x : Int, x.fmod m < m := fun x => Int.fmod_lt_of_pos x (by omega)
    have hg := fun o => gs hM o
    have hv := vw_ref hM
    have hvg := fun xs => vw_ref (hg (.lst xs))
    by_cases hc : 0 < c
    · simp [m16, N16, hM, hv, hvg, hg, hc, hm0, hma, ixN]
      exact ⟨⟨a, b, c.fdiv m, ha, hg _⟩, f1 _, f2 _⟩
    · obtain ⟨hl, hvd⟩ := scr_len (M := M) hd
      have hl' : ∀ M : List MO, oLen M d = some (.int ns.length) := fun M => (scr_len hd).1
      have hvd' : ∀ M : List MO, vw M d = d := fun M => (scr_len hd).2
      by_cases hn : (ns.length : Int) < a + 1
      · simp [m16, N16, hM, hv, hvg, hg, hc, hm0, hma, ixN, hl', hvd', hn]
        exact ⟨⟨a + 1, _, c, by omega, hg _⟩, f1 _, f2 _⟩
      · obtain ⟨x, hx⟩ := scr_ix (M := M.set 0 (.lst [d, .int (a + 1), .int b, .int c])) (i := a) hd ha (by omega)
        by_cases hx2 : (1000000000000000000 : Int) ≤ x
        · simp [m16, N16, hM, hv, hvg, hg, hc, hm0, hma, ixN, hl', hvd', hn, hx, pow18, hx2]
          exact ⟨⟨a + 1, _, x.fdiv m, by omega, hg _⟩, f1 _, f2 _⟩
        · simp [m16, N16, hM, hv, hvg, hg, hc, hm0, hma, ixN, hl', hvd', hn, hx, pow18, hx2]
          exact ⟨⟨a + 1, _, c, by omega, hg _⟩, f1 _, f2 _⟩
  obtain ⟨v, M', e, x, rfl, h⟩ := CP_ex key
  exact ⟨x, M', e, h⟩
theorem number_spec {k : Nat} (hd : IsScr d ns) (hM : Rw d M) : ∃ (x : Int) (M' : List MO), Tk (k + 2) 19 [.ref 0] M = .ok (.int x) M' ∧ Rw d M' ∧ 0 ≤ x ∧ x < 1000 := by
  have key : CP (Tk (k + 2) 19 [.ref 0] M) (fun v M' => ∃ x : Int, v = .int x ∧ Rw d M' ∧ 0 ≤ x ∧ x < 1000) noEX := by
    rw [T19, CP_mkFn]
    obtain ⟨w, M1, e1, r1, w0, w1⟩ := taken_spec (m := 5) (k := k) hd hM (by omega) (by omega)
    by_cases hw : w < 3
    · obtain ⟨x, M2, e2, r2, x0, x1⟩ := taken_spec (m := 4) (k := k) hd r1 (by omega) (by omega)
      simp [m19, N19, e1, hw, e2]
      exact ⟨r2, x0, by omega⟩
    · obtain ⟨x, M2, e2, r2, x0, x1⟩ := taken_spec (m := 1000) (k := k) hd r1 (by omega) (by omega)
      obtain ⟨y, M3, e3, r3, y0, y1⟩ := taken_spec (m := 3) (k := k) hd r2 (by omega) (by omega)
      rcases (show w = 3 ∨ w = 4 by omega) with rfl | rfl
      · simp [m19, N19, e1, e2, e3]
        exact ⟨r3, x0, x1⟩
      · simp [m19, N19, e1, e2, e3]
        exact ⟨r3, by omega, by omega⟩
  obtain ⟨v, M', e, x, rfl, h⟩ := CP_ex key
  exact ⟨x, M', e, h⟩
/-- a part, n deep at most -/
theorem part_draw {wide : Nat} {k : Nat} (hw : wide ≤ 4) (hd : IsScr d ns) : ∀ (n : Nat) (M : List MO), Rw d M → ∃ (p : Part) (M' : List MO), Tk (k + 3 + n) 20 [.ref 0, .int wide, .int n] M = .ok (encP p) M' ∧ Rw d M' ∧ okP wide 4 p ∧ szP p + 1 ≤ 2 ^ (n + 1) := by
  intro n
  induction n with
  | zero =>
    intro M hM
    have key : CP (Tk (k + 3) 20 [.ref 0, .int wide, .int 0] M) (fun v M' => ∃ p : Part, v = encP p ∧ Rw d M' ∧ okP wide 4 p ∧ szP p + 1 ≤ 2) noEX := by
      rw [T20, CP_mkFn]
      obtain ⟨w, M1, e1, r1, w0, w1⟩ := taken_spec (m := 7) (k := k + 1) hd hM (by omega) (by omega)
      simp [m20, N20, e1]
      by_cases hw6 : w = 6
      · obtain ⟨x, M2, e2, r2, x0, x1⟩ := taken_spec (m := 4) (k := k + 1) hd r1 (by omega) (by omega)
        obtain ⟨j, rfl⟩ := Int.eq_ofNat_of_zero_le x0
        simp [hw6, e2]
        exact ⟨.worth j, rfl, r2, by show j < 4; omega, by simp [szP]⟩
      · try simp [hw6]
        by_cases h3 : w < 3
        · try simp [h3]
          by_cases hz : 0 < wide
          · obtain ⟨x, M2, e2, r2, x0, x1⟩ := taken_spec (m := wide) (k := k + 1) hd r1 (by omega) (by omega)
            obtain ⟨j, rfl⟩ := Int.eq_ofNat_of_zero_le x0
            simp [hz, h3, e2]
            exact ⟨.col j, rfl, r2, by show j < wide; omega, by simp [szP]⟩
          · obtain ⟨x, M2, e2, r2, x0, x1⟩ := number_spec (k := k) hd r1
            simp [hz, h3, show w < 5 by omega, e2]
            exact ⟨.num x, rfl, r2, ⟨x0, x1⟩, by simp [szP]⟩
        · try simp [h3]
          by_cases h5 : w < 5
          · obtain ⟨x, M2, e2, r2, x0, x1⟩ := number_spec (k := k) hd r1
            simp [h5, h3, e2]
            exact ⟨.num x, rfl, r2, ⟨x0, x1⟩, by simp [szP]⟩
          · obtain ⟨x, M2, e2, r2, x0, x1⟩ := taken_spec (m := 4) (k := k + 1) hd r1 (by omega) (by omega)
            obtain ⟨j, rfl⟩ := Int.eq_ofNat_of_zero_le x0
            simp [h5, h3, e2]
            exact ⟨.worth j, rfl, r2, by show j < 4; omega, by simp [szP]⟩
    obtain ⟨v, M', e, p, rfl, h⟩ := CP_ex key
    exact ⟨p, M', e, h⟩
  | succ n ih =>
    intro M hM
    have key : CP (Tk (k + 3 + n + 1) 20 [.ref 0, .int wide, .int ((n : Int) + 1)] M) (fun v M' => ∃ p : Part, v = encP p ∧ Rw d M' ∧ okP wide 4 p ∧ szP p + 1 ≤ 2 ^ (n + 1 + 1)) noEX := by
      rw [T20, CP_mkFn]
      have two : 2 ≤ 2 ^ (n + 1) := by
        have := Nat.pow_le_pow_right (n := 2) (by omega) (show 1 ≤ n + 1 by omega)
        omega
      have tw : 2 ^ (n + 1 + 1) = 2 * 2 ^ (n + 1) := by rw [Nat.pow_succ]; omega
      obtain ⟨w, M1, e1, r1, w0, w1⟩ := taken_spec (m := 7) (k := k + 2 + n) hd hM (by omega) (by omega)
      rw [show k + 2 + n + 1 = k + 3 + n by omega] at e1
      simp [m20, N20, e1]
      by_cases hw6 : w = 6
      · obtain ⟨p, M2, e2, r2, ok2, s2⟩ := ih M1 r1
        obtain ⟨q, M3, e3, r3, ok3, s3⟩ := ih M2 r2
        simp [hw6, show (0 : Int) < (n : Int) + 1 by omega, e2, e3]
        exact ⟨.add p q, rfl, r3, ⟨ok2, ok3⟩, by simp only [szP]; omega⟩
      · try simp [hw6]
        by_cases h3 : w < 3
        · try simp [h3]
          by_cases hz : 0 < wide
          · obtain ⟨x, M2, e2, r2, x0, x1⟩ := taken_spec (m := wide) (k := k + 2 + n) hd r1 (by omega) (by omega)
            rw [show k + 2 + n + 1 = k + 3 + n by omega] at e2
            obtain ⟨j, rfl⟩ := Int.eq_ofNat_of_zero_le x0
            simp [hz, h3, e2]
            exact ⟨.col j, rfl, r2, by show j < wide; omega, by simp only [szP]; omega⟩
          · obtain ⟨x, M2, e2, r2, x0, x1⟩ := number_spec (k := k + 1 + n) hd r1
            rw [show k + 1 + n + 2 = k + 3 + n by omega] at e2
            simp [hz, h3, show w < 5 by omega, e2]
            exact ⟨.num x, rfl, r2, ⟨x0, x1⟩, by simp only [szP]; omega⟩
        · try simp [h3]
          by_cases h5 : w < 5
          · obtain ⟨x, M2, e2, r2, x0, x1⟩ := number_spec (k := k + 1 + n) hd r1
            rw [show k + 1 + n + 2 = k + 3 + n by omega] at e2
            simp [h5, h3, e2]
            exact ⟨.num x, rfl, r2, ⟨x0, x1⟩, by simp only [szP]; omega⟩
          · obtain ⟨x, M2, e2, r2, x0, x1⟩ := taken_spec (m := 4) (k := k + 2 + n) hd r1 (by omega) (by omega)
            rw [show k + 2 + n + 1 = k + 3 + n by omega] at e2
            obtain ⟨j, rfl⟩ := Int.eq_ofNat_of_zero_le x0
            simp [h5, h3, e2]
            exact ⟨.worth j, rfl, r2, by show j < 4; omega, by simp only [szP]; omega⟩
    obtain ⟨v, M', e, p, rfl, h⟩ := CP_ex key
    exact ⟨p, M', by rw [show ((n + 1 : Nat) : Int) = (n : Int) + 1 by omega]; exact e, h⟩
/-- is | less of two small parts -/
theorem two_draw {wide : Nat} {k : Nat} (hw : wide ≤ 4) (hd : IsScr d ns) (hM : Rw d M) : ∃ (c : Cond) (b : Int) (p q : Part) (M1 M2 M3 : List MO), Tk (k + 4) 16 [.ref 0, .int 2] M = .ok (.int b) M1 ∧ Tk (k + 4) 20 [.ref 0, .int wide, .int 1] M1 = .ok (encP p) M2 ∧ Tk (k + 4) 20 [.ref 0, .int wide, .int 1] M2 = .ok (encP q) M3 ∧ Rw d M3 ∧ (b = 0 ∨ b = 1) ∧
    encC c = .tup [.str (if b = 0 then "is" else "less"), encP p, encP q] ∧ okC wide 4 c ∧ szC c ≤ 7 := by
  obtain ⟨b, M1, e1, r1, b0, b1⟩ := taken_spec (m := 2) (k := k + 3) hd hM (by omega) (by omega)
  obtain ⟨p, M2, e2, r2, ok2, s2⟩ := part_draw (k := k) hw hd 1 M1 r1
  obtain ⟨q, M3, e3, r3, ok3, s3⟩ := part_draw (k := k) hw hd 1 M2 r2
  have s2 : szP p + 1 ≤ 4 := s2
  have s3 : szP q + 1 ≤ 4 := s3
  rcases (show b = 0 ∨ b = 1 by omega) with rfl | rfl
  · exact ⟨.is p q, 0, p, q, M1, M2, M3, e1, e2, e3, r3, .inl rfl, by simp [encC], ⟨ok2, ok3⟩, by simp only [szC]; omega⟩
  · exact ⟨.less p q, 1, p, q, M1, M2, M3, e1, e2, e3, r3, .inr rfl, by simp [encC], ⟨ok2, ok3⟩, by simp only [szC]; omega⟩
theorem cond_draw {wide : Nat} {k : Nat} (hw : wide ≤ 4) (hd : IsScr d ns) : ∀ (n : Nat) (M : List MO), Rw d M → ∃ (c : Cond) (M' : List MO), Tk (k + 5 + n) 21 [.ref 0, .int wide, .int n] M = .ok (encC c) M' ∧ Rw d M' ∧ okC wide 4 c ∧ szC c + 1 ≤ 2 ^ (n + 3) := by
  intro n
  induction n with
  | zero =>
    intro M hM
    have key : CP (Tk (k + 5) 21 [.ref 0, .int wide, .int 0] M) (fun v M' => ∃ c : Cond, v = encC c ∧ Rw d M' ∧ okC wide 4 c ∧ szC c + 1 ≤ 8) noEX := by
      rw [T21, CP_mkFn]
      obtain ⟨w, M1, e1, r1, w0, w1⟩ := taken_spec (m := 8) (k := k + 3) hd hM (by omega) (by omega)
      simp [m21, N21, e1]
      by_cases hw0 : w = 0
      · simp [hw0]
        exact ⟨.all, rfl, r1, trivial, by simp [szC]⟩
      · simp [hw0]
        obtain ⟨c, b, p, q, Ma, Mb, Mc, ea, eb, ec, rc, hb, hc, okc, sc⟩ := two_draw (k := k) hw hd r1
        rcases hb with rfl | rfl
        · simp [ea, eb, ec]
          exact ⟨c, by rw [hc]; simp, rc, okc, by omega⟩
        · simp [ea, eb, ec]
          exact ⟨c, by rw [hc]; simp, rc, okc, by omega⟩
    obtain ⟨v, M', e, c, rfl, h⟩ := CP_ex key
    exact ⟨c, M', e, h⟩
  | succ n ih =>
    intro M hM
    have two : 8 ≤ 2 ^ (n + 3) := by
      have := Nat.pow_le_pow_right (n := 2) (by omega) (show 3 ≤ n + 3 by omega)
      omega
    have tw : 2 ^ (n + 1 + 3) = 2 * 2 ^ (n + 3) := by rw [show n + 1 + 3 = (n + 3) + 1 by omega, Nat.pow_succ]; omega
    have key : CP (Tk (k + 5 + n + 1) 21 [.ref 0, .int wide, .int ((n : Int) + 1)] M) (fun v M' => ∃ c : Cond, v = encC c ∧ Rw d M' ∧ okC wide 4 c ∧ szC c + 1 ≤ 2 ^ (n + 1 + 3)) noEX := by
      rw [T21, CP_mkFn]
      obtain ⟨w, M1, e1, r1, w0, w1⟩ := taken_spec (m := 8) (k := k + 4 + n) hd hM (by omega) (by omega)
      rw [show k + 4 + n + 1 = k + 5 + n by omega] at e1
      simp [m21, N21, e1]
      by_cases hw0 : w = 0
      · simp [hw0]
        exact ⟨.all, rfl, r1, trivial, by simp only [szC]; omega⟩
      · simp [hw0]
        by_cases h5 : w < 5
        · obtain ⟨c, b, p, q, Ma, Mb, Mc, ea, eb, ec, rc, hb, hc, okc, sc⟩ := two_draw (k := k + 1 + n) hw hd r1
          rw [show k + 1 + n + 4 = k + 5 + n by omega] at ea eb ec
          rcases hb with rfl | rfl
          · simp [h5, ea, eb, ec]
            exact ⟨c, by rw [hc]; simp, rc, okc, by omega⟩
          · simp [h5, ea, eb, ec]
            exact ⟨c, by rw [hc]; simp, rc, okc, by omega⟩
        · obtain ⟨c, M2, e2, r2, ok2, s2⟩ := ih M1 r1
          by_cases hw5 : w = 5
          · simp [h5, hw5, show ¬ ((n : Int) + 1 = 0) by omega, e2]
            exact ⟨.not c, rfl, r2, ok2, by simp only [szC]; omega⟩
          · obtain ⟨c', M3, e3, r3, ok3, s3⟩ := ih M2 r2
            simp [h5, hw5, show ¬ ((n : Int) + 1 = 0) by omega, e2, e3]
            exact ⟨.both c c', rfl, r3, ⟨ok2, ok3⟩, by simp only [szC]; omega⟩
    obtain ⟨v, M', e, c, rfl, h⟩ := CP_ex key
    exact ⟨c, M', by rw [show ((n + 1 : Nat) : Int) = (n : Int) + 1 by omega]; exact e, h⟩
theorem deep_draw {wide : Nat} {k : Nat} (hw1 : 1 ≤ wide) (hw : wide ≤ 4) (hd : IsScr d ns) (hM : Rw d M) : ∃ (c : Cond) (p : Part) (M' : List MO), Tk (k + 2) 22 [.ref 0, .int wide] M = .ok (.tup [encC c, encP p]) M' ∧ Rw d M' ∧ okC wide 4 c ∧ okP wide 4 p ∧ szP p + szC c ≤ 46 := by
  have key : CP (Tk (k + 2) 22 [.ref 0, .int wide] M) (fun v M' => ∃ (c : Cond) (p : Part), v = .tup [encC c, encP p] ∧ Rw d M' ∧ okC wide 4 c ∧ okP wide 4 p ∧ szP p + szC c ≤ 46) noEX := by
    rw [T22, CP_mkFn]
    obtain ⟨x, M1, e1, r1, x0, x1⟩ := taken_spec (m := wide) (k := k) hd hM (by omega) (by omega)
    obtain ⟨j, rfl⟩ := Int.eq_ofNat_of_zero_le x0
    obtain ⟨b, M2, e2, r2, b0, b1⟩ := taken_spec (m := 2) (k := k) hd r1 (by omega) (by omega)
    obtain ⟨w, M3, e3, r3, w0, w1⟩ := taken_spec (m := 3) (k := k) hd r2 (by omega) (by omega)
    obtain ⟨y, M4, e4, r4, y0, y1⟩ := taken_spec (m := 2) (k := k) hd r3 (by omega) (by omega)
    obtain ⟨c0, hc0, ok0, sc0⟩ : ∃ c0 : Cond, encC c0 = .tup [.str (if b = 0 then "is" else "less"), .tup [.str "num", .int 3], .tup [.str "worth", .int 0]] ∧ okC wide 4 c0 ∧ szC c0 = 3 := by
      rcases (show b = 0 ∨ b = 1 by omega) with rfl | rfl
      · exact ⟨.is (.num 3) (.worth 0), by simp [encC, encP], ⟨⟨by omega, by omega⟩, by show 0 < 4; omega⟩, rfl⟩
      · exact ⟨.less (.num 3) (.worth 0), by simp [encC, encP], ⟨⟨by omega, by omega⟩, by show 0 < 4; omega⟩, rfl⟩
    have eb : atI [D.str "is", D.str "less"] b = some (.str (if b = 0 then "is" else "less")) := by
      rcases (show b = 0 ∨ b = 1 by omega) with rfl | rfl <;> simp
    obtain ⟨n, en, hn⟩ : ∃ n : Nat, atI [D.int 10, D.int 20, D.int 10] w = some (.int ((n : Int) - y)) ∧ n ≤ 21 := by
      rcases (show w = 0 ∨ w = 1 ∨ w = 2 by omega) with rfl | rfl | rfl
      · exact ⟨(10 + y).toNat, by simp; omega, by omega⟩
      · exact ⟨(20 + y).toNat, by simp; omega, by omega⟩
      · exact ⟨(10 + y).toNat, by simp; omega, by omega⟩
    simp [m22, N22, e1, e2, eb, e3]
    refine for_rng ?_
    simp [en, e4]
    refine ⟨n, rfl, by omega, fun i s => ∃ (c : Cond) (p : Part) (v : SV), s.σ = [.val (.ref 0), .val (.int wide), .val (encP p), .val (encC c), .val (.int w), v] ∧ Rw d s.M ∧ okC wide 4 c ∧ okP wide 4 p ∧ szP p + szC c ≤ 4 + 2 * i, ?_, fun i s hi hI => ?_, fun s hI => ?_⟩
    · refine ⟨c0, .col j, .un, ?_, r4, ok0, ?_, by simp only [szP]; omega⟩
      · rw [hc0]
        simp [encP]
      · show j < wide
        omega
    · obtain ⟨c, p, v, hσ, rM, okc, okp, hs⟩ := hI
      obtain ⟨σ, Ms⟩ := s
      dsimp only at hσ rM
      subst hσ
      by_cases hw0 : w = 0
      · obtain ⟨z, M5, e5, r5, z0, z1⟩ := taken_spec (m := 3) (k := k) hd rM (by omega) (by omega)
        simp [forEl, hw0, e5]
        refine ⟨c, .add p (.num (1 + z)), ⟨?_, rfl⟩, r5, okc, ⟨okp, by omega, by omega⟩, by simp only [szP]; omega⟩
        simp [encP]
      · by_cases hw1 : w = 1
        · simp [forEl, hw0, hw1]
          refine ⟨.not c, p, ⟨rfl, rfl⟩, rM, okc, okp, by simp only [szC]; omega⟩
        · have hm : (i : Int).fmod 2 = 0 ∨ (i : Int).fmod 2 = 1 := by
            have h1 := Int.fmod_nonneg_of_pos (i : Int) (show (0 : Int) < 2 by omega)
            have h2 := Int.fmod_lt_of_pos (i : Int) (show (0 : Int) < 2 by omega)
            omega
          rcases hm with hm | hm
          · simp [forEl, hw0, hw1, hm]
            refine ⟨.both c .all, p, ⟨rfl, rfl⟩, rM, ⟨okc, trivial⟩, okp, by simp only [szC]; omega⟩
          · simp [forEl, hw0, hw1, hm]
            refine ⟨.both .all c, p, ⟨rfl, rfl⟩, rM, ⟨trivial, okc⟩, okp, by simp only [szC]; omega⟩
    · obtain ⟨c, p, v, hσ, rM, okc, okp, hs⟩ := hI
      obtain ⟨σ, Ms⟩ := s
      dsimp only at hσ rM
      subst hσ
      simp
      exact ⟨c, p, ⟨rfl, rfl⟩, rM, okc, okp, by omega⟩
  obtain ⟨v, M', e, c, p, rfl, h⟩ := CP_ex key
  exact ⟨c, p, M', e, h⟩
theorem szPs_le {ps : List Part} {b : Nat} (h : ∀ p ∈ ps, szP p ≤ b) : szPs ps ≤ b * ps.length := by
  induction ps with
  | nil => simp [szPs]
  | cons p ps ih =>
    have h1 := h p List.mem_cons_self
    have h2 := ih fun q hq => h q (List.mem_cons_of_mem _ hq)
    simp only [szPs, List.length_cons, Nat.mul_succ]
    omega
/-- tuple([part for .. in range(n)]) -/
theorem parts_lc {vs : List Nat} {σ : List SV} {k wide n : Nat} {ms : PM (List D)} {e : PM D} {g : GD} {P : List D → Ev.S → Prop} {E : EX} (hw : wide ≤ 4) (hd : IsScr d ns) (hn : n ≤ 1000) (hok : okW vs σ = true)
    (hms : WP ms (fun ds s' => ds = [.int (n : Int)] ∧ s'.σ = σ ∧ Rw d s'.M) E ⟨σ, M⟩)
    (he : ∀ (j : Nat) (M : List MO) (p : Part) (M' : List MO), Tk (k + 4) 20 [.ref 0, .int wide, .int 1] M = .ok (encP p) M' → WP (lcEl g (pure true) e (.int (j : Int))) (fun o s' => wipeL vs s'.σ = wipeL vs σ ∧ s'.M = M' ∧ o = some (encP p)) noEX ⟨wipeL vs σ, M⟩)
    (fin : ∀ (ps : List Part) (M' : List MO), Rw d M' → ps.length = n → (∀ p ∈ ps, okP wide 4 p ∧ szP p ≤ 3) → P (ps.map encP) ⟨σ, M'⟩) : WP (fLc vs (iR1 ms) g (pure true) e) P E ⟨σ, M⟩ := by
  refine lc_rngI (hms.imp fun ds s' h => ?_)
  obtain ⟨rfl, hσ, hR⟩ := h
  refine ⟨n, rfl, hn, hσ, hok, fun i acc M' => ∃ ps : List Part, acc = ps.map encP ∧ ps.length = i ∧ Rw d M' ∧ ∀ p ∈ ps, okP wide 4 p ∧ szP p ≤ 3, ⟨[], rfl, rfl, hR, by simp⟩, fun j acc M' hj hI => ?_, fun acc M' hI => ?_⟩
  · obtain ⟨ps, rfl, hl, rM, hps⟩ := hI
    obtain ⟨p, M2, e2, r2, ok2, s2⟩ := part_draw (k := k) hw hd 1 M' rM
    have s2 : szP p + 1 ≤ 4 := s2
    refine (he j M' p M2 e2).imp fun o s' h => ?_
    obtain ⟨h1, h2, rfl⟩ := h
    refine ⟨h1, ps ++ [p], by simp, by simp [hl], by rw [h2]; exact r2, fun q hq => ?_⟩
    rcases List.mem_append.mp hq with hq | hq
    · exact hps q hq
    · rw [List.mem_singleton.mp hq]
      exact ⟨ok2, by omega⟩
  · obtain ⟨ps, rfl, hl, rM, hps⟩ := hI
    exact fin ps M' rM hl hps
theorem anyask_draw {W : List Nat} {k : Nat} (hW1 : 1 ≤ W.length) (hW3 : W.length ≤ 3) (hWv : ∀ w ∈ W, 1 ≤ w ∧ w ≤ 4) (hd : IsScr d ns) (hM : Rw d M) : ∃ (a : Ask) (M' : List MO), Tk (k + 8) 23 [.ref 0, .lst (W.map fun (n : Nat) => D.int (n : Int))] M = .ok (encA a) M' ∧ Rw d M' ∧ okA W 4 a ∧ szA a ≤ 60 ∧ goodLen a := by
  have key : CP (Tk (k + 8) 23 [.ref 0, .lst (W.map fun (n : Nat) => D.int (n : Int))] M) (fun v M' => ∃ a : Ask, v = encA a ∧ Rw d M' ∧ okA W 4 a ∧ szA a ≤ 60 ∧ goodLen a) noEX := by
    rw [T23, CP_mkFn]
    obtain ⟨x, M1, e1, r1, x0, x1⟩ := taken_spec (m := 12) (k := k + 6) hd hM (by omega) (by omega)
    obtain ⟨t', M2, e2, r2, t0, t1⟩ := taken_spec (m := W.length) (k := k + 6) hd r1 (by omega) (by omega)
    obtain ⟨t, rfl⟩ := Int.eq_ofNat_of_zero_le t0
    have htl : t < W.length := by omega
    obtain ⟨w, hw⟩ : ∃ w, W[t]? = some w := ⟨_, List.getElem?_eq_getElem htl⟩
    obtain ⟨w1, w4⟩ := hWv w (List.mem_of_getElem? hw)
    by_cases hx : x = 11
    · obtain ⟨c, p, M3, e3, r3, okc, okp, hs⟩ := deep_draw (k := k + 5) w1 w4 hd r2
      obtain ⟨z, M4, e4, r4, z0, z1⟩ := taken_spec (m := 3) (k := k + 6) hd r3 (by omega) (by omega)
      simp [m23, N23, e1, hx, e2, atI_W hw, e3]
      rcases (show z = 0 ∨ z = 1 ∨ z = 2 by omega) with rfl | rfl | rfl
      · simp [e4]
        exact ⟨.rows t c [p], rfl, r4, ⟨w, hw, okc, by simpa using okp, by simp, by simp⟩, by simp only [szA, szPs]; omega, by simp [goodLen]⟩
      · simp [e4]
        exact ⟨.drop t c, rfl, r4, ⟨w, hw, okc⟩, by simp only [szA]; omega, trivial⟩
      · simp [e4]
        exact ⟨.set t 0 p c, rfl, r4, ⟨w, hw, by omega, okp, okc⟩, by simp only [szA]; omega, trivial⟩
    · obtain ⟨y, M3, e3, r3, y0, y1⟩ := taken_spec (m := 6) (k := k + 6) hd r2 (by omega) (by omega)
      simp [m23, N23, e1, hx, e2, atI_W hw, e3]
      by_cases h3 : y < 3
      · simp [h3]
        obtain ⟨z, M4, e4, r4, z0, z1⟩ := taken_spec (m := 4) (k := k + 6) hd r3 (by omega) (by omega)
        obtain ⟨n, rfl⟩ := Int.eq_ofNat_of_zero_le z0
        refine parts_lc (k := k + 3) (wide := w) (n := n + 1) w4 hd (by omega) (by simp [okW, SV.own]) ?_ (fun j M p M' hp => ?_) (fun ps M' rM hl hps => ?_)
        · simp [e4]
          exact ⟨by omega, r4⟩
        · simp [lcEl, wipeL, hp]
        · have hle : szPs ps ≤ 3 * ps.length := szPs_le fun p hp => (hps p hp).2
          obtain ⟨c, M5, e5, r5, okc, sc⟩ := cond_draw (k := k) w4 hd 2 M' rM
          have sc : szC c + 1 ≤ 32 := sc
          simp [small, show ps.length ≤ 100000 by omega]
          rw [show k + 5 + 2 = k + 7 by omega] at e5
          have e5 : Tk (k + 7) 21 [.ref 0, .int w, .int 2] M' = .ok (encC c) M5 := e5
          simp [e5]
          exact ⟨.rows t c ps, rfl, r5, ⟨w, hw, okc, fun p hp => (hps p hp).1, by omega, by omega⟩, by simp only [szA]; omega, ⟨by omega, by omega⟩⟩
      · simp [h3]
        by_cases h33 : y = 3
        · simp [h33]
          refine parts_lc (k := k + 3) (wide := 0) (n := w) (by omega) hd (by omega) (by simp [okW, SV.own]) ?_ (fun j M p M' hp => ?_) (fun ps M' rM hl hps => ?_)
          · simp
            exact r3
          · have hp : Tk (k + 7) 20 [.ref 0, .int 0, .int 1] M = .ok (encP p) M' := hp
            simp [lcEl, wipeL, hp]
          · have hle : szPs ps ≤ 3 * ps.length := szPs_le fun p hp => (hps p hp).2
            simp [small, show ps.length ≤ 100000 by omega]
            exact ⟨.put t ps, rfl, rM, ⟨w, hw, fun p hp => (hps p hp).1, hl, by omega, by omega⟩, by simp only [szA]; omega, ⟨by omega, by omega⟩⟩
        · simp [h33]
          by_cases h4 : y = 4
          · obtain ⟨c, M5, e5, r5, okc, sc⟩ := cond_draw (k := k) w4 hd 2 M3 r3
            have sc : szC c + 1 ≤ 32 := sc
            have e5 : Tk (k + 7) 21 [.ref 0, .int w, .int 2] M3 = .ok (encC c) M5 := e5
            simp [h4, e5]
            exact ⟨.drop t c, rfl, r5, ⟨w, hw, okc⟩, by simp only [szA]; omega, trivial⟩
          · obtain ⟨z, M4, e4, r4, z0, z1⟩ := taken_spec (m := w) (k := k + 6) hd r3 (by omega) (by omega)
            obtain ⟨j, rfl⟩ := Int.eq_ofNat_of_zero_le z0
            obtain ⟨p, M6, e6, r6, okp, sp⟩ := part_draw (k := k + 3) w4 hd 1 M4 r4
            have sp : szP p + 1 ≤ 4 := sp
            have e6 : Tk (k + 7) 20 [.ref 0, .int w, .int 1] M4 = .ok (encP p) M6 := e6
            obtain ⟨c, M5, e5, r5, okc, sc⟩ := cond_draw (k := k) w4 hd 2 M6 r6
            have sc : szC c + 1 ≤ 32 := sc
            have e5 : Tk (k + 7) 21 [.ref 0, .int w, .int 2] M6 = .ok (encC c) M5 := e5
            simp [h4, e4, e6, e5]
            exact ⟨.set t j p c, rfl, r5, ⟨w, hw, by omega, okp, okc⟩, by simp only [szA]; omega, trivial⟩
  obtain ⟨v, M', e, a, rfl, h⟩ := CP_ex key
  exact ⟨a, M', e, h⟩
theorem ask_draw {W : List Nat} {k : Nat} (hW1 : 1 ≤ W.length) (hW3 : W.length ≤ 3) (hWv : ∀ w ∈ W, 1 ≤ w ∧ w ≤ 4) (hd : IsScr d ns) (hM : Rw d M) (hk : 80 ≤ k) : ∃ (a : Ask) (M' : List MO), Tk k 25 [.ref 0, .lst (W.map fun (n : Nat) => D.int (n : Int))] M = .ok (encA a) M' ∧ Rw d M' ∧ okA W 4 a ∧ szA a ≤ 30 ∧ goodLen a := by
  obtain ⟨k, rfl⟩ : ∃ j, k = j + 9 := ⟨k - 9, by omega⟩
  obtain ⟨a, M1, e1, r1, ok1, s1, g1⟩ := anyask_draw (k := k) hW1 hW3 hWv hd hM
  have h1 := th_A (M := M1) a (k := k + 8) (by omega) s1 g1
  have key : CP (Tk (k + 9) 25 [.ref 0, .lst (W.map fun (n : Nat) => D.int (n : Int))] M) (fun v M' => ∃ a : Ask, v = encA a ∧ Rw d M' ∧ okA W 4 a ∧ szA a ≤ 30 ∧ goodLen a) noEX := by
    rw [T25, CP_mkFn]
    simp [m25, N25, e1, h1]
    by_cases hs : szA a < 31
    · simp [show (szA a : Int) < 31 by omega]
      exact ⟨a, rfl, r1, ok1, by omega, g1⟩
    · obtain ⟨x, r, ea⟩ := encA_1 a
      have ht := okA_t ok1
      simp [show ¬ ((szA a : Int) < 31) by omega]
      simp only [ea]
      simp
      obtain ⟨w, hw⟩ : ∃ w, W[tblA a]? = some w := ⟨_, List.getElem?_eq_getElem ht⟩
      obtain ⟨w1, w4⟩ := hWv w (List.mem_of_getElem? hw)
      exact ⟨.rows (tblA a) (.less (.worth 0) (.col 0)) [.col 0], rfl, r1, ⟨w, hw, ⟨by show 0 < 4; omega, by show 0 < w; omega⟩, by simp; show 0 < w; omega, by simp, by simp⟩, by simp [szA, szC, szP, szPs], by simp [goodLen]⟩
  obtain ⟨v, M', e, a, rfl, h⟩ := CP_ex key
  exact ⟨a, M', e, h⟩
end
end K14

set_option maxHeartbeats 2000000
/-! k14, the plain law: words of asks, by the program, by the law. -/
namespace K14
open PySem L2 Ev

def wdP : Part → List String
  | .num n => [sI n]
  | .col k => ["c" ++ sI k]
  | .worth k => ["w" ++ sI k]
  | .add a b => "add" :: (wdP a ++ wdP b)
def wdC : Cond → List String
  | .all => ["all"]
  | .is a b => "is" :: (wdP a ++ wdP b)
  | .less a b => "less" :: (wdP a ++ wdP b)
  | .not c => "not" :: wdC c
  | .both c d => "both" :: (wdC c ++ wdC d)
def wdPs : List Part → List String
  | [] => []
  | p :: ps => wdP p ++ wdPs ps
def wdA : Ask → List String
  | .rows t c ps => "rows" :: sI t :: (wdC c ++ (sI ps.length :: wdPs ps))
  | .put t ps => "put" :: sI t :: sI ps.length :: wdPs ps
  | .drop t c => "drop" :: sI t :: wdC c
  | .set t k e c => "set" :: sI t :: sI k :: (wdP e ++ wdC c)
def strsL (ws : List String) : List D := ws.map .str
theorem strsL_app {a b : List String} : strsL (a ++ b) = strsL a ++ strsL b := by simp [strsL]
theorem wdP_len : ∀ p : Part, (wdP p).length = szP p
  | .num _ => rfl
  | .col _ => rfl
  | .worth _ => rfl
  | .add a b => by simp [wdP, szP, wdP_len a, wdP_len b]
theorem wdC_len : ∀ p : Cond, (wdC p).length = szC p
  | .all => rfl
  | .is a b => by simp [wdC, szC, wdP_len]
  | .less a b => by simp [wdC, szC, wdP_len]
  | .not c => by simp [wdC, szC, wdC_len c]
  | .both a b => by simp [wdC, szC, wdC_len a, wdC_len b]
theorem wdPs_len : ∀ ps : List Part, (wdPs ps).length = szPs ps
  | [] => rfl
  | p :: ps => by simp [wdPs, szPs, wdP_len, wdPs_len ps]
theorem oStr_int {M : List MO} {i : Int} (h : i.natAbs < 10000) : oStr M (.int i) = some (.str (sI i)) := by
  show (if _ then _ else _) = _
  rw [if_pos (by omega)]
  rfl
@[simp] theorem oStr_str {M : List MO} {z : String} : oStr M (.str z) = some (.str z) := rfl
/-- a thing of three words: what its words are -/
structure Thing (d : D) : Prop where
  pl : Ev.plain d = true
  dp : depD d ≤ 60
  hd : ∃ x r, d = .tup (.str x :: r)
theorem thing_P (p : Part) (h : szP p ≤ 60) : Thing (encP p) := ⟨plain_encP p, Nat.le_trans (dep_encP p) h, by cases p <;> exact ⟨_, _, rfl⟩⟩
theorem thing_C (p : Cond) (h : szC p ≤ 60) : Thing (encC p) := ⟨plain_encC p, Nat.le_trans (dep_encC p) h, by cases p <;> exact ⟨_, _, rfl⟩⟩
/-- what stands in a thing: a number, a thing, things -/
inductive Itm (T : D → List String → Prop) : D → List String → Prop where
  | int {i : Int} : i.natAbs < 10000 → Itm T (.int i) [sI i]
  | th {d : D} {ws : List String} : T d ws → Thing d → Itm T d ws
  | ths {qs : List (D × List String)} : 0 < qs.length → qs.length ≤ 100 → (∀ z ∈ qs, T z.1 z.2 ∧ Thing z.1) → Itm T (.tup (qs.map Prod.fst)) (sI qs.length :: (qs.flatMap Prod.snd))
theorem things_plain {qs : List (D × List String)} (h : ∀ z ∈ qs, Thing z.1) : plains (qs.map Prod.fst) = true ∧ depDs (qs.map Prod.fst) ≤ 60 := by
  induction qs with
  | nil => exact ⟨rfl, by simp [depDs]⟩
  | cons z qs ih =>
    have h1 := h z List.mem_cons_self
    obtain ⟨i1, i2⟩ := ih fun y hy => h y (List.mem_cons_of_mem _ hy)
    refine ⟨by simp [plains, h1.pl, i1], ?_⟩
    simp only [List.map_cons, depDs]
    have := h1.dp
    omega
theorem thing_ne {M : List MO} {d : D} (h : Thing d) : eqWhole M d (.tup []) = some false := by
  obtain ⟨x, r, rfl⟩ := h.hd
  have hp := h.pl
  unfold Ev.plain at hp
  rw [eqW_tupN hp (by have := h.dp; omega)]
  rfl
theorem things_ne {M : List MO} {qs : List (D × List String)} (h : ∀ z ∈ qs, Thing z.1) (h0 : 0 < qs.length) : eqWhole M (.tup (qs.map Prod.fst)) (.tup []) = some false := by
  obtain ⟨h1, h2⟩ := things_plain h
  rw [eqW_tupN h1 (by show depDs _ + 1 ≤ 64; omega)]
  cases qs with
  | nil => simp at h0
  | cons _ _ => rfl
def flA (q : List (D × List String)) (i : Nat) : List String := (q.take i).flatMap Prod.snd
theorem flA_succ {q : List (D × List String)} {i : Nat} {z : D × List String} (h : q[i]? = some z) : flA q (i + 1) = flA q i ++ z.2 := by
  unfold flA
  rw [List.take_add_one, h, List.flatMap_append]
  simp
theorem flA_le {q : List (D × List String)} (i : Nat) : (flA q i).length ≤ (q.flatMap Prod.snd).length := by
  unfold flA
  conv => rhs; rw [← List.take_append_drop i q, List.flatMap_append]
  simp
theorem flA_all {q : List (D × List String)} : flA q q.length = q.flatMap Prod.snd := by simp [flA]
theorem flA_0 {q : List (D × List String)} : flA q 0 = [] := by simp [flA]
@[simp] theorem strsL_len {ws : List String} : (strsL ws).length = ws.length := by simp [strsL]
theorem lExt {M : List MO} {xs ys : List D} (h : xs.length + ys.length ≤ 100000) : lExtend M [.lst ys] xs = some (xs ++ ys, .non) := by
  show (if xs.length + ys.length ≤ small then _ else _) = _
  exact if_pos h
theorem inS3 {M : List MO} {x a b c : String} : inSeq M (.str x) [.str a, .str b, .str c] = some (a == x || (b == x || c == x)) := by
  simp [inSeq, whole, res, ress, depD, depDs, eqvD]
/-- the words of a thing with a word ahead -/
theorem wo_word {M : List MO} {k : Nat} {x : String} {q : List (D × List String)} (hx : x ≠ "num" ∧ x ≠ "col" ∧ x ≠ "worth") (hq : ∀ z ∈ q, Itm (fun d ws => Tk k 3 [d] M = .ok (.lst (strsL ws)) M) z.1 z.2) (hl : (q.flatMap Prod.snd).length ≤ 1000) :
    Tk (k + 1) 3 [.tup (.str x :: q.map Prod.fst)] M = .ok (.lst (strsL (x :: q.flatMap Prod.snd))) M := by
  refine CP.eq ?_
  rw [T3, CP_mkFn]
  simp [m3, N3, inS3, hx.1.symm, hx.2.1.symm, hx.2.2.symm]
  refine for_in (q.map Prod.fst) (fun i s => ∃ v2 v3, s = ⟨[.val (.tup (.str x :: q.map Prod.fst)), .ul (.str x :: strsL (flA q i)), v2, v3], M⟩) ?_ (fun i d s hd hi => ?_) (fun s hi => ?_)
  · simp [flA_0, strsL]
  · obtain ⟨v2, v3, rfl⟩ := hi
    rw [List.getElem?_map, Option.map_eq_some_iff] at hd
    obtain ⟨z, hz, rfl⟩ := hd
    have hI := hq z (List.mem_of_getElem? hz)
    have hs := flA_succ hz
    have hb := flA_le (q := q) (i + 1)
    rw [hs] at hb ⊢
    rw [List.length_append] at hb
    generalize flA q i = acc at *
    obtain ⟨zd, zw⟩ := z
    dsimp only at hI hb ⊢
    cases hI with
    | int hi =>
      simp only [List.length_singleton] at hb
      simp [isI, oStr_int hi, small, show acc.length + 1 < 100000 by omega]
      simp [strsL]
    | th hT hTh =>
      have hne := thing_ne (M := M) hTh
      obtain ⟨y, r, rfl⟩ := hTh.hd
      have e3 := lExt (M := M) (xs := D.str x :: strsL acc) (ys := strsL zw) (by simp; omega)
      simp [isI, hne, hT, e3]
      simp [strsL]
    | @ths qs h0 h1 hT =>
      have hne := things_ne (M := M) (fun z hz => (hT z hz).2) h0
      obtain ⟨z0, qs', rfl⟩ : ∃ z0 q', qs = z0 :: q' := by cases qs with | nil => simp at h0 | cons a b => exact ⟨a, b, rfl⟩
      obtain ⟨y, r, e0⟩ := (hT z0 List.mem_cons_self).2.hd
      simp only [List.map_cons] at hne ⊢
      rw [e0] at hne ⊢
      simp [isI, hne, oStr_int (i := ((qs'.length : Int) + 1)) (by simp at h1; omega), small, show acc.length + 1 < 100000 by omega]
      refine for_in ((z0 :: qs').map Prod.fst) (fun j s => ∃ v3, s = ⟨[.val (.tup (.str x :: q.map Prod.fst)), .ul (.str x :: (strsL acc ++ (.str (sI ((qs'.length : Int) + 1)) :: strsL (flA (z0 :: qs') j)))), .val (.tup ((z0 :: qs').map Prod.fst)), v3], M⟩) ?_ (fun j d s hd hi => ?_) (fun s hi => ?_)
      · simp [flA_0, strsL, e0]
      · obtain ⟨v3, rfl⟩ := hi
        rw [List.getElem?_map, Option.map_eq_some_iff] at hd
        obtain ⟨z, hz2, rfl⟩ := hd
        have hT2 := (hT z (List.mem_of_getElem? hz2)).1
        have hb2 := flA_le (q := z0 :: qs') (j + 1)
        rw [flA_succ hz2] at hb2 ⊢
        rw [List.length_append] at hb2
        simp only [List.length_cons] at hb
        generalize flA (z0 :: qs') j = acc2 at *
        have e3 := lExt (M := M) (xs := D.str x :: (strsL acc ++ D.str (sI ((qs'.length : Int) + 1)) :: strsL acc2)) (ys := strsL z.2) (by simp; omega)
        simp [hT2, e3]
        simp [strsL]
      · obtain ⟨v3, rfl⟩ := hi
        rw [List.length_map, flA_all]
        simp [strsL]
  · obtain ⟨v2, v3, rfl⟩ := hi
    rw [List.length_map, flA_all]
    simp [strsL]
/-- the law's words of a thing with a word ahead -/
theorem lw_word {M : List MO} {k : Nat} {x : String} {q : List (D × List String)} (hx : x ≠ "num" ∧ x ≠ "col" ∧ x ≠ "worth") (hq : ∀ z ∈ q, Itm (fun d ws => Tk k  26 [d] M = .ok (.lst (strsL ws)) M) z.1 z.2) (hl : (q.flatMap Prod.snd).length ≤ 1000) :
    Tk (k + 1)  26 [.tup (.str x :: q.map Prod.fst)] M = .ok (.lst (strsL (x :: q.flatMap Prod.snd))) M := by
  refine CP.eq ?_
  rw [T26, CP_mkFn]
  simp [m26, N26, inS3, hx.1.symm, hx.2.1.symm, hx.2.2.symm]
  refine for_in (q.map Prod.fst) (fun i s => ∃ v2 v3, s = ⟨[.val (.tup (.str x :: q.map Prod.fst)), .ul (.str x :: strsL (flA q i)), v2, v3], M⟩) ?_ (fun i d s hd hi => ?_) (fun s hi => ?_)
  · simp [flA_0, strsL]
  · obtain ⟨v2, v3, rfl⟩ := hi
    rw [List.getElem?_map, Option.map_eq_some_iff] at hd
    obtain ⟨z, hz, rfl⟩ := hd
    have hI := hq z (List.mem_of_getElem? hz)
    have hs := flA_succ hz
    have hb := flA_le (q := q) (i + 1)
    rw [hs] at hb ⊢
    rw [List.length_append] at hb
    generalize flA q i = acc at *
    obtain ⟨zd, zw⟩ := z
    dsimp only at hI hb ⊢
    cases hI with
    | int hi =>
      simp only [List.length_singleton] at hb
      simp [isI, oStr_int hi, small, show acc.length + 1 < 100000 by omega]
      simp [strsL]
    | th hT hTh =>
      have hne := thing_ne (M := M) hTh
      obtain ⟨y, r, rfl⟩ := hTh.hd
      simp [isI, hne, hT, small, show acc.length + 1 + zw.length ≤ 100000 by omega]
      simp [strsL]
    | @ths qs h0 h1 hT =>
      have hne := things_ne (M := M) (fun z hz => (hT z hz).2) h0
      obtain ⟨z0, qs', rfl⟩ : ∃ z0 q', qs = z0 :: q' := by cases qs with | nil => simp at h0 | cons a b => exact ⟨a, b, rfl⟩
      obtain ⟨y, r, e0⟩ := (hT z0 List.mem_cons_self).2.hd
      simp only [List.map_cons] at hne ⊢
      rw [e0] at hne ⊢
      simp [isI, hne, oStr_int (i := ((qs'.length : Int) + 1)) (by simp at h1; omega), small, show acc.length + 1 < 100000 by omega]
      refine for_in ((z0 :: qs').map Prod.fst) (fun j s => ∃ v3, s = ⟨[.val (.tup (.str x :: q.map Prod.fst)), .ul (.str x :: (strsL acc ++ (.str (sI ((qs'.length : Int) + 1)) :: strsL (flA (z0 :: qs') j)))), .val (.tup ((z0 :: qs').map Prod.fst)), v3], M⟩) ?_ (fun j d s hd hi => ?_) (fun s hi => ?_)
      · simp [flA_0, strsL, e0]
      · obtain ⟨v3, rfl⟩ := hi
        rw [List.getElem?_map, Option.map_eq_some_iff] at hd
        obtain ⟨z, hz2, rfl⟩ := hd
        have hT2 := (hT z (List.mem_of_getElem? hz2)).1
        have hb2 := flA_le (q := z0 :: qs') (j + 1)
        rw [flA_succ hz2] at hb2 ⊢
        rw [List.length_append] at hb2
        simp only [List.length_cons] at hb
        generalize flA (z0 :: qs') j = acc2 at *
        simp [hT2, small, show acc.length + (acc2.length + 1) + 1 + z.2.length ≤ 100000 by omega]
        simp [strsL]
      · obtain ⟨v3, rfl⟩ := hi
        rw [List.length_map, flA_all]
        simp [strsL]
  · obtain ⟨v2, v3, rfl⟩ := hi
    rw [List.length_map, flA_all]
    simp [strsL]

theorem addS {M : List MO} {a b : String} (h : a.length + b.length ≤ 100000) : oAdd M (.str a) (.str b) = some (.str (a ++ b)) := if_pos h
theorem rep_num {P : D → S → Prop} {E : EX} {s : S} : WP (repM 0 (.str "num")) P E s ↔ P (.str "") s := by
  have e : repM 0 (.str "num") s = .ok (.str "") s := by rfl
  unfold WP
  rw [e]
theorem rep_col {P : D → S → Prop} {E : EX} {s : S} : WP (repM 0 (.str "col")) P E s ↔ P (.str "c") s := by
  have e : repM 0 (.str "col") s = .ok (.str "c") s := by rfl
  unfold WP
  rw [e]
theorem rep_worth {P : D → S → Prop} {E : EX} {s : S} : WP (repM 0 (.str "worth")) P E s ↔ P (.str "w") s := by
  have e : repM 0 (.str "worth") s = .ok (.str "w") s := by rfl
  unfold WP
  rw [e]
/-- what both make of a number, a column, a worth -/
theorem leaf {M : List MO} {k : Nat} {n : Int} (h0 : 0 ≤ n) (h1 : n < 1000) :
    (Tk (k + 1) 3 [.tup [.str "num", .int n]] M = .ok (.lst (strsL [sI n])) M ∧ Tk (k + 1) 26 [.tup [.str "num", .int n]] M = .ok (.lst (strsL [sI n])) M) ∧
    (Tk (k + 1) 3 [.tup [.str "col", .int n]] M = .ok (.lst (strsL ["c" ++ sI n])) M ∧ Tk (k + 1) 26 [.tup [.str "col", .int n]] M = .ok (.lst (strsL ["c" ++ sI n])) M) ∧
    (Tk (k + 1) 3 [.tup [.str "worth", .int n]] M = .ok (.lst (strsL ["w" ++ sI n])) M ∧ Tk (k + 1) 26 [.tup [.str "worth", .int n]] M = .ok (.lst (strsL ["w" ++ sI n])) M) := by
  have N := numT h0 h1
  have l3 := N.l3
  have a1 : oAdd M (.str "") (.str (sI n)) = some (.str (sI n)) := by
    rw [addS (by show 0 + _ ≤ _; omega), String.empty_append]
  have a2 : oAdd M (.str "c") (.str (sI n)) = some (.str ("c" ++ sI n)) := addS (by show 1 + _ ≤ _; omega)
  have a3 : oAdd M (.str "w") (.str (sI n)) = some (.str ("w" ++ sI n)) := addS (by show 1 + _ ≤ _; omega)
  have hn : n.natAbs < 10000 := by omega
  refine ⟨⟨?_, ?_⟩, ⟨?_, ?_⟩, ⟨?_, ?_⟩⟩
  · refine CP.eq ?_
    rw [T3, CP_mkFn]
    simp [m3, N3, inS3, oStr_int hn, strKeys, a1, strsL]
  · refine CP.eq ?_
    rw [T26, CP_mkFn]
    simp [m26, N26, inS3, oStr_int hn, a1, strsL, WP_eRepN, rep_num]
  · refine CP.eq ?_
    rw [T3, CP_mkFn]
    simp [m3, N3, inS3, oStr_int hn, strKeys, a2, strsL]
  · refine CP.eq ?_
    rw [T26, CP_mkFn]
    simp [m26, N26, inS3, oStr_int hn, a2, strsL, WP_eRepN, rep_col]
  · refine CP.eq ?_
    rw [T3, CP_mkFn]
    simp [m3, N3, inS3, oStr_int hn, strKeys, a3, strsL]
  · refine CP.eq ?_
    rw [T26, CP_mkFn]
    simp [m26, N26, inS3, oStr_int hn, a3, strsL, WP_eRepN, rep_worth]
/-- both come to these words -/
def Both (k : Nat) (d : D) (ws : List String) : Prop := ∀ M, Tk k 3 [d] M = .ok (.lst (strsL ws)) M ∧ Tk k 26 [d] M = .ok (.lst (strsL ws)) M
theorem Itm.mono {T T' : D → List String → Prop} (h : ∀ d ws, T d ws → T' d ws) {d : D} {ws : List String} (t : Itm T d ws) : Itm T' d ws := by
  cases t with
  | int hi => exact .int hi
  | th h1 h2 => exact .th (h _ _ h1) h2
  | ths a b c => exact .ths a b fun z hz => ⟨h _ _ (c z hz).1, (c z hz).2⟩
theorem both_word {k : Nat} {x : String} {q : List (D × List String)} (hx : x ≠ "num" ∧ x ≠ "col" ∧ x ≠ "worth") (hq : ∀ z ∈ q, Itm (Both k) z.1 z.2) (hl : (q.flatMap Prod.snd).length ≤ 1000) : Both (k + 1) (.tup (.str x :: q.map Prod.fst)) (x :: q.flatMap Prod.snd) := fun M =>
  ⟨wo_word hx (fun z hz => (hq z hz).mono fun d ws h => (h M).1) hl, lw_word hx (fun z hz => (hq z hz).mono fun d ws h => (h M).2) hl⟩
theorem both_P {wide : Nat} (hw : wide ≤ 4) : ∀ (p : Part) (k : Nat), szP p < k → szP p ≤ 60 → okP wide 4 p → Both k (encP p) (wdP p)
  | p, 0, hk, _, _ => by omega
  | .num n, k + 1, hk, hs, ho => fun M => (leaf ho.1 ho.2).1
  | .col n, k + 1, hk, hs, ho => fun M => (leaf (n := (n : Int)) (by omega) (by have : n < wide := ho; omega)).2.1
  | .worth n, k + 1, hk, hs, ho => fun M => (leaf (n := (n : Int)) (by omega) (by have : n < 4 := ho; omega)).2.2
  | .add a b, k + 1, hk, hs, ho => by
    have hk : szP a + szP b + 1 < k + 1 := hk
    have hs : szP a + szP b + 1 ≤ 60 := hs
    have h1 := both_P hw a k (by omega) (by omega) ho.1
    have h2 := both_P hw b k (by omega) (by omega) ho.2
    have := both_word (x := "add") (q := [(encP a, wdP a), (encP b, wdP b)]) (by decide) (fun z hz => by
      rcases List.mem_cons.mp hz with rfl | hz
      · exact .th h1 (thing_P a (by omega))
      · rw [List.mem_singleton.mp hz]
        exact .th h2 (thing_P b (by omega))) (by simp [wdP_len]; omega)
    simpa [wdP, encP] using this
theorem both_C {wide : Nat} (hw : wide ≤ 4) : ∀ (p : Cond) (k : Nat), szC p < k → szC p ≤ 60 → okC wide 4 p → Both k (encC p) (wdC p)
  | p, 0, hk, _, _ => by omega
  | .all, k + 1, hk, hs, ho => by
    have := both_word (k := k) (x := "all") (q := []) (by decide) (by simp) (by simp)
    simpa [wdC, encC] using this
  | .is a b, k + 1, hk, hs, ho => by
    have hk : szP a + szP b + 1 < k + 1 := hk
    have hs : szP a + szP b + 1 ≤ 60 := hs
    have h1 := both_P hw a k (by omega) (by omega) ho.1
    have h2 := both_P hw b k (by omega) (by omega) ho.2
    have := both_word (x := "is") (q := [(encP a, wdP a), (encP b, wdP b)]) (by decide) (fun z hz => by
      rcases List.mem_cons.mp hz with rfl | hz
      · exact .th h1 (thing_P a (by omega))
      · rw [List.mem_singleton.mp hz]
        exact .th h2 (thing_P b (by omega))) (by simp [wdP_len]; omega)
    simpa [wdC, encC] using this
  | .less a b, k + 1, hk, hs, ho => by
    have hk : szP a + szP b + 1 < k + 1 := hk
    have hs : szP a + szP b + 1 ≤ 60 := hs
    have h1 := both_P hw a k (by omega) (by omega) ho.1
    have h2 := both_P hw b k (by omega) (by omega) ho.2
    have := both_word (x := "less") (q := [(encP a, wdP a), (encP b, wdP b)]) (by decide) (fun z hz => by
      rcases List.mem_cons.mp hz with rfl | hz
      · exact .th h1 (thing_P a (by omega))
      · rw [List.mem_singleton.mp hz]
        exact .th h2 (thing_P b (by omega))) (by simp [wdP_len]; omega)
    simpa [wdC, encC] using this
  | .not c, k + 1, hk, hs, ho => by
    have hk : szC c + 1 < k + 1 := hk
    have hs : szC c + 1 ≤ 60 := hs
    have h1 := both_C hw c k (by omega) (by omega) ho
    have := both_word (x := "not") (q := [(encC c, wdC c)]) (by decide) (fun z hz => by
      rw [List.mem_singleton.mp hz]
      exact .th h1 (thing_C c (by omega))) (by simp [wdC_len]; omega)
    simpa [wdC, encC] using this
  | .both a b, k + 1, hk, hs, ho => by
    have hk : szC a + szC b + 1 < k + 1 := hk
    have hs : szC a + szC b + 1 ≤ 60 := hs
    have h1 := both_C hw a k (by omega) (by omega) ho.1
    have h2 := both_C hw b k (by omega) (by omega) ho.2
    have := both_word (x := "both") (q := [(encC a, wdC a), (encC b, wdC b)]) (by decide) (fun z hz => by
      rcases List.mem_cons.mp hz with rfl | hz
      · exact .th h1 (thing_C a (by omega))
      · rw [List.mem_singleton.mp hz]
        exact .th h2 (thing_C b (by omega))) (by simp [wdC_len]; omega)
    simpa [wdC, encC] using this
theorem flat_P {ps : List Part} : (ps.map fun p => (encP p, wdP p)).flatMap Prod.snd = wdPs ps := by
  induction ps with
  | nil => rfl
  | cons p ps ih => simp only [List.map_cons, List.flatMap_cons, ih, wdPs]
theorem both_A {W : List Nat} (hW3 : W.length ≤ 3) (hWv : ∀ w ∈ W, 1 ≤ w ∧ w ≤ 4) (a : Ask) {k : Nat} (hk : 70 ≤ k) (hs : szA a ≤ 60) (ho : okA W 4 a) : Both k (encA a) (wdA a) := by
  obtain ⟨k, rfl⟩ : ∃ j, k = j + 1 := ⟨k - 1, by omega⟩
  have ht := okA_t ho
  have hsmall : ∀ n : Nat, n ≤ 10 → ((n : Int)).natAbs < 10000 := fun n h => by omega
  cases a with
  | rows t c ps =>
    obtain ⟨w, hW, hc, hp, l1, l2⟩ := ho
    have hw := (hWv w (List.mem_of_getElem? hW)).2
    have ht : t < W.length := ht
    have hs : szC c + szPs ps + 1 ≤ 60 := hs
    have h1 := both_C hw c k (by omega) (by omega) hc
    have := both_word (k := k) (x := "rows") (q := [(.int t, [sI t]), (encC c, wdC c), (.tup ((ps.map fun p => (encP p, wdP p)).map Prod.fst), sI (ps.map fun p => (encP p, wdP p)).length :: ((ps.map fun p => (encP p, wdP p)).flatMap Prod.snd))]) (by decide) (fun z hz => by
      rcases List.mem_cons.mp hz with rfl | hz
      · exact .int (hsmall _ (by omega))
      · rcases List.mem_cons.mp hz with rfl | hz
        · exact .th h1 (thing_C c (by omega))
        · rw [List.mem_singleton.mp hz]
          refine .ths (by simp; omega) (by simp; omega) fun z hz => ?_
          obtain ⟨p, hp', rfl⟩ := List.mem_map.mp hz
          have hm := szPs_mem hp'
          exact ⟨both_P hw p k (by omega) (by omega) (hp p hp'), thing_P p (by omega)⟩) (by simp only [List.flatMap_cons, List.flatMap_nil, flat_P]; simp [wdC_len, wdPs_len]; omega)
    simpa [wdA, encA, flat_P, Function.comp_def] using this
  | put t ps =>
    obtain ⟨w, hW, hp, hl, l1, l2⟩ := ho
    have hw := (hWv w (List.mem_of_getElem? hW)).2
    have ht : t < W.length := ht
    have hs : szPs ps + 1 ≤ 60 := hs
    have := both_word (k := k) (x := "put") (q := [(.int t, [sI t]), (.tup ((ps.map fun p => (encP p, wdP p)).map Prod.fst), sI (ps.map fun p => (encP p, wdP p)).length :: ((ps.map fun p => (encP p, wdP p)).flatMap Prod.snd))]) (by decide) (fun z hz => by
      rcases List.mem_cons.mp hz with rfl | hz
      · exact .int (hsmall _ (by omega))
      · rw [List.mem_singleton.mp hz]
        refine .ths (by simp; omega) (by simp; omega) fun z hz => ?_
        obtain ⟨p, hp', rfl⟩ := List.mem_map.mp hz
        have hm := szPs_mem hp'
        exact ⟨both_P (wide := 0) (by omega) p k (by omega) (by omega) (hp p hp'), thing_P p (by omega)⟩) (by simp only [List.flatMap_cons, List.flatMap_nil, flat_P]; simp [wdPs_len]; omega)
    simpa [wdA, encA, flat_P, Function.comp_def] using this
  | drop t c =>
    obtain ⟨w, hW, hc⟩ := ho
    have hw := (hWv w (List.mem_of_getElem? hW)).2
    have ht : t < W.length := ht
    have hs : szC c + 1 ≤ 60 := hs
    have h1 := both_C hw c k (by omega) (by omega) hc
    have := both_word (k := k) (x := "drop") (q := [(.int t, [sI t]), (encC c, wdC c)]) (by decide) (fun z hz => by
      rcases List.mem_cons.mp hz with rfl | hz
      · exact .int (hsmall _ (by omega))
      · rw [List.mem_singleton.mp hz]
        exact .th h1 (thing_C c (by omega))) (by simp [wdC_len]; omega)
    simpa [wdA, encA] using this
  | set t j e c =>
    obtain ⟨w, hW, hj, he, hc⟩ := ho
    have hw := (hWv w (List.mem_of_getElem? hW)).2
    have ht : t < W.length := ht
    have hs : szP e + szC c + 1 ≤ 60 := hs
    have h1 := both_C hw c k (by omega) (by omega) hc
    have h2 := both_P hw e k (by omega) (by omega) he
    have := both_word (k := k) (x := "set") (q := [(.int t, [sI t]), (.int j, [sI j]), (encP e, wdP e), (encC c, wdC c)]) (by decide) (fun z hz => by
      rcases List.mem_cons.mp hz with rfl | hz
      · exact .int (hsmall _ (by omega))
      · rcases List.mem_cons.mp hz with rfl | hz
        · exact .int (hsmall _ (by omega))
        · rcases List.mem_cons.mp hz with rfl | hz
          · exact .th h2 (thing_P e (by omega))
          · rw [List.mem_singleton.mp hz]
            exact .th h1 (thing_C c (by omega))) (by simp [wdC_len, wdP_len]; omega)
    simpa [wdA, encA] using this
end K14

set_option maxHeartbeats 2000000
/-! k14, the plain law: signs, texts, messages written. -/
namespace K14
open PySem L2 Ev

def sgs : String := "0123456789abcdefghijklmnopqrstuvwxyz"
structure OkW (w : String) : Prop where
  l1 : 1 ≤ w.length
  l10 : w.length ≤ 10
  ch : ∀ c ∈ w.toList, c ∈ sgs.toList
theorem figs_sgs : ∀ c ∈ figs.toList, c ∈ sgs.toList := by decide +kernel
theorem okw_num {n : Int} (h : NumT n) : OkW (sI n) := ⟨h.l1, by have := h.l3; omega, fun c hc => figs_sgs c (h.fg c hc)⟩
theorem okw_pre {x : String} {n : Int} (hx : x = "c" ∨ x = "w") (h : NumT n) : OkW (x ++ sI n) := by
  have l3 := h.l3
  have e : x.length = 1 := by rcases hx with rfl | rfl <;> rfl
  refine ⟨by rw [String.length_append]; omega, by rw [String.length_append]; omega, fun c hc => ?_⟩
  rw [String.toList_append, List.mem_append] at hc
  rcases hc with hc | hc
  · rcases hx with rfl | rfl
    · have : c = 'c' := by simpa using hc
      subst this
      decide +kernel
    · have : c = 'w' := by simpa using hc
      subst this
      decide +kernel
  · exact figs_sgs c (h.fg c hc)
def okwB (w : String) : Bool := decide (1 ≤ w.length) && (decide (w.length ≤ 10) && w.toList.all fun c => sgs.toList.contains c)
theorem okw_lit {w : String} (h : okwB w = true) : OkW w := by
  unfold okwB at h
  simp only [Bool.and_eq_true, decide_eq_true_eq, List.all_eq_true, List.contains_iff_mem] at h
  exact ⟨h.1, h.2.1, h.2.2⟩
theorem lits : ∀ w ∈ ["add", "all", "is", "less", "not", "both", "rows", "put", "drop", "set", "ready", "bind", "fetch", "close", "ask", "portal", "begin", "keep", "undo", "sync"], okwB w = true := by decide +kernel
theorem okw (w : String) (h : w ∈ ["add", "all", "is", "less", "not", "both", "rows", "put", "drop", "set", "ready", "bind", "fetch", "close", "ask", "portal", "begin", "keep", "undo", "sync"] := by simp) : OkW w := okw_lit (lits w h)
theorem numN {n : Nat} (h : n < 1000) : NumT (n : Int) := numT (by omega) (by omega)
def AllW (ws : List String) : Prop := ∀ w ∈ ws, OkW w
theorem AllW.cons {w : String} {ws : List String} (h : OkW w) (hs : AllW ws) : AllW (w :: ws) := fun x hx => by
  rcases List.mem_cons.mp hx with rfl | hx
  · exact h
  · exact hs x hx
theorem AllW.nil : AllW [] := fun _ h => by cases h
theorem AllW.app {a b : List String} (h : AllW a) (hs : AllW b) : AllW (a ++ b) := fun x hx => (List.mem_append.mp hx).elim (h x) (hs x)
theorem aw_P {wide : Nat} (hw : wide ≤ 4) : ∀ p : Part, okP wide 4 p → AllW (wdP p)
  | .num n, h => .cons (okw_num (numT h.1 h.2)) .nil
  | .col n, h => .cons (okw_pre (.inl rfl) (numN (by have : n < wide := h; omega))) .nil
  | .worth n, h => .cons (okw_pre (.inr rfl) (numN (by have : n < 4 := h; omega))) .nil
  | .add a b, h => .cons (okw "add") (.app (aw_P hw a h.1) (aw_P hw b h.2))
theorem aw_C {wide : Nat} (hw : wide ≤ 4) : ∀ p : Cond, okC wide 4 p → AllW (wdC p)
  | .all, h => .cons (okw "all") .nil
  | .is a b, h => .cons (okw "is") (.app (aw_P hw a h.1) (aw_P hw b h.2))
  | .less a b, h => .cons (okw "less") (.app (aw_P hw a h.1) (aw_P hw b h.2))
  | .not c, h => .cons (okw "not") (aw_C hw c h)
  | .both a b, h => .cons (okw "both") (.app (aw_C hw a h.1) (aw_C hw b h.2))
theorem aw_Ps {wide : Nat} (hw : wide ≤ 4) : ∀ ps : List Part, (∀ p ∈ ps, okP wide 4 p) → AllW (wdPs ps)
  | [], _ => .nil
  | p :: ps, h => .app (aw_P hw p (h p List.mem_cons_self)) (aw_Ps hw ps fun q hq => h q (List.mem_cons_of_mem _ hq))
theorem aw_A {W : List Nat} (hW3 : W.length ≤ 3) (hWv : ∀ w ∈ W, 1 ≤ w ∧ w ≤ 4) (a : Ask) (ho : okA W 4 a) : AllW (wdA a) := by
  have ht := okA_t ho
  cases a with
  | rows t c ps =>
    obtain ⟨w, hW, hc, hp, l1, l2⟩ := ho
    have hw := (hWv w (List.mem_of_getElem? hW)).2
    have ht : t < W.length := ht
    exact .cons (okw "rows") (.cons (okw_num (numN (by omega))) (.app (aw_C hw c hc) (.cons (okw_num (numN (by omega))) (aw_Ps hw ps hp))))
  | put t ps =>
    obtain ⟨w, hW, hp, hl, l1, l2⟩ := ho
    have ht : t < W.length := ht
    exact .cons (okw "put") (.cons (okw_num (numN (by omega))) (.cons (okw_num (numN (by omega))) (aw_Ps (wide := 0) (by omega) ps hp)))
  | drop t c =>
    obtain ⟨w, hW, hc⟩ := ho
    have hw := (hWv w (List.mem_of_getElem? hW)).2
    have ht : t < W.length := ht
    exact .cons (okw "drop") (.cons (okw_num (numN (by omega))) (aw_C hw c hc))
  | set t j e c =>
    obtain ⟨w, hW, hj, he, hc⟩ := ho
    have hw := (hWv w (List.mem_of_getElem? hW)).2
    have ht : t < W.length := ht
    exact .cons (okw "set") (.cons (okw_num (numN (by omega))) (.cons (okw_num (numN (by omega))) (.app (aw_P hw e he) (aw_C hw c hc))))
theorem wdA_len (a : Ask) : (wdA a).length ≤ szA a + 2 := by
  cases a <;> simp [wdA, szA, wdP_len, wdC_len, wdPs_len] <;> omega
/-! ### texts joined, split -/
theorem splC_free {ch : Char} : ∀ {l : List Char}, ch ∉ l → splC ch l = [l]
  | [], _ => rfl
  | x :: xs, h => by
    have h1 : x ≠ ch := fun e => h (by rw [e]; exact List.mem_cons_self)
    rw [splC, if_neg h1, splC_free fun z => h (List.mem_cons_of_mem _ z)]
theorem splC_app {ch : Char} : ∀ {l m : List Char}, ch ∉ l → splC ch (l ++ ch :: m) = l :: splC ch m
  | [], m, _ => by
    rw [List.nil_append, splC, if_pos rfl]
  | x :: xs, m, h => by
    have h1 : x ≠ ch := fun e => h (by rw [e]; exact List.mem_cons_self)
    rw [List.cons_append, splC, if_neg h1, splC_app fun z => h (List.mem_cons_of_mem _ z)]
theorem no_blank {w : String} (h : OkW w) : ' ' ∉ w.toList := fun hc => by
  have h2 := h.ch _ hc
  revert h2
  decide +kernel
theorem split_jn : ∀ {ws : List String}, ws ≠ [] → AllW ws → splC ' ' (jn " " ws).toList = ws.map String.toList
  | [], h, _ => absurd rfl h
  | [x], _, h => splC_free (no_blank (h x List.mem_cons_self))
  | x :: y :: r, _, h => by
    show splC ' ' (x ++ " " ++ jn " " (y :: r)).toList = _
    rw [String.toList_append, String.toList_append, List.append_assoc]
    show splC ' ' (x.toList ++ ' ' :: (jn " " (y :: r)).toList) = _
    rw [splC_app (no_blank (h x List.mem_cons_self)), split_jn (by simp) fun w hw => h w (List.mem_cons_of_mem _ hw)]
    rfl
theorem strs_strsL (ws : List String) : strs? (strsL ws) = some ws := by
  induction ws with
  | nil => rfl
  | cons w ws ih => show (strs? (strsL ws)).map _ = _; rw [ih]; rfl
theorem len_sum {ws : List String} (h : AllW ws) : (ws.map fun x : String => x.length).sum ≤ 10 * ws.length := by
  induction ws with
  | nil => simp
  | cons w ws ih =>
    have h1 := (h w List.mem_cons_self).l10
    have h2 := ih fun x hx => h x (List.mem_cons_of_mem _ hx)
    simp only [List.map_cons, List.sum_cons, List.length_cons]
    omega
theorem sJoin_ok {M : List MO} {ws : List String} (h : AllW ws) (hl : ws.length ≤ 1000) : sJoin M " " (.lst (strsL ws)) = some (.str (jn " " ws)) := by
  show (match strs? (strsL ws) with
      | some ys => if (ys.map fun x : String => x.length).sum + ys.length * (" " : String).length ≤ 16777216 then some (D.str (jn " " ys)) else none
      | none => none) = _
  rw [strs_strsL]
  have := len_sum h
  exact if_pos (by show _ + ws.length * 1 ≤ _; omega)
theorem jn_len : ∀ {ws : List String}, AllW ws → (jn " " ws).length ≤ 11 * ws.length
  | [], _ => by simp [jn]
  | [x], h => by have := (h x List.mem_cons_self).l10; simp [jn]; omega
  | x :: y :: r, h => by
    have h1 := (h x List.mem_cons_self).l10
    have h2 := jn_len (ws := y :: r) fun w hw => h w (List.mem_cons_of_mem _ hw)
    show (x ++ " " ++ jn " " (y :: r)).length ≤ _
    rw [String.length_append, String.length_append]
    simp only [List.length_cons] at h2 ⊢
    have : (" " : String).length = 1 := rfl
    omega
theorem sSplit_ok {M : List MO} {ws : List String} (h : AllW ws) (h0 : ws ≠ []) (hl : ws.length ≤ 1000) : sSplit M (jn " " ws) (.str " ") = some (strsL ws) := by
  show (if (' ' : Char).toNat < 256 ∧ (jn " " ws).length ≤ 1000000 then some ((splC ' ' (jn " " ws).toList).map fun l => D.str (String.ofList l)) else none) = _
  have := jn_len h
  rw [if_pos ⟨by decide, by omega⟩, split_jn h0 h, List.map_map]
  congr 1
  exact List.map_congr_left fun w _ => by simp
/-! ### signs -/
theorem fig_ix : ∀ c ∈ figs.toList, (Builtin.Str.occurrences (Str.ofString "0123456789") (Str.ofString (String.singleton c)) 0 (Str.ofString "0123456789").length 1).head? = some (c.toNat - 48) ∧ 48 ≤ c.toNat := by decide +kernel
theorem let_ix : ∀ c ∈ sgs.toList, c ∉ figs.toList → (Builtin.Str.occurrences (Str.ofString "abcdefghijklmnopqrstuvwxyz") (Str.ofString (String.singleton c)) 0 (Str.ofString "abcdefghijklmnopqrstuvwxyz").length 1).head? = some (c.toNat - 97) ∧ 97 ≤ c.toNat := by decide +kernel
theorem sg_ix : ∀ c ∈ sgs.toList, ∃ i < 36, (Builtin.Str.occurrences (Str.ofString "0123456789abcdefghijklmnopqrstuvwxyz") (Str.ofString (String.singleton c)) 0 (Str.ofString "0123456789abcdefghijklmnopqrstuvwxyz").length 1).head? = some i ∧ ((List.range 10).map (48 + ·) ++ (List.range 26).map (97 + ·))[i]? = some c.toNat := by decide +kernel
theorem sIndex_of {M : List MO} {z : String} {c : Char} {i : Nat} (h : (Builtin.Str.occurrences (Str.ofString z) (Str.ofString (String.singleton c)) 0 (Str.ofString z).length 1).head? = some i) : sIndex M z (.str (String.singleton c)) = some (.int (i : Nat)) := by
  show (match Builtin.Str.occurrences (Str.ofString z) (Str.ofString (String.singleton c)) 0 (Str.ofString z).length 1 with
    | i :: _ => some (D.int (i : Nat))
    | [] => none) = _
  cases e : Builtin.Str.occurrences (Str.ofString z) (Str.ofString (String.singleton c)) 0 (Str.ofString z).length 1 with
  | nil => rw [e] at h; cases h
  | cons j r =>
    rw [e] at h
    cases h
    rfl
theorem in_sign {M : List MO} {z : String} {c : Char} : oInB M (.str (String.singleton c)) (.str z) = some (z.toList.contains c) := by
  show (match (String.singleton c).toList with
    | [ch] => some (z.toList.contains ch)
    | _ => none) = _
  rw [String.toList_singleton]
theorem sing_inj {c : Char} : (String.singleton c == " ") = (c == ' ') := by
  rw [Bool.eq_iff_iff, beq_iff_eq, beq_iff_eq]
  constructor
  · intro h
    have := congrArg String.toList h
    rw [String.toList_singleton] at this
    have h2 : (" " : String).toList = [' '] := rfl
    rw [h2] at this
    exact List.cons.inj this |>.1
  · rintro rfl
    rfl
theorem sign_spec {M : List MO} {k : Nat} {c : Char} (h : c = ' ' ∨ c ∈ sgs.toList) : Tk (k + 1) 2 [.str (String.singleton c)] M = .ok (.int (c.toNat : Nat)) M := by
  refine CP.eq ?_
  rw [T2, CP_mkFn]
  rcases h with rfl | h
  · simp [m2, N2, sing_inj]
  · have hb : (c == ' ') = false := by
      rw [beq_eq_false_iff_ne]
      rintro rfl
      revert h
      decide +kernel
    by_cases hf : c ∈ figs.toList
    · obtain ⟨e1, e2⟩ := fig_ix c hf
      have hc : ∀ M, oInB M (.str (String.singleton c)) (.str "0123456789") = some true := fun M => by
        rw [in_sign, List.contains_iff_mem.mpr (show c ∈ ("0123456789" : String).toList from hf)]
      simp [m2, N2, sing_inj, hb, hc, sIndex_of e1]
      omega
    · obtain ⟨e1, e2⟩ := let_ix c h hf
      have hc : ∀ M, oInB M (.str (String.singleton c)) (.str "0123456789") = some false := fun M => by
        have : ("0123456789" : String).toList.contains c = false := by
          rw [← Bool.not_eq_true, List.contains_iff_mem]
          exact hf
        rw [in_sign, this]
      simp [m2, N2, sing_inj, hb, hc, sIndex_of e1]
      omega
end K14

set_option maxHeartbeats 2000000
/-! k14, the plain law: messages: what they are, written, framed. -/
namespace K14
open PySem L2 Ev

theorem whole_spec {n lo hi : Int} {M : List MO} {k : Nat} : Tk (k + 1) 0 [.int n, .int lo, .int hi] M = .ok (.bl (decide (lo ≤ n) && decide (n < hi))) M := by
  refine CP.eq ?_
  rw [T0, CP_mkFn]
  simp [m0, N0, isI]
  by_cases h : lo ≤ n <;> simp [h]

inductive Msg where
  | ready (n : Nat) (a : Ask) | fetch (n m : Nat) | bind (p n : Nat) (ws : List Int) | close (x : String) (n : Nat) | one (x : String)
def encM : Msg → D
  | .ready n a => .tup [.str "ready", .int n, encA a]
  | .fetch n m => .tup [.str "fetch", .int n, .int m]
  | .bind p n ws => .tup [.str "bind", .int p, .int n, encR ws]
  | .close x n => .tup [.str "close", .str x, .int n]
  | .one x => .tup [.str x]
def wdM : Msg → List String
  | .ready n a => "ready" :: sI n :: wdA a
  | .fetch n m => ["fetch", sI n, sI m]
  | .bind p n ws => "bind" :: sI p :: sI n :: sI ws.length :: ws.map sI
  | .close x n => ["close", x, sI n]
  | .one x => [x]
def okM (W : List Nat) : Msg → Prop
  | .ready n a => n < 6 ∧ okA W 4 a ∧ szA a ≤ 30
  | .fetch n m => n < 6 ∧ m < 21
  | .bind p n ws => p < 6 ∧ n < 6 ∧ ws.length ≤ 4 ∧ ∀ z ∈ ws, 0 ≤ z ∧ z < 1000
  | .close x n => (x = "ask" ∨ x = "portal") ∧ n < 6
  | .one x => x = "begin" ∨ x = "keep" ∨ x = "undo" ∨ x = "sync"
theorem plain_encA (a : Ask) : Ev.plain (encA a) = true := by
  cases a <;> simp [encA, Ev.plain, plains, plain_encC, plain_encP, plains_map plain_encP]
theorem dep_encA (a : Ask) : depD (encA a) ≤ szA a + 2 := by
  cases a with
  | rows t c ps =>
    have d1 := dep_encC c
    have d2 := dep_Ps (ps := ps)
    simp [encA, depD, depDs, szA]; omega
  | put t ps =>
    have d2 := dep_Ps (ps := ps)
    simp [encA, depD, depDs, szA]; omega
  | drop t c =>
    have d1 := dep_encC c
    simp [encA, depD, depDs, szA]; omega
  | set t j e c =>
    have d1 := dep_encC c
    have d2 := dep_encP e
    simp [encA, depD, depDs, szA]; omega
theorem depR (ws : List Int) : depDs (ws.map D.int) = 0 := by
  induction ws with
  | nil => rfl
  | cons w ws ih => simp [depDs, depD, ih]
theorem encM_good {W : List Nat} {m : Msg} (h : okM W m) : Ev.plain (encM m) = true ∧ depD (encM m) ≤ 40 := by
  cases m with
  | ready n a =>
    have := dep_encA a
    have := h.2.2
    exact ⟨by simp [encM, Ev.plain, plains, plain_encA], by simp [encM, depD, depDs]; omega⟩
  | fetch n m => exact ⟨rfl, by simp [encM, depD, depDs]⟩
  | bind p n ws => exact ⟨by simp [encM, encR, Ev.plain, plains]; exact plains_map fun _ => rfl, by simp [encM, encR, depD, depDs, depR]⟩
  | close x n => exact ⟨rfl, by simp [encM, depD, depDs]⟩
  | one x => exact ⟨rfl, by simp [encM, depD, depDs]⟩
theorem encM_ne {W : List Nat} {m : Msg} {M : List MO} (h : okM W m) : eqWhole M (encM m) (.tup []) = some false := by
  obtain ⟨h1, h2⟩ := encM_good h
  obtain ⟨x, r, e⟩ : ∃ x r, encM m = .tup (x :: r) := by cases m <;> exact ⟨_, _, rfl⟩
  rw [e] at h1 h2 ⊢
  unfold Ev.plain at h1
  rw [eqW_tupN h1 (by omega)]
  rfl
theorem fm_no {ws : List Int} (h : ∀ z ∈ ws, 0 ≤ z ∧ z < 1000) : ws.filterMap (fun n => if (!(decide ((0 : Int) ≤ n) && decide (n < 1000))) = true then some (D.int n) else none) = [] := by
  rw [List.filterMap_eq_nil_iff]
  intro z hz
  have := h z hz
  simp [this.1, this.2]
theorem inS4 {M : List MO} {x a b c d : String} : inSeq M (.str x) [.str a, .str b, .str c, .str d] = some (a == x || (b == x || (c == x || d == x))) := by
  simp [inSeq, whole, res, ress, depD, depDs, eqvD]
theorem inS2 {M : List MO} {x a b : String} : inSeq M (.str x) [.str a, .str b] = some (a == x || b == x) := by
  simp [inSeq, whole, res, ress, depD, depDs, eqvD]
theorem eqW_tt {M : List MO} : eqWhole M (.tup []) (.tup []) = some true := by
  rw [eqW_tupN rfl (by simp [depD, depDs])]
  rfl
theorem ismsg_spec {W : List Nat} {m : Msg} {M : List MO} {k : Nat} (h : okM W m) : Tk (k + 2) 1 [encM m] M = .ok (.bl true) M := by
  have hne := encM_ne (M := M) h
  refine CP.eq ?_
  rw [T1, CP_mkFn]
  cases m with
  | ready n a =>
    have h6 : n < 6 := h.1
    simp only [encM] at hne ⊢
    simp [m1, N1, isI, hne, inS4, whole_spec, show ((n : Int) < 6) by omega]
  | fetch n m =>
    have h6 : n < 6 := h.1
    have h7 : m < 21 := h.2
    simp only [encM] at hne ⊢
    simp [m1, N1, isI, hne, inS4, whole_spec, show ((n : Int) < 6) by omega, show ((m : Int) < 21) by omega]
  | bind p n ws =>
    obtain ⟨h5, h6, h7, h8⟩ := h
    simp only [encM, encR] at hne ⊢
    simp [m1, N1, isI, hne, inS4, whole_spec, show ((n : Int) < 6) by omega, show ((p : Int) < 6) by omega, show ¬ ((4 : Int) < ws.length) by omega]
    refine lc_map ws D.int (fun n => if (!(decide ((0 : Int) ≤ n) && decide (n < 1000))) = true then some (D.int n) else none) (by omega) (by simp) (by simp [okW, SV.own]) (fun z hz => ?_) ?_
    · simp [lcEl, wipeL, whole_spec]
      have := h8 z hz
      rw [if_neg (by omega)]
      simp [show ¬ (z < 0 ∨ 1000 ≤ z) by omega]
      try omega
    · rw [fm_no h8]
      dsimp only
      rw [eqW_lstNN]
      exact ⟨rfl, rfl⟩
  | close x n =>
    have h6 : n < 6 := h.2
    simp only [encM] at hne ⊢
    rcases h.1 with rfl | rfl <;> simp [m1, N1, isI, hne, inS4, inS2, whole_spec, show ((n : Int) < 6) by omega]
  | one x =>
    simp only [encM] at hne ⊢
    rcases h with rfl | rfl | rfl | rfl <;> simp [m1, N1, isI, hne, inS4, eqW_tt]
theorem aw_M {W : List Nat} (hW3 : W.length ≤ 3) (hWv : ∀ w ∈ W, 1 ≤ w ∧ w ≤ 4) {m : Msg} (h : okM W m) : AllW (wdM m) := by
  cases m with
  | ready n a =>
    have h6 : n < 6 := h.1
    exact .cons (okw "ready") (.cons (okw_num (numN (by omega))) (aw_A hW3 hWv a h.2.1))
  | fetch n m =>
    have h6 : n < 6 := h.1
    have h7 : m < 21 := h.2
    exact .cons (okw "fetch") (.cons (okw_num (numN (by omega))) (.cons (okw_num (numN (by omega))) .nil))
  | bind p n ws =>
    obtain ⟨h5, h6, h7, h8⟩ := h
    refine .cons (okw "bind") (.cons (okw_num (numN (by omega))) (.cons (okw_num (numN (by omega))) (.cons (okw_num (numN (by omega))) fun w hw => ?_)))
    obtain ⟨z, hz, rfl⟩ := List.mem_map.mp hw
    exact okw_num (numT (h8 z hz).1 (h8 z hz).2)
  | close x n =>
    have h6 : n < 6 := h.2
    refine .cons (okw "close") (.cons ?_ (.cons (okw_num (numN (by omega))) .nil))
    rcases h.1 with rfl | rfl
    · exact okw "ask"
    · exact okw "portal"
  | one x =>
    refine .cons ?_ .nil
    rcases h with rfl | rfl | rfl | rfl
    · exact okw "begin"
    · exact okw "keep"
    · exact okw "undo"
    · exact okw "sync"
theorem wdM_ne (m : Msg) : wdM m ≠ [] := by cases m <;> simp [wdM]
theorem wdM_len {W : List Nat} {m : Msg} (h : okM W m) : (wdM m).length ≤ 40 := by
  cases m with
  | ready n a => have := wdA_len a; have := h.2.2; simp [wdM]; omega
  | bind p n ws => have := h.2.2.1; simp [wdM]; omega
  | _ => simp [wdM]
def txM (m : Msg) : String := jn " " (wdM m)
theorem written_spec {W : List Nat} (hW3 : W.length ≤ 3) (hWv : ∀ w ∈ W, 1 ≤ w ∧ w ≤ 4) {m : Msg} {M : List MO} {k : Nat} (hk : 80 ≤ k) (h : okM W m) : Tk k 4 [encM m] M = .ok (.str (txM m)) M := by
  obtain ⟨k, rfl⟩ : ∃ j, k = j + 3 := ⟨k - 3, by omega⟩
  have hi := ismsg_spec (M := M) (k := k) h
  have hj := sJoin_ok (M := M) (aw_M hW3 hWv h) (by have := wdM_len h; omega)
  have hl := wdM_len h
  refine CP.eq ?_
  rw [T4, CP_mkFn]
  cases m with
  | ready n a =>
    have h6 : n < 6 := h.1
    have hb := ((both_A hW3 hWv a (k := k + 2) (by omega) (by have := h.2.2; omega) h.2.1) M).1
    simp only [encM] at hi ⊢
    simp [m4, N4, hi, oStr_int (i := (n : Int)) (by omega), hb, small]
    have e : D.str "ready" :: D.str (sI n) :: strsL (wdA a) = strsL (wdM (.ready n a)) := rfl
    rw [e, hj]
    simp [wdM] at hl
    simp [txM]
    omega
  | fetch n m =>
    have h6 : n < 6 := h.1
    have h7 : m < 21 := h.2
    simp only [encM] at hi ⊢
    simp [m4, N4, hi]
    refine lc_map [(D.str "fetch", D.str "fetch"), (.int (n : Int), .str (sI n)), (.int (m : Int), .str (sI m))] Prod.fst (fun z => some z.2) (by simp) (by simp) (by simp [okW, SV.own]) (fun z hz => ?_) ?_
    · rcases List.mem_cons.mp hz with rfl | hz
      · simp [lcEl, wipeL, isI]
      · rcases List.mem_cons.mp hz with rfl | hz
        · simp [lcEl, wipeL, isI, oStr_int (i := (n : Int)) (by omega)]
        · rw [List.mem_singleton.mp hz]
          simp [lcEl, wipeL, isI, oStr_int (i := (m : Int)) (by omega)]
    · rw [fm_some]
      have e : [D.str "fetch", D.str (sI n), D.str (sI m)] = strsL (wdM (.fetch n m)) := rfl
      simp
      rw [e, hj]
      simp [txM]
  | bind p n ws =>
    obtain ⟨h5, h6, h7, h8⟩ := h
    simp only [encM, encR] at hi ⊢
    simp [m4, N4, hi]
    refine lc_map [(D.str "bind", some (D.str "bind")), (.int (p : Int), some (.str (sI p))), (.int (n : Int), some (.str (sI n))), (.tup (ws.map D.int), none)] Prod.fst (fun z => z.2) (by simp) (by simp) (by simp [okW, SV.own]) (fun z hz => ?_) ?_
    · rcases List.mem_cons.mp hz with rfl | hz
      · simp [lcEl, wipeL, isI]
      · rcases List.mem_cons.mp hz with rfl | hz
        · simp [lcEl, wipeL, isI, oStr_int (i := (p : Int)) (by omega)]
        · rcases List.mem_cons.mp hz with rfl | hz
          · simp [lcEl, wipeL, isI, oStr_int (i := (n : Int)) (by omega)]
          · rw [List.mem_singleton.mp hz]
            simp [lcEl, wipeL, isI]
    · simp [oStr_int (i := (ws.length : Int)) (by omega), small]
      refine lc_map ws D.int (fun z => some (.str (sI z))) (by omega) (by simp) (by simp [okW, SV.own]) (fun z hz => ?_) ?_
      · have := h8 z hz
        simp [lcEl, wipeL, oStr_int (i := z) (by omega)]
      · rw [fm_some]
        have e : D.str "bind" :: D.str (sI p) :: D.str (sI n) :: D.str (sI ws.length) :: ws.map (fun z => D.str (sI z)) = strsL (wdM (.bind p n ws)) := by simp [strsL, wdM, Function.comp_def]
        simp [small]
        rw [e, hj]
        simp [txM]
        omega
  | close x n =>
    have h6 : n < 6 := h.2
    simp only [encM] at hi ⊢
    simp [m4, N4, hi]
    refine lc_map [(D.str "close", D.str "close"), (.str x, .str x), (.int (n : Int), .str (sI n))] Prod.fst (fun z => some z.2) (by simp) (by simp) (by simp [okW, SV.own]) (fun z hz => ?_) ?_
    · rcases List.mem_cons.mp hz with rfl | hz
      · simp [lcEl, wipeL, isI]
      · rcases List.mem_cons.mp hz with rfl | hz
        · simp [lcEl, wipeL, isI]
        · rw [List.mem_singleton.mp hz]
          simp [lcEl, wipeL, isI, oStr_int (i := (n : Int)) (by omega)]
    · rw [fm_some]
      have e : [D.str "close", D.str x, D.str (sI n)] = strsL (wdM (.close x n)) := rfl
      simp
      rw [e, hj]
      simp [txM]
  | one x =>
    have hx : x ≠ "ready" ∧ x ≠ "bind" := by rcases h with rfl | rfl | rfl | rfl <;> decide
    simp only [encM] at hi ⊢
    simp [m4, N4, hi, hx]
    refine lc_map [(D.str x, D.str x)] Prod.fst (fun z => some z.2) (by simp) (by simp) (by simp [okW, SV.own]) (fun z hz => ?_) ?_
    · rw [List.mem_singleton.mp hz]
      simp [lcEl, wipeL, isI]
    · rw [fm_some]
      have e : [D.str x] = strsL (wdM (.one x)) := rfl
      simp
      rw [e, hj]
      simp [txM, hx.2]
end K14

set_option maxHeartbeats 2000000
/-! k14, the plain law: the reader: words, numbers, parts. -/
namespace K14
open PySem L2 Ev

theorem in_fig {M : List MO} {c : Char} : oInB M (.str (String.singleton c)) (.str "0123456789") = some (figs.toList.contains c) := in_sign
def offF (c : Char) : Option D := if figs.toList.contains c then none else some (.str (String.singleton c))
theorem offF_or (c : Char) : (c ∈ figs.toList ∧ offF c = none) ∨ (c ∉ figs.toList ∧ offF c = some (.str (String.singleton c))) := by
  unfold offF
  by_cases h : c ∈ figs.toList
  · exact .inl ⟨h, if_pos (List.contains_iff_mem.mpr h)⟩
  · exact .inr ⟨h, if_neg (by rw [List.contains_iff_mem]; exact h)⟩
theorem plain_off {l : List Char} : plains (l.filterMap offF) = true ∧ depDs (l.filterMap offF) = 0 := by
  induction l with
  | nil => exact ⟨rfl, rfl⟩
  | cons c l ih =>
    rw [List.filterMap_cons]
    rcases offF_or c with ⟨_, e⟩ | ⟨_, e⟩ <;> rw [e]
    · exact ih
    · exact ⟨by simp [plains, Ev.plain, ih.1], by simp [depDs, depD, ih.2]⟩
/-- signs that are no figures -/
theorem offs {σ : List SV} {M : List MO} {w : String} {P : List D → Ev.S → Prop} (hσ : σ = [.val (.str w), .un]) (hl : w.length ≤ 1000) (fin : P (w.toList.filterMap offF) ⟨σ, M⟩) :
    WP (fLc [1] (iSeq (eVar 0)) (gN 1) (asB (eBinP oNotIn 1 (pure (.str "0123456789")))) (eVar 1)) P noEX ⟨σ, M⟩ := by
  subst hσ
  refine lc_map w.toList (fun c => .str (String.singleton c)) offF (by rw [String.length_toList]; exact hl) (by simp [seqNow]) (by simp [okW, SV.own]) (fun c hc => ?_) fin
  rcases offF_or c with ⟨h, e⟩ | ⟨h, e⟩ <;> rw [e] <;> simp [lcEl, wipeL, in_fig, h]
theorem off_nil {w : String} (h : ∀ c ∈ w.toList, c ∈ figs.toList) : w.toList.filterMap offF = [] := by
  rw [List.filterMap_eq_nil_iff]
  intro c hc
  unfold offF
  rw [List.contains_iff_mem.mpr (h c hc)]
  rfl
theorem off_ne {w : String} (h : ∃ c ∈ w.toList, c ∉ figs.toList) : ∃ d r, w.toList.filterMap offF = d :: r := by
  cases e : w.toList.filterMap offF with
  | cons d r => exact ⟨d, r, rfl⟩
  | nil =>
    rw [List.filterMap_eq_nil_iff] at e
    obtain ⟨c, hc, hn⟩ := h
    have := e c hc
    unfold offF at this
    rw [if_neg (by rw [List.contains_iff_mem]; exact hn)] at this
    cases this
theorem numof_num {M : List MO} {k : Nat} {n : Int} (h : NumT n) (h0 : 0 ≤ n) (h1 : n < 1000) : Tk (k + 1) 6 [.str (sI n)] M = .ok (.int n) M := by
  have l1 := h.l1
  have l3 := h.l3
  refine CP.eq ?_
  rw [T6, CP_mkFn]
  have el : oLen M (.str (sI n)) = some (.int ((sI n).length : Nat)) := if_pos (by unfold small; omega)
  have ei : oIntS M (.str (sI n)) = some (.int n) := by
    show (if (sI n).length ≤ 600 then _ else _) = _
    rw [if_pos (by omega), h.int]
    rfl
  simp [m6, N6, el, show (1 : Int) ≤ ((sI n).length : Nat) by omega, show ((sI n).length : Int) ≤ 3 by omega]
  refine offs rfl (by omega) ?_
  rw [off_nil h.fg]
  simp [ei, oStr_int (i := n) (by omega)]
theorem numof_off {M : List MO} {k : Nat} {w : String} (hl : w.length ≤ 1000) (h : ∃ c ∈ w.toList, c ∉ figs.toList) : Tk (k + 1) 6 [.str w] M = .ok .non M := by
  refine CP.eq ?_
  rw [T6, CP_mkFn]
  have el : oLen M (.str w) = some (.int (w.length : Nat)) := if_pos (by unfold small; omega)
  by_cases h1 : (1 : Int) ≤ (w.length : Nat)
  · by_cases h3 : (w.length : Int) ≤ 3
    · simp [m6, N6, el, h1, h3]
      refine offs rfl (by omega) ?_
      obtain ⟨p1, p2⟩ := plain_off (l := w.toList)
      obtain ⟨d, r, e⟩ := off_ne h
      rw [e] at p1 p2 ⊢
      have := eqW_lstN (M := M) p1 (by show depDs _ + 1 ≤ 64; omega)
      simp [this]
    · simp [m6, N6, el, h1, h3]
  · simp [m6, N6, el, h1]
theorem off_word {w : String} (h : w ∈ ["add", "all", "is", "less", "not", "both", "rows", "put", "drop", "set", "ready", "bind", "fetch", "close", "ask", "portal", "begin", "keep", "undo", "sync"]) : ∃ c ∈ w.toList, c ∉ figs.toList := by
  revert w
  decide +kernel
theorem off_pre {x : String} {s : String} (hx : x = "c" ∨ x = "w") : ∃ c ∈ (x ++ s).toList, c ∉ figs.toList := by
  rcases hx with rfl | rfl
  · exact ⟨'c', by rw [String.toList_append]; simp, by decide +kernel⟩
  · exact ⟨'w', by rw [String.toList_append]; simp, by decide +kernel⟩
/-! ### the reader's object -/
def rd (ws : List String) (i : Nat) : MO := .ins "Reader" [("words", .lst (strsL ws)), ("place", .int (i : Int))]
theorem atI_ws {ws : List String} {i : Nat} {w : String} (h : ws[i]? = some w) : atI (strsL ws) (i : Int) = some (.str w) := by
  have := (List.getElem?_eq_some_iff.mp h).1
  rw [atI_nat (by omega) (by simp; omega)]
  simp [strsL, h]
theorem inStrs {M : List MO} {x : String} : ∀ {os : List String}, ress (rfM M 4) (strsL os) = some (strsL os) ∧ depDs (strsL os) = 0 ∧ ((strsL os).any fun b => eqvD b (.str x)) = os.any (· == x)
  | [] => ⟨rfl, rfl, rfl⟩
  | o :: os => by
    obtain ⟨h1, h2, h3⟩ := inStrs (M := M) (x := x) (os := os)
    have h1' : ress (rfM M 4) (os.map D.str) = some (os.map D.str) := h1
    have h2' : depDs (os.map D.str) = 0 := h2
    have h3' : ((os.map D.str).any fun b => eqvD b (.str x)) = os.any (· == x) := h3
    refine ⟨by simp [strsL, ress, res, h1'], by simp [strsL, depDs, depD, h2'], ?_⟩
    show (eqvD (.str o) (.str x) || (os.map D.str).any fun b => eqvD b (.str x)) = _
    rw [h3']
    simp [eqvD]
theorem inSeq_strs {M : List MO} {x : String} {os : List String} : inSeq M (.str x) (strsL os) = some (os.any (· == x)) := by
  obtain ⟨h1, h2, h3⟩ := inStrs (M := M) (x := x) (os := os)
  unfold inSeq
  rw [h1, show whole M (.str x) = some (.str x) from rfl]
  dsimp only
  rw [if_pos ⟨by simp [depD], by omega⟩, h3]
/-- what a word may be of -/
inductive Opt : D → String → Prop where
  | any {w : String} : Opt .non w
  | lst {w : String} {os : List String} : w ∈ os → Opt (.lst (strsL os)) w
  | tup {w : String} {os : List String} : w ∈ os → Opt (.tup (strsL os)) w
theorem any_mem {w : String} {os : List String} (h : w ∈ os) : os.any (· == w) = true := List.any_eq_true.mpr ⟨w, h, by simp⟩
theorem word_spec {M : List MO} {k n i : Nat} {ws : List String} {w : String} {o : D} (hM : M[n]? = some (rd ws i)) (hw : ws[i]? = some w) (ho : Opt o w) : Tk (k + 1) 8 [.ref n, o] M = .ok (.str w) (M.set n (rd ws (i + 1))) := by
  have hi := (List.getElem?_eq_some_iff.mp hw).1
  have hM' := hM
  unfold rd at hM'
  have e1 := atI_ws hw
  have hl : ¬ ((ws.length : Int) ≤ i) := by omega
  refine CP.eq ?_
  rw [T8, CP_mkFn]
  cases ho with
  | any =>
    simp [m8, N8, hM', fl_words, fl_place, hl, putD, gs hM, e1]
    simp [rd]
  | @lst _ os h =>
    have e2 := inSeq_strs (M := M) (x := w) (os := os)
    simp [m8, N8, hM', fl_words, fl_place, hl, putD, gs hM, e1, e2, any_mem h]
    simp [rd]
  | @tup _ os h =>
    have e2 := inSeq_strs (M := M) (x := w) (os := os)
    simp [m8, N8, hM', fl_words, fl_place, hl, putD, gs hM, e1, e2, any_mem h]
    simp [rd]
theorem figure_spec {M : List MO} {k n i : Nat} {ws : List String} {m : Nat} (hM : M[n]? = some (rd ws i)) (hw : ws[i]? = some (sI m)) (h1 : m < 1000) : Tk (k + 2) 9 [.ref n] M = .ok (.int m) (M.set n (rd ws (i + 1))) := by
  have e1 := word_spec (k := k) hM hw .any
  have e2 := fun M => numof_num (M := M) (k := k) (numN h1) (by omega) (by omega)
  have hM' := hM
  unfold rd at hM'
  simp only [rd] at e1
  refine CP.eq ?_
  rw [T9, CP_mkFn]
  simp [m9, N9, hM', e1, e2]
  simp [rd]
theorem many_spec {M : List MO} {k n i : Nat} {ws : List String} {m : Nat} (hM : M[n]? = some (rd ws i)) (hw : ws[i]? = some (sI m)) (h1 : m ≤ 4) : Tk (k + 3) 12 [.ref n, .int 4] M = .ok (.int m) (M.set n (rd ws (i + 1))) := by
  have e1 := figure_spec (k := k) hM hw (by omega)
  have hM' := hM
  unfold rd at hM'
  simp only [rd] at e1
  refine CP.eq ?_
  rw [T12, CP_mkFn]
  simp [m12, N12, hM', e1, show ¬ ((4 : Int) < m) by omega]
  simp [rd]
/-! ### parts -/
theorem sI_add {n : Int} (h : NumT n) : (sI n == "add") = false := by
  rw [beq_eq_false_iff_ne]
  intro e
  have := h.fg 'a' (by rw [e]; decide +kernel)
  revert this
  decide +kernel
theorem pre_add {x s : String} (hx : x = "c" ∨ x = "w") : (x ++ s == "add") = false := by
  rw [beq_eq_false_iff_ne]
  intro e
  have h2 := congrArg String.toList e
  rw [String.toList_append] at h2
  have h3 : ("add" : String).toList = ['a', 'd', 'd'] := rfl
  rw [h3] at h2
  rcases hx with rfl | rfl
  · have h4 : ("c" : String).toList = ['c'] := rfl
    rw [h4] at h2
    cases h2
  · have h4 : ("w" : String).toList = ['w'] := rfl
    rw [h4] at h2
    cases h2
theorem sl_head {x s : String} (hx : x.length = 1) (hl : (x ++ s).length ≤ 1000) : slD (.str (x ++ s)) none (some 1) = some (.str x) := by
  show (if (x ++ s).length ≤ small then _ else _) = _
  rw [if_pos (by unfold small; omega)]
  have h1 := cut_to (l := (x ++ s).toList) (k := 1) (by rw [String.length_toList, String.length_append]; omega)
  have h1 : cutD (x ++ s).toList none (some 1) = (x ++ s).toList.take 1 := h1
  rw [h1, String.toList_append, List.take_left' (by rw [String.length_toList]; exact hx)]
  simp
theorem sl_tail {x s : String} (hx : x.length = 1) (hl : (x ++ s).length ≤ 1000) : slD (.str (x ++ s)) (some 1) none = some (.str s) := by
  show (if (x ++ s).length ≤ small then _ else _) = _
  rw [if_pos (by unfold small; omega)]
  have h1 := cut_from (l := (x ++ s).toList) (k := 1) (by rw [String.length_toList, String.length_append]; omega)
  have h1 : cutD (x ++ s).toList (some 1) none = (x ++ s).toList.drop 1 := h1
  rw [h1, String.toList_append, List.drop_left' (by rw [String.length_toList]; exact hx)]
  simp
theorem drop_get {ws a r : List String} {i : Nat} {w : String} (h : ws.drop i = w :: a ++ r) : ws[i]? = some w ∧ ws.drop (i + 1) = a ++ r := by
  have h1 : (ws.drop i)[0]? = some w := by rw [h]; rfl
  rw [List.getElem?_drop] at h1
  refine ⟨by simpa using h1, ?_⟩
  have h2 : (ws.drop i).drop 1 = (w :: a ++ r).drop 1 := by rw [h]
  rw [List.drop_drop] at h2
  simpa using h2
theorem drop_app {ws a b : List String} {i n : Nat} (h : ws.drop i = a ++ b) (hn : a.length = n) : ws.drop (i + n) = b := by
  rw [← List.drop_drop, h, List.drop_left' hn]
theorem rpart_spec {wide : Nat} (hw : wide ≤ 4) : ∀ (p : Part) (k n i : Nat) (M : List MO) (ws r : List String), szP p + 3 ≤ k → okP wide 4 p → M[n]? = some (rd ws i) → ws.drop i = wdP p ++ r → Tk k 10 [.ref n] M = .ok (encP p) (M.set n (rd ws (i + szP p)))
  | .num m, k, n, i, M, ws, r, hk, ho, hM, hd => by
    obtain ⟨k, rfl⟩ : ∃ j, k = j + 2 := ⟨k - 2, by have : 1 + 3 ≤ k := hk; omega⟩
    obtain ⟨h1, h2⟩ := drop_get (w := sI m) (a := []) hd
    have N := numT ho.1 ho.2
    have e1 := word_spec (k := k) hM h1 .any
    have e2 := fun M => numof_num (M := M) (k := k) N ho.1 ho.2
    have e3 := sI_add N
    have hM' := hM
    unfold rd at hM'
    simp only [rd] at e1
    refine CP.eq ?_
    rw [T10, CP_mkFn]
    simp [m10, N10, hM', e1, e2, e3]
    exact ⟨rfl, rfl⟩
  | .col m, k, n, i, M, ws, r, hk, ho, hM, hd => by
    obtain ⟨k, rfl⟩ : ∃ j, k = j + 2 := ⟨k - 2, by have : 1 + 3 ≤ k := hk; omega⟩
    obtain ⟨h1, h2⟩ := drop_get (w := "c" ++ sI m) (a := []) hd
    have hm : m < 1000 := by have : m < wide := ho; omega
    have N := numN hm
    have l3 := N.l3
    have hl : ("c" ++ sI (m : Int)).length ≤ 1000 := by rw [String.length_append]; show 1 + _ ≤ _; omega
    have e1 := word_spec (k := k) hM h1 .any
    have e2 := fun M => numof_num (M := M) (k := k) N (by omega) (by omega)
    have e3 := pre_add (x := "c") (s := sI m) (.inl rfl)
    have e4 := fun M => numof_off (M := M) (k := k) (w := "c" ++ sI m) hl (off_pre (.inl rfl))
    have e5 := sl_head (x := "c") (s := sI m) rfl hl
    have e6 := sl_tail (x := "c") (s := sI m) rfl hl
    have hM' := hM
    unfold rd at hM'
    simp only [rd] at e1
    refine CP.eq ?_
    rw [T10, CP_mkFn]
    simp [m10, N10, hM', e1, e2, e3, e4, e5, e6, strKeys, isDic, dLook, Ev.keyOf]
    exact ⟨rfl, rfl⟩
  | .worth m, k, n, i, M, ws, r, hk, ho, hM, hd => by
    obtain ⟨k, rfl⟩ : ∃ j, k = j + 2 := ⟨k - 2, by have : 1 + 3 ≤ k := hk; omega⟩
    obtain ⟨h1, h2⟩ := drop_get (w := "w" ++ sI m) (a := []) hd
    have hm : m < 1000 := by have : m < 4 := ho; omega
    have N := numN hm
    have l3 := N.l3
    have hl : ("w" ++ sI (m : Int)).length ≤ 1000 := by rw [String.length_append]; show 1 + _ ≤ _; omega
    have e1 := word_spec (k := k) hM h1 .any
    have e2 := fun M => numof_num (M := M) (k := k) N (by omega) (by omega)
    have e3 := pre_add (x := "w") (s := sI m) (.inr rfl)
    have e4 := fun M => numof_off (M := M) (k := k) (w := "w" ++ sI m) hl (off_pre (.inr rfl))
    have e5 := sl_head (x := "w") (s := sI m) rfl hl
    have e6 := sl_tail (x := "w") (s := sI m) rfl hl
    have hM' := hM
    unfold rd at hM'
    simp only [rd] at e1
    refine CP.eq ?_
    rw [T10, CP_mkFn]
    simp [m10, N10, hM', e1, e2, e3, e4, e5, e6, strKeys, isDic, dLook, Ev.keyOf]
    exact ⟨rfl, rfl⟩
  | .add a b, k, n, i, M, ws, r, hk, ho, hM, hd => by
    have hk : szP a + szP b + 1 + 3 ≤ k := hk
    obtain ⟨k, rfl⟩ : ∃ j, k = j + 2 := ⟨k - 2, by omega⟩
    have p1 := szP_pos a
    have p2 := szP_pos b
    have hd : ws.drop i = "add" :: (wdP a ++ wdP b) ++ r := hd
    obtain ⟨h1, h2⟩ := drop_get hd
    rw [List.append_assoc] at h2
    have e1 := word_spec (k := k) hM h1 .any
    have i1 := rpart_spec hw a (k + 1) n (i + 1) (M.set n (rd ws (i + 1))) ws _ (by omega) ho.1 (gs hM _) h2
    have i2 := rpart_spec hw b (k + 1) n (i + 1 + szP a) (M.set n (rd ws (i + 1 + szP a))) ws _ (by omega) ho.2 (gs hM _) (drop_app h2 (wdP_len a))
    rw [List.set_set] at i1 i2
    have hM' := hM
    unfold rd at hM'
    simp only [rd] at e1 i1 i2
    push_cast at e1 i1 i2
    have hgs := fun o => gs hM o
    refine CP.eq ?_
    rw [T10, CP_mkFn]
    simp [m10, N10, hM', e1, i1, i2, hgs]
    refine ⟨rfl, ?_⟩
    simp only [rd, szP]
    congr 1
    simp
    omega
end K14

set_option maxHeartbeats 2000000
/-! k14, the plain law: the reader: conditions. -/
namespace K14
open PySem L2 Ev

def cKeys : List String := ["all", "is", "less", "not", "both"]
def aKeys : List String := ["rows", "put", "drop", "set"]
theorem keys_C {M : List MO} : Ev.keysT M (.tab tab_CONDITIONS) = some (strsL cKeys) := rfl
theorem keys_A {M : List MO} : Ev.keysT M (.tab tab_ASKS) = some (strsL aKeys) := rfl
theorem sq_n {M : List MO} : seqNow M (.str "") = some [] := rfl
theorem sq_ee {M : List MO} : seqNow M (.str "ee") = some [.str "e", .str "e"] := rfl
theorem sq_c {M : List MO} : seqNow M (.str "c") = some [.str "c"] := rfl
theorem sq_cc {M : List MO} : seqNow M (.str "cc") = some [.str "c", .str "c"] := rfl
theorem sq_tcp {M : List MO} : seqNow M (.str "tcp") = some [.str "t", .str "c", .str "p"] := rfl
theorem sq_tp {M : List MO} : seqNow M (.str "tp") = some [.str "t", .str "p"] := rfl
theorem sq_tc {M : List MO} : seqNow M (.str "tc") = some [.str "t", .str "c"] := rfl
theorem sq_tkec {M : List MO} : seqNow M (.str "tkec") = some [.str "t", .str "k", .str "e", .str "c"] := rfl
theorem kc_all {M : List MO} : oIx M (.tab tab_CONDITIONS) (.str "all") = some (.str "") := rfl
theorem kc_is {M : List MO} : oIx M (.tab tab_CONDITIONS) (.str "is") = some (.str "ee") := rfl
theorem kc_less {M : List MO} : oIx M (.tab tab_CONDITIONS) (.str "less") = some (.str "ee") := rfl
theorem kc_not {M : List MO} : oIx M (.tab tab_CONDITIONS) (.str "not") = some (.str "c") := rfl
theorem kc_both {M : List MO} : oIx M (.tab tab_CONDITIONS) (.str "both") = some (.str "cc") := rfl
theorem ka_rows {M : List MO} : oIx M (.tab tab_ASKS) (.str "rows") = some (.str "tcp") := rfl
theorem ka_put {M : List MO} : oIx M (.tab tab_ASKS) (.str "put") = some (.str "tp") := rfl
theorem ka_drop {M : List MO} : oIx M (.tab tab_ASKS) (.str "drop") = some (.str "tc") := rfl
theorem ka_set {M : List MO} : oIx M (.tab tab_ASKS) (.str "set") = some (.str "tkec") := rfl
theorem vw_tab {M : List MO} {kvs : List (String × String)} : vw M (.tab kvs) = .tab kvs := rfl
theorem rcond_spec {wide : Nat} (hw : wide ≤ 4) : ∀ (c : Cond) (k n i : Nat) (M : List MO) (ws r : List String), szC c + 4 ≤ k → okC wide 4 c → M[n]? = some (rd ws i) → ws.drop i = wdC c ++ r → Tk k 11 [.ref n] M = .ok (encC c) (M.set n (rd ws (i + szC c)))
  | .all, k, n, i, M, ws, r, hk, ho, hM, hd => by
    obtain ⟨k, rfl⟩ : ∃ j, k = j + 2 := ⟨k - 2, by have : 1 + 4 ≤ k := hk; omega⟩
    obtain ⟨h1, h2⟩ := drop_get (w := "all") (a := []) hd
    have e1 := word_spec (k := k) hM h1 (.lst (os := cKeys) (by simp [cKeys]))
    have hM' := hM
    unfold rd at hM'
    simp only [rd] at e1
    refine CP.eq ?_
    rw [T11, CP_mkFn]
    simp [m11, N11, hM', vw_tab, keys_C, e1]
    refine for_lit ?_
    simp [kc_all, sq_n, forL]
    exact ⟨rfl, rfl⟩
  | .is a b, k, n, i, M, ws, r, hk, ho, hM, hd => by
    have hk : szP a + szP b + 1 + 4 ≤ k := hk
    obtain ⟨k, rfl⟩ : ∃ j, k = j + 2 := ⟨k - 2, by omega⟩
    have p1 := szP_pos a
    have p2 := szP_pos b
    have hd : ws.drop i = "is" :: (wdP a ++ wdP b) ++ r := hd
    obtain ⟨h1, h2⟩ := drop_get hd
    rw [List.append_assoc] at h2
    have e1 := word_spec (k := k) hM h1 (.lst (os := cKeys) (by simp [cKeys]))
    have i1 := rpart_spec hw a (k + 1) n (i + 1) (M.set n (rd ws (i + 1))) ws _ (by omega) ho.1 (gs hM _) h2
    have i2 := rpart_spec hw b (k + 1) n (i + 1 + szP a) (M.set n (rd ws (i + 1 + szP a))) ws _ (by omega) ho.2 (gs hM _) (drop_app h2 (wdP_len a))
    rw [List.set_set] at i1 i2
    have hM' := hM
    unfold rd at hM'
    simp only [rd] at e1 i1 i2
    push_cast at e1 i1 i2
    have hgs := fun o => gs hM o
    refine CP.eq ?_
    rw [T11, CP_mkFn]
    simp [m11, N11, hM', vw_tab, keys_C, e1]
    refine for_lit ?_
    simp [kc_is, sq_ee, forL, i1, i2, hgs, small]
    refine ⟨rfl, ?_⟩
    simp only [rd, szC]
    congr 1
    simp
    omega
  | .less a b, k, n, i, M, ws, r, hk, ho, hM, hd => by
    have hk : szP a + szP b + 1 + 4 ≤ k := hk
    obtain ⟨k, rfl⟩ : ∃ j, k = j + 2 := ⟨k - 2, by omega⟩
    have p1 := szP_pos a
    have p2 := szP_pos b
    have hd : ws.drop i = "less" :: (wdP a ++ wdP b) ++ r := hd
    obtain ⟨h1, h2⟩ := drop_get hd
    rw [List.append_assoc] at h2
    have e1 := word_spec (k := k) hM h1 (.lst (os := cKeys) (by simp [cKeys]))
    have i1 := rpart_spec hw a (k + 1) n (i + 1) (M.set n (rd ws (i + 1))) ws _ (by omega) ho.1 (gs hM _) h2
    have i2 := rpart_spec hw b (k + 1) n (i + 1 + szP a) (M.set n (rd ws (i + 1 + szP a))) ws _ (by omega) ho.2 (gs hM _) (drop_app h2 (wdP_len a))
    rw [List.set_set] at i1 i2
    have hM' := hM
    unfold rd at hM'
    simp only [rd] at e1 i1 i2
    push_cast at e1 i1 i2
    have hgs := fun o => gs hM o
    refine CP.eq ?_
    rw [T11, CP_mkFn]
    simp [m11, N11, hM', vw_tab, keys_C, e1]
    refine for_lit ?_
    simp [kc_less, sq_ee, forL, i1, i2, hgs, small]
    refine ⟨rfl, ?_⟩
    simp only [rd, szC]
    congr 1
    simp
    omega
  | .not c, k, n, i, M, ws, r, hk, ho, hM, hd => by
    have hk : szC c + 1 + 4 ≤ k := hk
    obtain ⟨k, rfl⟩ : ∃ j, k = j + 2 := ⟨k - 2, by omega⟩
    have p1 := szC_pos c
    have hd : ws.drop i = "not" :: wdC c ++ r := hd
    obtain ⟨h1, h2⟩ := drop_get hd
    have e1 := word_spec (k := k) hM h1 (.lst (os := cKeys) (by simp [cKeys]))
    have i1 := rcond_spec hw c (k + 1) n (i + 1) (M.set n (rd ws (i + 1))) ws _ (by omega) ho (gs hM _) h2
    rw [List.set_set] at i1
    have hM' := hM
    unfold rd at hM'
    simp only [rd] at e1 i1
    push_cast at e1 i1
    have hgs := fun o => gs hM o
    refine CP.eq ?_
    rw [T11, CP_mkFn]
    simp [m11, N11, hM', vw_tab, keys_C, e1]
    refine for_lit ?_
    simp [kc_not, sq_c, forL, i1, hgs, small]
    refine ⟨rfl, ?_⟩
    simp only [rd, szC]
    congr 1
    simp
    omega
  | .both a b, k, n, i, M, ws, r, hk, ho, hM, hd => by
    have hk : szC a + szC b + 1 + 4 ≤ k := hk
    obtain ⟨k, rfl⟩ : ∃ j, k = j + 2 := ⟨k - 2, by omega⟩
    have p1 := szC_pos a
    have p2 := szC_pos b
    have hd : ws.drop i = "both" :: (wdC a ++ wdC b) ++ r := hd
    obtain ⟨h1, h2⟩ := drop_get hd
    rw [List.append_assoc] at h2
    have e1 := word_spec (k := k) hM h1 (.lst (os := cKeys) (by simp [cKeys]))
    have i1 := rcond_spec hw a (k + 1) n (i + 1) (M.set n (rd ws (i + 1))) ws _ (by omega) ho.1 (gs hM _) h2
    have i2 := rcond_spec hw b (k + 1) n (i + 1 + szC a) (M.set n (rd ws (i + 1 + szC a))) ws _ (by omega) ho.2 (gs hM _) (drop_app h2 (wdC_len a))
    rw [List.set_set] at i1 i2
    have hM' := hM
    unfold rd at hM'
    simp only [rd] at e1 i1 i2
    push_cast at e1 i1 i2
    have hgs := fun o => gs hM o
    refine CP.eq ?_
    rw [T11, CP_mkFn]
    simp [m11, N11, hM', vw_tab, keys_C, e1]
    refine for_lit ?_
    simp [kc_both, sq_cc, forL, i1, i2, hgs, small]
    refine ⟨rfl, ?_⟩
    simp only [rd, szC]
    congr 1
    simp
    omega
end K14

set_option maxHeartbeats 2000000
/-! k14, the plain law: the reader: asks, messages. -/
namespace K14
open PySem L2 Ev

theorem tk_t {M : List MO} : oInB M (.str "t") (.str "tk") = some true := by rfl
theorem tk_k {M : List MO} : oInB M (.str "k") (.str "tk") = some true := by rfl
theorem tk_c {M : List MO} : oInB M (.str "c") (.str "tk") = some false := by rfl
theorem tk_e {M : List MO} : oInB M (.str "e") (.str "tk") = some false := by rfl
theorem tk_p {M : List MO} : oInB M (.str "p") (.str "tk") = some false := by rfl
theorem take_szP {ps : List Part} {j : Nat} {p : Part} (h : ps[j]? = some p) : szPs (ps.take (j + 1)) = szPs (ps.take j) + szP p ∧ wdPs ps = wdPs (ps.take j) ++ (wdP p ++ wdPs (ps.drop (j + 1))) := by
  have e : ps.take (j + 1) = ps.take j ++ [p] := by rw [List.take_add_one, h]; rfl
  have w : ∀ a b : List Part, wdPs (a ++ b) = wdPs a ++ wdPs b := fun a b => by
    induction a with
    | nil => rfl
    | cons x a ih => simp [wdPs, ih]
  refine ⟨by rw [e, szPs_app]; simp [szPs], ?_⟩
  have h2 : ps = ps.take (j + 1) ++ ps.drop (j + 1) := (List.take_append_drop _ _).symm
  rw [e] at h2
  conv => lhs; rw [h2]
  rw [w, w]
  simp [wdPs]
theorem rparts {wide k n i : Nat} {z : Int} {M : List MO} {ws r : List String} {ps : List Part} {a b : SV} {P : List D → Ev.S → Prop} (hw : wide ≤ 4) (hk : szPs ps + 6 ≤ k) (hp : ∀ p ∈ ps, okP wide 4 p) (hl : ps.length ≤ 4)
    (hM : M[n]? = some (.ins "Reader" [("words", .lst (strsL ws)), ("place", .int z)])) (hz : z = (i : Nat)) (hd : ws.drop i = sI ps.length :: wdPs ps ++ r)
    (fin : P (ps.map encP) ⟨[.val (.ref n), a, b, .un], M.set n (rd ws (i + 1 + szPs ps))⟩) :
    WP (fLc [3] (iR1 (aCons (eMeth [("Reader", Tk k 12)] "many" (eVar 0) (aCons (pure (.int 4)) aNil)) aNil)) (gN 3) (pure true) (eMeth [("Reader", Tk k 10)] "part" (eVar 0) (pure []))) P noEX ⟨[.val (.ref n), a, b, .un], M⟩ := by
  subst hz
  obtain ⟨k, rfl⟩ : ∃ j, k = j + 3 := ⟨k - 3, by omega⟩
  obtain ⟨h1, h2⟩ := drop_get hd
  have e1 := many_spec (k := k) (ws := ws) (i := i) hM h1 hl
  refine lc_rngI ?_
  simp [hM, e1]
  refine ⟨ps.length, rfl, by omega, by simp [okW, SV.own], fun j acc M' => acc = (ps.take j).map encP ∧ M' = M.set n (rd ws (i + 1 + szPs (ps.take j))), ⟨by simp, by simp [szPs]⟩, fun j acc M' hj hI => ?_, fun acc M' hI => ?_⟩
  · obtain ⟨rfl, rfl⟩ := hI
    obtain ⟨p, hp2⟩ : ∃ p, ps[j]? = some p := ⟨_, List.getElem?_eq_getElem hj⟩
    have hm := List.mem_of_getElem? hp2
    obtain ⟨t1, t2⟩ := take_szP hp2
    have hs := szPs_mem hm
    have d2 : ws.drop (i + 1 + szPs (ps.take j)) = wdP p ++ (wdPs (ps.drop (j + 1)) ++ r) := by
      refine drop_app (a := wdPs (ps.take j)) ?_ (wdPs_len _)
      rw [h2, t2]
      simp
    have hn := get_lt hM
    have hM2 : (M.set n (rd ws (i + 1 + szPs (ps.take j))))[n]? = some (rd ws (i + 1 + szPs (ps.take j))) := List.getElem?_set_self hn
    have i1 := rpart_spec hw p (k + 3) n (i + 1 + szPs (ps.take j)) _ ws _ (by omega) (hp p hm) hM2 d2
    rw [List.set_set] at i1
    have hM3 := hM2
    simp only [rd] at hM3 i1
    push_cast at hM3 i1
    simp [lcEl, wipeL, hM3, i1, rd, hn]
    refine ⟨?_, ?_⟩
    · rw [List.take_add_one, List.getElem?_map, hp2]
      simp
    · rw [t1]
      congr 2
      simp
      omega
  · obtain ⟨rfl, rfl⟩ := hI
    rw [List.take_length]
    exact fin
theorem rask_spec {W : List Nat} (hW3 : W.length ≤ 3) (hWv : ∀ w ∈ W, 1 ≤ w ∧ w ≤ 4) (a : Ask) (k n i : Nat) (M : List MO) (ws r : List String) (hk : szA a + 10 ≤ k) (ho : okA W 4 a) (hM : M[n]? = some (rd ws i)) (hd : ws.drop i = wdA a ++ r) : ∃ j, Tk k 13 [.ref n] M = .ok (encA a) (M.set n (rd ws j)) ∧ ws.drop j = r := by
  obtain ⟨k, rfl⟩ : ∃ j, k = j + 6 := ⟨k - 6, by omega⟩
  have ht := okA_t ho
  have hM' := hM
  unfold rd at hM'
  have hgs := fun o => gs hM o
  cases a with
  | rows t c ps =>
    obtain ⟨w, hW, hc, hp, l1, l2⟩ := ho
    have hw := (hWv w (List.mem_of_getElem? hW)).2
    have ht : t < W.length := ht
    have hk : szC c + szPs ps + 1 + 10 ≤ k + 6 := hk
    have hd : ws.drop i = "rows" :: (sI t :: (wdC c ++ (sI ps.length :: wdPs ps))) ++ r := hd
    obtain ⟨h1, h2⟩ := drop_get hd
    obtain ⟨h3, h4⟩ := drop_get h2
    rw [List.append_assoc] at h4
    have h5 := drop_app h4 (wdC_len c)
    have e1 := word_spec (k := k + 4) hM h1 (.lst (os := aKeys) (by simp [aKeys]))
    have i1 := figure_spec (k := k + 3) (gs hM (rd ws (i + 1))) h3 (by omega)
    have i2 := rcond_spec hw c (k + 5) n (i + 1 + 1) (M.set n (rd ws (i + 1 + 1))) ws _ (by omega) hc (gs hM _) h4
    rw [List.set_set] at i1 i2
    simp only [rd] at e1 i1 i2
    push_cast at e1 i1 i2
    refine ⟨i + 1 + 1 + szC c + 1 + szPs ps, CP.eq ?_, ?_⟩
    · rw [T13, CP_mkFn]
      simp [m13, N13, hM', vw_tab, keys_A, e1]
      refine for_lit ?_
      simp [ka_rows, sq_tcp, forL, tk_t, tk_c, tk_p, i1, i2, hgs, small]
      refine rparts (i := i + 1 + 1 + szC c) hw (by omega) hp l2 (hgs _) (by push_cast; rfl) h5 ?_
      simp [small, show ps.length ≤ 100000 by omega]
      rfl
    · rw [show i + 1 + 1 + szC c + 1 + szPs ps = i + 1 + 1 + szC c + (1 + szPs ps) by omega]
      refine drop_app h5 ?_
      simp [wdPs_len]
      omega
  | put t ps =>
    obtain ⟨w, hW, hp, hl, l1, l2⟩ := ho
    have ht : t < W.length := ht
    have hk : szPs ps + 1 + 10 ≤ k + 6 := hk
    have hd : ws.drop i = "put" :: (sI t :: sI ps.length :: wdPs ps) ++ r := hd
    obtain ⟨h1, h2⟩ := drop_get hd
    obtain ⟨h3, h4⟩ := drop_get h2
    have e1 := word_spec (k := k + 4) hM h1 (.lst (os := aKeys) (by simp [aKeys]))
    have i1 := figure_spec (k := k + 3) (gs hM (rd ws (i + 1))) h3 (by omega)
    rw [List.set_set] at i1
    simp only [rd] at e1 i1
    push_cast at e1 i1
    refine ⟨i + 1 + 1 + 1 + szPs ps, CP.eq ?_, ?_⟩
    · rw [T13, CP_mkFn]
      simp [m13, N13, hM', vw_tab, keys_A, e1]
      refine for_lit ?_
      simp [ka_put, sq_tp, forL, tk_t, tk_p, i1, hgs, small]
      refine rparts (wide := 0) (i := i + 1 + 1) (by omega) (by omega) hp l2 (hgs _) (by push_cast; rfl) h4 ?_
      simp [small, show ps.length ≤ 100000 by omega]
      rfl
    · rw [show i + 1 + 1 + 1 + szPs ps = i + 1 + 1 + (1 + szPs ps) by omega]
      refine drop_app h4 ?_
      simp [wdPs_len]
      omega
  | drop t c =>
    obtain ⟨w, hW, hc⟩ := ho
    have hw := (hWv w (List.mem_of_getElem? hW)).2
    have ht : t < W.length := ht
    have hk : szC c + 1 + 10 ≤ k + 6 := hk
    have hd : ws.drop i = "drop" :: (sI t :: wdC c) ++ r := hd
    obtain ⟨h1, h2⟩ := drop_get hd
    obtain ⟨h3, h4⟩ := drop_get h2
    have e1 := word_spec (k := k + 4) hM h1 (.lst (os := aKeys) (by simp [aKeys]))
    have i1 := figure_spec (k := k + 3) (gs hM (rd ws (i + 1))) h3 (by omega)
    have i2 := rcond_spec hw c (k + 5) n (i + 1 + 1) (M.set n (rd ws (i + 1 + 1))) ws _ (by omega) hc (gs hM _) h4
    rw [List.set_set] at i1 i2
    simp only [rd] at e1 i1 i2
    push_cast at e1 i1 i2
    refine ⟨i + 1 + 1 + szC c, CP.eq ?_, drop_app h4 (wdC_len c)⟩
    rw [T13, CP_mkFn]
    simp [m13, N13, hM', vw_tab, keys_A, e1]
    refine for_lit ?_
    simp [ka_drop, sq_tc, forL, tk_t, tk_c, i1, i2, hgs, small]
    refine ⟨rfl, ?_⟩
    simp [rd]
  | set t j e c =>
    obtain ⟨w, hW, hj, he, hc⟩ := ho
    have hw := (hWv w (List.mem_of_getElem? hW)).2
    have ht : t < W.length := ht
    have hk : szP e + szC c + 1 + 10 ≤ k + 6 := hk
    have hd : ws.drop i = "set" :: (sI t :: sI j :: (wdP e ++ wdC c)) ++ r := hd
    obtain ⟨h1, h2⟩ := drop_get hd
    obtain ⟨h3, h4⟩ := drop_get h2
    obtain ⟨h5, h6⟩ := drop_get h4
    rw [List.append_assoc] at h6
    have h7 := drop_app h6 (wdP_len e)
    have e1 := word_spec (k := k + 4) hM h1 (.lst (os := aKeys) (by simp [aKeys]))
    have i1 := figure_spec (k := k + 3) (gs hM (rd ws (i + 1))) h3 (by omega)
    have i2 := figure_spec (k := k + 3) (gs hM (rd ws (i + 1 + 1))) h5 (by omega)
    have i3 := rpart_spec hw e (k + 5) n (i + 1 + 1 + 1) (M.set n (rd ws (i + 1 + 1 + 1))) ws _ (by omega) he (gs hM _) h6
    have i4 := rcond_spec hw c (k + 5) n (i + 1 + 1 + 1 + szP e) (M.set n (rd ws (i + 1 + 1 + 1 + szP e))) ws _ (by omega) hc (gs hM _) h7
    rw [List.set_set] at i1 i2 i3 i4
    simp only [rd] at e1 i1 i2 i3 i4
    push_cast at e1 i1 i2 i3 i4
    refine ⟨i + 1 + 1 + 1 + szP e + szC c, CP.eq ?_, drop_app h7 (wdC_len c)⟩
    rw [T13, CP_mkFn]
    simp [m13, N13, hM', vw_tab, keys_A, e1]
    refine for_lit ?_
    simp [ka_set, sq_tkec, forL, tk_t, tk_k, tk_e, tk_c, i1, i2, i3, i4, hgs, small]
    refine ⟨rfl, ?_⟩
    simp [rd]
end K14

set_option maxHeartbeats 2000000
/-! k14, the plain law: messages read. -/
namespace K14
open PySem L2 Ev

def mKeys : List String := ["ready", "bind", "fetch", "close", "begin", "keep", "undo", "sync"]
/-- a bind's worths -/
theorem rnums {k n i : Nat} {z : Int} {M : List MO} {ws : List String} {xs : List Int} {a b c : SV} {P : List D → Ev.S → Prop} (hk : 6 ≤ k) (hx : ∀ x ∈ xs, 0 ≤ x ∧ x < 1000) (hl : xs.length ≤ 4)
    (hM : M[n]? = some (.ins "Reader" [("words", .lst (strsL ws)), ("place", .int z)])) (hz : z = (i : Nat)) (hd : ws.drop i = sI xs.length :: xs.map sI)
    (fin : P (xs.map .int) ⟨[.val (.ref n), a, b, c, .un], M.set n (rd ws (i + 1 + xs.length))⟩) :
    WP (fLc [4] (iR1 (aCons (eMeth [("Reader", Tk k 12)] "many" (eVar 0) (aCons (pure (.int 4)) aNil)) aNil)) (gN 4) (pure true) (eMeth [("Reader", Tk k 9)] "figure" (eVar 0) (pure []))) P noEX ⟨[.val (.ref n), a, b, c, .un], M⟩ := by
  subst hz
  obtain ⟨k, rfl⟩ : ∃ j, k = j + 3 := ⟨k - 3, by omega⟩
  obtain ⟨h1, h2⟩ := drop_get (a := xs.map sI) (r := []) (by rw [List.append_nil]; exact hd)
  rw [List.append_nil] at h2
  have e1 := many_spec (k := k) (ws := ws) (i := i) hM h1 hl
  refine lc_rngI ?_
  simp [hM, e1]
  refine ⟨xs.length, rfl, by omega, by simp [okW, SV.own], fun j acc M' => acc = (xs.take j).map .int ∧ M' = M.set n (rd ws (i + 1 + j)), ⟨by simp, by simp⟩, fun j acc M' hj hI => ?_, fun acc M' hI => ?_⟩
  · obtain ⟨rfl, rfl⟩ := hI
    obtain ⟨x, hx2⟩ : ∃ x, xs[j]? = some x := ⟨_, List.getElem?_eq_getElem hj⟩
    have hm := hx x (List.mem_of_getElem? hx2)
    obtain ⟨m, rfl⟩ := Int.eq_ofNat_of_zero_le hm.1
    have hw : ws[i + 1 + j]? = some (sI (m : Int)) := by
      have : (ws.drop (i + 1))[j]? = (xs.map sI)[j]? := by rw [h2]
      rw [List.getElem?_drop, List.getElem?_map, hx2] at this
      exact this
    have hn := get_lt hM
    have hM2 : (M.set n (rd ws (i + 1 + j)))[n]? = some (rd ws (i + 1 + j)) := List.getElem?_set_self hn
    have i1 := figure_spec (k := k + 1) hM2 hw (by omega)
    rw [List.set_set] at i1
    have hM3 := hM2
    simp only [rd] at hM3 i1
    push_cast at hM3 i1
    simp [lcEl, wipeL, hM3, i1, rd, hn]
    refine ⟨?_, ?_⟩
    · rw [List.take_add_one, List.getElem?_map, hx2]
      simp
    · congr 2
      try simp
      try omega
  · obtain ⟨rfl, rfl⟩ := hI
    rw [List.take_length]
    exact fin
theorem rmsg_spec {W : List Nat} (hW3 : W.length ≤ 3) (hWv : ∀ w ∈ W, 1 ≤ w ∧ w ≤ 4) (m : Msg) {k n : Nat} {M : List MO} (hk : 60 ≤ k) (ho : okM W m) (hM : M[n]? = some (rd (wdM m) 0)) : ∃ j, Tk k 14 [.ref n] M = .ok (encM m) (M.set n (rd (wdM m) j)) ∧ (wdM m).length ≤ j := by
  obtain ⟨k, rfl⟩ : ∃ j, k = j + 8 := ⟨k - 8, by omega⟩
  have hM' := hM
  unfold rd at hM'
  have hgs := fun o => gs hM o
  cases m with
  | ready j a =>
    obtain ⟨h6, hA, hs⟩ := ho
    have hd : (wdM (.ready j a)).drop 0 = "ready" :: (sI j :: wdA a) ++ [] := by simp [wdM]
    obtain ⟨h1, h2⟩ := drop_get hd
    obtain ⟨h3, h4⟩ := drop_get (a := wdA a) (r := []) h2
    generalize wdM (.ready j a) = ws at *
    have e1 := word_spec (k := k + 6) hM h1 (.tup (os := mKeys) (by simp [mKeys]))
    have i1 := figure_spec (k := k + 5) (gs hM (rd ws (0 + 1))) h3 (by omega)
    obtain ⟨j2, i2, i3⟩ := rask_spec hW3 hWv a (k + 7) n (0 + 1 + 1) (M.set n (rd ws (0 + 1 + 1))) ws [] (by omega) hA (gs hM _) h4
    rw [List.set_set] at i1 i2
    have hlen : (ws.drop j2).length = 0 := by rw [i3]; rfl
    rw [List.length_drop] at hlen
    simp only [rd, strsL, mKeys, List.map] at e1 i1 i2
    push_cast at e1 i1 i2
    refine ⟨j2, CP.eq ?_, by omega⟩
    rw [T14, CP_mkFn]
    simp only [strsL] at hM'
    simp [m14, N14, hM', e1, i1, i2, hgs]
    exact ⟨rfl, rfl⟩
  | fetch j m =>
    obtain ⟨h6, h7⟩ := ho
    have hd : (wdM (.fetch j m)).drop 0 = "fetch" :: [sI j, sI m] ++ [] := by simp [wdM]
    obtain ⟨h1, h2⟩ := drop_get hd
    obtain ⟨h3, h4⟩ := drop_get (a := [sI m]) (r := []) h2
    obtain ⟨h5, _⟩ := drop_get (a := []) (r := []) h4
    have hlen : (wdM (.fetch j m)).length = 3 := rfl
    generalize wdM (.fetch j m) = ws at *
    have e1 := word_spec (k := k + 6) hM h1 (.tup (os := mKeys) (by simp [mKeys]))
    have i1 := figure_spec (k := k + 5) (gs hM (rd ws (0 + 1))) h3 (by omega)
    have i2 := figure_spec (k := k + 5) (gs hM (rd ws (0 + 1 + 1))) h5 (by omega)
    rw [List.set_set] at i1 i2
    simp only [rd, strsL, mKeys, List.map] at e1 i1 i2
    push_cast at e1 i1 i2
    refine ⟨3, CP.eq ?_, by omega⟩
    rw [T14, CP_mkFn]
    simp only [strsL] at hM'
    simp [m14, N14, hM', e1, i1, i2, hgs]
    exact ⟨rfl, rfl⟩
  | bind p j xs =>
    obtain ⟨h6, h7, h8, h9⟩ := ho
    have hd : (wdM (.bind p j xs)).drop 0 = "bind" :: (sI p :: sI j :: sI xs.length :: xs.map sI) ++ [] := by simp [wdM]
    obtain ⟨h1, h2⟩ := drop_get hd
    obtain ⟨h3, h4⟩ := drop_get (a := sI j :: sI xs.length :: xs.map sI) (r := []) h2
    obtain ⟨h5, hx⟩ := drop_get (a := sI xs.length :: xs.map sI) (r := []) h4
    rw [List.append_nil] at hx
    have hlen : (wdM (.bind p j xs)).length = xs.length + 4 := by simp [wdM]
    generalize wdM (.bind p j xs) = ws at *
    have e1 := word_spec (k := k + 6) hM h1 (.tup (os := mKeys) (by simp [mKeys]))
    have i1 := figure_spec (k := k + 5) (gs hM (rd ws (0 + 1))) h3 (by omega)
    have i2 := figure_spec (k := k + 5) (gs hM (rd ws (0 + 1 + 1))) h5 (by omega)
    rw [List.set_set] at i1 i2
    simp only [rd, mKeys] at e1 i1 i2
    rw [show strsL ["ready", "bind", "fetch", "close", "begin", "keep", "undo", "sync"] = [.str "ready", .str "bind", .str "fetch", .str "close", .str "begin", .str "keep", .str "undo", .str "sync"] from rfl] at e1
    push_cast at e1 i1 i2
    refine ⟨0 + 1 + 1 + 1 + 1 + xs.length, CP.eq ?_, by omega⟩
    rw [T14, CP_mkFn]
    simp [m14, N14, hM', e1, i1, i2, hgs]
    refine rnums (i := 0 + 1 + 1 + 1) (by omega) h9 h8 (hgs _) rfl hx ?_
    simp [small, show xs.length ≤ 100000 by omega]
    first | exact ⟨rfl, rfl⟩ | rfl
  | close x j =>
    obtain ⟨h6, h7⟩ := ho
    have hd : (wdM (.close x j)).drop 0 = "close" :: [x, sI j] ++ [] := by simp [wdM]
    obtain ⟨h1, h2⟩ := drop_get hd
    obtain ⟨h3, h4⟩ := drop_get (a := [sI j]) (r := []) h2
    obtain ⟨h5, _⟩ := drop_get (a := []) (r := []) h4
    have hlen : (wdM (.close x j)).length = 3 := rfl
    generalize wdM (.close x j) = ws at *
    have e1 := word_spec (k := k + 6) hM h1 (.tup (os := mKeys) (by simp [mKeys]))
    have i1 := word_spec (k := k + 6) (gs hM (rd ws (0 + 1))) h3 (.tup (os := ["ask", "portal"]) (by rcases h6 with rfl | rfl <;> simp))
    have i2 := figure_spec (k := k + 5) (gs hM (rd ws (0 + 1 + 1))) h5 (by omega)
    rw [List.set_set] at i1 i2
    simp only [rd, strsL, mKeys, List.map] at e1 i1 i2
    push_cast at e1 i1 i2
    refine ⟨3, CP.eq ?_, by omega⟩
    rw [T14, CP_mkFn]
    simp only [strsL] at hM'
    simp [m14, N14, hM', e1, i1, i2, hgs]
    exact ⟨rfl, rfl⟩
  | one x =>
    have hd : (wdM (.one x)).drop 0 = x :: [] ++ [] := by simp [wdM]
    obtain ⟨h1, h2⟩ := drop_get hd
    have hlen : (wdM (.one x)).length = 1 := rfl
    generalize wdM (.one x) = ws at *
    have e1 := word_spec (k := k + 6) hM h1 (.tup (os := mKeys) (by rcases ho with rfl | rfl | rfl | rfl <;> simp [mKeys]))
    simp only [rd, strsL, mKeys, List.map] at e1
    push_cast at e1
    have hx : x ≠ "ready" ∧ x ≠ "bind" ∧ x ≠ "fetch" ∧ x ≠ "close" := by rcases ho with rfl | rfl | rfl | rfl <;> decide
    refine ⟨1, CP.eq ?_, by omega⟩
    rw [T14, CP_mkFn]
    simp only [strsL] at hM'
    simp [m14, N14, hM', e1, hx, hgs]
    exact ⟨rfl, rfl⟩
theorem read_spec {W : List Nat} (hW3 : W.length ≤ 3) (hWv : ∀ w ∈ W, 1 ≤ w ∧ w ≤ 4) {m : Msg} {k : Nat} {M : List MO} (hk : 70 ≤ k) (ho : okM W m) : ∃ o, Tk k 15 [.str (txM m)] M = .ok (encM m) (M ++ [o]) := by
  obtain ⟨k, rfl⟩ : ∃ j, k = j + 3 := ⟨k - 3, by omega⟩
  have hl := wdM_len ho
  have hs := fun M : List MO => sSplit_ok (M := M) (aw_M hW3 hWv ho) (wdM_ne m) (by omega)
  have hi : Tk (k + 2) 7 [.ref M.length, .lst (strsL (wdM m))] (M ++ [.ins "Reader" []]) = .ok .non (M ++ [rd (wdM m) 0]) := by
    refine CP.eq ?_
    rw [T7, CP_mkFn]
    simp [m7, N7, fl_words, fl_place, putD, rd]
  obtain ⟨j, e1, hj⟩ := rmsg_spec hW3 hWv m (k := k + 2) (n := M.length) (M := M ++ [rd (wdM m) 0]) (by omega) ho (by simp)
  have e2 : (M ++ [rd (wdM m) 0]).set M.length (rd (wdM m) j) = M ++ [rd (wdM m) j] := by simp
  rw [e2] at e1
  have e3 := ismsg_spec (M := M ++ [rd (wdM m) j]) (k := k) ho
  refine ⟨rd (wdM m) j, CP.eq ?_⟩
  rw [T15, CP_mkFn]
  simp only [rd] at hi e1 e3 ⊢
  push_cast at hi e1 e3
  simp [m15, N15, txM, hs, hi, e1, e3, fl_words, fl_place, show ¬ ((j : Int) < (wdM m).length) by omega]
end K14

set_option maxHeartbeats 2000000
/-! k14, the plain law: frames; what is alike; what is refused. -/
namespace K14
open PySem L2 Ev

/-- x stands for y -/
inductive Lk (M : List MO) : Nat → D → D → Prop where
  | int {n : Nat} {i : Int} : Lk M n (.int i) (.int i)
  | non {n : Nat} : Lk M n .non .non
  | str {n : Nat} {s : String} : Lk M n (.str s) (.str s)
  | tup {n : Nat} {xs ys : List D} : xs.length = ys.length → ys.length ≤ 1000 → (∀ (j : Nat) (x y : D), xs[j]? = some x → ys[j]? = some y → Lk M n x y) → Lk M (n + 1) (.tup xs) (.tup ys)
  | ref {n r : Nat} {xs ys : List D} : M[r]? = some (.lst xs) → xs.length = ys.length → ys.length ≤ 1000 → (∀ (j : Nat) (x y : D), xs[j]? = some x → ys[j]? = some y → Lk M n x y) → Lk M (n + 1) (.ref r) (.lst ys)
theorem alike_spec {M : List MO} : ∀ {n : Nat} {x y : D} (k : Nat), Lk M n x y → n < k → Tk k 17 [x, y] M = .ok (.bl true) M := by
  intro n x y k h
  induction h generalizing k with
  | int =>
    intro hk
    obtain ⟨k, rfl⟩ : ∃ j, k = j + 1 := ⟨k - 1, by omega⟩
    refine CP.eq ?_
    rw [T17, CP_mkFn]
    simp [m17, N17, isI]
  | non =>
    intro hk
    obtain ⟨k, rfl⟩ : ∃ j, k = j + 1 := ⟨k - 1, by omega⟩
    refine CP.eq ?_
    rw [T17, CP_mkFn]
    simp [m17, N17, isI]
  | str =>
    intro hk
    obtain ⟨k, rfl⟩ : ∃ j, k = j + 1 := ⟨k - 1, by omega⟩
    refine CP.eq ?_
    rw [T17, CP_mkFn]
    simp [m17, N17, isI]
  | @tup n xs ys hl h1 hs ih =>
    intro hk
    obtain ⟨k, rfl⟩ : ∃ j, k = j + 1 := ⟨k - 1, by omega⟩
    refine CP.eq ?_
    rw [T17, CP_mkFn]
    simp [m17, N17, isI, hl]
    refine lc_rng ?_
    simp
    refine ⟨ys.length, rfl, h1, by simp [okW, SV.own], fun _ => none, fun j hj => ?_, ?_⟩
    · have e1 : xs[j]? = some (xs[j]'(by omega)) := List.getElem?_eq_getElem _
      have e2 : ys[j]? = some ys[j] := List.getElem?_eq_getElem _
      have i1 := ih j _ _ e1 e2 k (by omega)
      simp [lcEl, wipeL, atI_j e1, atI_j e2, i1]
    · rw [fm_none]
      simp
  | @ref n r xs ys hM hl h1 hs ih =>
    intro hk
    obtain ⟨k, rfl⟩ : ∃ j, k = j + 1 := ⟨k - 1, by omega⟩
    refine CP.eq ?_
    rw [T17, CP_mkFn]
    simp [m17, N17, isI, vw_ref hM, hl]
    refine lc_rng ?_
    simp [vw_ref hM]
    refine ⟨ys.length, rfl, h1, by simp [okW, SV.own], fun _ => none, fun j hj => ?_, ?_⟩
    · have e1 : xs[j]? = some (xs[j]'(by omega)) := List.getElem?_eq_getElem _
      have e2 : ys[j]? = some ys[j] := List.getElem?_eq_getElem _
      have i1 := ih j _ _ e1 e2 k (by omega)
      simp [lcEl, wipeL, vw_ref hM, atI_j e1, atI_j e2, i1]
    · rw [fm_none]
      simp
theorem Rw_set {d : D} {M : List MO} {r : Nat} {x : MO} (h : Rw d M) (hr : r ≠ 0) : Rw d (M.set r x) := by
  obtain ⟨a, b, c, ha, hM⟩ := h
  exact ⟨a, b, c, ha, by rw [List.getElem?_set_ne hr]; exact hM⟩
theorem Rw_app {d : D} {M e : List MO} (h : Rw d M) : Rw d (M ++ e) := by
  obtain ⟨a, b, c, ha, hM⟩ := h
  have := (List.getElem?_eq_some_iff.mp hM).1
  exact ⟨a, b, c, ha, by rw [List.getElem?_append_left this]; exact hM⟩
theorem Rw_len {d : D} {M : List MO} (h : Rw d M) : 1 ≤ M.length := by
  obtain ⟨a, b, c, ha, hM⟩ := h
  exact (List.getElem?_eq_some_iff.mp hM).1

theorem tx_chars : ∀ {ws : List String}, AllW ws → ∀ c ∈ (jn " " ws).toList, c = ' ' ∨ c ∈ sgs.toList
  | [], _, c, hc => by
    have h : (jn " " []).toList = [] := rfl
    rw [h] at hc
    cases hc
  | [x], h, c, hc => .inr ((h x List.mem_cons_self).ch c hc)
  | x :: y :: r, h, c, hc => by
    have hc : c ∈ (x ++ " " ++ jn " " (y :: r)).toList := hc
    rw [String.toList_append, String.toList_append, List.mem_append, List.mem_append] at hc
    rcases hc with (hc | hc) | hc
    · exact .inr ((h x List.mem_cons_self).ch c hc)
    · left
      have : (" " : String).toList = [' '] := rfl
      rw [this] at hc
      exact List.mem_singleton.mp hc
    · exact tx_chars (ws := y :: r) (fun w hw => h w (List.mem_cons_of_mem _ hw)) c hc
def cdM (m : Msg) : List D := (txM m).toList.map fun c => .int (c.toNat : Nat)
def frD (m : Msg) : List D := .int (((txM m).length : Int).fdiv 256) :: .int (((txM m).length : Int).fmod 256) :: cdM m
theorem txM_len {W : List Nat} (hW3 : W.length ≤ 3) (hWv : ∀ w ∈ W, 1 ≤ w ∧ w ≤ 4) {m : Msg} (h : okM W m) : (txM m).length ≤ 440 := by
  have h1 := jn_len (aw_M hW3 hWv h)
  have h2 := wdM_len h
  unfold txM
  omega
theorem len_tx {M : List MO} {w : String} (h : w.length ≤ 1000) : oLen M (.str w) = some (.int (w.length : Nat)) := if_pos (by unfold small; omega)
theorem framed_spec {W : List Nat} (hW3 : W.length ≤ 3) (hWv : ∀ w ∈ W, 1 ≤ w ∧ w ≤ 4) {m : Msg} {M : List MO} {k : Nat} (hk : 81 ≤ k) (h : okM W m) : Tk k 5 [encM m] M = .ok (.ref M.length) (M ++ [.lst (frD m)]) := by
  obtain ⟨k, rfl⟩ : ∃ j, k = j + 2 := ⟨k - 2, by omega⟩
  have h1 := written_spec hW3 hWv (m := m) (M := M) (k := k + 1) (by omega) h
  have h2 := txM_len hW3 hWv h
  have h3 := len_tx (M := M) (w := txM m) (by omega)
  have h4 := tx_chars (aw_M hW3 hWv h)
  refine CP.eq ?_
  rw [T5, CP_mkFn]
  simp [m5, N5, h1, h3]
  refine lc_map (txM m).toList (fun c => .str (String.singleton c)) (fun c => some (.int (c.toNat : Nat))) (by rw [String.length_toList]; omega) (by simp [seqNow]) (by simp [okW, SV.own]) (fun c hc => ?_) ?_
  · have h5 := sign_spec (M := M) (k := k) (h4 c hc)
    simp [lcEl, wipeL, h5]
  · rw [fm_some]
    have h6 : (txM m).toList.length = (txM m).length := String.length_toList
    simp [small, show 2 + (txM m).toList.length ≤ 100000 by omega, frD, cdM]
/-! ### alike -/
theorem Lk.up {M : List MO} {n : Nat} {x y : D} (h : Lk M n x y) : ∀ {k : Nat}, n ≤ k → Lk M k x y := by
  induction h with
  | int => intro k _; exact .int
  | non => intro k _; exact .non
  | str => intro k _; exact .str
  | @tup n xs ys h1 h2 h3 ih =>
    intro k hk
    obtain ⟨k, rfl⟩ : ∃ j, k = j + 1 := ⟨k - 1, by omega⟩
    exact .tup h1 h2 fun j x y hx hy => ih j x y hx hy (by omega)
  | @ref n r xs ys hM h1 h2 h3 ih =>
    intro k hk
    obtain ⟨k, rfl⟩ : ∃ j, k = j + 1 := ⟨k - 1, by omega⟩
    exact .ref hM h1 h2 fun j x y hx hy => ih j x y hx hy (by omega)
theorem lk_self {M : List MO} {n : Nat} {xs : List D} (hl : xs.length ≤ 1000) (h : ∀ x ∈ xs, Lk M n x x) : Lk M (n + 1) (.tup xs) (.tup xs) := by
  refine .tup rfl hl fun j x y hx hy => ?_
  rw [hx] at hy
  cases hy
  exact h x (List.mem_of_getElem? hx)
theorem lk_P {M : List MO} : ∀ p : Part, Lk M (szP p) (encP p) (encP p)
  | .num n => lk_self (n := 0) (by simp) (by intro x hx; simp at hx; rcases hx with rfl | rfl; exact .str; exact .int)
  | .col n => lk_self (n := 0) (by simp) (by intro x hx; simp at hx; rcases hx with rfl | rfl; exact .str; exact .int)
  | .worth n => lk_self (n := 0) (by simp) (by intro x hx; simp at hx; rcases hx with rfl | rfl; exact .str; exact .int)
  | .add a b => lk_self (n := szP a + szP b) (by simp) (by
    intro x hx
    simp at hx
    rcases hx with rfl | rfl | rfl
    · exact .str
    · exact (lk_P a).up (by omega)
    · exact (lk_P b).up (by omega))
theorem lk_C {M : List MO} : ∀ p : Cond, Lk M (szC p) (encC p) (encC p)
  | .all => lk_self (n := 0) (by simp) (by intro x hx; simp at hx; rcases hx with rfl; exact .str)
  | .is a b => lk_self (n := szP a + szP b) (by simp) (by
    intro x hx
    simp at hx
    rcases hx with rfl | rfl | rfl
    · exact .str
    · exact (lk_P a).up (by omega)
    · exact (lk_P b).up (by omega))
  | .less a b => lk_self (n := szP a + szP b) (by simp) (by
    intro x hx
    simp at hx
    rcases hx with rfl | rfl | rfl
    · exact .str
    · exact (lk_P a).up (by omega)
    · exact (lk_P b).up (by omega))
  | .not c => lk_self (n := szC c) (by simp) (by
    intro x hx
    simp at hx
    rcases hx with rfl | rfl
    · exact .str
    · exact lk_C c)
  | .both a b => lk_self (n := szC a + szC b) (by simp) (by
    intro x hx
    simp at hx
    rcases hx with rfl | rfl | rfl
    · exact .str
    · exact (lk_C a).up (by omega)
    · exact (lk_C b).up (by omega))
theorem lk_Ps {M : List MO} {ps : List Part} (h : ps.length ≤ 4) : Lk M (szPs ps + 1) (.tup (ps.map encP)) (.tup (ps.map encP)) :=
  lk_self (n := szPs ps) (by simp; omega) fun x hx => by
    obtain ⟨p, hp, rfl⟩ := List.mem_map.mp hx
    exact (lk_P p).up (szPs_mem hp)
theorem lk_A {M : List MO} {W : List Nat} (a : Ask) (ho : okA W 4 a) : Lk M (szA a + 2) (encA a) (encA a) := by
  cases a with
  | rows t c ps =>
    obtain ⟨w, hW, hc, hp, l1, l2⟩ := ho
    refine lk_self (n := szC c + szPs ps + 1 + 1) (by simp) fun x hx => ?_
    simp at hx
    rcases hx with rfl | rfl | rfl | rfl
    · exact .str
    · exact .int
    · exact (lk_C c).up (by omega)
    · exact (lk_Ps l2).up (by omega)
  | put t ps =>
    obtain ⟨w, hW, hp, hl, l1, l2⟩ := ho
    refine lk_self (n := szPs ps + 1 + 1) (by simp) fun x hx => ?_
    simp at hx
    rcases hx with rfl | rfl | rfl
    · exact .str
    · exact .int
    · exact (lk_Ps l2).up (by omega)
  | drop t c =>
    refine lk_self (n := szC c + 1 + 1) (by simp) fun x hx => ?_
    simp at hx
    rcases hx with rfl | rfl | rfl
    · exact .str
    · exact .int
    · exact (lk_C c).up (by omega)
  | set t j e c =>
    refine lk_self (n := szP e + szC c + 1 + 1) (by simp) fun x hx => ?_
    simp at hx
    rcases hx with rfl | rfl | rfl | rfl | rfl
    · exact .str
    · exact .int
    · exact .int
    · exact (lk_P e).up (by omega)
    · exact (lk_C c).up (by omega)
theorem lk_M {M : List MO} {W : List Nat} {m : Msg} (h : okM W m) : Lk M 40 (encM m) (encM m) := by
  cases m with
  | ready n a =>
    have := h.2.2
    refine lk_self (n := 39) (by simp) fun x hx => ?_
    simp at hx
    rcases hx with rfl | rfl | rfl
    · exact .str
    · exact .int
    · exact (lk_A a h.2.1).up (by omega)
  | fetch n m =>
    refine lk_self (n := 39) (by simp) fun x hx => ?_
    simp at hx
    rcases hx with rfl | rfl | rfl
    · exact .str
    · exact .int
    · exact .int
  | bind p n ws =>
    have := h.2.2.1
    refine lk_self (n := 39) (by simp) fun x hx => ?_
    simp at hx
    rcases hx with rfl | rfl | rfl | rfl
    · exact .str
    · exact .int
    · exact .int
    · exact lk_self (n := 38) (by simp; omega) fun x hx => by
        obtain ⟨z, _, rfl⟩ := List.mem_map.mp hx
        exact .int
  | close x n =>
    refine lk_self (n := 39) (by simp) fun x hx => ?_
    simp at hx
    rcases hx with rfl | rfl | rfl
    · exact .str
    · exact .str
    · exact .int
  | one x =>
    refine lk_self (n := 39) (by simp) fun x hx => ?_
    simp at hx
    subst hx
    exact .str
theorem lk_fr {M : List MO} {m : Msg} {r : Nat} (hM : M[r]? = some (.lst (frD m))) (hl : (txM m).length ≤ 440) : Lk M 1 (.ref r) (.lst (frD m)) := by
  have h6 : (txM m).toList.length = (txM m).length := String.length_toList
  refine .ref (n := 0) hM rfl (by simp [frD, cdM, -String.length_toList]; omega) fun j x y hx hy => ?_
  rw [hx] at hy
  cases hy
  have hm := List.mem_of_getElem? hx
  unfold frD cdM at hm
  rcases List.mem_cons.mp hm with rfl | hm
  · exact .int
  · rcases List.mem_cons.mp hm with rfl | hm
    · exact .int
    · obtain ⟨c, _, rfl⟩ := List.mem_map.mp hm
      exact .int
/-! ### what is refused -/
theorem word_msg {act : List D → List MO → OutC} {cap : List D} {M M' : List MO} (h : act cap M = .exc "BadMessage" [("number", .int 0)] M') : mkFnL N18.length (m18 act) cap M = .ok (.tup [.str "message", .int 0]) M' := by
  have hb : (sExpr (eAct act)) ⟨[.lm cap, .un, .un, .un], M⟩ = .exc "BadMessage" [("number", .int 0)] ⟨[.lm cap, .un, .un, .un], M'⟩ := by
    unfold sExpr
    rw [bind_eq]
    have : eAct act ⟨[.lm cap, .un, .un, .un], M⟩ = .exc "BadMessage" [("number", .int 0)] ⟨[.lm cap, .un, .un, .un], M'⟩ := by
      show callM (fun _ M => act cap M) [] _ = _
      unfold callM
      dsimp only
      rw [h]
    rw [this]
    rfl
  show endOf (m18 act ⟨[.lm cap, .un, .un, .un], M⟩) = _
  unfold m18 sSeq
  rw [bind_eq]
  unfold sTryAs
  rw [hb]
  rfl
def odds : List D := [.tup [.str "sync", .int 1], .tup [.str "fetch", .int 6, .int 0], .tup [.str "bind", .int 0, .int 0, .tup [.int 1000]], .tup [], .tup [.str "close", .str "portal", .int 6]]
theorem odd_not {M : List MO} {k : Nat} {d : D} (h : d ∈ odds) : Tk (k + 2) 1 [d] M = .ok (.bl false) M := by
  have ne : ∀ {x : D} {r : List D}, plains (x :: r) = true → depD (.tup (x :: r)) ≤ 64 → eqWhole M (.tup (x :: r)) (.tup []) = some false := fun h1 h2 => by
    rw [eqW_tupN h1 h2]
    rfl
  refine CP.eq ?_
  rw [T1, CP_mkFn]
  unfold odds at h
  simp only [List.mem_cons, List.not_mem_nil, or_false] at h
  rcases h with rfl | rfl | rfl | rfl | rfl
  · simp [m1, N1, isI, ne (x := .str "sync") (r := [.int 1]) rfl (by simp [depD, depDs]), inS4]
    rw [ne (x := .int 1) (r := []) rfl (by simp [depD, depDs])]
    first | exact ⟨rfl, rfl⟩ | rfl
  · simp [m1, N1, isI, ne (x := .str "fetch") (r := [.int 6, .int 0]) rfl (by simp [depD, depDs]), inS4, whole_spec]
  · simp [m1, N1, isI, ne (x := .str "bind") (r := [.int 0, .int 0, .tup [.int 1000]]) rfl (by simp [depD, depDs]), inS4, whole_spec]
    refine lc_map [(1000 : Int)] D.int (fun z => some (.int z)) (by simp) (by simp) (by simp [okW, SV.own]) (fun z hz => ?_) ?_
    · rw [List.mem_singleton.mp hz]
      simp [lcEl, wipeL, whole_spec]
    · rw [fm_some]
      have : eqWhole M (.lst [.int 1000]) (.lst []) = some false := by
        rw [eqW_lstN rfl (by simp [depD, depDs])]
        rfl
      simp [this]
  · simp [m1, N1, isI, eqW_tt]
  · simp [m1, N1, isI, ne (x := .str "close") (r := [.str "portal", .int 6]) rfl (by simp [depD, depDs]), inS4, inS2, whole_spec]
theorem CP.exc {o : OutC} {c : String} {fs : List (String × D)} {M : List MO} (h : CP o (fun _ _ => False) (fun c' fs' M' => c' = c ∧ fs' = fs ∧ M' = M)) : o = .exc c fs M := by
  cases o with
  | ok d M' => exact h.elim
  | exc c' fs' M' =>
    obtain ⟨rfl, rfl, rfl⟩ := h
    rfl
  | bad => exact h.elim
theorem odd_written {M : List MO} {k : Nat} {d : D} (h : d ∈ odds) : Tk (k + 3) 4 [d] M = .exc "BadMessage" [("number", .int 0)] M := by
  refine CP.exc ?_
  rw [T4, CP_mkFn]
  simp [m4, N4, odd_not h]
theorem odd_framed {M : List MO} {k : Nat} {d : D} (h : d ∈ odds) : Tk (k + 4) 5 [d] M = .exc "BadMessage" [("number", .int 0)] M := by
  refine CP.exc ?_
  rw [T5, CP_mkFn]
  simp [m5, N5, odd_written h]
end K14

set_option maxHeartbeats 2000000
/-! k14, the plain law: messages drawn. -/
namespace K14
open PySem L2 Ev

section
variable {d : D} {ns : List Int} {M : List MO}
/-- numbers, one behind the other -/
theorem nums_lc {vs : List Nat} {σ : List SV} {k n : Nat} {ms : PM (List D)} {e : PM D} {g : GD} {P : List D → Ev.S → Prop} {E : EX} (hd : IsScr d ns) (hn : n ≤ 1000) (hok : okW vs σ = true)
    (hms : WP ms (fun ds s' => ds = [.int (n : Int)] ∧ s'.σ = σ ∧ Rw d s'.M) E ⟨σ, M⟩)
    (he : ∀ (j : Nat) (M : List MO) (x : Int) (M' : List MO), Tk (k + 2) 19 [.ref 0] M = .ok (.int x) M' → WP (lcEl g (pure true) e (.int (j : Int))) (fun o s' => wipeL vs s'.σ = wipeL vs σ ∧ s'.M = M' ∧ o = some (.int x)) noEX ⟨wipeL vs σ, M⟩)
    (fin : ∀ (xs : List Int) (M' : List MO), Rw d M' → xs.length = n → (∀ x ∈ xs, 0 ≤ x ∧ x < 1000) → P (xs.map D.int) ⟨σ, M'⟩) : WP (fLc vs (iR1 ms) g (pure true) e) P E ⟨σ, M⟩ := by
  refine lc_rngI (hms.imp fun ds s' h => ?_)
  obtain ⟨rfl, hσ, hR⟩ := h
  refine ⟨n, rfl, hn, hσ, hok, fun i acc M' => ∃ xs : List Int, acc = xs.map D.int ∧ xs.length = i ∧ Rw d M' ∧ ∀ x ∈ xs, 0 ≤ x ∧ x < 1000, ⟨[], rfl, rfl, hR, by simp⟩, fun j acc M' hj hI => ?_, fun acc M' hI => ?_⟩
  · obtain ⟨xs, rfl, hl, rM, hxs⟩ := hI
    obtain ⟨x, M2, e2, r2, x0, x1⟩ := number_spec (k := k) hd rM
    refine (he j M' x M2 e2).imp fun o s' h => ?_
    obtain ⟨h1, h2, rfl⟩ := h
    refine ⟨h1, xs ++ [x], by simp, by simp [hl], by rw [h2]; exact r2, fun q hq => ?_⟩
    rcases List.mem_append.mp hq with hq | hq
    · exact hxs q hq
    · rw [List.mem_singleton.mp hq]
      exact ⟨x0, x1⟩
  · obtain ⟨xs, rfl, hl, rM, hxs⟩ := hI
    exact fin xs M' rM hl hxs

theorem mul3 {M : List MO} {x : D} : oMul M (.lst [x]) (.int 3) = some (.lst [x, x, x]) := by rfl
theorem any_draw {k : Nat} (hk : 90 ≤ k) (hd : IsScr d ns) (hM : Rw d M) : ∃ (W : List Nat) (m : Msg) (M' : List MO), Tk k 27 [.ref 0] M = .ok (encM m) M' ∧ Rw d M' ∧ W.length ≤ 3 ∧ (∀ w ∈ W, 1 ≤ w ∧ w ≤ 4) ∧ okM W m := by
  obtain ⟨k, rfl⟩ : ∃ j, k = j + 4 := ⟨k - 4, by omega⟩
  have key : CP (Tk (k + 4) 27 [.ref 0] M) (fun v M' => ∃ (W : List Nat) (m : Msg), v = encM m ∧ Rw d M' ∧ W.length ≤ 3 ∧ (∀ w ∈ W, 1 ≤ w ∧ w ≤ 4) ∧ okM W m) noEX := by
    rw [T27, CP_mkFn]
    simp (config := { maxSteps := 2000000 }) [m27, N27]
    refine lc_rngI ?_
    simp
    refine ⟨3, rfl, by omega, by simp [okW, SV.own], fun j acc M' => ∃ W : List Nat, acc = (W.map fun (n : Nat) => D.int (n : Int)) ∧ W.length = j ∧ Rw d M' ∧ ∀ w ∈ W, 1 ≤ w ∧ w ≤ 4, ⟨[], rfl, rfl, hM, by simp⟩, fun j acc M' hj hI => ?_, fun acc M' hI => ?_⟩
    · obtain ⟨W, rfl, hl, rM, hW⟩ := hI
      obtain ⟨x, M2, e2, r2, x0, x1⟩ := taken_spec (m := 4) (k := k + 2) hd rM (by omega) (by omega)
      simp [lcEl, wipeL, e2]
      obtain ⟨y, rfl⟩ := Int.eq_ofNat_of_zero_le x0
      refine ⟨W ++ [1 + y], by simp, by simp [hl], r2, fun w hw => ?_⟩
      rcases List.mem_append.mp hw with hw | hw
      · exact hW w hw
      · rw [List.mem_singleton.mp hw]
        omega
    · obtain ⟨W, rfl, hl, rM, hW⟩ := hI
      obtain ⟨a, M1, e1, r1, a0, a1⟩ := taken_spec (m := 6) (k := k + 2) hd rM (by omega) (by omega)
      obtain ⟨b, M2, e2, r2, b0, b1⟩ := taken_spec (m := 6) (k := k + 2) hd r1 (by omega) (by omega)
      obtain ⟨A, M3, e3, r3, okA', sz, gl⟩ := ask_draw (W := W) (k := k + 3) (by omega) (by omega) hW hd r2 (by omega)
      obtain ⟨c, M4, e4, r4, c0, c1⟩ := taken_spec (m := 21) (k := k + 2) hd r3 (by omega) (by omega)
      obtain ⟨q, M5, e5, r5, q0, q1⟩ := taken_spec (m := 5) (k := k + 2) hd r4 (by omega) (by omega)
      simp [e1, e2, e3, e4, mul3, small]
      refine nums_lc (k := k + 1) (n := q.toNat) hd (by omega) (by simp [okW, SV.own]) ?_ (fun j M x M' hx => ?_) (fun xs M6 r6 hxl hxs => ?_)
      · simp [e5]
        exact ⟨by omega, r5⟩
      · simp [lcEl, wipeL, hx]
      · obtain ⟨e, M7, e7, r7, f0, f1⟩ := taken_spec (m := 2) (k := k + 2) hd r6 (by omega) (by omega)
        obtain ⟨t, M8, e8, r8, t0, t1⟩ := taken_spec (m := 10) (k := k + 2) hd r7 (by omega) (by omega)
        obtain ⟨an, rfl⟩ := Int.eq_ofNat_of_zero_le a0
        obtain ⟨bn, rfl⟩ := Int.eq_ofNat_of_zero_le b0
        obtain ⟨cn, rfl⟩ := Int.eq_ofNat_of_zero_le c0
        have hxl5 : xs.length ≤ 4 := by omega
        have hW3 : W.length ≤ 3 := by omega
        have ready : okM W (.ready an A) := ⟨by omega, okA', by omega⟩
        have fetch : okM W (.fetch an cn) := ⟨by omega, by omega⟩
        have bind : okM W (.bind an bn xs) := ⟨by omega, by omega, hxl5, hxs⟩
        have ht : t = 0 ∨ t = 1 ∨ t = 2 ∨ t = 3 ∨ t = 4 ∨ t = 5 ∨ t = 6 ∨ t = 7 ∨ t = 8 ∨ t = 9 := by omega
        rcases (show e = 0 ∨ e = 1 by omega) with rfl | rfl
        · have close : okM W (.close "ask" an) := ⟨.inl rfl, by omega⟩
          rcases ht with rfl | rfl | rfl | rfl | rfl | rfl | rfl | rfl | rfl | rfl <;> simp [e7, e8, small, show xs.length ≤ 100000 by omega]
          · exact ⟨W, .ready an A, rfl, r8, hW3, hW, ready⟩
          · exact ⟨W, .ready an A, rfl, r8, hW3, hW, ready⟩
          · exact ⟨W, .ready an A, rfl, r8, hW3, hW, ready⟩
          · exact ⟨W, .fetch an cn, rfl, r8, hW3, hW, fetch⟩
          · exact ⟨W, .bind an bn xs, rfl, r8, hW3, hW, bind⟩
          · exact ⟨W, .close "ask" an, rfl, r8, hW3, hW, close⟩
          · exact ⟨W, .one "begin", rfl, r8, hW3, hW, .inl rfl⟩
          · exact ⟨W, .one "keep", rfl, r8, hW3, hW, .inr (.inl rfl)⟩
          · exact ⟨W, .one "undo", rfl, r8, hW3, hW, .inr (.inr (.inl rfl))⟩
          · exact ⟨W, .one "sync", rfl, r8, hW3, hW, .inr (.inr (.inr rfl))⟩
        · have close : okM W (.close "portal" an) := ⟨.inr rfl, by omega⟩
          rcases ht with rfl | rfl | rfl | rfl | rfl | rfl | rfl | rfl | rfl | rfl <;> simp [e7, e8, small, show xs.length ≤ 100000 by omega]
          · exact ⟨W, .ready an A, rfl, r8, hW3, hW, ready⟩
          · exact ⟨W, .ready an A, rfl, r8, hW3, hW, ready⟩
          · exact ⟨W, .ready an A, rfl, r8, hW3, hW, ready⟩
          · exact ⟨W, .fetch an cn, rfl, r8, hW3, hW, fetch⟩
          · exact ⟨W, .bind an bn xs, rfl, r8, hW3, hW, bind⟩
          · exact ⟨W, .close "portal" an, rfl, r8, hW3, hW, close⟩
          · exact ⟨W, .one "begin", rfl, r8, hW3, hW, .inl rfl⟩
          · exact ⟨W, .one "keep", rfl, r8, hW3, hW, .inr (.inl rfl)⟩
          · exact ⟨W, .one "undo", rfl, r8, hW3, hW, .inr (.inr (.inl rfl))⟩
          · exact ⟨W, .one "sync", rfl, r8, hW3, hW, .inr (.inr (.inr rfl))⟩
  obtain ⟨v, M', e, W, m, rfl, h⟩ := CP_ex key
  exact ⟨W, m, M', e, h⟩
end
end K14

set_option maxHeartbeats 2000000
/-! k14, the plain law: the turns. -/
namespace K14
open PySem L2 Ev

def wloop (k : Nat) : SM := (sFor (iSeq (eSl (eVar 5) (oSm (pure (.int 1))) oNo)) (gN 7) (eIf (tAndM (asB (eBin oEq (eBinP oIx 5 (pure (.int 0))) (pure (.str "ready")))) (asB (e1 (oIsi "tuple") (vName 7)))) (sSetU 6 (fAddP 6 (eCall (Tk k 26) (aCons (eVar 7) aNil)))) (eIf (asB (e1 (oIsi "tuple") (vName 7))) (sSetU 6 (fAdd (eFz (fAddP 6 (eFz (fLst (aCons (e1 oStr (vVal (e1 oLen (vName 7)))) aNil))))) (eFz (fLc [13] (iSeq (eVar 7)) (gN 13) (pure true) (e1 oStr (vName 13)))))) (sExpr (eMutN 6 lAppend (aCons (e1 oStr (vName 7)) aNil))))))
def bodyS : SM := (sSet 9 (eFz (fLc [14] (iSeq (eVar 8)) (gN 14) (pure true) (eIf (asB (eBinP oEq 14 (pure (.str " ")))) (pure (.int 32)) (eBinP oIx 3 (eT1 sIndex (eVar 2) (vName 14)))))))
def floop (k : Nat) : SM := (sFor (iR1 (aCons (pure (.int 2)) aNil)) (gN 10) (sSeq (sSet 11 (eCall (Tk k 5) (aCons (eVar 5) aNil)))
    (sSeq (eIf (tNotM (asB (eCall (Tk k 17) (aCons (eVar 11) (aCons (eFz (fAdd (eFz (fLst (aCons (eBin oDiv (e1 oLen (vName 8)) (pure (.int 256))) (aCons (eBin oMod (e1 oLen (vName 8)) (pure (.int 256))) aNil)))) (eVar 9))) aNil))))) (sRet (pure (.bl false))) sNil)
    (sExpr (eMutN 11 lAppend (aCons (pure (.int 0)) aNil))))))
def oddS (k : Nat) : SM := (sSet 12 (eBin oIx (eFz (fLst (aCons (eTup (aCons (pure (.str "sync")) (aCons (pure (.int 1)) aNil))) (aCons (eTup (aCons (pure (.str "fetch")) (aCons (pure (.int 6)) (aCons (pure (.int 0)) aNil)))) (aCons (eTup (aCons (pure (.str "bind")) (aCons (pure (.int 0)) (aCons (pure (.int 0)) (aCons (eTup (aCons (pure (.int 1000)) aNil)) aNil))))) (aCons (eTup aNil) (aCons (eTup (aCons (pure (.str "close")) (aCons (pure (.str "portal")) (aCons (pure (.int 6)) aNil)))) aNil))))))) (eCall (Tk k 16) (aCons (eVar 1) (aCons (pure (.int 5)) aNil)))))
def alS (k : Nat) : SM := (eIf (tOrM (tNotM (asB (eCall (Tk k 17) (aCons (eCall (Tk k 4) (aCons (eVar 5) aNil)) (aCons (eVar 8) aNil))))) (tNotM (asB (eCall (Tk k 17) (aCons (eCall (Tk k 15) (aCons (eVar 8) aNil)) (aCons (eVar 5) aNil)))))) (sRet (pure (.bl false))) sNil)
def lamS (k : Nat) : SM := (eIf (asB (eBin oNe (eFz (fLst (aCons (eLam [12] (mkFnL N18.length (m18 (lamAct N28.length [12] (eCall (Tk k 4) (aCons (eVar 12) aNil)))))) (aCons (eLam [12] (mkFnL N18.length (m18 (lamAct N28.length [12] (eCall (Tk k 5) (aCons (eVar 12) aNil)))))) aNil)))) (eBin oMul (eFz (fLst (aCons (eTup (aCons (pure (.str "message")) (aCons (pure (.int 0)) aNil))) aNil))) (pure (.int 2))))) (sRet (pure (.bl false))) sNil)
section
variable {d : D} {ns : List Int} {M : List MO} {W : List Nat} {m : Msg} {k : Nat}
def codesD : D := .lst (rngL 48 58 ++ rngL 97 123)
/-- the turn's slots -/
def sl (d : D) (v4 v5 v6 v7 v8 v9 v10 v11 v12 : SV) : List SV := [.val d, .val (.ref 0), .val (.str "0123456789abcdefghijklmnopqrstuvwxyz"), .val codesD, v4, v5, v6, v7, v8, v9, v10, v11, v12, .un, .un]
theorem wloop_spec {P : Option D → Ev.S → Prop} {v4 v7 v8 v9 v10 v11 v12 : SV} (hW3 : W.length ≤ 3) (hWv : ∀ w ∈ W, 1 ≤ w ∧ w ≤ 4) (hk : 90 ≤ k) (h : okM W m)
    (fin : ∀ v7', P none ⟨sl d v4 (.val (encM m)) (.ul (strsL (wdM m))) v7' v8 v9 v10 v11 v12, M⟩) :
    WP (wloop k) P noEX ⟨sl d v4 (.val (encM m)) (.ul [.str (wdM m).head!]) v7 v8 v9 v10 v11 v12, M⟩ := by
  unfold wloop
  refine for_lit ?_
  cases m with
  | ready n a =>
    obtain ⟨h6, hA, hs⟩ := h
    have hb := (both_A hW3 hWv a (k := k) (by omega) (by omega) hA M).2
    have hl := wdA_len a
    obtain ⟨x, r, e⟩ := encA_1 a
    simp only [encM, wdM, List.head!] at fin ⊢
    rw [e] at hb fin ⊢
    simp [sl, forL, isI, oStr_int (i := (n : Int)) (by omega), small, hb, show 2 + (wdA a).length ≤ 100000 by omega]
    exact fin _
  | fetch n m =>
    obtain ⟨h6, h7⟩ := h
    simp only [encM, wdM, List.head!] at fin ⊢
    simp [sl, forL, isI, oStr_int (i := (n : Int)) (by omega), oStr_int (i := (m : Int)) (by omega), small]
    exact fin _
  | bind p n ws =>
    obtain ⟨h5, h6, h7, h8⟩ := h
    simp only [encM, encR, wdM, List.head!] at fin ⊢
    simp [sl, forL, isI, oStr_int (i := (n : Int)) (by omega), oStr_int (i := (p : Int)) (by omega), oStr_int (i := (ws.length : Int)) (by omega), small]
    refine lc_map ws D.int (fun z => some (.str (sI z))) (by omega) (by simp) (by simp [okW, SV.own]) (fun z hz => ?_) ?_
    · have := h8 z hz
      simp [lcEl, wipeL, oStr_int (i := z) (by omega)]
    · rw [fm_some]
      simp [small, show 4 + ws.length ≤ 100000 by omega]
      have e2 : strsL ("bind" :: sI p :: sI n :: sI ws.length :: ws.map sI) = D.str "bind" :: D.str (sI p) :: D.str (sI n) :: D.str (sI ws.length) :: ws.map (fun z => D.str (sI z)) := by simp [strsL]
      rw [e2] at fin
      exact fin _
  | close x n =>
    obtain ⟨h6, h7⟩ := h
    simp only [encM, wdM, List.head!] at fin ⊢
    simp [sl, forL, isI, oStr_int (i := (n : Int)) (by omega), small]
    exact fin _
  | one x =>
    simp only [encM, wdM, List.head!] at fin ⊢
    simp [sl, forL]
    exact fin _
theorem body_spec {P : Option D → Ev.S → Prop} {v4 v5 v6 v7 v9 v10 v11 v12 : SV} (hW3 : W.length ≤ 3) (hWv : ∀ w ∈ W, 1 ≤ w ∧ w ≤ 4) (h : okM W m)
    (fin : P none ⟨sl d v4 v5 v6 v7 (.val (.str (txM m))) (.val (.lst (cdM m))) v10 v11 v12, M⟩) :
    WP bodyS P noEX ⟨sl d v4 v5 v6 v7 (.val (.str (txM m))) v9 v10 v11 v12, M⟩ := by
  have h2 := txM_len hW3 hWv h
  have h4 := tx_chars (aw_M hW3 hWv h)
  have h6 : (txM m).toList.length = (txM m).length := String.length_toList
  unfold bodyS
  simp only [sl] at fin ⊢
  simp
  refine lc_map (txM m).toList (fun c => .str (String.singleton c)) (fun c => some (.int (c.toNat : Nat))) (by omega) (by simp [seqNow]) (by simp [okW, SV.own]) (fun c hc => ?_) ?_
  · by_cases hb : c = ' '
    · subst hb
      simp [lcEl, wipeL, sing_inj]
    · have h5 := (h4 c hc).resolve_left hb
      obtain ⟨i, hi, e1, e2⟩ := sg_ix c h5
      have e3 : atI (rngL 48 58 ++ rngL 97 123) (i : Int) = some (.int (c.toNat : Nat)) := by
        rw [atI_nat (by omega) (by show _ < _; simp [rngL]; omega)]
        have e4 : rngL 48 58 ++ rngL 97 123 = (((List.range 10).map (48 + ·) ++ (List.range 26).map (97 + ·)).map fun (n : Nat) => D.int (n : Nat)) := by rfl
        rw [e4, List.getElem?_map]
        simp only [Int.toNat_natCast]
        rw [e2]
        rfl
      simp [lcEl, wipeL, sing_inj, hb, sIndex_of e1, codesD, e3]
  · rw [fm_some]
    simp
    exact fin
theorem al_spec {P : Option D → Ev.S → Prop} {v4 v6 v7 v9 v10 v11 v12 : SV} (hW3 : W.length ≤ 3) (hWv : ∀ w ∈ W, 1 ≤ w ∧ w ≤ 4) (hk : 90 ≤ k) (h : okM W m)
    (fin : ∀ o, P none ⟨sl d v4 (.val (encM m)) v6 v7 (.val (.str (txM m))) v9 v10 v11 v12, M ++ [o]⟩) :
    WP (alS k) P noEX ⟨sl d v4 (.val (encM m)) v6 v7 (.val (.str (txM m))) v9 v10 v11 v12, M⟩ := by
  obtain ⟨o, h2⟩ := read_spec hW3 hWv (m := m) (k := k) (M := M) (by omega) h
  have h1 := written_spec hW3 hWv (m := m) (M := M) (k := k) (by omega) h
  have a1 := alike_spec (M := M) (x := .str (txM m)) (y := .str (txM m)) (n := 0) k .str (by omega)
  have a2 := alike_spec (M := M ++ [o]) (n := 40) k (lk_M h) (by omega)
  unfold alS
  simp only [sl] at fin ⊢
  simp [h1, a1, h2, a2]
  exact fin o
theorem floop_spec {P : Option D → Ev.S → Prop} {v4 v6 v7 v10 v11 v12 : SV} (hW3 : W.length ≤ 3) (hWv : ∀ w ∈ W, 1 ≤ w ∧ w ≤ 4) (hk : 90 ≤ k) (h : okM W m) (hM : 1 ≤ M.length)
    (fin : ∀ v10' v11' e, P none ⟨sl d v4 (.val (encM m)) v6 v7 (.val (.str (txM m))) (.val (.lst (cdM m))) v10' v11' v12, M ++ e⟩) :
    WP (floop k) P noEX ⟨sl d v4 (.val (encM m)) v6 v7 (.val (.str (txM m))) (.val (.lst (cdM m))) v10 v11 v12, M⟩ := by
  have hl := txM_len hW3 hWv h
  have h6 : (txM m).toList.length = (txM m).length := String.length_toList
  have hc : (cdM m).length = (txM m).length := by simp [cdM, h6]
  have hol := fun M => len_tx (M := M) (w := txM m) (by omega)
  unfold floop
  refine for_rng ?_
  simp
  refine ⟨2, rfl, by omega, fun i s => ∃ v10' v11' e, s = ⟨sl d v4 (.val (encM m)) v6 v7 (.val (.str (txM m))) (.val (.lst (cdM m))) v10' v11' v12, M ++ e⟩, ⟨v10, v11, [], by simp⟩, fun i s hi hI => ?_, fun s hI => ?_⟩
  · obtain ⟨v10', v11', e, rfl⟩ := hI
    have f1 := framed_spec hW3 hWv (m := m) (M := M ++ e) (k := k) (by omega) h
    have f2 := alike_spec (M := M ++ e ++ [.lst (frD m)]) (n := 1) k (lk_fr (m := m) (r := (M ++ e).length) (by simp) hl) (by omega)
    have fr : frD m = .int (((txM m).length : Int).fdiv 256) :: .int (((txM m).length : Int).fmod 256) :: cdM m := rfl
    rw [fr] at f1 f2
    simp only [List.length_append] at f1 f2
    simp only [List.append_assoc] at f1 f2
    unfold forEl
    rw [WP_bind, WP_gN]
    refine ⟨by simp [sl], ?_⟩
    simp only [sl]
    simp [f1, f2, hol, small, hc, show 2 + (txM m).length ≤ 100000 by omega, show (txM m).length + 2 < 100000 by omega]
    have hg : ∀ x : MO, (M ++ (e ++ [x]))[M.length + e.length]? = some x := fun x => by
      rw [← List.append_assoc, List.getElem?_append_right (by simp)]
      simp
    rw [vw_ref (hg _)]
    trivial
  · obtain ⟨v10', v11', e, rfl⟩ := hI
    exact fin _ _ _
theorem odd_spec {P : Option D → Ev.S → Prop} {v4 v5 v6 v7 v8 v9 v10 v11 v12 : SV} (hk : 90 ≤ k) (hd : IsScr d ns) (hM : Rw d M)
    (fin : ∀ o ∈ odds, ∀ M', Rw d M' → P none ⟨sl d v4 v5 v6 v7 v8 v9 v10 v11 (.val o), M'⟩) : WP (oddS k) P noEX ⟨sl d v4 v5 v6 v7 v8 v9 v10 v11 v12, M⟩ := by
  obtain ⟨k, rfl⟩ : ∃ j, k = j + 1 := ⟨k - 1, by omega⟩
  obtain ⟨t, M', e1, r1, t0, t1⟩ := taken_spec (m := 5) (k := k) hd hM (by omega) (by omega)
  unfold oddS
  simp only [sl] at fin ⊢
  rcases (show t = 0 ∨ t = 1 ∨ t = 2 ∨ t = 3 ∨ t = 4 by omega) with rfl | rfl | rfl | rfl | rfl <;> simp [e1]
  · exact fin _ (by simp [odds]) _ r1
  · exact fin _ (by simp [odds]) _ r1
  · exact fin _ (by simp [odds]) _ r1
  · exact fin _ (by simp [odds]) _ r1
  · exact fin _ (by simp [odds]) _ r1
theorem lam_w {o : D} (ho : o ∈ odds) (hk : 90 ≤ k) : lamAct N28.length [12] (eCall (Tk k 4) (aCons (eVar 12) aNil)) [o] M = .exc "BadMessage" [("number", .int 0)] M := by
  obtain ⟨k, rfl⟩ : ∃ j, k = j + 4 := ⟨k - 4, by omega⟩
  have h := odd_written (M := M) (k := k + 1) ho
  show endE (callM (Tk (k + 4) 4) [o] ⟨capSlots N28.length [12] [o], M⟩) = _
  unfold callM
  dsimp only
  rw [h]
  rfl
theorem lam_f {o : D} (ho : o ∈ odds) (hk : 90 ≤ k) : lamAct N28.length [12] (eCall (Tk k 5) (aCons (eVar 12) aNil)) [o] M = .exc "BadMessage" [("number", .int 0)] M := by
  obtain ⟨k, rfl⟩ : ∃ j, k = j + 4 := ⟨k - 4, by omega⟩
  have h := odd_framed (M := M) (k := k) ho
  show endE (callM (Tk (k + 4) 5) [o] ⟨capSlots N28.length [12] [o], M⟩) = _
  unfold callM
  dsimp only
  rw [h]
  rfl
theorem mul2 {M : List MO} {x : D} : oMul M (.lst [x]) (.int 2) = some (.lst [x, x]) := by rfl
theorem eqW_self {M : List MO} {x : D} (h : Ev.plain x = true) (hd : depD x ≤ 64) : eqWhole M x x = some (eqvD x x) := eqWhole_plain h h hd hd
theorem lam_spec {P : Option D → Ev.S → Prop} {v4 v5 v6 v7 v8 v9 v10 v11 : SV} {o : D} (ho : o ∈ odds) (hk : 90 ≤ k)
    (fin : P none ⟨sl d v4 v5 v6 v7 v8 v9 v10 v11 (.val o), M⟩) : WP (lamS k) P noEX ⟨sl d v4 v5 v6 v7 v8 v9 v10 v11 (.val o), M⟩ := by
  have h1 := word_msg (lam_w (M := M) ho hk)
  have h2 := word_msg (lam_f (M := M) ho hk)
  have h3 : eqWhole M (.lst [.tup [.str "message", .int 0], .tup [.str "message", .int 0]]) (.lst [.tup [.str "message", .int 0], .tup [.str "message", .int 0]]) = some true := by
    rw [eqW_self rfl (by simp [depD, depDs])]
    rfl
  unfold lamS
  simp only [sl] at fin ⊢
  simp [eLam, eCaps, h1, h2, mul2, h3]
  exact fin
theorem turn {P : Option D → Ev.S → Prop} {v4 v5 v6 v7 v8 v9 v10 v11 v12 : SV} (hk : 90 ≤ k) (hd : IsScr d ns) (hM : Rw d M)
    (fin : ∀ v5 v6 v7 v8 v9 v10 v11 v12 M', Rw d M' → P none ⟨sl d v4 v5 v6 v7 v8 v9 v10 v11 v12, M'⟩) :
    WP (sSeq (sSet 5 (eCall (Tk k 27) (aCons (eVar 1) aNil))) (sSeq (sSetU 6 (fLst (aCons (eBinP oIx 5 (pure (.int 0))) aNil))) (sSeq (wloop k) (sSeq (sSet 8 (eT1 sJoin (pure (.str " ")) (vName 6))) (sSeq (alS k) (sSeq bodyS (sSeq (floop k) (sSeq (oddS k) (lamS k))))))))) P noEX ⟨sl d v4 v5 v6 v7 v8 v9 v10 v11 v12, M⟩ := by
  obtain ⟨W, m, M1, e1, r1, hW3, hWv, hm⟩ := any_draw (k := k) (by omega) hd hM
  refine WP_sSeq.mpr (WP.imp (P := fun o s' => o = none ∧ s' = ⟨sl d v4 (.val (encM m)) v6 v7 v8 v9 v10 v11 v12, M1⟩) (by simp [sl, e1]) fun o s' h => ?_)
  obtain ⟨rfl, rfl⟩ := h
  refine seqK_none.mpr (WP_sSeq.mpr (WP.imp (P := fun o s' => o = none ∧ s' = ⟨sl d v4 (.val (encM m)) (.ul [.str (wdM m).head!]) v7 v8 v9 v10 v11 v12, M1⟩) (by cases m <;> simp [sl, encM, wdM] <;> rfl) fun o s' h => ?_))
  obtain ⟨rfl, rfl⟩ := h
  refine seqK_none.mpr (WP_sSeq.mpr (wloop_spec hW3 hWv hk hm fun v7' => ?_))
  have hj := sJoin_ok (M := M1) (aw_M hW3 hWv hm) (by have := wdM_len hm; omega)
  refine seqK_none.mpr (WP_sSeq.mpr (WP.imp (P := fun o s' => o = none ∧ s' = ⟨sl d v4 (.val (encM m)) (.ul (strsL (wdM m))) v7' (.val (.str (txM m))) v9 v10 v11 v12, M1⟩) (by simp [sl, hj, txM]) fun o s' h => ?_))
  obtain ⟨rfl, rfl⟩ := h
  refine seqK_none.mpr (WP_sSeq.mpr (al_spec hW3 hWv hk hm fun o => ?_))
  refine seqK_none.mpr (WP_sSeq.mpr (body_spec hW3 hWv hm ?_))
  have r2 := Rw_app (e := [o]) r1
  refine seqK_none.mpr (WP_sSeq.mpr (floop_spec hW3 hWv hk hm (Rw_len r2) fun v10' v11' e => ?_))
  have r3 := Rw_app (e := e) r2
  refine seqK_none.mpr (WP_sSeq.mpr (odd_spec hk hd r3 fun o ho M' r4 => ?_))
  exact seqK_none.mpr (lam_spec ho hk (fin _ _ _ _ _ _ _ _ _ r4))
theorem law_plain (hk : 90 ≤ k) (hd : IsScr d ns) : ∃ M, lawFn k [d] [] = .ok (.bl true) M := by
  have key : CP (lawFn k [d] []) (fun v M' => v = .bl true) noEX := by
    unfold lawFn
    rw [CP_mkFn]
    simp [m28, N28]
    refine for_rng ?_
    simp
    have i0 : Rw d [.lst [d, .int 0, .int 0, .int 0]] := ⟨0, 0, 0, by omega, rfl⟩
    refine ⟨8, rfl, by omega, fun i s => ∃ v4 v5 v6 v7 v8 v9 v10 v11 v12, s.σ = sl d v4 v5 v6 v7 v8 v9 v10 v11 v12 ∧ Rw d s.M, ?_, fun i s hi hI => ?_⟩
    · exact ⟨_, _, _, _, _, _, _, _, _, rfl, i0⟩
    · obtain ⟨v4, v5, v6, v7, v8, v9, v10, v11, v12, hσ, rM⟩ := hI
      obtain ⟨σ, Ms⟩ := s
      dsimp only at hσ rM
      subst hσ
      unfold forEl
      rw [WP_bind, WP_gN]
      refine ⟨by simp [sl], ?_⟩
      refine turn hk hd rM fun v5 v6 v7 v8 v9 v10 v11 v12 M' rM' => ?_
      exact ⟨_, _, _, _, _, _, _, _, _, rfl, rM'⟩
  obtain ⟨v, M, e, rfl⟩ := CP_ex key
  exact ⟨M, e⟩
end
end K14

set_option maxHeartbeats 2000000
theorem PySem.Challenge.cw_portaldesk_k14_written_and_read_holds : PySem.Challenge.rw_portaldesk_k14_written_and_read.Holds :=
  K14W.law_holds 110 ⟨rfl, by decide, by decide⟩ fun ns d _ _ hd => K14.law_plain (by omega) hd
