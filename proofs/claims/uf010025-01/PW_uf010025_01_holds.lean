import PyProof.Rows.All
import Wide.All
import OpenK.AllK
import Wide.FinOn
import PyProof.CompFree
import PyProof.Cells
import PyProof.DictKinds
import PyProof.Calls
import PyProof.Rows.Tup
import PyProof.Rules2
import PyProof.Rules3
import PyProof.CallRoads
import PyProof.CallType
import PyProof.Rows.StrTemp
import PyProof.Rows.TupSub
import PyProof.RulesRaise
import PyProof.ForAny
import PyProof.WalksMore
import PyProof.StrWalks
import PyProof.DictWalks
import PyProof.MakeMany
import PyProof.PureInt
import PyProof.NoPylong
import PyProof.Rows.RuleB_floordiv
import PyProof.Rows.RuleB_mod
import PyProof.Rows.StrRules
import PyProof.FString5
import PyProof.ListIndex
import PyProof.ListIndexNeg
import PyProof.SliceList
import PyProof.SliceStr2
import PyProof.StrCalls2
import PyProof.ConsumeWalk
import PyProof.WalkInts
import PyProof.IsiPairs
import PyProof.IsiHeapPairs
import PyProof.CallStr
import PyProof.P3Eq
import PyProof.EqLayable
import PyProof.Methods
import PyProof.SeqRoads
import PyProof.SliceSyntax
import PyProof.Rows.SeqMore
import PyProof.IsiNone
import PyProof.StrBlock
import PyProof.RangeFor
import PyProof.Rows.Range3
import PyProof.Rows.Chain
import OpenK.KCall
import PyProof.StrBlockI
import PyProof.StrBlockL
import Lean
import PySem.Challenge.RW_uf010025_01
set_option autoImplicit false
set_option linter.unusedVariables false
set_option linter.unusedSimpArgs false
set_option Elab.async false
set_option maxRecDepth 100000
set_option maxHeartbeats 8000000
namespace Mine
open PySem PySem.W PyProof.Rows
open_top hd01 for PySem.Challenge.rw_uf010025_01
end Mine
set_option autoImplicit false
set_option linter.unusedVariables false
namespace Mine
open PySem

/-! ## abstract values -/
inductive V where
  | none
  | bool (b : Bool)
  | int (i : Int)
  | str (x : Str)
  | tup (vs : List V)
  | lst (vs : List V)
  | dct (es : List (V × V))
  | rng (lo hi st : Int)
  | slc (l u s : V)
  | ref (a : Addr)
  | type (n : String)
  | bi (n : String)

/-- mutable things -/
inductive AO where
  | list (vs : List V)
  | dict (es : List (V × V))
  | inst (c dx : Addr) (fs : List (Str × V))

abbrev Gh := Addr → Option Obj
/-- what is known of mutable things: where, the very object (for an instance: its attributes' dict), what it holds -/
abbrev Sto := List (Addr × Obj × AO)
abbrev Loc := List (Option V)

abbrev tupO (vs : Array Value) (n : Nat) : Obj := { cls := .type "tuple", data := .seq vs n }
abbrev lstO (vs : Array Value) (n : Nat) : Obj := { cls := .type "list", data := .seq vs n }
abbrev dctO (es : Array DictEntry) (n : Nat) : Obj := { cls := .type "dict", data := .dict es n }
abbrev instO (c dx : Addr) : Obj := { cls := .ref c, dict := some dx }

def KH (w : World) : V → Int → Prop
  | .int i, h => h = hashInt i
  | .str x, h => h = hashStr w x
  | _, _ => False

mutual
inductive VR (w : World) (D : Gh) : Value → V → Prop
  | none : VR w D .none .none
  | bool (b : Bool) : VR w D (.bool b) (.bool b)
  | int (i : Int) (t : Tok) : VR w D (.int i t) (.int i)
  | str (x : Str) (t : Tok) : VR w D (.str x t) (.str x)
  | ref (a : Addr) : VR w D (.ref a) (.ref a)
  | type (n : String) : VR w D (.type n) (.type n)
  | bi (n : String) : VR w D (.builtin n) (.bi n)
  | tup {a : Addr} {o : Obj} {vs : List Value} {n : Nat} {Vs : List V} : D a = some o → o.cls = .type "tuple" → o.data = .seq vs.toArray n → VRs w D vs Vs → VR w D (.ref a) (.tup Vs)
  | lst {a : Addr} {vs : List Value} {n : Nat} {Vs : List V} : D a = some (lstO vs.toArray n) → VRs w D vs Vs → VR w D (.ref a) (.lst Vs)
  | rng {a : Addr} {x y z : Int} {t u v : Tok} : D a = some { cls := .type "range", dict := none, data := .fields #[.int x t, .int y u, .int z v], slots := #[] } → VR w D (.ref a) (.rng x y z)
  | slc {a : Addr} {l u st : Value} {L U S : V} : D a = some { cls := .type "slice", data := .fields #[l, u, st] } → VR w D l L → VR w D u U → VR w D st S → VR w D (.ref a) (.slc L U S)
  | dct {a : Addr} {es : List DictEntry} {n : Nat} {Es : List (V × V)} : D a = some (dctO es.toArray n) → VRd w D es Es → VR w D (.ref a) (.dct Es)
inductive VRs (w : World) (D : Gh) : List Value → List V → Prop
  | nil : VRs w D [] []
  | cons {v : Value} {x : V} {vs : List Value} {xs : List V} : VR w D v x → VRs w D vs xs → VRs w D (v :: vs) (x :: xs)
inductive VRd (w : World) (D : Gh) : List DictEntry → List (V × V) → Prop
  | nil : VRd w D [] []
  | cons {e : DictEntry} {k x : V} {es : List DictEntry} {xs : List (V × V)} : KH w k e.hash → VR w D e.key k → VR w D e.val x → VRd w D es xs → VRd w D (e :: es) ((k, x) :: xs)
end

def Sub (D D' : Gh) : Prop := ∀ a o, D a = some o → D' a = some o
theorem Sub.refl (D : Gh) : Sub D D := fun _ _ e => e
theorem Sub.trans {D D' D'' : Gh} (h : Sub D D') (h' : Sub D' D'') : Sub D D'' := fun a o e => h' a o (h a o e)

mutual
theorem VR.mono {w : World} {D D' : Gh} (h : Sub D D') : ∀ {v : Value} {x : V}, VR w D v x → VR w D' v x
  | _, _, .none => .none
  | _, _, .bool b => .bool b
  | _, _, .int i t => .int i t
  | _, _, .str x t => .str x t
  | _, _, .ref a => .ref a
  | _, _, .type n => .type n
  | _, _, .bi n => .bi n
  | _, _, .tup e c q r => .tup (h _ _ e) c q (VRs.mono h r)
  | _, _, .lst e r => .lst (h _ _ e) (VRs.mono h r)
  | _, _, .rng e => .rng (h _ _ e)
  | _, _, .slc e a b c => .slc (h _ _ e) (VR.mono h a) (VR.mono h b) (VR.mono h c)
  | _, _, .dct e r => .dct (h _ _ e) (VRd.mono h r)
theorem VRs.mono {w : World} {D D' : Gh} (h : Sub D D') : ∀ {v : List Value} {x : List V}, VRs w D v x → VRs w D' v x
  | _, _, .nil => .nil
  | _, _, .cons a b => .cons (VR.mono h a) (VRs.mono h b)
theorem VRd.mono {w : World} {D D' : Gh} (h : Sub D D') : ∀ {v : List DictEntry} {x : List (V × V)}, VRd w D v x → VRd w D' v x
  | _, _, .nil => .nil
  | _, _, .cons k a b c => .cons k (VR.mono h a) (VR.mono h b) (VRd.mono h c)
end

theorem VRs.length {w : World} {D : Gh} : ∀ {v : List Value} {x : List V}, VRs w D v x → v.length = x.length
  | _, _, .nil => rfl
  | _, _, .cons _ b => by simp [VRs.length b]
theorem VRs.append {w : World} {D : Gh} : ∀ {v v' : List Value} {x x' : List V}, VRs w D v x → VRs w D v' x' → VRs w D (v ++ v') (x ++ x')
  | _, _, _, _, .nil, h => h
  | _, _, _, _, .cons a b, h => .cons a (VRs.append b h)
theorem VRs.get {w : World} {D : Gh} : ∀ {v : List Value} {x : List V}, VRs w D v x → ∀ {i : Nat} {X : V}, x[i]? = some X → ∃ u, v[i]? = some u ∧ VR w D u X
  | _, _, .nil, i, X, h => by simp at h
  | _, _, .cons a b, 0, X, h => by simp at h; subst h; exact ⟨_, rfl, a⟩
  | _, _, .cons a b, i + 1, X, h => by simpa using VRs.get b (i := i) (by simpa using h)
theorem VRs.get' {w : World} {D : Gh} : ∀ {v : List Value} {x : List V}, VRs w D v x → ∀ {i : Nat} {u : Value}, v[i]? = some u → ∃ X, x[i]? = some X ∧ VR w D u X
  | _, _, .nil, i, X, h => by simp at h
  | _, _, .cons a b, 0, X, h => by simp at h; subst h; exact ⟨_, rfl, a⟩
  | _, _, .cons a b, i + 1, X, h => by simpa using VRs.get' b (i := i) (by simpa using h)

/-! ## the store -/
def footO (a : Addr) : AO → List Addr
  | .inst _ dx _ => [a, dx]
  | _ => [a]
def foot : Sto → List Addr
  | [] => []
  | (a, _, o) :: r => footO a o ++ foot r

theorem mem_foot {σ : Sto} {a : Addr} {ob : Obj} {o : AO} (h : (a, ob, o) ∈ σ) : ∀ b ∈ footO a o, b ∈ foot σ := by
  induction σ with
  | nil => cases h
  | cons p r ih =>
    intro b hb
    obtain ⟨c, q, z⟩ := p
    rcases List.mem_cons.mp h with e | h
    · cases e; exact List.mem_append_left _ hb
    · exact List.mem_append_right _ (ih h b hb)
theorem self_footO (a : Addr) (o : AO) : a ∈ footO a o := by cases o <;> simp [footO]
theorem self_foot {σ : Sto} {a : Addr} {ob : Obj} {o : AO} (h : (a, ob, o) ∈ σ) : a ∈ foot σ := mem_foot h a (self_footO a o)

/-- the attributes of an instance: names to values -/
def FR (w : World) (D : Gh) : List DictEntry → List (Str × V) → Prop
  | [], [] => True
  | e :: es, (n, x) :: fs => (∃ t, e.key = .str n t) ∧ e.hash = hashStr w n ∧ VR w D e.val x ∧ FR w D es fs
  | _, _ => False
theorem FR.mono {w : World} {D D' : Gh} (h : Sub D D') : ∀ {es : List DictEntry} {fs : List (Str × V)}, FR w D es fs → FR w D' es fs
  | [], [], _ => trivial
  | e :: es, (n, x) :: fs, ⟨a, b, c, d⟩ => ⟨a, b, VR.mono h c, FR.mono h d⟩
  | [], _ :: _, h => h.elim
  | _ :: _, [], h => h.elim

/-- what an object holds -/
def HR (w : World) (D : Gh) (o : Obj) : AO → Prop
  | .list xs => ∃ vs n, o = lstO vs n ∧ VRs w D vs.toList xs
  | .dict xs => ∃ es n, o = dctO es n ∧ VRd w D es.toList xs
  | .inst _ _ fs => ∃ es n, o = dctO es n ∧ FR w D es.toList fs
theorem HR.mono {w : World} {D D' : Gh} {o : Obj} (hs : Sub D D') : ∀ {x : AO}, HR w D o x → HR w D' o x
  | .list _, ⟨vs, n, e, r⟩ => ⟨vs, n, e, r.mono hs⟩
  | .dict _, ⟨vs, n, e, r⟩ => ⟨vs, n, e, r.mono hs⟩
  | .inst _ _ _, ⟨vs, n, e, r⟩ => ⟨vs, n, e, FR.mono hs r⟩
/-- where it stands -/
def PR (h : Heap) (a : Addr) (o : Obj) : AO → Prop
  | .inst c dx _ => h.get? a = some (instO c dx) ∧ h.get? dx = some o
  | _ => h.get? a = some o
theorem PR.at {h h' : Heap} {a : Addr} {o : Obj} : ∀ {x : AO}, (∀ b ∈ footO a x, ∀ ob, h.get? b = some ob → h'.get? b = some ob) → PR h a o x → PR h' a o x
  | .list _, k, e => k a (by simp [footO]) _ e
  | .dict _, k, e => k a (by simp [footO]) _ e
  | .inst _ _ _, k, ⟨e, e'⟩ => ⟨k _ (by simp [footO]) _ e, k _ (by simp [footO]) _ e'⟩
theorem PR.lives {h : Heap} {a : Addr} {o : Obj} : ∀ {x : AO}, PR h a o x → ∀ b ∈ footO a x, ∃ ob, h.get? b = some ob
  | .list _, e, b, hb => by simp [footO] at hb; subst hb; exact ⟨_, e⟩
  | .dict _, e, b, hb => by simp [footO] at hb; subst hb; exact ⟨_, e⟩
  | .inst _ _ _, ⟨e, e'⟩, b, hb => by
    simp [footO] at hb
    rcases hb with rfl | rfl
    · exact ⟨_, e⟩
    · exact ⟨_, e'⟩

/-! ## the ground of a law -/
structure Cx where
  prog : Program
  w : World
  base : Heap
  s₀ : Shared
  mg : Str → Option Value
  mb : Str → Option Value
  hg : base.Ns mainGlobals mg
  hb : base.Ns builtinsNs mb
  lim : base.NoLimit

abbrev Cx.M (C : Cx) : Model := model C.prog C.w

structure RelC (C : Cx) (G D : Gh) (σ : Sto) (s : Shared) : Prop where
  same : ∃ h tk, s = { C.s₀ with heap := h, toks := tk }
  g : ∀ a o, G a = some o → s.heap.get? a = some o
  d : ∀ a o, D a = some o → s.heap.get? a = some o
  base : ∀ a o, C.base.get? a = some o → G a = some o
  nd : (foot σ).Nodup
  offG : ∀ a ∈ foot σ, G a = none
  offD : ∀ a ∈ foot σ, D a = none
  pl : ∀ p ∈ σ, PR s.heap p.1 p.2.1 p.2.2
  sto : ∀ p ∈ σ, HR C.w D p.2.1 p.2.2

structure DX (G D D' : Gh) : Prop where
  sub : Sub D D'
  off : ∀ a, D a = none → G a ≠ none → D' a = none
theorem DX.refl (G D : Gh) : DX G D D := ⟨Sub.refl D, fun _ h _ => h⟩
theorem DX.trans {G D D' D'' : Gh} (h : DX G D D') (h' : DX G D' D'') : DX G D D'' := ⟨h.sub.trans h'.sub, fun a e g => h'.off a (h.off a e g) g⟩
/-- what is off for more is off for less -/
theorem DX.less {G G' D D' : Gh} (h : DX G' D D') (hg : ∀ a, G a ≠ none → G' a ≠ none) : DX G D D' := ⟨h.sub, fun a e g => h.off a e (hg a g)⟩

structure AOk (A : Around) (d : Nat) : Prop where
  h : A.handled = none
  depth : A.depth + d < 1000
  units : A.units + 8 * d < 9000

theorem AOk.le {A : Around} {d d' : Nat} (h : AOk A d) (hd : d' ≤ d) : AOk A d' := ⟨h.h, by have := h.depth; omega, by have := h.units; omega⟩

/-- a call's contract level: any function of values -/
def PostC (C : Cx) (G D : Gh) (Q : V → Sto → Prop) (v : Value) (s' : Shared) : Prop :=
  ∃ x D' σ', DX G D D' ∧ VR C.w D' v x ∧ RelC C G D' σ' s' ∧ Q x σ'
def AC (C : Cx) (d : Nat) (f : List Value → Sem Value) (xs : List V) (σ : Sto) (Q : V → Sto → Prop) : Prop :=
  ∀ A G D s vs, AOk A d → RelC C G D σ s → VRs C.w D vs xs → wpAny C.M A (f vs) (PostC C G D Q) (fun _ _ => False) s
def CW (C : Cx) (d : Nat) (f : Value) (xs : List V) (σ : Sto) (Q : V → Sto → Prop) : Prop :=
  ∀ A G D s vs, AOk A d → RelC C G D σ s → VRs C.w D vs xs →
    codeAny C.M A (.call f ⟨vs, []⟩) (fun r s' => match r with | .ok (.ret v) => PostC C G D Q v s' | _ => False) s

/-! ## frames -/
def GlobR (C : Cx) (x : Str) (X : V) : Prop := ∃ v, VR C.w (fun _ => .none) v X ∧ (C.mg x = some v ∨ (C.mg x = .none ∧ C.mb x = some v))

structure FmOk (C : Cx) (env : Env) (vars : List Str) (gl : List (Str × V)) (own : Bool) : Prop where
  fn : env.scope.kind = .function
  nd : vars.Nodup
  vk : ∀ x ∈ vars, (x == ("__debug__" : Str)) = false ∧ (env.kindOf x = some .local ∨ (env.kindOf x = some .cell ∧ ∃ c, env.cells.lookup x = some c))
  ap : env.cells.Pairwise fun x y => x.2 ≠ y.2
  gk : ∀ p ∈ gl, (p.1 == ("__debug__" : Str)) = false ∧ env.kindOf p.1 = some .globalImplicit ∧ GlobR C p.1 p.2
  gg : env.globals = mainGlobals
  gb : env.builtins = builtinsNs

structure RelF (C : Cx) (env : Env) (vars : List Str) (gl : List (Str × V)) (own : Bool) (G D : Gh) (m : Loc) (σ : Sto) (s : Shared) : Prop extends RelC C G D σ s where
  ok : FmOk C env vars gl own
  offL : G env.locals = none ∧ D env.locals = none ∧ env.locals ∉ foot σ
  ns : ∃ mm, s.heap.Ns env.locals mm ∧ ∀ (i : Nat) x X, vars[i]? = some x → env.kindOf x = some .local → m[i]? = some (some X) → ∃ v, mm x = some v ∧ VR C.w D v X
  cl : ∀ (i : Nat) x c, vars[i]? = some x → env.kindOf x = some .cell → env.cells.lookup x = some c →
    c ≠ env.locals ∧ (∃ ov, s.heap.IsCell c ov ∧ ∀ X, m[i]? = some (some X) → ∃ v, ov = some v ∧ VR C.w D v X) ∧
    (if own then G c = none ∧ D c = none ∧ c ∉ foot σ else ∃ o, G c = some o)

/-- the frame's own things -/
def Held (env : Env) (vars : List Str) (a : Addr) : Prop := a = env.locals ∨ ∃ (i : Nat) (x : Str), vars[i]? = some x ∧ env.kindOf x = some .cell ∧ env.cells.lookup x = some a
open Classical in
/-- all that a call may not touch in a frame's state -/
noncomputable def lift (env : Env) (vars : List Str) (G : Gh) (s : Shared) : Gh := fun a => if Held env vars a then s.heap.get? a else G a

section
variable {C : Cx} {env : Env} {vars : List Str} {gl : List (Str × V)} {own : Bool} {G D D' : Gh} {m : Loc} {σ σ' : Sto} {s s' : Shared}

theorem lift_mine {a : Addr} (h : Held env vars a) : lift env vars G s a = s.heap.get? a := by unfold lift; rw [if_pos h]
theorem lift_not {a : Addr} (h : ¬ Held env vars a) : lift env vars G s a = G a := by unfold lift; rw [if_neg h]

theorem RelF.over (R : RelF C env vars gl own G D m σ s) {a : Addr} {o : Obj} (h : G a = some o) : lift env vars G s a = some o := by
  by_cases hm : Held env vars a
  · rw [lift_mine hm]; exact R.g a o h
  · rw [lift_not hm]; exact h

theorem RelF.mineFoot (R : RelF C env vars gl own G D m σ s) {a : Addr} (h : Held env vars a) : a ∉ foot σ := by
  rcases h with rfl | ⟨i, x, h1, h2, h3⟩
  · exact R.offL.2.2
  · have := (R.cl i x a h1 h2 h3).2.2
    cases own with
    | true => exact this.2.2
    | false =>
      obtain ⟨o, ho⟩ := this
      intro hf
      rw [R.offG a hf] at ho; cases ho
theorem RelF.mineLives (R : RelF C env vars gl own G D m σ s) {a : Addr} (h : Held env vars a) : ∃ o, s.heap.get? a = some o := by
  rcases h with rfl | ⟨i, x, h1, h2, h3⟩
  · obtain ⟨mm, ⟨o, _, _, ho, _⟩, _⟩ := R.ns; exact ⟨o, ho⟩
  · obtain ⟨_, ⟨ov, ⟨o, ho, _⟩, _⟩, _⟩ := R.cl i x a h1 h2 h3; exact ⟨o, ho⟩

theorem RelF.lifted (R : RelF C env vars gl own G D m σ s) : RelC C (lift env vars G s) D σ s where
  same := R.same
  g := fun a o h => by
    by_cases hm : Held env vars a
    · rw [lift_mine hm] at h; exact h
    · rw [lift_not hm] at h; exact R.g a o h
  d := R.d
  base := fun a o h => R.over (R.base a o h)
  nd := R.nd
  offG := fun a h => by
    by_cases hm : Held env vars a
    · exact absurd h (R.mineFoot hm)
    · rw [lift_not hm]; exact R.offG a h
  offD := R.offD
  pl := R.pl
  sto := R.sto

theorem RelF.dx (R : RelF C env vars gl own G D m σ s) (h : DX (lift env vars G s) D D') : DX G D D' :=
  h.less fun a g => by
    cases e : G a with
    | none => exact absurd e g
    | some o => rw [R.over e]; exact nofun

theorem RelF.mineD (R : RelF C env vars gl own G D m σ s) (h : DX (lift env vars G s) D D') {a : Addr} (hm : Held env vars a) (hd : D a = none) : D' a = none :=
  h.off a hd (by rw [lift_mine hm]; obtain ⟨o, ho⟩ := R.mineLives hm; rw [ho]; exact nofun)

theorem RelF.back (R : RelF C env vars gl own G D m σ s) (R' : RelC C (lift env vars G s) D' σ' s') (h : DX (lift env vars G s) D D') : RelF C env vars gl own G D' m σ' s' where
  same := R'.same
  g := fun a o e => R'.g a o (R.over e)
  d := R'.d
  base := R.base
  nd := R'.nd
  offG := fun a hf => by
    cases e : G a with
    | none => rfl
    | some o => have := R'.offG a hf; rw [R.over e] at this; cases this
  offD := R'.offD
  pl := R'.pl
  sto := R'.sto
  ok := R.ok
  offL := ⟨R.offL.1, R.mineD h (Or.inl rfl) R.offL.2.1, fun hf => by
    have := R'.offG _ hf
    rw [lift_mine (Or.inl rfl)] at this
    obtain ⟨o, ho⟩ := R.mineLives (Or.inl rfl)
    rw [ho] at this; cases this⟩
  ns := by
    obtain ⟨mm, ⟨o, es, ep, ho, r⟩, hv⟩ := R.ns
    refine ⟨mm, ⟨o, es, ep, R'.g _ _ (by rw [lift_mine (Or.inl rfl)]; exact ho), r⟩, fun i x X h1 h2 h3 => ?_⟩
    obtain ⟨v, e, q⟩ := hv i x X h1 h2 h3
    exact ⟨v, e, q.mono h.sub⟩
  cl := fun i x c h1 h2 h3 => by
    have hm : Held env vars c := Or.inr ⟨i, x, h1, h2, h3⟩
    obtain ⟨hne, ⟨ov, ⟨o, ho, hd⟩, hx⟩, hw⟩ := R.cl i x c h1 h2 h3
    refine ⟨hne, ⟨ov, ⟨o, R'.g _ _ (by rw [lift_mine hm]; exact ho), hd⟩, fun X e => ?_⟩, ?_⟩
    · obtain ⟨v, e1, q⟩ := hx X e
      exact ⟨v, e1, q.mono h.sub⟩
    · cases own with
      | true =>
        refine ⟨hw.1, R.mineD h hm hw.2.1, fun hf => ?_⟩
        have := R'.offG _ hf
        rw [lift_mine hm, ho] at this; cases this
      | false => exact hw
end

/-! ## trees in a frame -/
def PostE (C : Cx) (env : Env) (vars : List Str) (gl : List (Str × V)) (own : Bool) (G D : Gh) (m : Loc) (Q : V → Sto → Prop) (v : Value) (s' : Shared) : Prop :=
  ∃ x D' σ', DX G D D' ∧ VR C.w D' v x ∧ RelF C env vars gl own G D' m σ' s' ∧ Q x σ'

/-- a tree that gives a value, in a frame -/
def AT (C : Cx) (env : Env) (vars : List Str) (gl : List (Str × V)) (own : Bool) (d : Nat) (t : Sem Value) (m : Loc) (σ : Sto) (Q : V → Sto → Prop) : Prop :=
  ∀ A G D s, AOk A d → RelF C env vars gl own G D m σ s → wpAny C.M A t (PostE C env vars gl own G D m Q) (fun _ _ => False) s

section
variable {C : Cx} {env : Env} {vars : List Str} {gl : List (Str × V)} {own : Bool} {d : Nat} {m : Loc} {σ : Sto} {Q Q' : V → Sto → Prop}

theorem AT.mono {t : Sem Value} (h : AT C env vars gl own d t m σ Q) (hQ : ∀ x σ', Q x σ' → Q' x σ') : AT C env vars gl own d t m σ Q' :=
  fun A G D s hA R => wpAny_mono (h A G D s hA R) (fun _ _ ⟨x, D', σ', a, b, c, e⟩ => ⟨x, D', σ', a, b, c, hQ _ _ e⟩) fun _ _ e => e

/-- a function of values, in a frame -/
theorem AC.inFrame {f : List Value → Sem Value} {xs : List V} (h : AC C d f xs σ Q) {A : Around} {G D : Gh} {s : Shared} {vs : List Value} (hA : AOk A d) (R : RelF C env vars gl own G D m σ s) (hv : VRs C.w D vs xs) :
    wpAny C.M A (f vs) (PostE C env vars gl own G D m Q) (fun _ _ => False) s :=
  wpAny_mono (h A _ D s vs hA R.lifted hv) (fun _ _ ⟨x, D', σ', a, b, c, e⟩ => ⟨x, D', σ', R.dx a, b, R.back c a, e⟩) fun _ _ e => e
end

end Mine

set_option autoImplicit false
set_option linter.unusedVariables false
namespace Mine
open PySem

/-! ## locals, found by their place -/
inductive Lk : List Str → Loc → Str → V → Prop
  | head {x : Str} {ns : List Str} {X : V} {m : Loc} : Lk (x :: ns) (some X :: m) x X
  | tail {x y : Str} {ns : List Str} {X : V} {o : Option V} {m : Loc} : Lk ns m x X → Lk (y :: ns) (o :: m) x X
theorem Lk.get {ns : List Str} {m : Loc} {x : Str} {X : V} (h : Lk ns m x X) : ∃ i : Nat, ns[i]? = some x ∧ m[i]? = some (some X) := by
  induction h with
  | head => exact ⟨0, rfl, rfl⟩
  | tail _ ih => obtain ⟨i, a, b⟩ := ih; exact ⟨i + 1, by simpa using a, by simpa using b⟩
inductive Put : List Str → Loc → Str → V → Loc → Prop
  | head {x : Str} {ns : List Str} {X : V} {o : Option V} {m : Loc} : Put (x :: ns) (o :: m) x X (some X :: m)
  | tail {x y : Str} {ns : List Str} {X : V} {o : Option V} {m m' : Loc} : Put ns m x X m' → Put (y :: ns) (o :: m) x X (o :: m')
theorem Put.get {ns : List Str} {m m' : Loc} {x : Str} {X : V} (h : Put ns m x X m') : ∃ i : Nat, ns[i]? = some x ∧ m' = m.set i (some X) := by
  induction h with
  | head => exact ⟨0, rfl, rfl⟩
  | tail _ ih => obtain ⟨i, a, b⟩ := ih; exact ⟨i + 1, by simpa using a, by simp [b]⟩

section
variable {C : Cx} {env : Env} {vars : List Str} {gl : List (Str × V)} {own : Bool} {d : Nat} {m : Loc} {σ : Sto} {Q Q' : V → Sto → Prop}
variable {A : Around} {G D D₁ : Gh} {s : Shared}

theorem AT.run {t : Sem Value} (h : AT C env vars gl own d t m σ Q) (hA : AOk A d) (R : RelF C env vars gl own G D m σ s) {K : Value → Shared → Prop}
    (k : ∀ v s' x D' σ', DX G D D' → VR C.w D' v x → RelF C env vars gl own G D' m σ' s' → Q x σ' → K v s') : wpAny C.M A t K (fun _ _ => False) s :=
  wpAny_mono (h A G D s hA R) (fun v s' ⟨x, D', σ', a, b, c, e⟩ => k v s' x D' σ' a b c e) fun _ _ e => e

theorem PostE.weak {v : Value} {s' : Shared} (h : DX G D D₁) (p : PostE C env vars gl own G D₁ m Q v s') : PostE C env vars gl own G D m Q v s' :=
  let ⟨x, D', σ', a, b, c, e⟩ := p; ⟨x, D', σ', h.trans a, b, c, e⟩
theorem PostC.weak {v : Value} {s' : Shared} (h : DX G D D₁) (p : PostC C G D₁ Q v s') : PostC C G D Q v s' :=
  let ⟨x, D', σ', a, b, c, e⟩ := p; ⟨x, D', σ', h.trans a, b, c, e⟩
theorem wp_weak {t : Sem Value} (h : DX G D D₁) (p : wpAny C.M A t (PostE C env vars gl own G D₁ m Q) (fun _ _ => False) s) : wpAny C.M A t (PostE C env vars gl own G D m Q) (fun _ _ => False) s :=
  wpAny_mono p (fun _ _ q => q.weak h) fun _ _ e => e

theorem RelC.tok (R : RelC C G D σ s) (t : Nat) : RelC C G D σ { s with toks := t } :=
  ⟨let ⟨h, _, e⟩ := R.same; ⟨h, t, by rw [e]⟩, R.g, R.d, R.base, R.nd, R.offG, R.offD, R.pl, R.sto⟩
theorem RelF.tok (R : RelF C env vars gl own G D m σ s) (t : Nat) : RelF C env vars gl own G D m σ { s with toks := t } :=
  { R.toRelC.tok t with ok := R.ok, offL := R.offL, ns := R.ns, cl := R.cl }

theorem AT_here {t : Sem Value} (h : ∀ A G D s, AOk A d → RelF C env vars gl own G D m σ s → wpAny C.M A t (PostE C env vars gl own G D m Q) (fun _ _ => False) s) : AT C env vars gl own d t m σ Q := h

theorem PostE.now {v : Value} {x : V} (R : RelF C env vars gl own G D m σ s) (hv : VR C.w D v x) (q : Q x σ) : PostE C env vars gl own G D m Q v s := ⟨x, D, σ, DX.refl _ _, hv, R, q⟩
theorem PostC.now {v : Value} {x : V} (R : RelC C G D σ s) (hv : VR C.w D v x) (q : Q x σ) : PostC C G D Q v s := ⟨x, D, σ, DX.refl _ _, hv, R, q⟩

/-! ## names and constants -/
theorem AT_local {x : Str} {p : Pos} {X : V} (h : Lk vars m x X) (q : Q X σ) : AT C env vars gl own d (eval (.Name x p) env) m σ Q := fun A G D s hA R => by
  obtain ⟨i, h1, h2⟩ := h.get
  have hv := R.ok.vk x (List.mem_of_getElem? h1)
  rcases hv.2 with hl | ⟨hc, c, hcc⟩
  · obtain ⟨mm, hn, hmm⟩ := R.ns
    obtain ⟨v, e, r⟩ := hmm i x X h1 hl h2
    exact wpAny_Name (wpAny_loadName_local R.ok.fn hl hn e (PostE.now R r q)) hv.1
  · obtain ⟨_, ⟨ov, hcell, hx⟩, _⟩ := R.cl i x c h1 hc hcc
    obtain ⟨v, rfl, r⟩ := hx X h2
    exact wpAny_Name (wpAny_loadName_cell R.ok.fn hc hcc hcell (PostE.now R r q)) hv.1

theorem VR.any {w : World} {v : Value} {x : V} (h : VR w (fun _ => Option.none) v x) (D : Gh) : VR w D v x := h.mono fun _ _ e => by cases e

theorem AT_glob {x : Str} {p : Pos} {X : V} (h : (x, X) ∈ gl) (q : Q X σ) : AT C env vars gl own d (eval (.Name x p) env) m σ Q := fun A G D s hA R => by
  obtain ⟨h1, h2, v, hv, h3⟩ := R.ok.gk _ h
  have keep : ∀ b o, C.base.get? b = some o → s.heap.get? b = some o := fun b o e => R.g b o (R.base b o e)
  have ng : s.heap.Ns env.globals C.mg := by rw [R.ok.gg]; exact C.hg.keeps keep
  have nb : s.heap.Ns env.builtins C.mb := by rw [R.ok.gb]; exact C.hb.keeps keep
  have fin : PostE C env vars gl own G D m Q v s := PostE.now R (hv.any D) q
  refine Calls.Name_function_global R.ok.fn h2 ?_ h1
  rcases h3 with h3 | ⟨h3, h4⟩
  · exact Calls.loadGlobal_global ng h3 fin
  · exact Calls.loadGlobal_builtin ng h3 nb h4 fin

theorem AT_int {i : Int} {k : Nat} {p : Pos} (q : Q (.int i) σ) : AT C env vars gl own d (eval (.Constant (.int i) k p) env) m σ Q := fun A G D s hA R =>
  wpAny_Constant_int (PostE.now (R.tok _) (.int i _) q)
theorem AT_str {x : Str} {k : Nat} {p : Pos} (q : Q (.str x) σ) : AT C env vars gl own d (eval (.Constant (.str x) k p) env) m σ Q := fun A G D s hA R =>
  wpAny_Constant_str (PostE.now (R.tok _) (.str x _) q)
theorem AT_bool {b : Bool} {k : Nat} {p : Pos} (q : Q (.bool b) σ) : AT C env vars gl own d (eval (.Constant (.bool b) k p) env) m σ Q := fun A G D s hA R =>
  wpAny_Constant_bool (PostE.now R (.bool b) q)
theorem AT_none {k : Nat} {p : Pos} (q : Q .none σ) : AT C env vars gl own d (eval (.Constant .none k p) env) m σ Q := fun A G D s hA R =>
  wpAny_Constant_none (PostE.now R .none q)
end

/-! ## operations on values -/
def AC1 (C : Cx) (d : Nat) (f : Value → Sem Value) (x : V) (σ : Sto) (Q : V → Sto → Prop) : Prop :=
  ∀ A G D s v, AOk A d → RelC C G D σ s → VR C.w D v x → wpAny C.M A (f v) (PostC C G D Q) (fun _ _ => False) s
def AC2 (C : Cx) (d : Nat) (f : Value → Value → Sem Value) (x y : V) (σ : Sto) (Q : V → Sto → Prop) : Prop :=
  ∀ A G D s v u, AOk A d → RelC C G D σ s → VR C.w D v x → VR C.w D u y → wpAny C.M A (f v u) (PostC C G D Q) (fun _ _ => False) s
/-- a look: a truth, nothing changed but the tokens' count -/
def TR (C : Cx) (d : Nat) (x : V) (σ : Sto) (b : Bool) : Prop :=
  ∀ A G D s v, AOk A d → RelC C G D σ s → VR C.w D v x → ∀ (K : Bool → Shared → Prop), (∀ tk, K b { s with toks := tk }) → wpAny C.M A (truthy v) K (fun _ _ => False) s

section
variable {C : Cx} {env : Env} {vars : List Str} {gl : List (Str × V)} {own : Bool} {d : Nat} {m : Loc} {σ : Sto} {Q Q' : V → Sto → Prop}
variable {A : Around} {G D D₁ : Gh} {s : Shared}

theorem AC1.inF {f : Value → Sem Value} {x : V} (h : AC1 C d f x σ Q) {v : Value} (hA : AOk A d) (R : RelF C env vars gl own G D m σ s) (hv : VR C.w D v x) :
    wpAny C.M A (f v) (PostE C env vars gl own G D m Q) (fun _ _ => False) s :=
  wpAny_mono (h A _ D s v hA R.lifted hv) (fun _ _ ⟨x, D', σ', a, b, c, e⟩ => ⟨x, D', σ', R.dx a, b, R.back c a, e⟩) fun _ _ e => e
theorem AC2.inF {f : Value → Value → Sem Value} {x y : V} (h : AC2 C d f x y σ Q) {v u : Value} (hA : AOk A d) (R : RelF C env vars gl own G D m σ s) (hv : VR C.w D v x) (hu : VR C.w D u y) :
    wpAny C.M A (f v u) (PostE C env vars gl own G D m Q) (fun _ _ => False) s :=
  wpAny_mono (h A _ D s v u hA R.lifted hv hu) (fun _ _ ⟨x, D', σ', a, b, c, e⟩ => ⟨x, D', σ', R.dx a, b, R.back c a, e⟩) fun _ _ e => e

theorem AT_BinOp {l r : Expr} {op : Operator} {p : Pos} (h : AT C env vars gl own d (eval l env) m σ fun X σ₁ => AT C env vars gl own d (eval r env) m σ₁ fun Y σ₂ => AC2 C d (binaryOp op) X Y σ₂ Q) :
    AT C env vars gl own d (eval (.BinOp l op r p) env) m σ Q := fun A G D s hA R =>
  wpAny_BinOp (h.run hA R fun v s₁ X D₁ σ₁ a b c e => wpAny_mono (wpAny_mono (e A G D₁ s₁ hA c) (fun u s₂ ⟨Y, D₂, σ₂, a', b', c', e'⟩ => wp_weak (a.trans a') (e'.inF hA c' (b.mono a'.sub) b')) fun _ _ x => x) (fun _ _ x => x) fun _ _ x => x)

theorem AT_Cmp1 {l r : Expr} {op : CmpOp} {p : Pos} (h : AT C env vars gl own d (eval l env) m σ fun X σ₁ => AT C env vars gl own d (eval r env) m σ₁ fun Y σ₂ => AC2 C d (compareOp op) X Y σ₂ Q)
    (hm : behindInMarks op r = false := by with_unfolding_all rfl) :
    AT C env vars gl own d (eval (.Compare l [op] [r] p) env) m σ Q := fun A G D s hA R =>
  wpAny_Compare1 (h.run hA R fun v s₁ X D₁ σ₁ a b c e => wpAny_mono (e A G D₁ s₁ hA c) (fun u s₂ ⟨Y, D₂, σ₂, a', b', c', e'⟩ => wp_weak (a.trans a') (e'.inF hA c' (b.mono a'.sub) b')) fun _ _ x => x) hm

theorem AT_Unary {x : Expr} {op : UnaryOp} {p : Pos} (h : AT C env vars gl own d (eval x env) m σ fun X σ₁ => AC1 C d (unaryOp op) X σ₁ Q) : AT C env vars gl own d (eval (.UnaryOp op x p) env) m σ Q := fun A G D s hA R =>
  wpAny_UnaryOp (h.run hA R fun v s₁ X D₁ σ₁ a b c e => wp_weak a (e.inF hA c b))
theorem AC1_not {X : V} {b : Bool} (t : TR C d X σ b) (q : Q (.bool (!b)) σ) : AC1 C d (unaryOp .Not) X σ Q := fun A G D s v hA R hv =>
  not_value (t A G D s v hA R hv _ fun tk => PostC.now (R.tok tk) (.bool _) q)

/-! ## truths -/
def PostB (C : Cx) (env : Env) (vars : List Str) (gl : List (Str × V)) (own : Bool) (G D : Gh) (m : Loc) (Q : Bool → Sto → Prop) (b : Bool) (s' : Shared) : Prop :=
  ∃ D' σ', DX G D D' ∧ RelF C env vars gl own G D' m σ' s' ∧ Q b σ'
def AB (C : Cx) (env : Env) (vars : List Str) (gl : List (Str × V)) (own : Bool) (d : Nat) (t : Sem Bool) (m : Loc) (σ : Sto) (Q : Bool → Sto → Prop) : Prop :=
  ∀ A G D s, AOk A d → RelF C env vars gl own G D m σ s → wpAny C.M A t (PostB C env vars gl own G D m Q) (fun _ _ => False) s
variable {P : Bool → Sto → Prop}
theorem PostB.weak {b : Bool} {s' : Shared} (h : DX G D D₁) (p : PostB C env vars gl own G D₁ m P b s') : PostB C env vars gl own G D m P b s' :=
  let ⟨D', σ', a, c, e⟩ := p; ⟨D', σ', h.trans a, c, e⟩
theorem wpB_weak {t : Sem Bool} (h : DX G D D₁) (p : wpAny C.M A t (PostB C env vars gl own G D₁ m P) (fun _ _ => False) s) : wpAny C.M A t (PostB C env vars gl own G D m P) (fun _ _ => False) s :=
  wpAny_mono p (fun _ _ q => q.weak h) fun _ _ e => e
theorem AB.run {t : Sem Bool} (h : AB C env vars gl own d t m σ P) (hA : AOk A d) (R : RelF C env vars gl own G D m σ s) {K : Bool → Shared → Prop}
    (k : ∀ b s' D' σ', DX G D D' → RelF C env vars gl own G D' m σ' s' → P b σ' → K b s') : wpAny C.M A t K (fun _ _ => False) s :=
  wpAny_mono (h A G D s hA R) (fun v s' ⟨D', σ', a, c, e⟩ => k v s' D' σ' a c e) fun _ _ e => e
theorem TR.inF {x : V} {b : Bool} (t : TR C d x σ b) {v : Value} (hA : AOk A d) (R : RelF C env vars gl own G D m σ s) (hv : VR C.w D v x) {K : Bool → Shared → Prop} (k : ∀ tk, K b { s with toks := tk }) :
    wpAny C.M A (truthy v) K (fun _ _ => False) s := t A _ D s v hA R.lifted hv K k

/-- the truth of a value -/
def TRX (C : Cx) (d : Nat) (x : V) (σ : Sto) (P : Bool → Sto → Prop) : Prop := ∃ b, TR C d x σ b ∧ P b σ
theorem AB_val {e : Expr} (h : AT C env vars gl own d (eval e env) m σ fun X σ₁ => TRX C d X σ₁ P)
    (he : ∀ whole, isTrue e env whole = (do let v ← whole; standAt e.pos; holding [v] (truthy v)) := by intro; with_unfolding_all exact rfl) : AB C env vars gl own d (isTrue e env (eval e env)) m σ P := fun A G D s hA R =>
  wpAny_isTrue_value (h.run hA R fun v s₁ X D₁ σ₁ a b c ⟨t, ht, hp⟩ => ht.inF hA c b fun tk => ⟨D₁, σ₁, a, c.tok tk, hp⟩) (he _)
theorem AB_Not {x : Expr} {p : Pos} {whole : Sem Value} (h : AB C env vars gl own d (isTrue x env (eval x env)) m σ fun b σ₁ => P (!b) σ₁) : AB C env vars gl own d (isTrue (.UnaryOp .Not x p) env whole) m σ P := fun A G D s hA R =>
  wpAny_isTrue_Not (h.run hA R fun b s₁ D₁ σ₁ a c e => ⟨D₁, σ₁, a, c, e⟩)
theorem AB_Cmp1 {l r : Expr} {op : CmpOp} {p : Pos} {whole : Sem Value} (h : AT C env vars gl own d (eval l env) m σ fun X σ₁ => AT C env vars gl own d (eval r env) m σ₁ fun Y σ₂ => AC2 C d (compareOp op) X Y σ₂ fun Z σ₃ => TRX C d Z σ₃ P)
    (hm : behindInMarks op r = false := by with_unfolding_all rfl) : AB C env vars gl own d (isTrue (.Compare l [op] [r] p) env whole) m σ P := fun A G D s hA R =>
  wpAny_isTrue_Compare1 (h.run hA R fun v s₁ X D₁ σ₁ a b c e => wpAny_mono (e A G D₁ s₁ hA c) (fun u s₂ ⟨Y, D₂, σ₂, a', b', c', e'⟩ =>
    wpAny_mono (e'.inF hA c' (b.mono a'.sub) b') (fun z s₃ ⟨Z, D₃, σ₃, a'', b'', c'', t, ht, hp⟩ => ht.inF hA c'' b'' fun tk => ⟨D₃, σ₃, (a.trans a').trans a'', c''.tok tk, hp⟩) fun _ _ x => x) fun _ _ x => x) hm
theorem AB_BoolOp {op : BoolOp} {vs : List Expr} {p : Pos} {whole : Sem Value} (h : AB C env vars gl own d (allTrue op vs env) m σ P) : AB C env vars gl own d (isTrue (.BoolOp op vs p) env whole) m σ P := fun A G D s hA R =>
  wpAny_isTrue_BoolOp (h A G D s hA R)
theorem AB_andNil (q : P true σ) : AB C env vars gl own d (allTrue .And [] env) m σ P := fun A G D s hA R => wpAny_allTrue_And_nil ⟨D, σ, DX.refl _ _, R, q⟩
theorem AB_orNil (q : P false σ) : AB C env vars gl own d (allTrue .Or [] env) m σ P := fun A G D s hA R => wpAny_allTrue_Or_nil ⟨D, σ, DX.refl _ _, R, q⟩
theorem AB_and {x : Expr} {rest : List Expr} (h : AB C env vars gl own d (isTrue x env (eval x env)) m σ fun b σ₁ => (b = true → AB C env vars gl own d (allTrue .And rest env) m σ₁ P) ∧ (b = false → P false σ₁)) :
    AB C env vars gl own d (allTrue .And (x :: rest) env) m σ P := fun A G D s hA R =>
  wpAny_allTrue_And_cons (h.run hA R fun b s₁ D₁ σ₁ a c e => by
    cases b with
    | true => exact wpB_weak a (e.1 rfl A G D₁ s₁ hA c)
    | false => exact ⟨D₁, σ₁, a, c, e.2 rfl⟩)
theorem AB_or {x : Expr} {rest : List Expr} (h : AB C env vars gl own d (isTrue x env (eval x env)) m σ fun b σ₁ => (b = true → P true σ₁) ∧ (b = false → AB C env vars gl own d (allTrue .Or rest env) m σ₁ P)) :
    AB C env vars gl own d (allTrue .Or (x :: rest) env) m σ P := fun A G D s hA R =>
  wpAny_allTrue_Or_cons (h.run hA R fun b s₁ D₁ σ₁ a c e => by
    cases b with
    | false => exact wpB_weak a (e.2 rfl A G D₁ s₁ hA c)
    | true => exact ⟨D₁, σ₁, a, c, e.1 rfl⟩)
theorem AT_IfExp {t b o : Expr} {p : Pos} (h : AB C env vars gl own d (isTrue t env (eval t env)) m σ fun c σ₁ => (c = true → AT C env vars gl own d (eval b env) m σ₁ Q) ∧ (c = false → AT C env vars gl own d (eval o env) m σ₁ Q)) :
    AT C env vars gl own d (eval (.IfExp t b o p) env) m σ Q := fun A G D s hA R =>
  wpAny_IfExp (h.run hA R fun b s₁ D₁ σ₁ a c e => by
    cases b with
    | true => exact wp_weak a (e.1 rfl A G D₁ s₁ hA c)
    | false => exact wp_weak a (e.2 rfl A G D₁ s₁ hA c))

/-! boolean operators as values -/
theorem AT_and1 {x : Sem Value} {p : Pos} (h : AT C env vars gl own d x m σ Q) : AT C env vars gl own d (boolOp p .And [x]) m σ Q := h
theorem AT_or1 {x : Sem Value} {p : Pos} (h : AT C env vars gl own d x m σ Q) : AT C env vars gl own d (boolOp p .Or [x]) m σ Q := h
theorem AT_and {x y : Sem Value} {r : List (Sem Value)} {p : Pos} (h : AT C env vars gl own d x m σ fun X σ₁ => ∃ b, TR C d X σ₁ b ∧ (b = true → AT C env vars gl own d (boolOp p .And (y :: r)) m σ₁ Q) ∧ (b = false → Q X σ₁)) :
    AT C env vars gl own d (boolOp p .And (x :: y :: r)) m σ Q := fun A G D s hA R => by
  show wpAny C.M A (do
    let v ← x
    standAt p
    let t ← holding [v] (truthy v)
    match BoolOp.And, t with
    | .And, false | .Or, true => pure v
    | _, _ => boolOp p .And (y :: r)) _ _ s
  refine wpAny_bind (h.run hA R fun v s₁ X D₁ σ₁ a b c ⟨t, ht, h1, h2⟩ => wpAny_bind (wpAny_standAt (wpAny_bind (wpAny_holding (ht.inF hA c b fun tk => ?_)))))
  cases t with
  | false => exact wpAny_pure ⟨X, D₁, σ₁, a, b, c.tok tk, h2 rfl⟩
  | true => exact wp_weak a (h1 rfl A G D₁ _ hA (c.tok tk))
theorem AT_or {x y : Sem Value} {r : List (Sem Value)} {p : Pos} (h : AT C env vars gl own d x m σ fun X σ₁ => ∃ b, TR C d X σ₁ b ∧ (b = true → Q X σ₁) ∧ (b = false → AT C env vars gl own d (boolOp p .Or (y :: r)) m σ₁ Q)) :
    AT C env vars gl own d (boolOp p .Or (x :: y :: r)) m σ Q := fun A G D s hA R => by
  show wpAny C.M A (do
    let v ← x
    standAt p
    let t ← holding [v] (truthy v)
    match BoolOp.Or, t with
    | .And, false | .Or, true => pure v
    | _, _ => boolOp p .Or (y :: r)) _ _ s
  refine wpAny_bind (h.run hA R fun v s₁ X D₁ σ₁ a b c ⟨t, ht, h1, h2⟩ => wpAny_bind (wpAny_standAt (wpAny_bind (wpAny_holding (ht.inF hA c b fun tk => ?_)))))
  cases t with
  | true => exact wpAny_pure ⟨X, D₁, σ₁, a, b, c.tok tk, h1 rfl⟩
  | false => exact wp_weak a (h2 rfl A G D₁ _ hA (c.tok tk))
theorem AT_BoolOp {op : BoolOp} {vs : List Expr} {p : Pos} (h : AT C env vars gl own d (boolOp p op (evalEach vs env)) m σ Q) : AT C env vars gl own d (eval (.BoolOp op vs p) env) m σ Q := fun A G D s hA R => by
  rw [show eval (.BoolOp op vs p) env = boolOp p op (evalEach vs env) from by rw [eval]]
  exact h A G D s hA R
end
end Mine

set_option autoImplicit false
set_option linter.unusedVariables false
namespace Mine
open PySem

section
variable {C : Cx} {env : Env} {vars : List Str} {gl : List (Str × V)} {own : Bool} {d : Nat} {m : Loc} {σ σ' : Sto}
variable {A : Around} {G D D₁ : Gh} {s : Shared}

theorem RelC.footLives (R : RelC C G D σ s) {a : Addr} (h : a ∈ foot σ) : ∃ o, s.heap.get? a = some o := by
  have key : ∀ (τ : Sto), (∀ p ∈ τ, PR s.heap p.1 p.2.1 p.2.2) → a ∈ foot τ → ∃ o, s.heap.get? a = some o := by
    intro τ
    induction τ with
    | nil => intro _ h; simp [foot] at h
    | cons p r ih =>
      obtain ⟨b, o, x⟩ := p
      intro hp h
      rcases List.mem_append.mp h with h | h
      · exact (hp _ (.head _)).lives a h
      · exact ih (fun q hq => hp q (.tail _ hq)) h
  exact key σ R.pl h
theorem RelC.footLt (R : RelC C G D σ s) {a : Addr} (h : a ∈ foot σ) : a < s.heap.objs.size := let ⟨_, e⟩ := R.footLives h; Heap.lt_size e
theorem RelC.new_notFoot (R : RelC C G D σ s) : s.heap.objs.size ∉ foot σ := fun h => Nat.lt_irrefl _ (R.footLt h)
theorem RelC.new_G (R : RelC C G D σ s) : G s.heap.objs.size = none := by
  cases e : G s.heap.objs.size with
  | none => rfl
  | some o => exact absurd (Heap.lt_size (R.g _ _ e)) (Nat.lt_irrefl _)
theorem RelC.new_D (R : RelC C G D σ s) : D s.heap.objs.size = none := by
  cases e : D s.heap.objs.size with
  | none => rfl
  | some o => exact absurd (Heap.lt_size (R.d _ _ e)) (Nat.lt_irrefl _)

/-- any step that leaves alone what is known -/
theorem RelC.keep (R : RelC C G D σ s) {h' : Heap} (t : Nat) (k : ∀ b o, s.heap.get? b = some o → h'.get? b = some o) : RelC C G D σ { s with heap := h', toks := t } where
  same := let ⟨h, _, e⟩ := R.same; ⟨h', t, by rw [e]⟩
  g := fun a o e => k _ _ (R.g a o e)
  d := fun a o e => k _ _ (R.d a o e)
  base := R.base
  nd := R.nd
  offG := R.offG
  offD := R.offD
  pl := fun p hp => (R.pl p hp).at fun b _ ob e => k _ _ e
  sto := R.sto
/-- a step that changes one thing that nobody knows -/
theorem RelC.keepBut (R : RelC C G D σ s) {h' : Heap} (t : Nat) (wr : List Addr) (hw : ∀ a ∈ wr, G a = none ∧ D a = none ∧ a ∉ foot σ) (k : ∀ b o, b ∉ wr → s.heap.get? b = some o → h'.get? b = some o) :
    RelC C G D σ { s with heap := h', toks := t } where
  same := let ⟨h, _, e⟩ := R.same; ⟨h', t, by rw [e]⟩
  g := fun a o e => k _ _ (fun m => by rw [(hw a m).1] at e; cases e) (R.g a o e)
  d := fun a o e => k _ _ (fun m => by rw [(hw a m).2.1] at e; cases e) (R.d a o e)
  base := R.base
  nd := R.nd
  offG := R.offG
  offD := R.offD
  pl := fun p hp => (R.pl p hp).at fun b hb ob e => k _ _ (fun m => (hw b m).2.2 (mem_foot (ob := p.2.1) hp b hb)) e
  sto := R.sto
theorem RelC.push (R : RelC C G D σ s) (o : Obj) : RelC C G D σ { s with heap := s.heap.push o } := by
  have := R.keep (h' := s.heap.push o) s.toks fun b x e => Heap.get?_push_of_some _ e
  exact this

def putD (D : Gh) (a : Addr) (o : Obj) : Gh := fun b => if b = a then some o else D b
theorem putD_self (D : Gh) (a : Addr) (o : Obj) : putD D a o a = some o := by simp [putD]
theorem putD_ne {D : Gh} {a b : Addr} (o : Obj) (h : b ≠ a) : putD D a o b = D b := by simp [putD, h]
theorem putD_sub {D : Gh} {a : Addr} (o : Obj) (h : D a = none) : Sub D (putD D a o) := fun b x e => by
  rw [putD_ne]; exact e
  rintro rfl; rw [h] at e; cases e

theorem RelC.newF (R : RelC C G D σ s) (o : Obj) (hf : o.isFreed = false := by rfl) : RelC C G (putD D s.heap.objs.size o) σ { s with heap := s.heap.push o } ∧ DX G D (putD D s.heap.objs.size o) := by
  have R' := R.push o
  refine ⟨⟨R'.same, R'.g, fun a x e => ?_, R'.base, R'.nd, R'.offG, fun a ha => ?_, R'.pl, fun p hp => (R'.sto p hp).mono (putD_sub o R.new_D)⟩, putD_sub o R.new_D, fun a e g => ?_⟩
  · by_cases h : a = s.heap.objs.size
    · subst h; rw [putD_self] at e; cases e; exact Heap.get?_push_size _ hf
    · rw [putD_ne o h] at e; exact R'.d a x e
  · rw [putD_ne]; exact R.offD a ha
    rintro rfl; exact R.new_notFoot ha
  · rw [putD_ne]; exact e
    rintro rfl; exact g R.new_G

theorem RelC.newM (R : RelC C G D σ s) (o : Obj) (x : AO) (hr : HR C.w D o x) (hx : footO s.heap.objs.size x = [s.heap.objs.size]) (hp : ∀ h a, PR h a o x = (h.get? a = some o)) (hf : o.isFreed = false := by rfl) :
    RelC C G D ((s.heap.objs.size, o, x) :: σ) { s with heap := s.heap.push o } := by
  have R' := R.push o
  refine ⟨R'.same, R'.g, R'.d, R'.base, ?_, fun a ha => ?_, fun a ha => ?_, fun p hp' => ?_, fun p hp' => ?_⟩
  · show (footO _ _ ++ foot σ).Nodup
    rw [hx]
    exact List.nodup_cons.mpr ⟨R.new_notFoot, R.nd⟩
  · have : a ∈ footO s.heap.objs.size x ++ foot σ := ha
    rw [hx] at this
    rcases List.mem_cons.mp this with rfl | h
    · exact R.new_G
    · exact R.offG a h
  · have : a ∈ footO s.heap.objs.size x ++ foot σ := ha
    rw [hx] at this
    rcases List.mem_cons.mp this with rfl | h
    · exact R.new_D
    · exact R.offD a h
  · rcases List.mem_cons.mp hp' with rfl | h
    · show PR _ _ _ _
      rw [hp]; exact Heap.get?_push_size _ hf
    · exact R'.pl p h
  · rcases List.mem_cons.mp hp' with rfl | h
    · exact hr
    · exact R'.sto p h

/-! changing one thing of the store -/
inductive Upd (a : Addr) (o : Obj) (x : AO) (o' : Obj) (x' : AO) : Sto → Sto → Prop
  | head {r : Sto} : Upd a o x o' x' ((a, o, x) :: r) ((a, o', x') :: r)
  | tail {p : Addr × Obj × AO} {r r' : Sto} : Upd a o x o' x' r r' → Upd a o x o' x' (p :: r) (p :: r')
theorem foot_append (σ τ : Sto) : foot (σ ++ τ) = foot σ ++ foot τ := by
  induction σ with
  | nil => rfl
  | cons p r ih => obtain ⟨a, o, x⟩ := p; show footO a x ++ foot (r ++ τ) = footO a x ++ foot r ++ foot τ; rw [ih, List.append_assoc]
theorem Upd.app {a : Addr} {o o' : Obj} {x x' : AO} {r r' : Sto} (τ : Sto) (h : Upd a o x o' x' r r') : Upd a o x o' x' (τ ++ r) (τ ++ r') := by
  induction τ with
  | nil => exact h
  | cons p t ih => exact .tail ih
theorem Upd.split {a : Addr} {o o' : Obj} {x x' : AO} {r r' : Sto} (h : Upd a o x o' x' r r') : ∃ u v, r = u ++ (a, o, x) :: v ∧ r' = u ++ (a, o', x') :: v := by
  induction h with
  | head => exact ⟨[], _, rfl, rfl⟩
  | tail _ ih => obtain ⟨u, v, rfl, rfl⟩ := ih; exact ⟨_ :: u, v, rfl, rfl⟩
theorem Upd.mem {a : Addr} {o o' : Obj} {x x' : AO} {r r' : Sto} (h : Upd a o x o' x' r r') : (a, o, x) ∈ r := by
  obtain ⟨u, v, rfl, rfl⟩ := h.split; simp
theorem Upd.of_mem {a : Addr} {o : Obj} {x : AO} {r : Sto} (h : (a, o, x) ∈ r) (o' : Obj) (x' : AO) : ∃ r', Upd a o x o' x' r r' := by
  obtain ⟨u, v, rfl⟩ := List.append_of_mem h
  exact ⟨_, Upd.app u .head⟩

theorem RelC.upd (R : RelC C G D σ s) {a b : Addr} {o o' : Obj} {x x' : AO} (U : Upd a o x o' x' σ σ') {h' : Heap} (t : Nat) (hb : b ∈ footO a x) (hs : Heap.SameBut b s.heap h') (hx : footO a x' = footO a x)
    (hp : PR h' a o' x') (hr : HR C.w D o' x') : RelC C G D σ' { s with heap := h', toks := t } := by
  obtain ⟨u, v, rfl, rfl⟩ := U.split
  have hmem : (a, o, x) ∈ u ++ (a, o, x) :: v := by simp
  have hbf : b ∈ foot (u ++ (a, o, x) :: v) := mem_foot hmem b hb
  have ft : foot (u ++ (a, o', x') :: v) = foot (u ++ (a, o, x) :: v) := by rw [foot_append, foot_append]; show foot u ++ (footO a x' ++ foot v) = foot u ++ (footO a x ++ foot v); rw [hx]
  have nd := R.nd
  rw [foot_append] at nd
  have nd' : (foot u ++ (footO a x ++ foot v)).Nodup := nd
  have off : ∀ q, q ∈ u ∨ q ∈ v → b ∉ footO q.1 q.2.2 := by
    intro q hq hbq
    have h1 := List.nodup_append.mp nd'
    rcases hq with hq | hq
    · exact h1.2.2 b (mem_foot (a := q.1) (ob := q.2.1) (o := q.2.2) hq b hbq) b (List.mem_append_left _ hb) rfl
    · exact (List.nodup_append.mp h1.2.1).2.2 b hb b (mem_foot (a := q.1) (ob := q.2.1) (o := q.2.2) hq b hbq) rfl
  refine ⟨let ⟨h, _, e⟩ := R.same; ⟨h', t, by rw [e]⟩, fun c oc e => ?_, fun c oc e => ?_, R.base, by rw [ft]; exact R.nd, fun c hc => R.offG c (by rw [ft] at hc; exact hc), fun c hc => R.offD c (by rw [ft] at hc; exact hc), fun q hq => ?_, fun q hq => ?_⟩
  · exact hs.extBut c oc (by rintro rfl; rw [R.offG _ hbf] at e; cases e) (R.g c oc e)
  · exact hs.extBut c oc (by rintro rfl; rw [R.offD _ hbf] at e; cases e) (R.d c oc e)
  · have keep : (q ∈ u ∨ q ∈ v) → PR h' q.1 q.2.1 q.2.2 := fun hq' => (R.pl q (by rcases hq' with h | h <;> simp [h])).at fun c hc ob e => hs.extBut c ob (by rintro rfl; exact off q hq' hc) e
    rcases List.mem_append.mp hq with h | h
    · exact keep (.inl h)
    · rcases List.mem_cons.mp h with rfl | h
      · exact hp
      · exact keep (.inr h)
  · rcases List.mem_append.mp hq with h | h
    · exact R.sto q (by simp [h])
    · rcases List.mem_cons.mp h with rfl | h
      · exact hr
      · exact R.sto q (by simp [h])

/-- forgetting a part of the store -/
theorem RelC.drop (R : RelC C G D σ s) {τ : Sto} (hs : τ.Sublist σ) : RelC C G D τ s := by
  have fs : (foot τ).Sublist (foot σ) := by
    have key : ∀ {a b : Sto}, a.Sublist b → (foot a).Sublist (foot b) := by
      intro a b h
      induction h with
      | slnil => exact .slnil
      | cons p _ ih => obtain ⟨c, o, x⟩ := p; exact ih.trans (List.sublist_append_right _ _)
      | cons_cons p _ ih => obtain ⟨c, o, x⟩ := p; exact List.Sublist.append (List.Sublist.refl _) ih
    exact key hs
  exact ⟨R.same, R.g, R.d, R.base, fs.nodup R.nd, fun a h => R.offG a (fs.subset h), fun a h => R.offD a (fs.subset h), fun p h => R.pl p (hs.subset h), fun p h => R.sto p (hs.subset h)⟩

/-- freezing a list that nobody will change -/
theorem RelC.freezeL (R : RelC C G D σ s) {a : Addr} {o : Obj} {xs : List V} {u v : Sto} (e : σ = u ++ (a, o, .list xs) :: v) :
    RelC C G (putD D a o) (u ++ v) s ∧ DX G D (putD D a o) ∧ VR C.w (putD D a o) (.ref a) (.lst xs) := by
  have hmem : (a, o, AO.list xs) ∈ σ := by rw [e]; simp
  have haf : a ∈ foot σ := self_foot hmem
  have hD := R.offD a haf
  have hsub := putD_sub o hD
  have R' := R.drop (τ := u ++ v) (by rw [e]; exact List.Sublist.append (List.Sublist.refl _) (List.sublist_cons_self _ _))
  have hno : a ∉ foot (u ++ v) := by
    have nd := R.nd
    rw [e, foot_append] at nd
    have nd' : (foot u ++ (a :: foot v)).Nodup := nd
    rw [foot_append]
    intro h
    have h1 := List.nodup_append.mp nd'
    rcases List.mem_append.mp h with h | h
    · exact h1.2.2 a h a (.head _) rfl
    · exact (List.nodup_cons.mp h1.2.1).1 h
  have hpl : s.heap.get? a = some o := R.pl _ hmem
  obtain ⟨vs, n, ho, hr⟩ := R.sto _ hmem
  refine ⟨⟨R'.same, R'.g, fun b x eb => ?_, R'.base, R'.nd, R'.offG, fun b hb => ?_, R'.pl, fun p hp => (R'.sto p hp).mono hsub⟩, ⟨hsub, fun b eb g => ?_⟩, ?_⟩
  · by_cases h : b = a
    · subst h; rw [putD_self] at eb; cases eb; exact hpl
    · rw [putD_ne o h] at eb; exact R'.d b x eb
  · rw [putD_ne]; exact R'.offD b hb
    rintro rfl; exact hno hb
  · rw [putD_ne]; exact eb
    rintro rfl; exact g (R.offG _ haf)
  · have ho' : o = lstO vs n := ho
    refine VR.lst (vs := vs.toList) (n := n) ?_ (hr.mono hsub)
    rw [putD_self, ho']
end
end Mine

set_option autoImplicit false
set_option linter.unusedVariables false
namespace Mine
open PySem

section
variable {C : Cx} {env : Env} {vars : List Str} {gl : List (Str × V)} {own : Bool} {d : Nat} {m m' : Loc} {σ σ' : Sto}
variable {A : Around} {G D D₁ : Gh} {s : Shared}

/-! ## storing a name -/
theorem set_get {m : Loc} {i j : Nat} {X Y : V} (h : (m.set i (some X))[j]? = some (some Y)) : (j = i ∧ Y = X) ∨ (j ≠ i ∧ m[j]? = some (some Y)) := by
  rw [List.getElem?_set] at h
  by_cases e : i = j
  · subst e
    rw [if_pos rfl] at h
    split at h
    · simp at h; exact .inl ⟨rfl, h.symm⟩
    · cases h
  · rw [if_neg e] at h; exact .inr ⟨fun q => e q.symm, h⟩
theorem nodup_idx {l : List Str} (hn : l.Nodup) {i j : Nat} {x : Str} (h1 : l[i]? = some x) (h2 : l[j]? = some x) : i = j := by
  have hi := (List.getElem?_eq_some_iff.mp h1)
  have hj := (List.getElem?_eq_some_iff.mp h2)
  exact (List.getElem_inj (h₀ := hi.1) (h₁ := hj.1) hn).mp (hi.2.trans hj.2.symm)

theorem RelF.store (R : RelF C env vars gl own G D m σ s) {x : Str} {X : V} {v : Value} (hP : Put vars m x X m') (hv : VR C.w D v X) (hk : own = true ∨ env.kindOf x = some .local) {K : Unit → Shared → Prop}
    (k : ∀ s', RelF C env vars gl own G D m' σ s' → K () s') : wpAny C.M A (storeName env x v) K (fun _ _ => False) s := by
  obtain ⟨i, h1, rfl⟩ := hP.get
  rcases (R.ok.vk x (List.mem_of_getElem? h1)).2 with hl | ⟨hc, c, hcc⟩
  · obtain ⟨mm, hn, hmm⟩ := R.ns
    refine wpAny_storeName_local hl hn (fun h' hn' hs' => k _ ?_) (by rw [R.ok.fn]; rfl)
    have RC : RelC C G D σ { s with heap := h', toks := s.toks + 1 } := R.toRelC.keepBut _ [env.locals] (by intro a ha; simp at ha; subst ha; exact R.offL) fun b o hb e => hs'.extBut b o (by simpa using hb) e
    refine { RC with ok := R.ok, offL := R.offL, ns := ⟨_, hn', fun j y Y e1 e2 e3 => ?_⟩, cl := fun j y c e1 e2 e3 => ?_ }
    · rcases set_get e3 with ⟨rfl, rfl⟩ | ⟨hne, e3⟩
      · rw [h1] at e1; cases e1; exact ⟨v, by simp, hv⟩
      · have : y ≠ x := by rintro rfl; exact hne (nodup_idx R.ok.nd e1 h1)
        simp only [this, if_false]
        exact hmm j y Y e1 e2 e3
    · obtain ⟨q1, ⟨ov, q2, q3⟩, q4⟩ := R.cl j y c e1 e2 e3
      refine ⟨q1, ⟨ov, q2.sameBut hs' q1, fun Y e => ?_⟩, q4⟩
      rcases set_get e with ⟨rfl, rfl⟩ | ⟨hne, e⟩
      · rw [h1] at e1; cases e1; rw [hl] at e2; cases e2
      · exact q3 Y e
  · have hown : own = true := hk.resolve_right (by rw [hc]; intro e; cases e)
    subst hown
    obtain ⟨q1, ⟨ov, q2, q3⟩, q4⟩ := R.cl i x c h1 hc hcc
    refine wpAny_storeName_cell R.ok.fn hc hcc q2 fun h' hc' hs' => k _ ?_
    have RC : RelC C G D σ { s with heap := h' } := by
      have := R.toRelC.keepBut (h' := h') s.toks [c] (by intro a ha; simp at ha; subst ha; exact q4) fun b o hb e => hs'.extBut b o (by simpa using hb) e
      exact this
    obtain ⟨mm, hn, hmm⟩ := R.ns
    refine { RC with ok := R.ok, offL := R.offL, ns := ⟨mm, hn.sameBut hs' (Ne.symm q1), fun j y Y e1 e2 e3 => ?_⟩, cl := fun j y c₂ e1 e2 e3 => ?_ }
    · rcases set_get e3 with ⟨rfl, rfl⟩ | ⟨hne, e3⟩
      · rw [h1] at e1; cases e1; rw [hc] at e2; cases e2
      · exact hmm j y Y e1 e2 e3
    · obtain ⟨p1, ⟨ov', p2, p3⟩, p4⟩ := R.cl j y c₂ e1 e2 e3
      by_cases hy : y = x
      · subst hy
        rw [hcc] at e3; cases e3
        refine ⟨p1, ⟨_, hc', fun Y e => ?_⟩, p4⟩
        rcases set_get e with ⟨rfl, rfl⟩ | ⟨hne, e⟩
        · exact ⟨v, rfl, hv⟩
        · exact absurd (nodup_idx R.ok.nd e1 h1) hne
      · have hcne : c₂ ≠ c := fun e => hy (name_of_addr R.ok.ap (mem_of_lookup e3) (e ▸ mem_of_lookup hcc))
        refine ⟨p1, ⟨ov', p2.sameBut hs' hcne, fun Y e => ?_⟩, p4⟩
        rcases set_get e with ⟨rfl, rfl⟩ | ⟨hne, e⟩
        · rw [h1] at e1; cases e1; exact absurd rfl hy
        · exact p3 Y e

/-! ## assignments: a value to a target -/
def PostU (C : Cx) (env : Env) (vars : List Str) (gl : List (Str × V)) (own : Bool) (G D : Gh) (K : Loc → Sto → Prop) (_ : Unit) (s' : Shared) : Prop :=
  ∃ m' D' σ', DX G D D' ∧ RelF C env vars gl own G D' m' σ' s' ∧ K m' σ'
def AA (C : Cx) (env : Env) (vars : List Str) (gl : List (Str × V)) (own : Bool) (d : Nat) (t : Value → Sem Unit) (x : V) (m : Loc) (σ : Sto) (K : Loc → Sto → Prop) : Prop :=
  ∀ A G D s v, AOk A d → RelF C env vars gl own G D m σ s → VR C.w D v x → wpAny C.M A (t v) (PostU C env vars gl own G D K) (fun _ _ => False) s
variable {K : Loc → Sto → Prop}
theorem PostU.weak {u : Unit} {s' : Shared} (h : DX G D D₁) (p : PostU C env vars gl own G D₁ K u s') : PostU C env vars gl own G D K u s' :=
  let ⟨m', D', σ', a, c, e⟩ := p; ⟨m', D', σ', h.trans a, c, e⟩
theorem AA_Name {x : Str} {p : Pos} {X : V} (hP : Put vars m x X m') (k : K m' σ) (hk : own = true ∨ env.kindOf x = some .local := by exact .inl rfl) : AA C env vars gl own d (assign (.Name x p) env) X m σ K := fun A G D s v hA R hv => by
  show wpAny C.M A (do standAt p; bindName env x v) _ _ s
  exact wpAny_bind (wpAny_standAt (wpAny_bindName (R.store hP hv hk fun s' R' => ⟨m', D, σ, DX.refl _ _, R', k⟩)))

/-! ## statements -/
inductive Fl where
  | next
  | brk
  | cont
  | ret (x : V)
def FlR (w : World) (D : Gh) : Flow → Fl → Prop
  | .next, .next => True
  | .brk, .brk => True
  | .cont, .cont => True
  | .ret v, .ret x => VR w D v x
  | _, _ => False
theorem FlR.mono {w : World} {D D' : Gh} (h : Sub D D') : ∀ {f : Flow} {x : Fl}, FlR w D f x → FlR w D' f x
  | .next, .next, h => h
  | .brk, .brk, h => h
  | .cont, .cont, h => h
  | .ret _, .ret _, q => VR.mono h q
  | .next, .brk, h => h.elim
  | .next, .cont, h => h.elim
  | .next, .ret _, h => h.elim
  | .brk, .next, h => h.elim
  | .brk, .cont, h => h.elim
  | .brk, .ret _, h => h.elim
  | .cont, .brk, h => h.elim
  | .cont, .next, h => h.elim
  | .cont, .ret _, h => h.elim
  | .ret _, .brk, h => h.elim
  | .ret _, .cont, h => h.elim
  | .ret _, .next, h => h.elim

def PostS (C : Cx) (env : Env) (vars : List Str) (gl : List (Str × V)) (own : Bool) (G D : Gh) (Q : Fl → Loc → Sto → Prop) (f : Flow) (s' : Shared) : Prop :=
  ∃ fl m' D' σ', DX G D D' ∧ FlR C.w D' f fl ∧ RelF C env vars gl own G D' m' σ' s' ∧ Q fl m' σ'
def AS (C : Cx) (env : Env) (vars : List Str) (gl : List (Str × V)) (own : Bool) (d : Nat) (t : Sem Flow) (m : Loc) (σ : Sto) (Q : Fl → Loc → Sto → Prop) : Prop :=
  ∀ A G D s, AOk A d → RelF C env vars gl own G D m σ s → wpAny C.M A t (PostS C env vars gl own G D Q) (fun _ _ => False) s
variable {Q : Fl → Loc → Sto → Prop}
theorem PostS.weak {u : Flow} {s' : Shared} (h : DX G D D₁) (p : PostS C env vars gl own G D₁ Q u s') : PostS C env vars gl own G D Q u s' :=
  let ⟨fl, m', D', σ', a, c, e⟩ := p; ⟨fl, m', D', σ', h.trans a, c, e⟩
theorem wpS_weak {t : Sem Flow} (h : DX G D D₁) (p : wpAny C.M A t (PostS C env vars gl own G D₁ Q) (fun _ _ => False) s) : wpAny C.M A t (PostS C env vars gl own G D Q) (fun _ _ => False) s :=
  wpAny_mono p (fun _ _ q => q.weak h) fun _ _ e => e
theorem AS.run {t : Sem Flow} (h : AS C env vars gl own d t m σ Q) (hA : AOk A d) (R : RelF C env vars gl own G D m σ s) {K : Flow → Shared → Prop}
    (k : ∀ f s' fl m' D' σ', DX G D D' → FlR C.w D' f fl → RelF C env vars gl own G D' m' σ' s' → Q fl m' σ' → K f s') : wpAny C.M A t K (fun _ _ => False) s :=
  wpAny_mono (h A G D s hA R) (fun v s' ⟨fl, m', D', σ', a, b, c, e⟩ => k v s' fl m' D' σ' a b c e) fun _ _ e => e
theorem AS.mono {t : Sem Flow} {Q' : Fl → Loc → Sto → Prop} (h : AS C env vars gl own d t m σ Q) (hQ : ∀ f m σ, Q f m σ → Q' f m σ) : AS C env vars gl own d t m σ Q' := fun A G D s hA R =>
  h.run hA R fun f s' fl m' D' σ' a b c e => ⟨fl, m', D', σ', a, b, c, hQ _ _ _ e⟩

theorem S_nil (q : Q .next m σ) : AS C env vars gl own d (execs [] env) m σ Q := fun A G D s hA R => wpAny_execs_nil ⟨.next, m, D, σ, DX.refl _ _, trivial, R, q⟩
/-- what follows a statement -/
def Then (C : Cx) (env : Env) (vars : List Str) (gl : List (Str × V)) (own : Bool) (d : Nat) (rest : List Stmt) (Q : Fl → Loc → Sto → Prop) : Fl → Loc → Sto → Prop
  | .next, m, σ => AS C env vars gl own d (execs rest env) m σ Q
  | f, m, σ => Q f m σ
theorem S_cons {st : Stmt} {rest : List Stmt} (h : AS C env vars gl own d (exec st env) m σ (Then C env vars gl own d rest Q)) : AS C env vars gl own d (execs (st :: rest) env) m σ Q := fun A G D s hA R => by
  refine wpAny_execs_cons (h.run hA R fun f s' fl m' D' σ' a b c e => ?_)
  cases f <;> cases fl <;> first | exact b.elim | skip
  · exact wpS_weak a (e A G D' s' hA c)
  · exact ⟨.brk, m', D', σ', a, b, c, e⟩
  · exact ⟨.cont, m', D', σ', a, b, c, e⟩
  · exact ⟨.ret _, m', D', σ', a, b, c, e⟩

theorem S_Assign {x : Str} {p' p : Pos} {e : Expr} (h : AT C env vars gl own d (eval e env) m σ fun X σ₁ => ∃ m', Put vars m x X m' ∧ Q .next m' σ₁)
    (hk : own = true := by with_unfolding_all exact rfl) (hs : swapsWith e (some (.Name x p')) p.line env = pure false := by with_unfolding_all exact rfl) : AS C env vars gl own d (exec (.Assign [.Name x p'] e p) env) m σ Q := fun A G D s hA R =>
  wpAny_Assign_Name (h.run hA R fun v s₁ X D₁ σ₁ a b c ⟨m', hP, q⟩ => c.store hP b (.inl hk) fun s' R' => ⟨.next, m', D₁, σ₁, a, trivial, R', q⟩) hs
theorem S_Return {e : Expr} {p : Pos} (h : AT C env vars gl own d (eval e env) m σ fun X σ₁ => Q (.ret X) m σ₁) : AS C env vars gl own d (exec (.Return (some e) p) env) m σ Q := fun A G D s hA R =>
  wpAny_Return_some (h.run hA R fun v s₁ X D₁ σ₁ a b c q => ⟨.ret X, m, D₁, σ₁, a, b, c, q⟩)
theorem S_ReturnN {p : Pos} (q : Q (.ret .none) m σ) : AS C env vars gl own d (exec (.Return none p) env) m σ Q := fun A G D s hA R =>
  wpAny_Return_none ⟨.ret .none, m, D, σ, DX.refl _ _, VR.none, R, q⟩
theorem S_Pass {p : Pos} (q : Q .next m σ) : AS C env vars gl own d (exec (.Pass p) env) m σ Q := fun A G D s hA R => wpAny_Pass ⟨.next, m, D, σ, DX.refl _ _, trivial, R, q⟩
theorem S_If {t : Expr} {b o : List Stmt} {p : Pos} (h : AB C env vars gl own d (isTrue t env (eval t env)) m σ fun c σ₁ => (c = true → AS C env vars gl own d (execs b env) m σ₁ Q) ∧ (c = false → AS C env vars gl own d (execs o env) m σ₁ Q)) :
    AS C env vars gl own d (exec (.If t b o p) env) m σ Q := fun A G D s hA R =>
  wpAny_If (h.run hA R fun b s₁ D₁ σ₁ a c e => by
    cases b with
    | true => exact wpS_weak a (e.1 rfl A G D₁ s₁ hA c)
    | false => exact wpS_weak a (e.2 rfl A G D₁ s₁ hA c))
theorem S_Expr {e : Expr} {p : Pos} (h : AT C env vars gl own d (eval e env) m σ fun _ σ₁ => Q .next m σ₁)
    (hs : swapsWith e none p.line env = pure false := by with_unfolding_all exact rfl) : AS C env vars gl own d (exec (.Expr e p) env) m σ Q := fun A G D s hA R => by
  have hi : interactive env = false := by unfold interactive; rw [R.ok.fn]; rfl
  rw [exec_Expr env e p hi hs]
  refine wpAny_bind (wpAny_standAt (wpAny_bind (h.run hA R fun v s₁ X D₁ σ₁ a b c q => ?_)))
  have fin : PostS C env vars gl own G D Q .next s₁ := ⟨.next, m, D₁, σ₁, a, trivial, c, q⟩
  unfold dropValue
  split
  · exact wpAny_pure fin
  · exact wpAny_bind (wpAny_standAt (wpAny_bind (wpAny_runValue (codeAny_builtin entry_let_go (show wpAny _ _ (ret .none) _ _ s₁ from wpAny_pure (wpAny_pure fin))))))
  · exact wpAny_pure fin

/-! ## lists of expressions -/
def PostL (C : Cx) (env : Env) (vars : List Str) (gl : List (Str × V)) (own : Bool) (G D : Gh) (m : Loc) (Q : List V → Sto → Prop) (v : List Value) (s' : Shared) : Prop :=
  ∃ x D' σ', DX G D D' ∧ VRs C.w D' v x ∧ RelF C env vars gl own G D' m σ' s' ∧ Q x σ'
def AL (C : Cx) (env : Env) (vars : List Str) (gl : List (Str × V)) (own : Bool) (d : Nat) (t : Sem (List Value)) (m : Loc) (σ : Sto) (Q : List V → Sto → Prop) : Prop :=
  ∀ A G D s, AOk A d → RelF C env vars gl own G D m σ s → wpAny C.M A t (PostL C env vars gl own G D m Q) (fun _ _ => False) s
variable {L : List V → Sto → Prop}
theorem AL.run {t : Sem (List Value)} (h : AL C env vars gl own d t m σ L) (hA : AOk A d) (R : RelF C env vars gl own G D m σ s) {K : List Value → Shared → Prop}
    (k : ∀ v s' x D' σ', DX G D D' → VRs C.w D' v x → RelF C env vars gl own G D' m σ' s' → L x σ' → K v s') : wpAny C.M A t K (fun _ _ => False) s :=
  wpAny_mono (h A G D s hA R) (fun v s' ⟨x, D', σ', a, b, c, e⟩ => k v s' x D' σ' a b c e) fun _ _ e => e
theorem AL_nil {p : Pos} (q : L [] σ) : AL C env vars gl own d (spliced (backTo p (starEach [] env))) m σ L := fun A G D s hA R => wpAny_items_nil ⟨[], D, σ, DX.refl _ _, .nil, R, q⟩
theorem AL_cons {p : Pos} {e : Expr} {rest : List Expr} (h : AT C env vars gl own d (eval e env) m σ fun X σ₁ => AL C env vars gl own d (spliced (backTo p (starEach rest env))) m σ₁ fun Xs σ₂ => L (X :: Xs) σ₂)
    (he : starEach (e :: rest) env = (false, eval e env) :: starEach rest env := by with_unfolding_all exact rfl) : AL C env vars gl own d (spliced (backTo p (starEach (e :: rest) env))) m σ L := fun A G D s hA R =>
  wpAny_items_cons (h.run hA R fun v s₁ X D₁ σ₁ a b c e => e.run hA c fun vs s₂ Xs D₂ σ₂ a' b' c' q => ⟨X :: Xs, D₂, σ₂, a.trans a', .cons (b.mono a'.sub) b', c', q⟩) he

variable {P : V → Sto → Prop}
theorem RelF.newF (R : RelF C env vars gl own G D m σ s) (o : Obj) (hf : o.isFreed = false := by with_unfolding_all exact rfl) :
    RelF C env vars gl own G (putD D s.heap.objs.size o) m σ { s with heap := s.heap.push o } ∧ DX G D (putD D s.heap.objs.size o) := by
  obtain ⟨a, b⟩ := R.lifted.newF o hf
  exact ⟨R.back a b, R.dx b⟩
theorem AT_Tuple {es : List Expr} {k : Nat} {p : Pos} (h : AL C env vars gl own d (spliced (backTo p (starEach es env))) m σ fun Xs σ₁ => Xs.length ≤ sizeLine ∧ P (.tup Xs) σ₁) :
    AT C env vars gl own d (eval (.Tuple es k p) env) m σ P := fun A G D s hA R =>
  wpAny_Tuple (h.run hA R fun vs s₁ Xs D₁ σ₁ a b c ⟨hl, q⟩ => ⟨by rw [b.length]; exact hl, by
    obtain ⟨R', dx⟩ := c.newF (tupO vs.toArray 0)
    exact ⟨.tup Xs, _, σ₁, a.trans dx, .tup (putD_self ..) rfl rfl (b.mono dx.sub), R', q⟩⟩)
/-- a list display, frozen at once -/
theorem AT_ListF {es : List Expr} {p : Pos} (h : AL C env vars gl own d (spliced (backTo p (starEach es env))) m σ fun Xs σ₁ => Xs.length ≤ sizeLine ∧ P (.lst Xs) σ₁) :
    AT C env vars gl own d (eval (.List es p) env) m σ P := fun A G D s hA R =>
  wpAny_List (h.run hA R fun vs s₁ Xs D₁ σ₁ a b c ⟨hl, q⟩ => ⟨by rw [b.length]; exact hl, by
    obtain ⟨R', dx⟩ := c.newF (lstO vs.toArray 0)
    exact ⟨.lst Xs, _, σ₁, a.trans dx, .lst (putD_self ..) (b.mono dx.sub), R', q⟩⟩)
theorem RelF.newL (R : RelF C env vars gl own G D m σ s) {vs : List Value} {xs : List V} (h : VRs C.w D vs xs) :
    RelF C env vars gl own G D m ((s.heap.objs.size, lstO vs.toArray 0, .list xs) :: σ) { s with heap := s.heap.push (lstO vs.toArray 0) } :=
  R.back (R.lifted.newM (lstO vs.toArray 0) (.list xs) ⟨vs.toArray, 0, rfl, by simpa using h⟩ rfl (fun _ _ => rfl)) (DX.refl _ _)
/-- a list display that will be changed -/
theorem AT_ListM {es : List Expr} {p : Pos} (h : AL C env vars gl own d (spliced (backTo p (starEach es env))) m σ fun Xs σ₁ => Xs.length ≤ sizeLine ∧ ∀ a o, P (.ref a) ((a, o, .list Xs) :: σ₁)) :
    AT C env vars gl own d (eval (.List es p) env) m σ P := fun A G D s hA R =>
  wpAny_List (h.run hA R fun vs s₁ Xs D₁ σ₁ a b c ⟨hl, q⟩ => ⟨by rw [b.length]; exact hl, ⟨.ref _, D₁, _, a, .ref _, c.newL b, q _ _⟩⟩)

/-! ## items -/
def SubR (C : Cx) (d : Nat) (x i : V) (σ : Sto) (P : V → Sto → Prop) : Prop :=
  ∀ A G D s o v, AOk A d → RelC C G D σ s → VR C.w D o x → VR C.w D v i → ∃ T id, s.TypeIs o T ∧ typeLookup (.type T) "__getitem__" = pure (some (.builtin id)) ∧ wpAny C.M A (getItem o v) (PostC C G D P) (fun _ _ => False) s
theorem subscripted_ex (slice : Expr) (o i : Value) : ∃ ops, subscripted slice false o i = operate ops (getItem o i) := by
  unfold subscripted
  split
  · exact ⟨_, rfl⟩
  · contradiction
  · exact ⟨_, rfl⟩
theorem AT_Sub {e i : Expr} {p : Pos} (h : AT C env vars gl own d (eval e env) m σ fun X σ₁ => AT C env vars gl own d (eval i env) m σ₁ fun I σ₂ => SubR C d X I σ₂ P) :
    AT C env vars gl own d (eval (.Subscript e i p) env) m σ P := fun A G D s hA R =>
  PyProof.Rows.Subscript_ (h.run hA R fun v s₁ X D₁ σ₁ a b c e₁ => e₁.run hA c fun u s₂ I D₂ σ₂ a' b' c' q => by
    obtain ⟨T, id, hT, hl, hw⟩ := q A _ D₂ s₂ v u hA c'.lifted (b.mono a'.sub) b'
    obtain ⟨ops, ho⟩ := subscripted_ex i v u
    exact PyProof.Rows.tail_any hT hl (wpAny_mono hw (fun _ _ ⟨x, D', σ', a₂, b₂, c₂, q₂⟩ => ⟨x, D', σ', (a.trans a').trans (c'.dx a₂), b₂, c'.back c₂ a₂, q₂⟩) fun _ _ x => x) ho)
end

end Mine

set_option autoImplicit false
set_option linter.unusedVariables false
namespace Mine
open PySem

section
variable {C : Cx} {env : Env} {vars : List Str} {gl : List (Str × V)} {own : Bool} {d : Nat} {m m' : Loc} {σ σ' : Sto}
variable {A : Around} {G D D₁ : Gh} {s : Shared} {P : V → Sto → Prop}

/-! ## calls -/
/-- a call of a value -/
def KW (C : Cx) (d : Nat) (f : V) (xs : List V) (σ : Sto) (P : V → Sto → Prop) : Prop :=
  ∀ A G D s v vs, AOk A d → RelC C G D σ s → VR C.w D v f → VRs C.w D vs xs → wpAny C.M A (call v vs) (PostC C G D P) (fun _ _ => False) s
theorem KW.mono {P' : V → Sto → Prop} {f : V} {xs : List V} (h : KW C d f xs σ P) (hp : ∀ x σ, P x σ → P' x σ) : KW C d f xs σ P' := fun A G D s v vs hA R hv hs =>
  wpAny_mono (h A G D s v vs hA R hv hs) (fun _ _ ⟨x, D', σ', a, b, c, e⟩ => ⟨x, D', σ', a, b, c, hp _ _ e⟩) fun _ _ e => e
theorem KW_of_CW {a : Addr} {xs : List V} (h : CW C d (.ref a) xs σ P) : KW C d (.ref a) xs σ P := fun A G D s v vs hA R hv hs => by
  cases hv
  exact wpAny_call (codeAny_mono (h A G D s vs hA R hs) fun r s' q => by
    cases r with
    | error e => exact q.elim
    | ok f => cases f <;> exact q)

/-- what can be called plainly -/
def Callee (C : Cx) : V → Prop
  | .bi _ => True
  | .type _ => True
  | .ref a => ∃ o fd, C.base.get? a = some o ∧ o.data = .func fd
  | _ => False

theorem callee_run {F : V} (hF : Callee C F) {f : Value} {pos : Pos} {first : List Value} {args : List (Bool × Sem Value)} {K : Value → Shared → Prop} {E : Value → Shared → Prop} (hf : VR C.w D f F) (hplain : args.any (·.1) = false)
    (h : wpAny C.M A (evalArgs f true args []) (fun x s₁ => (∀ b o, C.base.get? b = some o → s₁.heap.get? b = some o) ∧ wpAny C.M A (call f (first ++ x.pos) x.kw) K E s₁) E s) :
    wpAny C.M A (callWith pos f first args []) K E s := by
  cases hf with
  | bi n => exact Calls.callWith_builtin hplain (wpAny_mono h (fun _ _ x => x.2) fun _ _ x => x)
  | type n => exact callWith_type hplain (wpAny_mono h (fun _ _ x => x.2) fun _ _ x => x)
  | ref a =>
    obtain ⟨o, fd, ho, hd⟩ := hF
    exact Calls.callWith_function (wpAny_mono h (fun _ _ x => ⟨⟨x.1 _ _ ho, hd⟩, x.2⟩) fun _ _ x => x)
  | _ => exact hF.elim

theorem RelC.baseIn (R : RelC C G D σ s) : ∀ b o, C.base.get? b = some o → s.heap.get? b = some o := fun b o e => R.g b o (R.base b o e)

theorem KW.inF {f : V} {xs : List V} (h : KW C d f xs σ P) {v : Value} {vs : List Value} (hA : AOk A d) (R : RelF C env vars gl own G D m σ s) (hv : VR C.w D v f) (hs : VRs C.w D vs xs) :
    wpAny C.M A (call v vs) (PostE C env vars gl own G D m P) (fun _ _ => False) s :=
  wpAny_mono (h A _ D s v vs hA R.lifted hv hs) (fun _ _ ⟨x, D', σ', a, b, c, e⟩ => ⟨x, D', σ', R.dx a, b, R.back c a, e⟩) fun _ _ e => e

theorem AT_Call0 {x : Str} {np p : Pos} (h : AT C env vars gl own d (eval (.Name x np) env) m σ fun F σ₁ => Callee C F ∧ KW C d F [] σ₁ P) :
    AT C env vars gl own d (eval (.Call (.Name x np) [] [] p) env) m σ P := fun A G D s hA R =>
  wpAny_Call_ofName (h.run hA R fun v s₁ F D₁ σ₁ a b c ⟨hF, hk⟩ => callee_run hF b rfl (evalArgs_none ⟨c.toRelC.baseIn, wp_weak a (hk.inF hA c b .nil)⟩))
theorem AT_Call {x : Str} {np p : Pos} {e : Expr} {rest : List Expr} (h : AT C env vars gl own d (eval (.Name x np) env) m σ fun F σ₁ => Callee C F ∧ AL C env vars gl own d (spliced (backTo p (starEach (e :: rest) env))) m σ₁ fun Xs σ₂ => KW C d F Xs σ₂ P)
    (he : starEach (e :: rest) env = (false, eval e env) :: starEach rest env := by with_unfolding_all exact rfl) (hplain : (backTo p (starEach rest env)).any (·.1) = false := by with_unfolding_all exact rfl) :
    AT C env vars gl own d (eval (.Call (.Name x np) (e :: rest) [] p) env) m σ P := fun A G D s hA R =>
  wpAny_Call_ofName (h.run hA R fun v s₁ F D₁ σ₁ a b c ⟨hF, hk⟩ => callee_run hF b (by rw [he]; exact hplain) (by
    rw [he] at hk ⊢
    exact Calls.evalArgs_plain (AL.run hk hA c fun vs s₂ Xs D₂ σ₂ a' b' c' q => ⟨c'.toRelC.baseIn, wp_weak (a.trans a') (q.inF hA c' (b.mono a'.sub) b')⟩)))

/-! ## entering a def -/
def RetQ (Q : V → Sto → Prop) : Fl → Loc → Sto → Prop
  | .ret x, _, σ => Q x σ
  | .next, _, σ => Q .none σ
  | _, _, _ => False

def nodupB : List Str → Bool
  | [] => true
  | x :: r => !r.contains x && nodupB r
theorem nodupB_ok : ∀ {l : List Str}, nodupB l = true → l.Nodup
  | [], _ => .nil
  | x :: r, h => by
    simp only [nodupB, Bool.and_eq_true, Bool.not_eq_true'] at h
    exact List.nodup_cons.mpr ⟨fun hm => by have := List.contains_iff_mem.mpr hm; rw [this] at h; exact absurd h.1 (by decide), nodupB_ok h.2⟩

def scopeOk (sc : Scope) (vars : List Str) (gl : List Str) : Bool :=
  sc.kind == .function && !sc.isCoroutine && !sc.isGenerator && nodupB vars &&
  vars.all (fun x => !(x == ("__debug__" : Str)) && (sc.names.lookup x == some .local || sc.names.lookup x == some .cell)) &&
  gl.all fun x => !(x == ("__debug__" : Str)) && sc.names.lookup x == some .globalImplicit

theorem cellsFrom_has {x : Str} : ∀ (names : List (Str × NameKind)) (n : Nat) (acc : List (Str × Addr)), names.lookup x = some .cell ∨ (∃ c, acc.lookup x = some c) → ∃ c, (cellsFrom n names acc).lookup x = some c
  | [], _, _, h => h.elim (fun e => by cases e) id
  | (y, k) :: r, n, acc, h => by
    unfold cellsFrom
    by_cases hk : (k == .cell) = true
    · rw [if_pos hk]
      refine cellsFrom_has r (n + 1) ((y, n) :: acc) ?_
      by_cases hy : (x == y) = true
      · exact .inr ⟨n, by rw [List.lookup_cons, hy]⟩
      · refine h.imp (fun e => ?_) fun ⟨c, e⟩ => ⟨c, ?_⟩
        · rw [List.lookup_cons] at e; simpa only [hy] using e
        · rw [List.lookup_cons]; simpa only [hy] using e
    · rw [if_neg hk]
      refine cellsFrom_has r n acc ?_
      by_cases hy : (x == y) = true
      · refine .inr (h.elim (fun e => ?_) id)
        rw [List.lookup_cons, hy] at e
        exact absurd (by rw [Option.some.inj e]; rfl) hk
      · refine h.imp (fun e => ?_) id
        rw [List.lookup_cons] at e; simpa only [hy] using e

theorem bindL_off {kf : Str → Option NameKind} {x : Str} : ∀ {b : List (Str × Value)} {mm : Str → Option Value}, x ∉ b.map (·.1) → bindL kf b mm x = mm x
  | [], _, _ => rfl
  | (n, v) :: r, mm, h => by
    simp only [List.map_cons, List.mem_cons, not_or] at h
    unfold bindL
    rw [bindL_off h.2]
    split
    · simp [h.1]
    · rfl
theorem bindC_off {kf : Str → Option NameKind} {x : Str} : ∀ {b : List (Str × Value)} {mm : Str → Option Value}, x ∉ b.map (·.1) → bindC kf b mm x = mm x
  | [], _, _ => rfl
  | (n, v) :: r, mm, h => by
    simp only [List.map_cons, List.mem_cons, not_or] at h
    unfold bindC
    rw [bindC_off h.2]
    split
    · rfl
    · simp [h.1]
theorem bindL_at {kf : Str → Option NameKind} {x : Str} {v : Value} : ∀ {b : List (Str × Value)} {mm : Str → Option Value}, (b.map (·.1)).Nodup → (x, v) ∈ b → kf x = some .local → bindL kf b mm x = some v
  | (n, u) :: r, mm, hn, hm, hk => by
    have hn' := List.nodup_cons.mp hn
    unfold bindL
    rcases List.mem_cons.mp hm with e | hm
    · cases e
      rw [bindL_off hn'.1, if_pos hk]; simp
    · exact bindL_at hn'.2 hm hk
theorem bindC_at {kf : Str → Option NameKind} {x : Str} {v : Value} : ∀ {b : List (Str × Value)} {mm : Str → Option Value}, (b.map (·.1)).Nodup → (x, v) ∈ b → kf x ≠ some .local → bindC kf b mm x = some v
  | (n, u) :: r, mm, hn, hm, hk => by
    have hn' := List.nodup_cons.mp hn
    unfold bindC
    rcases List.mem_cons.mp hm with e | hm
    · cases e
      rw [bindC_off hn'.1, if_neg hk]; simp
    · exact bindC_at hn'.2 hm hk

theorem AOk.deeper {A : Around} {d : Nat} {env : Env} (h : AOk A (d + 1)) : AOk (A.deeper env) d :=
  ⟨h.h, by have := h.depth; show A.depth + 1 + d < 1000; omega, by have := h.units; show A.units + 3 + 8 * d < 9000; omega⟩

/-- a def of the text -/
structure FnIs (C : Cx) (a : Addr) (fd : FuncData) (body : List Stmt) (params : List Str) : Prop where
  ob : ∃ o, C.base.get? a = some o ∧ o.data = .func fd
  body : fd.body = .stmts body
  clo : fd.closure = []
  code : C.base.CodeRec fd.code fd.qualname
  gl : fd.globals = mainGlobals
  bi : fd.builtins = builtinsNs
  bind : ∀ vs : List Value, vs.length = params.length → bindArgs fd ⟨vs, []⟩ = pure (params.zip vs)

theorem FnIs.callee {a : Addr} {fd : FuncData} {body : List Stmt} {params : List Str} (h : FnIs C a fd body params) : Callee C (.ref a) := let ⟨o, h1, h2⟩ := h.ob; ⟨o, fd, h1, h2⟩

theorem zip_get {α β : Type} : ∀ {l : List α} {r : List β} {i : Nat} {x : α} {y : β}, l[i]? = some x → r[i]? = some y → (x, y) ∈ l.zip r
  | a :: l, b :: r, 0, x, y, h1, h2 => by simp at h1 h2; subst h1 h2; simp
  | a :: l, b :: r, i + 1, x, y, h1, h2 => by
    have := zip_get (l := l) (r := r) (i := i) (by simpa using h1) (by simpa using h2)
    simp [this]
  | [], _, i, _, _, h1, _ => by simp at h1
  | _ :: _, [], i, _, _, _, h2 => by simp at h2

open Classical in
theorem CW_fn {a : Addr} {fd : FuncData} {body : List Stmt} {params others : List Str} {gl : List (Str × V)} {xs : List V} (F : FnIs C a fd body params) (hlen : xs.length = params.length)
    (hst : scopeOk fd.scope (params ++ others) (gl.map (·.1)) = true) (hgl : ∀ p ∈ gl, GlobR C p.1 p.2)
    (h : ∀ env, env.scope = fd.scope → AS C env (params ++ others) gl true d (execs body env) (xs.map some ++ others.map fun _ => none) σ (RetQ P)) : CW C (d + 1) (.ref a) xs σ P := by
  intro A G D s vs hA R hv
  obtain ⟨o, ho, hd⟩ := F.ob
  have hvl : vs.length = params.length := hv.length.trans hlen
  have keepB := R.baseIn
  simp only [scopeOk, Bool.and_eq_true, Bool.not_eq_true', beq_iff_eq] at hst
  obtain ⟨⟨⟨⟨⟨k1, k2⟩, k3⟩, k4⟩, k5⟩, k6⟩ := hst
  have nd : (params ++ others).Nodup := nodupB_ok k4
  have vk : ∀ x ∈ params ++ others, (x == ("__debug__" : Str)) = false ∧ (fd.scope.names.lookup x = some .local ∨ fd.scope.names.lookup x = some .cell) := fun x hx => by
    have := List.all_eq_true.mp k5 x hx
    simp only [Bool.and_eq_true, Bool.not_eq_true', Bool.or_eq_true, beq_iff_eq] at this
    exact this
  have zn : (params.zip vs).map (·.1) = params := by
    rw [List.map_fst_zip]; omega
  refine codeAny_call_cells (fd := fd) (by have := hA.depth; show A.depth < 1000; omega) (keepB _ _ ho) hd (C.lim.keeps keepB) (F.code.keeps keepB) F.body (F.bind vs hvl) F.clo (fun x hx => ?_) (fun s₁ x => ?_) k2 k3 k1
  · have hm : x.1 ∈ params := zn ▸ List.mem_map_of_mem hx
    rcases (vk x.1 (List.mem_append_left _ hm)).2 with e | e
    · exact .inl e
    · obtain ⟨c, hc⟩ := cellsFrom_has (x := x.1) fd.scope.names (s.heap.objs.size + 1) [] (.inl e)
      exact .inr ⟨e, by rw [hc]; rfl⟩
  · generalize hE : callEnvC fd s.heap.objs.size a = E at x ⊢
    have eL : E.locals = s.heap.objs.size := by rw [← hE]; rfl
    have eK : ∀ y, E.kindOf y = fd.scope.names.lookup y := fun y => by rw [← hE]; rfl
    have eC : E.cells = cellsFrom (s.heap.objs.size + 1) fd.scope.names [] := by rw [← hE]; rfl
    obtain ⟨h₁, tk, hs₁, kp⟩ := x.done
    let Gc : Gh := fun b => if b ∈ foot σ then none else s.heap.get? b
    have gc1 : ∀ b o, Gc b = some o → s.heap.get? b = some o ∧ b ∉ foot σ := fun b o e => by
      have e' : (if b ∈ foot σ then none else s.heap.get? b) = some o := e
      split at e'
      · cases e'
      · rename_i hb; exact ⟨e', hb⟩
    have gc2 : ∀ b o, s.heap.get? b = some o → b ∉ foot σ → Gc b = some o := fun b o e hb => by show (if b ∈ foot σ then none else s.heap.get? b) = some o; rw [if_neg hb]; exact e
    have gG : ∀ b o, G b = some o → Gc b = some o := fun b o e => gc2 b o (R.g b o e) fun hb => by rw [R.offG b hb] at e; cases e
    have new : ∀ c, s.heap.objs.size ≤ c → Gc c = none ∧ D c = none ∧ c ∉ foot σ := fun c hc => ⟨by
        cases e : Gc c with
        | none => rfl
        | some o => exact absurd (Heap.lt_size (gc1 c o e).1) (Nat.not_lt.mpr hc), by
        cases e : D c with
        | none => rfl
        | some o => exact absurd (Heap.lt_size (R.d c o e)) (Nat.not_lt.mpr hc), fun hf => absurd (R.footLt hf) (Nat.not_lt.mpr hc)⟩
    have hkeep : ∀ b o, s.heap.get? b = some o → s₁.heap.get? b = some o := by rw [hs₁]; exact kp
    have RC : RelC C Gc D σ s₁ := by
      refine ⟨?_, fun b o e => hkeep b o (gc1 b o e).1, fun b o e => hkeep b o (R.d b o e), fun b o e => gG b o (R.base b o e), R.nd, fun b hb => ?_, R.offD, fun p hp => (R.pl p hp).at fun b _ ob e => hkeep _ _ e, R.sto⟩
      · obtain ⟨h₂, t₂, e⟩ := R.same
        exact ⟨h₁, tk, by rw [hs₁, e]⟩
      · show (if b ∈ foot σ then none else s.heap.get? b) = none; rw [if_pos hb]
    have ndz : ((params.zip vs).map (·.1)).Nodup := by rw [zn]; exact (List.nodup_append.mp nd).1
    have locs : ∀ (i : Nat) y X, (params ++ others)[i]? = some y → (xs.map some ++ others.map fun _ => none)[i]? = some (some X) → ∃ v, (y, v) ∈ params.zip vs ∧ VR C.w D v X := by
      intro i y X e1 e2
      rw [List.getElem?_append] at e1 e2
      rw [List.length_map] at e2
      by_cases hi : i < xs.length
      · rw [if_pos hi] at e2
        rw [if_pos (by omega)] at e1
        rw [List.getElem?_map] at e2
        obtain ⟨Y, hY, e3⟩ := Option.map_eq_some_iff.mp e2
        cases e3
        obtain ⟨u, hu, ru⟩ := hv.get hY
        exact ⟨u, zip_get e1 hu, ru⟩
      · rw [if_neg hi] at e2
        rw [List.getElem?_map] at e2
        obtain ⟨Y, hY, e3⟩ := Option.map_eq_some_iff.mp e2
        cases e3
    have RF : RelF C E (params ++ others) gl true Gc D (xs.map some ++ others.map fun _ => none) σ s₁ :=
      { RC with
        ok := ⟨by rw [← hE]; exact k1, nd, fun y hy => ⟨(vk y hy).1, (vk y hy).2.imp (fun e => by rw [eK]; exact e) fun e => ⟨by rw [eK]; exact e, by rw [eC]; exact cellsFrom_has _ _ _ (.inl e)⟩⟩, x.apart,
          fun p hp => by
            have := List.all_eq_true.mp k6 p.1 (List.mem_map_of_mem hp)
            simp only [Bool.and_eq_true, Bool.not_eq_true', beq_iff_eq] at this
            exact ⟨this.1, by rw [eK]; exact this.2, hgl p hp⟩,
          by rw [← hE]; exact F.gl, by rw [← hE]; exact F.bi⟩
        offL := by rw [eL]; exact new _ (Nat.le_refl _)
        ns := ⟨_, x.toInCall.ns, fun i y X e1 e2 e3 => by
          obtain ⟨v, hv1, hv2⟩ := locs i y X e1 e3
          exact ⟨v, bindL_at ndz hv1 e2, hv2⟩⟩
        cl := fun i y c e1 e2 e3 => by
          have hab := x.above y c (mem_of_lookup e3)
          rw [eL] at hab
          refine ⟨by rw [eL]; exact Nat.ne_of_gt hab, ⟨_, x.cell y c e3, fun X e4 => ?_⟩, new c (Nat.le_of_lt hab)⟩
          obtain ⟨v, hv1, hv2⟩ := locs i y X e1 e4
          exact ⟨v, bindC_at ndz hv1 (by rw [e2]; intro q; cases q), hv2⟩ }
    refine wpAny_mono ((h E (by rw [← hE]; rfl)).run hA.deeper RF fun f s' fl m' D' σ' a b c q => ?_) (fun _ _ e => e) (fun _ _ e => e.elim)
    have dx : DX G D D' := a.less fun b hb => by
      cases e : G b with
      | none => exact absurd e hb
      | some o => rw [gG b o e]; exact nofun
    have RC' : RelC C G D' σ' s' := ⟨c.same, fun b o e => c.g b o (gG b o e), c.d, R.base, c.nd, (fun b hb => by
        cases e : G b with
        | none => rfl
        | some o => have := c.offG b hb; rw [gG b o e] at this; cases this), c.offD, c.pl, c.sto⟩
    cases f <;> cases fl <;> first | exact b.elim | exact q.elim | skip
    · exact ⟨.none, D', σ', dx, .none, RC', q⟩
    · exact ⟨_, D', σ', dx, b, RC', q⟩
end
end Mine

set_option autoImplicit false
set_option linter.unusedVariables false
namespace Mine
open PySem

/-! ## iterators -/
def ItemR (w : World) (D : Gh) (h h' : Heap) (v : Value) (X : V) : Prop :=
  VR w D v X ∨ ∃ T o vals n Xs, v = .ref T ∧ X = .tup Xs ∧ VRs w D vals Xs ∧ h.objs.size ≤ T ∧ h'.get? T = some o ∧ o.cls = .type "tuple" ∧ o.data = .seq vals.toArray n

def KeptBut (wr : List Addr) (h h' : Heap) : Prop := ∀ b o, b ∉ wr → h.get? b = some o → h'.get? b = some o

structure IW (C : Cx) (A : Around) (tgt : Expr) (I : Addr) (fp wr : List Addr) (D : Gh) (xs : List V) (St : Nat → Heap → Prop) : Prop where
  live : ∀ i h, St i h → ∀ a ∈ wr, ∃ o, h.get? a = some o
  sub : ∀ b ∈ wr, b ∈ fp
  old : ∀ b ∈ fp, b ∉ wr → ∀ h : Heap, St 0 h → h.get? b = none → False
  frame : ∀ i h h', St i h → (∀ b ∈ fp, ∀ o, h.get? b = some o → h'.get? b = some o) → St i h'
  item : ∀ (i : Nat) X (s : Shared) (K : Option Value → Shared → Prop), xs[i]? = some X → St i s.heap →
    (∀ v s₁, (∀ Q' : Unit → Shared → Prop, (∀ h' tk, ItemR C.w D s.heap h' v X → St (i + 1) h' → KeptBut wr s.heap h' → Q' () { s with heap := h', toks := tk }) →
      wpAny C.M A (letOwnedTupleGo tgt (.ref I) v) Q' (fun _ _ => False) s₁) → K (some v) s₁) → wpAny C.M A (pyNext (.ref I)) K (fun _ _ => False) s
  self : ∀ (i : Nat) (s : Shared) (K : Value → Shared → Prop), St i s.heap → K (.ref I) s → wpAny C.M A (pyIter (.ref I)) K (fun _ _ => False) s
  done : ∀ (s : Shared) (K : Option Value → Shared → Prop), St xs.length s.heap → (∀ h' tk, KeptBut wr s.heap h' → K none { s with heap := h', toks := tk }) → wpAny C.M A (pyNext (.ref I)) K (fun _ _ => False) s

section
variable {C : Cx} {env : Env} {vars : List Str} {gl : List (Str × V)} {own : Bool} {d : Nat} {m m' : Loc} {σ σ' : Sto}
variable {A : Around} {G D D₀ D₁ : Gh} {s : Shared}

/-- what an iterator may write is nobody's -/
def Off (env : Env) (vars : List Str) (G D : Gh) (σ : Sto) (wr : List Addr) : Prop := ∀ a ∈ wr, G a = none ∧ D a = none ∧ a ∉ foot σ ∧ ¬ Held env vars a

theorem RelF.keepBut (R : RelF C env vars gl own G D m σ s) {h' : Heap} (t : Nat) {wr : List Addr} (hw : Off env vars G D σ wr) (k : KeptBut wr s.heap h') : RelF C env vars gl own G D m σ { s with heap := h', toks := t } := by
  have R' := R.lifted.keepBut (h' := h') t wr (fun a ha => ⟨by rw [lift_not (hw a ha).2.2.2]; exact (hw a ha).1, (hw a ha).2.1, (hw a ha).2.2.1⟩) k
  exact R.back R' (DX.refl _ _)

theorem item_in (R : RelF C env vars gl own G D m σ s) (hs : Sub D₀ D) {h' : Heap} {t : Nat} {wr : List Addr} (hw : Off env vars G D σ wr) (k : KeptBut wr s.heap h') {v : Value} {X : V} (hi : ItemR C.w D₀ s.heap h' v X) :
    ∃ D', DX G D D' ∧ RelF C env vars gl own G D' m σ { s with heap := h', toks := t } ∧ VR C.w D' v X ∧ ∀ w2 : List Addr, (∀ a ∈ w2, ∃ o, s.heap.get? a = some o) → Off env vars G D σ w2 → Off env vars G D' σ w2 := by
  have R₁ := R.keepBut t hw k
  rcases hi with hv | ⟨T, o, vals, n, Xs, rfl, rfl, hvs, hT, ho, hc, hd⟩
  · exact ⟨D, DX.refl _ _, R₁, hv.mono hs, fun _ _ h => h⟩
  · have nT : ∀ (b : Addr) (ob : Obj), s.heap.get? b = some ob → b ≠ T := fun b ob e q => absurd (Heap.lt_size (q ▸ e)) (Nat.not_lt.mpr hT)
    have hD : D T = none := by
      cases e : D T with
      | none => rfl
      | some ob => exact absurd rfl (nT T ob (R.d _ _ e))
    have hG : lift env vars G s T = none := by
      cases e : lift env vars G s T with
      | none => rfl
      | some ob => exact absurd rfl (nT T ob (R.lifted.g _ _ e))
    have hf : T ∉ foot σ := fun h => by obtain ⟨ob, e⟩ := R.toRelC.footLives h; exact nT T ob e rfl
    have hsub := putD_sub o hD
    have RC := R₁.lifted
    have hl : lift env vars G { s with heap := h', toks := t } T = none := by
      by_cases hm : Held env vars T
      · obtain ⟨ob, e⟩ := R.mineLives hm; exact absurd rfl (nT T ob e)
      · rw [lift_not hm] at hG ⊢; exact hG
    have RC' : RelC C (lift env vars G { s with heap := h', toks := t }) (putD D T o) σ { s with heap := h', toks := t } :=
      ⟨RC.same, RC.g, fun b ob e => by
        by_cases hb : b = T
        · subst hb; rw [putD_self] at e; cases e; exact ho
        · rw [putD_ne o hb] at e; exact RC.d b ob e, RC.base, RC.nd, RC.offG, fun b hb => by
        rw [putD_ne]; exact RC.offD b hb
        rintro rfl; exact hf hb, RC.pl, fun p hp => (RC.sto p hp).mono hsub⟩
    have dx : DX (lift env vars G { s with heap := h', toks := t }) D (putD D T o) := ⟨hsub, fun b eb g => by
      rw [putD_ne]; exact eb
      rintro rfl; exact g hl⟩
    refine ⟨putD D T o, R₁.dx dx, R₁.back RC' dx, .tup (putD_self ..) hc hd ((hvs.mono hs).mono hsub), fun w2 hl2 hw2 a ha => ⟨(hw2 a ha).1, ?_, (hw2 a ha).2.2⟩⟩
    rw [putD_ne]; exact (hw2 a ha).2.1
    obtain ⟨ob, e⟩ := hl2 a ha
    exact nT a ob e

/-- loops by their items -/
def Loop (C : Cx) (env : Env) (vars : List Str) (gl : List (Str × V)) (own : Bool) (d : Nat) (tgt : Expr) (body : List Stmt) (P : Sto → Prop) (Q : Fl → Loc → Sto → Prop) : List V → Loc → Sto → Prop
  | [], m, σ => Q .next m σ
  | X :: xs, m, σ => AA C env vars gl own d (assign tgt env) X m σ fun m₁ σ₁ => AS C env vars gl own d (execs body env) m₁ σ₁ fun fl m₂ σ₂ => match fl with
    | .next => P σ₂ ∧ Loop C env vars gl own d tgt body P Q xs m₂ σ₂
    | .cont => P σ₂ ∧ Loop C env vars gl own d tgt body P Q xs m₂ σ₂
    | .brk => Q .next m₂ σ₂
    | .ret v => Q (.ret v) m₂ σ₂

/-- what stands still of an iterator's ground -/
def Stay (C : Cx) (D : Gh) (P : Sto → Prop) (h : Heap) (fp wr : List Addr) : Prop :=
  ∀ G' D' σ' (s' : Shared), RelC C G' D' σ' s' → Sub D D' → P σ' → ∀ b ∈ fp, b ∉ wr → ∀ o, h.get? b = some o → s'.heap.get? b = some o

/-- an iterable, ready -/
structure Ready (C : Cx) (A : Around) (env : Env) (vars : List Str) (gl : List (Str × V)) (own : Bool) (tgt : Expr) (G D : Gh) (m : Loc) (σ : Sto) (it : Value) (s : Shared) (xs : List V) (P : Sto → Prop) : Prop where
  go : ∃ I fp wr St, it = .ref I ∧ IW C A tgt I fp wr D xs St ∧ St 0 s.heap ∧ RelF C env vars gl own G D m σ s ∧ Off env vars G D σ wr ∧ P σ ∧ Stay C D P s.heap fp wr

def AI (C : Cx) (env : Env) (vars : List Str) (gl : List (Str × V)) (own : Bool) (d : Nat) (iter tgt : Expr) (m : Loc) (σ : Sto) (Q : List V → (Sto → Prop) → Sto → Prop) : Prop :=
  ∀ A G D s, AOk A d → RelF C env vars gl own G D m σ s → wpAny C.M A (eval iter env) (fun x s₁ => wpAny C.M A (pyIter x) (fun it s₂ =>
    ∃ D' σ' xs P, DX G D D' ∧ Ready C A env vars gl own tgt G D' m σ' it s₂ xs P ∧ Q xs P σ') (fun _ _ => False) s₁) (fun _ _ => False) s

open Classical in
noncomputable def withW (G : Gh) (wr : List Addr) (h : Heap) : Gh := fun a => if a ∈ wr then h.get? a else G a
theorem withW_in {wr : List Addr} {h : Heap} {a : Addr} (e : a ∈ wr) : withW G wr h a = h.get? a := by unfold withW; rw [if_pos e]
theorem withW_out {wr : List Addr} {h : Heap} {a : Addr} (e : a ∉ wr) : withW G wr h a = G a := by unfold withW; rw [if_neg e]

theorem RelF.withW (R : RelF C env vars gl own G D m σ s) {wr : List Addr} (hw : Off env vars G D σ wr) : RelF C env vars gl own (withW G wr s.heap) D m σ s where
  same := R.same
  g := fun a o e => by
    by_cases h : a ∈ wr
    · rw [withW_in h] at e; exact e
    · rw [withW_out h] at e; exact R.g a o e
  d := R.d
  base := fun a o e => by
    by_cases h : a ∈ wr
    · have := R.base a o e; rw [(hw a h).1] at this; cases this
    · rw [withW_out h]; exact R.base a o e
  nd := R.nd
  offG := fun a ha => by
    by_cases h : a ∈ wr
    · exact absurd ha (hw a h).2.2.1
    · rw [withW_out h]; exact R.offG a ha
  offD := R.offD
  pl := R.pl
  sto := R.sto
  ok := R.ok
  offL := ⟨by
    by_cases h : env.locals ∈ wr
    · exact absurd (Or.inl rfl) (hw _ h).2.2.2
    · rw [withW_out h]; exact R.offL.1, R.offL.2⟩
  ns := R.ns
  cl := fun i x c h1 h2 h3 => by
    obtain ⟨q1, q2, q3⟩ := R.cl i x c h1 h2 h3
    refine ⟨q1, q2, ?_⟩
    have hc : c ∉ wr := fun h => (hw _ h).2.2.2 (Or.inr ⟨i, x, h1, h2, h3⟩)
    rw [withW_out hc]; exact q3

theorem RelF.lessW {wr : List Addr} {h : Heap} {σ₀ : Sto} {D₀ : Gh} (R : RelF C env vars gl own (Mine.withW G wr h) D m σ s) (hw : Off env vars G D₀ σ₀ wr) (hb : ∀ a o, C.base.get? a = some o → G a = some o) (hdx : DX (Mine.withW G wr h) D₀ D)
    (hlive : ∀ a ∈ wr, ∃ o, h.get? a = some o) : RelF C env vars gl own G D m σ s ∧ DX G D₀ D ∧ Off env vars G D σ wr := by
  have up : ∀ a o, G a = some o → Mine.withW G wr h a = some o := fun a o e => by
    by_cases h' : a ∈ wr
    · rw [(hw a h').1] at e; cases e
    · rw [withW_out h']; exact e
  have none_of : ∀ a, Mine.withW G wr h a = none → G a = none := fun a e => by
    cases q : G a with
    | none => rfl
    | some o => rw [up a o q] at e; cases e
  refine ⟨⟨⟨R.same, fun a o e => R.g a o (up a o e), R.d, hb, R.nd, fun a ha => none_of a (R.offG a ha), R.offD, R.pl, R.sto⟩, R.ok, ⟨none_of _ R.offL.1, R.offL.2⟩, R.ns, fun i x c h1 h2 h3 => ?_⟩, hdx.less fun a g => ?_, fun a ha => ?_⟩
  · obtain ⟨q1, q2, q3⟩ := R.cl i x c h1 h2 h3
    refine ⟨q1, q2, ?_⟩
    have hc : c ∉ wr := fun h => (hw _ h).2.2.2 (Or.inr ⟨i, x, h1, h2, h3⟩)
    rw [withW_out hc] at q3; exact q3
  · cases q : G a with
    | none => exact absurd q g
    | some o => rw [up a o q]; exact nofun
  · obtain ⟨o, ho⟩ := hlive a ha
    have hg : Mine.withW G wr h a = some o := by rw [withW_in ha]; exact ho
    refine ⟨(hw a ha).1, hdx.off a (hw a ha).2.1 (by rw [hg]; exact nofun), fun hf => ?_, (hw a ha).2.2.2⟩
    have := R.offG a hf; rw [hg] at this; cases this

theorem S_For {tgt iter : Expr} {body : List Stmt} {p : Pos} {Q : Fl → Loc → Sto → Prop} (h : AI C env vars gl own d iter tgt m σ fun xs P σ₁ => Loop C env vars gl own d tgt body P Q xs m σ₁)
    (hs : ∀ x, foldedSetIterable iter env x = pure x := by intro _; with_unfolding_all exact rfl) : AS C env vars gl own d (exec (.For tgt iter body [] p) env) m σ Q := fun A G D s hA R => by
  refine wpAny_For (wpAny_mono (h A G D s hA R) (fun x s₁ h₁ => wpAny_mono h₁ (fun it s₂ h₂ => ?_) fun _ _ e => e) fun _ _ e => e) hs
  obtain ⟨D₁, σ₁, xs, P, dx₁, ⟨I, fp, wr, St, rfl, W, st₀, R₁, off₁, hP₁, stay⟩, hL⟩ := h₂
  have hb := R.base
  refine codeAny_forLoop_any (fun k s' => ∃ i m' D' σ', k = xs.length - i ∧ i ≤ xs.length ∧ DX G D₁ D' ∧ St i s'.heap ∧ RelF C env vars gl own G D' m' σ' s' ∧ Off env vars G D' σ' wr ∧ P σ' ∧
      Loop C env vars gl own d tgt body P Q (xs.drop i) m' σ') ?_ (xs.length - 0) ⟨0, m, D₁, σ₁, rfl, Nat.zero_le _, DX.refl _ _, st₀, R₁, off₁, hP₁, hL⟩
  rintro k s' ⟨i, m', D', σ', rfl, hi, dx', st', R', off', hP', hL'⟩
  by_cases hlt : i < xs.length
  · have hX : xs[i]? = some xs[i] := List.getElem?_eq_getElem hlt
    rw [List.drop_eq_getElem_cons hlt] at hL'
    refine wpAny_mono (W.item i _ s' _ hX st' fun v s₁ hgo => ?_) (fun _ _ e => e) fun _ _ e => e.elim
    refine wpAny_mono (hgo _ fun h' tk hitem st₂ kept => ?_) (fun _ _ e => e) fun _ _ e => e.elim
    obtain ⟨D₂, dx₂, R₂, hv, offS⟩ := item_in (t := tk) R' dx'.sub off' kept hitem
    have off₂ := offS wr (W.live i _ st') off'
    have R₃ := R₂.withW off₂
    refine wpAny_mono (hL' A _ D₂ _ v hA R₃ hv) (fun _ s₃ q₃ => ?_) fun _ _ e => e.elim
    obtain ⟨m₃, D₃, σ₃, dx₃, R₄, hbody⟩ := q₃
    refine wpAny_mono (hbody.run hA R₄ fun f s₄ fl m₄ D₄ σ₄ dx₄ hfl R₅ q => ?_) (fun _ _ e => e) fun _ _ e => e.elim
    obtain ⟨R₆, dx₆, off₆⟩ := R₅.lessW off₂ hb (dx₃.trans dx₄) (W.live _ _ st₂)
    have cont : (P σ₄ ∧ Loop C env vars gl own d tgt body P Q (xs.drop (i + 1)) m₄ σ₄) → ∃ k', k' < xs.length - i ∧ ∃ i m' D' σ', k' = xs.length - i ∧ i ≤ xs.length ∧ DX G D₁ D' ∧ St i s₄.heap ∧ RelF C env vars gl own G D' m' σ' s₄ ∧ Off env vars G D' σ' wr ∧ P σ' ∧
      Loop C env vars gl own d tgt body P Q (xs.drop i) m' σ' := by
      rintro ⟨hP₄, hL₄⟩
      refine ⟨xs.length - (i + 1), by omega, i + 1, m₄, D₄, σ₄, rfl, hlt, (dx'.trans dx₂).trans dx₆, ?_, R₆, off₆, hP₄, hL₄⟩
      refine W.frame _ _ _ st₂ fun b hb' o e => ?_
      by_cases hbw : b ∈ wr
      · exact R₅.g b o (by rw [withW_in hbw]; exact e)
      · -- what stood at the start stands still
        have e0 : s₂.heap.get? b = some o ∨ s₂.heap.get? b = none := by
          cases q0 : s₂.heap.get? b with
          | none => exact .inr rfl
          | some o0 =>
            have e1 := stay _ _ _ _ R₂.toRelC ((dx'.trans dx₂).sub) hP' b hb' hbw o0 q0
            rw [e] at e1; cases e1; exact .inl rfl
        rcases e0 with e0 | e0
        · exact stay _ _ _ _ R₆.toRelC (((dx'.trans dx₂).trans dx₆).sub) hP₄ b hb' hbw o e0
        · exact (W.old b hb' hbw _ st₀ e0).elim
    cases f <;> cases fl <;> first | exact hfl.elim | skip
    · exact cont q
    · exact ⟨.next, m₄, D₄, σ₄, ((dx₁.trans dx').trans dx₂).trans dx₆, trivial, R₆, q⟩
    · exact cont q
    · exact ⟨.ret _, m₄, D₄, σ₄, ((dx₁.trans dx').trans dx₂).trans dx₆, hfl, R₆, q⟩
  · have hie : i = xs.length := by omega
    subst hie
    rw [List.drop_length] at hL'
    refine wpAny_mono (W.done s' _ st' fun h' tk kept => ?_) (fun _ _ e => e) fun _ _ e => e.elim
    exact wpAny_execs_nil ⟨.next, m', D', σ', dx₁.trans dx', trivial, R'.keepBut tk off' kept, hL'⟩
end
end Mine

set_option autoImplicit false
set_option linter.unusedVariables false
namespace Mine
open PySem

def ownerNames : List String := ["enumerate", "zip", "dict_itemiterator", "dict_reverseitemiterator", "odict_iterator", "itertools.zip_longest", "itertools.pairwise"]

theorem letOwned_plain {M : Model} {A : Around} {E : Value → Shared → Prop} {s : Shared} {tgt : Expr} {I : Addr} {v : Value} {o : Obj} {n : String} {Q : Unit → Shared → Prop}
    (ho : s.heap.get? I = some o) (hc : o.cls = .type n) (hn : ownerNames.contains n = false) (h : Q () s) : wpAny M A (letOwnedTupleGo tgt (.ref I) v) Q E s := by
  unfold letOwnedTupleGo
  have key : wpAny M A (match v with
      | .ref a => (do
        let o ← load I
        match o.cls, o.data with
        | .type n, .fields vs =>
          if (ownerNames.contains n && vs[0]? == some (rawInt a)) = true then do
            rule "for.unpacks-the-owned-tuple"
            updateField I 0 .none
          else pure ()
        | _, _ => pure () : Sem Unit)
      | _ => pure ()) Q E s := by
    cases v with
    | ref a =>
      refine wpAny_bind (wpAny_load ho ?_)
      rw [hc]
      cases o.data <;> dsimp only <;> first | exact wpAny_pure h | (rw [hn]; exact wpAny_pure h)
    | _ => exact wpAny_pure h
  cases tgt <;> first | exact wpAny_pure h | (cases v <;> first | exact wpAny_pure h | exact key)

section
variable {C : Cx} {env : Env} {vars : List Str} {gl : List (Str × V)} {own : Bool} {d : Nat} {m m' : Loc} {σ σ' : Sto}
variable {A : Around} {G D D₀ D₁ : Gh} {s : Shared} {Q : List V → (Sto → Prop) → Sto → Prop}

theorem IW.ofWalks {tgt : Expr} {I : Addr} {fp wr : List Addr} {n : Nat} {Pw : Nat → Value → Prop} {St : Nat → Heap → Prop} {xs : List V} (W : Walks C.prog C.w A I fp wr n Pw St) (hn : n = xs.length)
    (hx : ∀ (i : Nat) v X, Pw i v → xs[i]? = some X → VR C.w D v X) (hl : ∀ i h, St i h → ∀ a ∈ wr, ∃ o, h.get? a = some o)
    (hold : ∀ b ∈ fp, b ∉ wr → ∀ h : Heap, St 0 h → h.get? b = none → False)
    (hc : ∀ i h, St i h → ∃ o n, h.get? I = some o ∧ o.cls = .type n ∧ ownerNames.contains n = false) : IW C A tgt I fp wr D xs St where
  live := hl
  sub := W.sub
  old := hold
  frame := W.frame
  item := fun i X s K hX st h => W.item i s K _ (by rw [hn]; exact (List.getElem?_eq_some_iff.mp hX).1) st fun v h' tk hP st' hk => h v _ fun Q' q => by
    obtain ⟨o, nm, ho, hcl, hno⟩ := hc _ _ st'
    exact letOwned_plain ho hcl hno (q h' tk (.inl (hx i v X hP hX)) st' hk)
  self := fun i s K st h => W.self i s K _ st h
  done := fun s K st h => W.done s K _ (by rw [hn]; exact st) fun h' tk hk => h h' tk hk

inductive Has (σ : Sto) : V → AO → (Sto → Prop) → Prop
  | lst (xs : List V) : Has σ (.lst xs) (.list xs) (fun _ => True)
  | dct (es : List (V × V)) : Has σ (.dct es) (.dict es) (fun _ => True)
  | refL {a : Addr} {o : Obj} {xs : List V} : (a, o, AO.list xs) ∈ σ → Has σ (.ref a) (.list xs) (fun σ' => (a, o, AO.list xs) ∈ σ')
  | refD {a : Addr} {o : Obj} {es : List (V × V)} : (a, o, AO.dict es) ∈ σ → Has σ (.ref a) (.dict es) (fun σ' => (a, o, AO.dict es) ∈ σ')

theorem Has.run {x : V} {ao : AO} {P : Sto → Prop} (h : Has σ x ao P) (R : RelC C G D σ s) {v : Value} (hv : VR C.w D v x) :
    ∃ a o, v = .ref a ∧ s.heap.get? a = some o ∧ HR C.w D o ao ∧ P σ ∧ ∀ G' D' σ' (s' : Shared), RelC C G' D' σ' s' → Sub D D' → P σ' → s'.heap.get? a = some o := by
  cases h with
  | lst xs => cases hv with | lst e r => exact ⟨_, _, rfl, R.d _ _ e, ⟨_, _, rfl, by simpa using r⟩, trivial, fun G' D' σ' s' R' hs _ => R'.d _ _ (hs _ _ e)⟩
  | dct xs => cases hv with | dct e r => exact ⟨_, _, rfl, R.d _ _ e, ⟨_, _, rfl, by simpa using r⟩, trivial, fun G' D' σ' s' R' hs _ => R'.d _ _ (hs _ _ e)⟩
  | refL hm => cases hv; exact ⟨_, _, rfl, R.pl _ hm, R.sto _ hm, hm, fun G' D' σ' s' R' hs hm' => R'.pl _ hm'⟩
  | refD hm => cases hv; exact ⟨_, _, rfl, R.pl _ hm, R.sto _ hm, hm, fun G' D' σ' s' R' hs hm' => R'.pl _ hm'⟩

theorem Has.isList {x : V} {xs : List V} {P : Sto → Prop} (h : Has σ x (.list xs) P) (R : RelC C G D σ s) {v : Value} (hv : VR C.w D v x) :
    ∃ a vs n, v = .ref a ∧ s.heap.get? a = some (lstO vs n) ∧ VRs C.w D vs.toList xs := by
  obtain ⟨a, o, rfl, ho, ⟨vs, n, rfl, hr⟩, _⟩ := h.run R hv
  exact ⟨a, vs, n, rfl, ho, hr⟩

/-- a fresh place is nobody's -/
theorem RelF.offNew (R : RelF C env vars gl own G D m σ s) (o : Obj) : Off env vars G D σ [s.heap.objs.size] := fun a ha => by
  simp at ha; subst ha
  refine ⟨?_, R.toRelC.new_D, R.toRelC.new_notFoot, fun hm => ?_⟩
  · exact R.toRelC.new_G
  · obtain ⟨o, e⟩ := R.mineLives hm; exact Nat.lt_irrefl _ (Heap.lt_size e)

theorem RelF.push (R : RelF C env vars gl own G D m σ s) (o : Obj) : RelF C env vars gl own G D m σ { s with heap := s.heap.push o } := R.back (R.lifted.push o) (DX.refl _ _)

theorem AI_list {iter tgt : Expr} (h : AT C env vars gl own d (eval iter env) m σ fun X σ₁ => ∃ xs P, Has σ₁ X (.list xs) P ∧ Q xs P σ₁) : AI C env vars gl own d iter tgt m σ Q := fun A G D s hA R =>
  h.run hA R fun v s₁ X D₁ σ₁ a b c ⟨xs, P, hH, q⟩ => by
    obtain ⟨ax, o, rfl, ho, ⟨vs, n, rfl, hr⟩, hP, hst⟩ := hH.run c.toRelC b
    have hl : s₁.heap.IsList ax vs := ⟨_, ho, rfl, n, rfl⟩
    have hne : ax ≠ s₁.heap.objs.size := Nat.ne_of_lt (Heap.lt_size ho)
    refine wpAny_pyIter_list hl ⟨D₁, σ₁, xs, P, a, ⟨s₁.heap.objs.size, _, _, _, rfl, IW.ofWalks (Walks.list hA.h s₁.heap.objs.size ax hne vs) (by rw [← hr.length]; simp) ?_ ?_ ?_ ?_, ⟨⟨_, Heap.get?_push_size _ rfl, rfl, rfl⟩, hl.push _⟩, c.push _, c.offNew (lstO #[] 0), hP, ?_⟩, q⟩
    · intro i u X e hX
      obtain ⟨u', e', r⟩ := hr.get hX
      rw [Array.getElem?_toList, e] at e'; cases e'; exact r
    · rintro i h ⟨⟨o, ho, _⟩, _⟩ a ha; simp at ha; subst ha; exact ⟨o, ho⟩
    · rintro b hb hbw h ⟨_, o, ho, _⟩ e
      simp at hb hbw
      rcases hb with rfl | rfl
      · exact hbw rfl
      · rw [ho] at e; cases e
    · rintro i h ⟨⟨o, ho, hc, _⟩, _⟩; exact ⟨o, _, ho, hc, by decide⟩
    · intro G' D' σ' s' R' hs hP' b hb hbw o' e
      simp at hb hbw
      rcases hb with rfl | rfl
      · exact absurd rfl hbw
      · rw [Heap.get?_push_of_some _ ho] at e; cases e; exact hst G' D' σ' s' R' hs hP'

theorem AI_tuple {iter tgt : Expr} (h : AT C env vars gl own d (eval iter env) m σ fun X σ₁ => ∃ xs, X = .tup xs ∧ Q xs (fun _ => True) σ₁) : AI C env vars gl own d iter tgt m σ Q := fun A G D s hA R =>
  h.run hA R fun v s₁ X D₁ σ₁ a b c ⟨xs, hX, q⟩ => by
    subst hX
    cases b with
    | tup e hc hd hr =>
      rename_i ax o vs n
      have ho := c.d _ _ e
      have ht : s₁.heap.IsTuple ax vs.toArray := ⟨_, ho, hc, n, hd⟩
      have hne : ax ≠ s₁.heap.objs.size := Nat.ne_of_lt (Heap.lt_size ho)
      refine wpAny_pyIter_tuple ht ⟨D₁, σ₁, xs, fun _ => True, a, ⟨s₁.heap.objs.size, _, _, _, rfl, IW.ofWalks (Walks.tuple hA.h s₁.heap.objs.size ax hne vs.toArray) (by rw [← hr.length]; simp) ?_ ?_ ?_ ?_, ⟨⟨_, Heap.get?_push_size _ rfl, rfl, rfl⟩, ht.at fun o e => Heap.get?_push_of_some _ e⟩, c.push _, c.offNew (lstO #[] 0), trivial, ?_⟩, q⟩
      · intro i u X e hX
        obtain ⟨u', e', r⟩ := hr.get hX
        have e2 : vs[i]? = some u := by simpa using e
        rw [e2] at e'; cases e'; exact r
      · rintro i h ⟨⟨o, ho, _⟩, _⟩ a ha; simp at ha; subst ha; exact ⟨o, ho⟩
      · rintro b hb hbw h ⟨_, o, ho9, _⟩ e9
        simp at hb hbw
        rcases hb with rfl | rfl
        · exact hbw rfl
        · rw [ho9] at e9; cases e9
      · rintro i h ⟨⟨o, ho, hc, _⟩, _⟩; exact ⟨o, _, ho, hc, by decide⟩
      · intro G' D' σ' s' R' hs hP' b hb hbw o' e'
        simp at hb hbw
        rcases hb with rfl | rfl
        · exact absurd rfl hbw
        · rw [Heap.get?_push_of_some _ ho] at e'; cases e'; exact R'.d _ _ (hs _ _ e)

def rangeL (a c : Int) (n : Nat) : List V := (List.range n).map fun (i : Nat) => V.int (a + (i : Int) * c)
theorem AI_range {iter tgt : Expr} (h : AT C env vars gl own d (eval iter env) m σ fun X σ₁ => ∃ (a b c : Int) (n : Nat), X = .rng a b c ∧ Builtin.Range.small a b c = true ∧ Builtin.Range.rangeSize a b c = (n : Int) ∧ Q (rangeL a c n) (fun _ => True) σ₁) :
    AI C env vars gl own d iter tgt m σ Q := fun A G D s hA R =>
  h.run hA R fun v s₁ X D₁ σ₁ dx b c ⟨x, y, z, n, hX, hsm, hsz, q⟩ => by
    subst hX
    cases b with
    | rng e =>
      have ho := c.d _ _ e
      refine wpAny_pyIter_range ho hsm ⟨D₁, σ₁, _, fun _ => True, dx, ⟨s₁.heap.objs.size, _, _, _, rfl, IW.ofWalks (Walks.range hA.h s₁.heap.objs.size x z n) (by simp [rangeL]) ?_ ?_ ?_ ?_, ?_, c.push _, c.offNew (lstO #[] 0), trivial, ?_⟩, q⟩
      · rintro i u X ⟨t, rfl⟩ hX
        have hlt : i < n := by simpa [rangeL] using (List.getElem?_eq_some_iff.mp hX).1
        simp [rangeL, hlt] at hX
        subst hX
        exact .int _ _
      · rintro i h st a ha; simp at ha; subst ha; exact ⟨_, st⟩
      · rintro b hb hbw h _ e; exact hbw hb
      · rintro i h st; exact ⟨_, _, st, rfl, by decide⟩
      · show IsRangeIter _ _ _ _ _
        rw [hsz]; simpa using Heap.get?_push_size _ rfl
      · intro G' D' σ' s' R' hs hP' b hb hbw o' e'
        exact absurd hb hbw
end
end Mine

set_option autoImplicit false
set_option linter.unusedVariables false
namespace Mine
open PySem

/-! ## what a comprehension captures -/
def clOf (env : Env) : List (Str × NameKind) → List (Str × Addr) → List (Str × Addr)
  | [], acc => acc
  | (n, k) :: r, acc => if k == .free then (match env.cells.lookup n with
      | some c => clOf env r ((n, c) :: acc)
      | none => clOf env r acc) else clOf env r acc

theorem closureFor_eq {sc : Scope} {env : Env} (h : ∀ x ∈ sc.names, x.2 = .free → ∃ c, env.cells.lookup x.1 = some c) : closureFor sc env = pure (clOf env sc.names []) := by
  have key : ∀ (names : List (Str × NameKind)) (acc : List (Str × Addr)) (f : Str × NameKind → List (Str × Addr) → Sem (ForInStep (List (Str × Addr)))),
      (∀ n k a, f (n, k) a = if k == .free then (do let c ← cellOf env n; pure (.yield ((n, c) :: a))) else pure (.yield a)) → (∀ x ∈ names, x.2 = .free → ∃ c, env.cells.lookup x.1 = some c) →
      forIn names acc f = pure (clOf env names acc) := by
    intro names
    induction names with
    | nil => intro acc f _ _; rw [List.forIn_nil]; rfl
    | cons p r ih =>
      obtain ⟨n, k⟩ := p
      intro acc f hf hx
      rw [List.forIn_cons, hf]
      unfold clOf
      cases hk : (k == NameKind.free) with
      | false =>
        simp only [Bool.false_eq_true, if_false, pure_bind]
        exact ih acc f hf fun x h => hx x (.tail _ h)
      | true =>
        obtain ⟨c, hc⟩ := hx (n, k) (.head _) (beq_iff_eq.mp hk)
        simp only [if_true, cellOf, hc, pure_bind]
        exact ih _ f hf fun x h => hx x (.tail _ h)
  unfold closureFor
  show (forIn sc.names ([] : List (Str × Addr)) _ >>= fun cs => pure cs) = _
  rw [key sc.names [] _ (fun n k a => by cases hk : (k == NameKind.free) <;> simp [hk]) h]
  rfl

theorem clOf_mem {env : Env} {n : Str} {c : Addr} : ∀ {names : List (Str × NameKind)} {acc : List (Str × Addr)}, (n, c) ∈ clOf env names acc → (n, c) ∈ acc ∨ ((n, NameKind.free) ∈ names ∧ env.cells.lookup n = some c)
  | [], _, h => .inl h
  | (y, k) :: r, acc, h => by
    unfold clOf at h
    cases hk : (k == NameKind.free) with
    | false =>
      rw [hk] at h
      simp only [Bool.false_eq_true, if_false] at h
      exact (clOf_mem h).imp id fun q => ⟨.tail _ q.1, q.2⟩
    | true =>
      rw [hk] at h
      simp only [if_true] at h
      cases hc : env.cells.lookup y with
      | none => rw [hc] at h; exact (clOf_mem h).imp id fun q => ⟨.tail _ q.1, q.2⟩
      | some c' =>
        rw [hc] at h
        rcases clOf_mem h with q | q
        · rcases List.mem_cons.mp q with e | q
          · cases e; rw [← beq_iff_eq.mp hk]; exact .inr ⟨.head _, hc⟩
          · exact .inl q
        · exact .inr ⟨.tail _ q.1, q.2⟩
theorem clOf_keys {env : Env} : ∀ {names : List (Str × NameKind)} {acc : List (Str × Addr)}, (names.map (·.1)).Nodup → (acc.map (·.1)).Nodup → (∀ n ∈ acc.map (·.1), n ∉ names.map (·.1)) → ((clOf env names acc).map (·.1)).Nodup
  | [], _, _, h, _ => h
  | (y, k) :: r, acc, h1, h2, h3 => by
    have h1' := List.nodup_cons.mp h1
    have h3' : ∀ n ∈ acc.map (·.1), n ∉ r.map (·.1) := fun n hn q => h3 n hn (.tail _ q)
    have hy : y ∉ acc.map (·.1) := fun q => h3 y q (.head _)
    unfold clOf
    split
    · split
      · refine clOf_keys h1'.2 (List.nodup_cons.mpr ⟨hy, h2⟩) fun n hn => ?_
        rcases List.mem_cons.mp hn with rfl | hn
        · exact h1'.1
        · exact h3' n hn
      · exact clOf_keys h1'.2 h2 h3'
    · exact clOf_keys h1'.2 h2 h3'
theorem lookup_of_nodup {l : List (Str × Addr)} (hn : (l.map (·.1)).Nodup) {n : Str} {c : Addr} (h : (n, c) ∈ l) : l.lookup n = some c := by
  induction l with
  | nil => cases h
  | cons p r ih =>
    obtain ⟨y, b⟩ := p
    have hn' := List.nodup_cons.mp hn
    rcases List.mem_cons.mp h with e | h
    · cases e; simp [List.lookup_cons]
    · have hne : n ≠ y := fun e => hn'.1 (e ▸ List.mem_map.mpr ⟨(n, c), h, rfl⟩)
      rw [List.lookup_cons]
      have hb : (n == y) = false := beq_eq_false_iff_ne.mpr hne
      rw [hb]; exact ih hn'.2 h
theorem clOf_has {env : Env} {n : Str} {c : Addr} : ∀ {names : List (Str × NameKind)} {acc : List (Str × Addr)}, ((n, NameKind.free) ∈ names ∧ env.cells.lookup n = some c) ∨ (n, c) ∈ acc → (n, c) ∈ clOf env names acc
  | [], _, h => h.elim (fun q => by cases q.1) id
  | (y, k) :: r, acc, h => by
    unfold clOf
    cases hk : (k == NameKind.free) with
    | false =>
      simp only [Bool.false_eq_true, if_false]
      refine clOf_has (h.imp (fun q => ⟨?_, q.2⟩) id)
      rcases List.mem_cons.mp q.1 with e | e
      · cases e; exact absurd hk (by decide)
      · exact e
    | true =>
      simp only [if_true]
      cases hc : env.cells.lookup y with
      | none =>
        refine clOf_has (h.imp (fun q => ⟨?_, q.2⟩) id)
        rcases List.mem_cons.mp q.1 with e | e
        · cases e; rw [hc] at q; cases q.2
        · exact e
      | some c' =>
        refine clOf_has ?_
        rcases h with q | q
        · rcases List.mem_cons.mp q.1 with e | e
          · cases e; have q2 := q.2; rw [hc] at q2; cases q2; exact .inr (.head _)
          · exact .inl ⟨e, q.2⟩
        · exact .inr (.tail _ q)

theorem mem_of_lookupK {α : Type} : ∀ {l : List (Str × α)} {n : Str} {c : α}, l.lookup n = some c → (n, c) ∈ l := mem_of_lookup

theorem lookup_relabel {env : Env} (hf : env.scope.kind = .function) : ∀ {names : List (Str × NameKind)} {x : Str} {k : NameKind}, names.lookup x = some k →
    (names.map fun (n, k) => if (k == NameKind.free && env.scope.kind == .function && env.kindOf n == some .cell) then (n, NameKind.cell) else (n, k)).lookup x = some (if k == .free && env.kindOf x == some .cell then .cell else k)
  | [], _, _, h => by simp at h
  | (n, k') :: r, x, k, h => by
    rw [List.lookup_cons] at h
    show List.lookup x ((if (k' == NameKind.free && env.scope.kind == .function && env.kindOf n == some .cell) = true then (n, NameKind.cell) else (n, k')) :: _) = _
    cases hx : x == n with
    | true =>
      rw [hx] at h; cases h
      have e := beq_iff_eq.mp hx; subst e
      rw [hf]
      by_cases hc : (k' == NameKind.free && env.kindOf x == some .cell) = true
      · have hc' : (k' == NameKind.free && (ScopeKind.function == ScopeKind.function) && env.kindOf x == some .cell) = true := by simpa using hc
        rw [if_pos hc', if_pos hc]; simp
      · have hc' : ¬ (k' == NameKind.free && (ScopeKind.function == ScopeKind.function) && env.kindOf x == some .cell) = true := by simpa using hc
        rw [if_neg hc', if_neg hc]; simp
    | false =>
      rw [hx] at h
      have ih := lookup_relabel hf h
      by_cases hc : (k' == NameKind.free && env.scope.kind == .function && env.kindOf n == some .cell) = true
      · rw [if_pos hc, List.lookup_cons]
        show (match x == n with | true => _ | false => _) = _
        rw [hx]; exact ih
      · rw [if_neg hc, List.lookup_cons]
        show (match x == n with | true => _ | false => _) = _
        rw [hx]; exact ih

def compOk (sc osc : Scope) (vars locals caps gl : List Str) : Bool :=
  sc.kind == .function && nodupB (sc.names.map (·.1)) && nodupB (locals ++ caps) &&
  sc.names.all (fun p => !(p.2 == .cell) && (!(p.2 == .free) || caps.contains p.1)) &&
  locals.all (fun x => !(x == ("__debug__" : Str)) && sc.names.lookup x == some .local) &&
  caps.all (fun x => !(x == ("__debug__" : Str)) && sc.names.lookup x == some .free && osc.names.lookup x == some .cell && vars.contains x) &&
  gl.all fun x => !(x == ("__debug__" : Str)) && sc.names.lookup x == some .globalImplicit

inductive Caps : List Str → Loc → List Str → Loc → Prop
  | nil {vars : List Str} {m : Loc} : Caps vars m [] []
  | cons {vars : List Str} {m : Loc} {x : Str} {X : V} {cs : List Str} {ms : Loc} : Lk vars m x X → Caps vars m cs ms → Caps vars m (x :: cs) (some X :: ms)
  | skip {vars : List Str} {m : Loc} {x : Str} {cs : List Str} {ms : Loc} : Caps vars m cs ms → Caps vars m (x :: cs) (none :: ms)
theorem Caps.get {vars : List Str} {m : Loc} {cs : List Str} {ms : Loc} (h : Caps vars m cs ms) : ∀ {i : Nat} {x : Str} {X : V}, cs[i]? = some x → ms[i]? = some (some X) → Lk vars m x X := by
  induction h with
  | nil => intro i x X h; simp at h
  | cons hl _ ih =>
    intro i x X h1 h2
    cases i with
    | zero => simp at h1 h2; subst h1 h2; exact hl
    | succ i => exact ih (by simpa using h1) (by simpa using h2)
  | skip _ ih =>
    intro i x X h1 h2
    cases i with
    | zero => simp at h2
    | succ i => exact ih (by simpa using h1) (by simpa using h2)
theorem Caps.len {vars : List Str} {m : Loc} {cs : List Str} {ms : Loc} (h : Caps vars m cs ms) : cs.length = ms.length := by induction h <;> simp_all

section
variable {C : Cx} {env : Env} {vars : List Str} {gl gl' : List (Str × V)} {own : Bool} {d : Nat} {m m' : Loc} {σ σ' : Sto}
variable {A : Around} {G D D₀ D₁ : Gh} {s : Shared}

/-- the tests of a comprehension -/
def ATs (C : Cx) (env : Env) (vars : List Str) (gl : List (Str × V)) (own : Bool) (d : Nat) : List Expr → Loc → Sto → (Bool → Sto → Prop) → Prop
  | [], m, σ, K => K true σ
  | [c], m, σ, K => AB C env vars gl own d (isTrue c env (eval c env)) m σ K
  | _, _, _, _ => False

def CompL (C : Cx) (env : Env) (vars : List Str) (gl : List (Str × V)) (d : Nat) (tgt elt : Expr) (ifs : List Expr) (P : Sto → Prop) (Q : List V → Sto → Prop) : List V → List V → Loc → Sto → Prop
  | [], acc, m, σ => Q acc σ
  | X :: xs, acc, m, σ => AA C env vars gl false d (assign tgt env) X m σ fun m₁ σ₁ => ATs C env vars gl false d ifs m₁ σ₁ fun b σ₂ =>
    (b = true → AT C env vars gl false d (eval elt env) m₁ σ₂ fun Y σ₃ => P σ₃ ∧ CompL C env vars gl d tgt elt ifs P Q xs (acc ++ [Y]) m₁ σ₃) ∧
    (b = false → P σ₂ ∧ CompL C env vars gl d tgt elt ifs P Q xs acc m₁ σ₂)

theorem ATs.run {ifs : List Expr} {K : Bool → Sto → Prop} (h : ATs C env vars gl own d ifs m σ K) (hA : AOk A d) (R : RelF C env vars gl own G D m σ s) :
    wpAny C.M A (forIn ifs true fun c r => if r = true then do let ok ← isTrue c env (eval c env); pure (ForInStep.yield ok) else pure (ForInStep.yield r)) (PostB C env vars gl own G D m K) (fun _ _ => False) s := by
  match ifs, h with
  | [], h => exact wpAny_tests_nil ⟨D, σ, DX.refl _ _, R, h⟩
  | [c], h => exact wpAny_tests_one (h A G D s hA R)
  | _ :: _ :: _, h => exact h.elim

/-- the loop of a comprehension, in its own frame -/
theorem comp_loop {elt tgt iter : Expr} {ifs : List Expr} {scope : Scope} {pos : Pos} {I acc : Addr} {fp wr : List Addr} {xs : List V} {St : Nat → Heap → Prop} {P : Sto → Prop} {Q : List V → Sto → Prop}
    {R' : Result → Shared → Prop} (W : IW C A tgt I fp wr D₀ xs St) (hA : AOk A d) (hsz : xs.length ≤ sizeLine) (hst : St 0 s.heap) (R : RelF C env vars gl false G D m σ s) (hD : Sub D₀ D)
    (hoff : Off env vars G D σ (acc :: wr)) (haw : acc ∉ wr) (haf : acc ∉ fp) (hacc : s.heap.get? acc = some (lstO #[] 0)) (hP : P σ) (hstay : Stay C D₀ P s.heap fp wr)
    (hL : CompL C env vars gl d tgt elt ifs P Q xs [] m σ)
    (hQ : ∀ s' D' σ' m' vs n ys, DX G D D' → RelF C env vars gl false G D' m' σ' s' → Off env vars G D' σ' [acc] → s'.heap.get? acc = some (lstO vs n) → VRs C.w D' vs.toList ys → Q ys σ' → R' (.ok .next) s') :
    codeAny C.M A (.compLoop (.ListComp elt [⟨tgt, iter, ifs, 0⟩] scope pos) 0 (.ref I) (.ref acc) env) R' s := by
  refine codeAny_loop rfl (fun k s' => ∃ i m' D' σ' ys vs n, k = xs.length + 1 - i ∧ i ≤ xs.length ∧ ys.length ≤ i ∧ DX G D D' ∧ St i s'.heap ∧ RelF C env vars gl false G D' m' σ' s' ∧ Off env vars G D' σ' (acc :: wr) ∧ P σ' ∧
    s'.heap.get? acc = some (lstO vs n) ∧ VRs C.w D' vs.toList ys ∧ CompL C env vars gl d tgt elt ifs P Q (xs.drop i) ys m' σ') ?_ (xs.length + 1 - 0)
    ⟨0, m, D, σ, [], #[], 0, rfl, Nat.zero_le _, Nat.zero_le _, DX.refl _ _, hst, R, hoff, hP, hacc, .nil, hL⟩
  rintro k s' ⟨i, m', D', σ', ys, vs, n, rfl, hi, hys, dx', st', R₁, off', hP', hac', hvs', hL'⟩
  show wpAny _ A ((compTurn (.ListComp elt [⟨tgt, iter, ifs, 0⟩] scope pos) 0 (.ref I) (.ref acc) env).onRaise (fun x => do noteFrame x env; theTreesLotGoes x)) _ _ s'
  refine wpAny_noted ?_
  rw [compTurn_list]
  refine wpAny_bind (wpAny_standAt (wpAny_bind ?_))
  have offw : Off env vars G D' σ' wr := fun a ha => off' a (.tail _ ha)
  by_cases hlt : i < xs.length
  · have hX : xs[i]? = some xs[i] := List.getElem?_eq_getElem hlt
    rw [List.drop_eq_getElem_cons hlt] at hL'
    refine wpAny_mono (W.item i _ s' _ hX st' fun v s₁ hgo => ?_) (fun _ _ e => e) fun _ _ e => e.elim
    refine wpAny_bind (wpAny_mono (hgo _ fun h' tk hitem st₂ kept => ?_) (fun _ _ e => e) fun _ _ e => e.elim)
    obtain ⟨D₂, dx₂, R₂, hv, offS⟩ := item_in (t := tk) R₁ (hD.trans dx'.sub) offw kept hitem
    have hac₂ : h'.get? acc = some (lstO vs n) := kept acc _ haw hac'
    have offa : Off env vars G D₂ σ' (acc :: wr) := offS _ (fun a ha => by
      rcases List.mem_cons.mp ha with rfl | ha
      · exact ⟨_, hac'⟩
      · exact W.live i _ st' a ha) off'
    have R₃ := R₂.withW offa
    have live₂ : ∀ a ∈ acc :: wr, ∃ o, h'.get? a = some o := fun a ha => by
      rcases List.mem_cons.mp ha with rfl | ha
      · exact ⟨_, hac₂⟩
      · exact W.live _ _ st₂ a ha
    have stOk : ∀ {G₅ D₅ σ₅ m₅} {s₅ : Shared}, RelF C env vars gl false (withW G (acc :: wr) h') D₅ m₅ σ₅ s₅ → Sub D₀ D₅ → P σ₅ → RelC C G₅ D₅ σ₅ s₅ → St (i + 1) s₅.heap := by
      intro G₅ D₅ σ₅ m₅ s₅ R₅ hs₅ hP₅ RC₅
      refine W.frame _ _ _ st₂ fun b hb' o e => ?_
      by_cases hbw : b ∈ wr
      · exact R₅.g b o (by rw [withW_in (.tail _ hbw)]; exact e)
      · cases q0 : s.heap.get? b with
        | none => exact (W.old b hb' hbw _ hst q0).elim
        | some o0 =>
          have e1 := hstay _ _ _ _ R₂.toRelC ((hD.trans dx'.sub).trans dx₂.sub) hP' b hb' hbw o0 q0
          have e2 : h'.get? b = some o0 := e1
          rw [e] at e2; cases e2
          exact hstay _ _ _ _ RC₅ hs₅ hP₅ b hb' hbw o q0
    refine wpAny_bind (wpAny_mono (hL' A _ D₂ _ v hA R₃ hv) (fun _ s₃ q₃ => ?_) fun _ _ e => e.elim)
    obtain ⟨m₃, D₃, σ₃, dx₃, R₄, htests⟩ := q₃
    refine wpAny_bind (wpAny_mono (htests.run hA R₄) (fun ok s₄ q₄ => ?_) fun _ _ e => e.elim)
    obtain ⟨D₄, σ₄, dx₄, R₅, q₅⟩ := q₄
    cases ok with
    | false =>
      obtain ⟨hP₅, hL₅⟩ := q₅.2 rfl
      obtain ⟨R₆, dx₆, off₆⟩ := R₅.lessW offa R.base (dx₃.trans dx₄) live₂
      have hac₅ : s₄.heap.get? acc = some (lstO vs n) := R₅.g acc _ (by rw [withW_in (.head _)]; exact hac₂)
      have hsub : Sub D' D₄ := (dx₂.trans dx₆).sub
      exact wpAny_pure ⟨rfl, xs.length + 1 - (i + 1), by omega, i + 1, m₃, D₄, σ₄, ys, vs, n, rfl, hlt, by omega, (dx'.trans dx₂).trans dx₆, stOk R₅ ((hD.trans dx'.sub).trans hsub) hP₅ R₆.toRelC, R₆, off₆, hP₅, hac₅, hvs'.mono hsub, hL₅⟩
    | true =>
      refine wpAny_bind (wpAny_bind ((q₅.1 rfl).run hA R₅ fun y s₅ Y D₅ σ₅ dx₅ hy R₆ q₆ => ?_) |> fun h => wpAny_mono h (fun _ _ e => e) fun _ _ e => e.elim)
      obtain ⟨hP₆, hL₆⟩ := q₆
      obtain ⟨R₇, dx₇, off₇⟩ := R₆.lessW offa R.base ((dx₃.trans dx₄).trans dx₅) live₂
      have hac₅ : s₅.heap.get? acc = some (lstO vs n) := R₆.g acc _ (by rw [withW_in (.head _)]; exact hac₂)
      have hsub : Sub D' D₅ := (dx₂.trans dx₇).sub
      have hvs₅ := hvs'.mono hsub
      have hvl : vs.size = ys.length := by rw [← hvs₅.length]; simp
      refine wpAny_bind (wpAny_list_append_plain (hsz := by omega) ⟨n, hac₅⟩ fun h₆ hl₆ hs₆ => ?_)
      obtain ⟨n₆, hl₆⟩ := hl₆
      have R₈ : RelF C env vars gl false G D₅ m₃ σ₅ { s₅ with heap := h₆ } := by
        have := R₇.keepBut (h' := h₆) s₅.toks (wr := [acc]) (fun a ha => by simp at ha; subst ha; exact off₇ a (.head _)) fun b o hb e => hs₆.extBut b o (by simpa using hb) e
        exact this
      have st₇ := stOk (s₅ := s₅) R₆ ((hD.trans dx'.sub).trans hsub) hP₆ R₇.toRelC
      refine wpAny_pure (wpAny_pure ⟨rfl, xs.length + 1 - (i + 1), by omega, i + 1, m₃, D₅, σ₅, ys ++ [Y], vs.push y, n₆, rfl, hlt, by simp; omega, (dx'.trans dx₂).trans dx₇, ?_, R₈, off₇, hP₆, hl₆, ?_, hL₆⟩)
      · refine W.frame _ _ _ st₇ fun b hb o e => hs₆.extBut b o ?_ e
        rintro rfl
        exact haf hb
      · rw [Array.toList_push]
        exact hvs₅.append (.cons hy .nil)
  · have hie : i = xs.length := by omega
    subst hie
    rw [List.drop_length] at hL'
    refine wpAny_mono (W.done s' _ st' fun h' tk kept => ?_) (fun _ _ e => e) fun _ _ e => e.elim
    refine wpAny_pure (hQ _ D' σ' m' vs n ys dx' (R₁.keepBut tk offw kept) (fun a ha => off' a (by simp at ha; subst ha; exact .head _)) (kept acc _ haw hac') hvs' hL')
end
end Mine
namespace Mine
open PySem
section
variable {C : Cx} {env : Env} {vars : List Str} {gl gl' : List (Str × V)} {own : Bool} {d : Nat} {m m' : Loc} {σ σ' : Sto}
variable {A : Around} {G D D₀ D₁ : Gh} {s : Shared}

theorem RelC.addL (R : RelC C G D σ s) {a : Addr} {vs : Array Value} {n : Nat} {ys : List V} (h1 : G a = none) (h2 : D a = none) (h3 : a ∉ foot σ) (ho : s.heap.get? a = some (lstO vs n)) (hr : VRs C.w D vs.toList ys) :
    RelC C G D ((a, lstO vs n, .list ys) :: σ) s where
  same := R.same
  g := R.g
  d := R.d
  base := R.base
  nd := List.nodup_cons.mpr ⟨h3, R.nd⟩
  offG := fun b hb => by
    rcases List.mem_cons.mp hb with rfl | hb
    · exact h1
    · exact R.offG b hb
  offD := fun b hb => by
    rcases List.mem_cons.mp hb with rfl | hb
    · exact h2
    · exact R.offD b hb
  pl := fun p hp => by
    rcases List.mem_cons.mp hp with rfl | hp
    · exact ho
    · exact R.pl p hp
  sto := fun p hp => by
    rcases List.mem_cons.mp hp with rfl | hp
    · exact ⟨vs, n, rfl, hr⟩
    · exact R.sto p hp

/-- the whole of a comprehension: what stands at its end -/
theorem comp_whole {elt tgt iter : Expr} {ifs : List Expr} {scope : Scope} {pos pos' : Pos} {locals caps : List Str} {ms : Loc} {use : Option (Value → Sem Unit)} {K : Value → Shared → Prop} {Q : List V → Sto → Prop}
    (hA : AOk A d) (R : RelF C env vars gl own G D m σ s) (hok : compOk scope env.scope vars locals caps (gl'.map (·.1)) = true) (hgl : ∀ p ∈ gl', GlobR C p.1 p.2) (hcaps : Caps vars m caps ms)
    (h : AI C env vars gl own d iter tgt m σ fun xs P σ₁ => xs.length ≤ sizeLine ∧ ∀ env', env'.scope = relabel scope env → CompL C env' (locals ++ caps) gl' d tgt elt ifs P Q xs [] ((locals.map fun _ => none) ++ ms) σ₁)
    (hs : ∀ x, foldedSetIterable iter env x = pure x)
    (hK : ∀ s' D' σ' a vs n ys L mm, DX G D D' → RelF C env vars gl own G D' m ((a, lstO vs n, .list ys) :: σ') s' → Off env vars G D' ((a, lstO vs n, .list ys) :: σ') [L] → s'.heap.Ns L mm → Q ys σ' → compPost C.M A (fun _ _ => False) use K (.ref a) L (.ok .next) s') :
    wpAny C.M A (comprehension (.ListComp elt [⟨tgt, iter, ifs, 0⟩] scope pos) scope env pos' (newList []) false (eval iter env) use) K (fun _ _ => False) s := by
  simp only [compOk, Bool.and_eq_true, Bool.not_eq_true', beq_iff_eq, Bool.or_eq_true] at hok
  obtain ⟨⟨⟨⟨⟨⟨k1, k2⟩, k3⟩, k4⟩, k5⟩, k6⟩, k7⟩ := hok
  have ndN : (scope.names.map (·.1)).Nodup := nodupB_ok k2
  have ndV : (locals ++ caps).Nodup := nodupB_ok k3
  have hnc : ∀ x ∈ scope.names, x.2 ≠ .cell := fun x hx e => by
    have := List.all_eq_true.mp k4 x hx
    simp [e] at this
  have hfree : ∀ x ∈ scope.names, x.2 = .free → x.1 ∈ caps := fun x hx e => by
    have := List.all_eq_true.mp k4 x hx
    simpa [e] using this
  have hloc : ∀ x ∈ locals, (x == ("__debug__" : Str)) = false ∧ scope.names.lookup x = some .local := fun x hx => by
    have := List.all_eq_true.mp k5 x hx
    simpa only [Bool.and_eq_true, Bool.not_eq_true', beq_iff_eq] using this
  have hcap : ∀ x ∈ caps, (x == ("__debug__" : Str)) = false ∧ scope.names.lookup x = some .free ∧ env.scope.names.lookup x = some .cell ∧ x ∈ vars := fun x hx => by
    have := List.all_eq_true.mp k6 x hx
    simp only [Bool.and_eq_true, Bool.not_eq_true', beq_iff_eq, List.contains_iff_mem] at this
    exact ⟨this.1.1.1, this.1.1.2, this.1.2, this.2⟩
  have capCell : ∀ x ∈ caps, ∃ (i : Nat) (c : Addr), vars[i]? = some x ∧ env.kindOf x = some .cell ∧ env.cells.lookup x = some c := fun x hx => by
    obtain ⟨_, _, h3, h4⟩ := hcap x hx
    obtain ⟨i, hi⟩ := List.mem_iff_getElem?.mp h4
    rcases (R.ok.vk x h4).2 with e | ⟨e, c, hc⟩
    · have h3' : env.kindOf x = some .cell := h3
      rw [e] at h3'; cases h3'
    · exact ⟨i, c, hi, e, hc⟩
  have hclos : closureFor scope env = pure (clOf env scope.names []) := closureFor_eq fun x hx e => by
    obtain ⟨_, c, _, _, hc⟩ := capCell x.1 (hfree x hx e); exact ⟨c, hc⟩
  have clNd : ((clOf env scope.names []).map (·.1)).Nodup := clOf_keys ndN .nil (fun n hn => by cases hn)
  have clLk : ∀ x c, (clOf env scope.names []).lookup x = some c → env.cells.lookup x = some c := fun x c e => by
    rcases clOf_mem (mem_of_lookup e) with q | q
    · cases q
    · exact q.2
  refine wpAny_comprehension_free (g := ⟨tgt, iter, ifs, 0⟩) (gs := []) rfl hs hclos k1 (fun x hx e => ?_) ?_
  · have key : ∀ (l : List (Str × NameKind)), (l.map (·.1)).Nodup → x ∈ l → l.lookup x.1 = some x.2 := by
      intro l
      induction l with
      | nil => intro _ h; cases h
      | cons p r ih =>
        intro hn hm
        have hn' := List.nodup_cons.mp hn
        rcases List.mem_cons.mp hm with rfl | hm'
        · rw [List.lookup_cons]; simp
        · have hb : (x.1 == p.1) = false := beq_eq_false_iff_ne.mpr fun q => hn'.1 (List.mem_map.mpr ⟨x, hm', q⟩)
          obtain ⟨p1, p2⟩ := p
          rw [List.lookup_cons]
          show (match x.1 == p1 with | true => _ | false => _) = _
          have hb' : (x.1 == p1) = false := hb
          rw [hb']; exact ih hn'.2 hm'
    rw [key _ ndN hx, e]
  · refine wpAny_mono (h A G D s hA R) (fun x s₁ h₁ => wpAny_mono h₁ (fun it s₂ h₂ => ?_) fun _ _ e => e) fun _ _ e => e
    obtain ⟨D₁, σ₁, xs, P, dx₁, ⟨I, fp, wr, St, rfl, W, st₀, R₁, off₁, hP₁, stay⟩, hsz, hL⟩ := h₂
    refine wpAny_newList (items := []) (wpAny_newFunctionEnv hnc (by intro y hy; cases hy) (fun h₁ hns hsb => ?_) k1) (by show 0 ≤ sizeLine; exact Nat.zero_le _)
    -- the new list and the new frame
    have esz : (s₂.heap.push (lstO #[] 0)).objs.size = s₂.heap.objs.size + 1 := Heap.size_push ..
    generalize hacc₀ : s₂.heap.objs.size = acc at *
    have hLe : (s₂.heap.push (lstO #[] 0)).objs.size = acc + 1 := esz
    have kp : ∀ b o, s₂.heap.get? b = some o → h₁.get? b = some o := fun b o e => by
      have hlt : b < acc := hacc₀ ▸ Heap.lt_size e
      refine hsb.extBut b o ?_ (Heap.get?_push_of_some _ (Heap.get?_push_of_some _ e))
      show b ≠ (s₂.heap.push (lstO #[] 0)).objs.size
      rw [hLe]; exact Nat.ne_of_lt (Nat.lt_succ_of_lt hlt)
    have hacc : h₁.get? acc = some (lstO #[] 0) := by
      refine hsb.extBut acc _ ?_ (Heap.get?_push_of_some _ (hacc₀ ▸ Heap.get?_push_size _ rfl))
      show acc ≠ (s₂.heap.push (lstO #[] 0)).objs.size
      rw [hLe]; exact Nat.ne_of_lt (Nat.lt_succ_self _)
    have hns' : h₁.Ns (acc + 1) (fun x => ([] : List (Str × Value)).reverse.lookup x) := hLe ▸ hns
    have dead : ∀ b : Addr, acc ≤ b → s₂.heap.get? b = none := fun b hb => by
      cases e : s₂.heap.get? b with
      | none => rfl
      | some o => exact absurd (hacc₀ ▸ Heap.lt_size e : b < acc) (Nat.not_lt.mpr hb)
    have deadG : ∀ b : Addr, acc ≤ b → lift env vars G s₂ b = none ∧ D₁ b = none ∧ b ∉ foot σ₁ := fun b hb => ⟨(by
        cases e : lift env vars G s₂ b with
        | none => rfl
        | some o => have := R₁.lifted.g b o e; rw [dead b hb] at this; cases this), (by
        cases e : D₁ b with
        | none => rfl
        | some o => have := R₁.d b o e; rw [dead b hb] at this; cases this), (fun hf => by
        obtain ⟨o, e⟩ := R₁.toRelC.footLives hf; rw [dead b hb] at e; cases e)⟩
    generalize hE : ({ (newEnv scope (s₂.heap.push (lstO #[] 0)).objs.size env.globals (clOf env scope.names []) env.qual none .none (some env) builtinsNs) with scope := relabel scope env } : Env) = E
    have eL : E.locals = acc + 1 := by rw [← hE, ← hLe]; rfl
    have eK : ∀ y k, scope.names.lookup y = some k → E.kindOf y = some (if k == .free && env.kindOf y == some .cell then .cell else k) := fun y k e => by rw [← hE]; exact lookup_relabel R.ok.fn e
    have eC : E.cells = clOf env scope.names [] := by rw [← hE]; rfl
    have eS : E.scope = relabel scope env := by rw [← hE]
    have eG : E.globals = env.globals := by rw [← hE]; rfl
    have eB : E.builtins = env.builtins := by rw [← hE]; rfl
    have kLoc : ∀ x ∈ locals, E.kindOf x = some .local := fun x hx => by rw [eK x _ (hloc x hx).2]; rfl
    have kCap : ∀ x ∈ caps, E.kindOf x = some .cell := fun x hx => by
      obtain ⟨_, _, _, e, _⟩ := capCell x hx
      rw [eK x _ (hcap x hx).2.1, e]; rfl
    have isCap : ∀ (i : Nat) x, (locals ++ caps)[i]? = some x → E.kindOf x = some .cell → locals.length ≤ i ∧ caps[i - locals.length]? = some x ∧ x ∈ caps := fun i x e1 e2 => by
      rw [List.getElem?_append] at e1
      by_cases hi : i < locals.length
      · rw [if_pos hi] at e1
        rw [kLoc x (List.mem_of_getElem? e1)] at e2; cases e2
      · rw [if_neg hi] at e1
        exact ⟨Nat.not_lt.mp hi, e1, List.mem_of_getElem? e1⟩
    have capVal : ∀ (i : Nat) x X, (locals ++ caps)[i]? = some x → ((locals.map fun _ => (none : Option V)) ++ ms)[i]? = some (some X) → Lk vars m x X := fun i x X e1 e2 => by
      rw [List.getElem?_append] at e1 e2
      rw [List.length_map] at e2
      by_cases hi : i < locals.length
      · rw [if_pos hi] at e2
        rw [List.getElem?_map] at e2
        obtain ⟨y, _, e⟩ := Option.map_eq_some_iff.mp e2
        cases e
      · rw [if_neg hi] at e1 e2
        exact hcaps.get e1 e2
    have RI : RelF C E (locals ++ caps) gl' false (lift env vars G s₂) D₁ ((locals.map fun _ => none) ++ ms) σ₁ { s₂ with heap := h₁, toks := s₂.toks + 0 } := by
      have RL := R₁.lifted
      refine ⟨⟨?_, fun b o e => kp b o (RL.g b o e), fun b o e => kp b o (RL.d b o e), RL.base, RL.nd, RL.offG, RL.offD, fun p hp => (RL.pl p hp).at fun b _ ob e => kp b ob e, RL.sto⟩, ⟨?_, ndV, fun x hx => ?_, ?_, fun p hp => ?_, ?_, ?_⟩, ?_, ⟨_, eL ▸ hns', fun i x X e1 e2 e3 => ?_⟩, fun i x c e1 e2 e3 => ?_⟩
      · obtain ⟨h0, t0, e⟩ := RL.same
        exact ⟨h₁, _, by rw [e]⟩
      · rw [eS]; exact k1
      · rcases List.mem_append.mp hx with hx | hx
        · exact ⟨(hloc x hx).1, .inl (kLoc x hx)⟩
        · obtain ⟨_, c, _, _, hc⟩ := capCell x hx
          exact ⟨(hcap x hx).1, .inr ⟨kCap x hx, c, by rw [eC]; exact lookup_of_nodup clNd (clOf_has (.inl ⟨mem_of_lookup (hcap x hx).2.1, hc⟩))⟩⟩
      · rw [eC]
        have pw : (clOf env scope.names []).Pairwise fun x y => x.1 ≠ y.1 := List.pairwise_map.mp clNd
        refine pw.imp_of_mem fun {x y} hx hy hne e => hne ?_
        have hx' := (clOf_mem (n := x.1) (c := x.2) hx).resolve_left (by intro q; cases q)
        have hy' := (clOf_mem (n := y.1) (c := y.2) hy).resolve_left (by intro q; cases q)
        exact name_of_addr R.ok.ap (mem_of_lookup hx'.2) (e ▸ mem_of_lookup hy'.2)
      · have := List.all_eq_true.mp k7 p.1 (List.mem_map_of_mem hp)
        simp only [Bool.and_eq_true, Bool.not_eq_true', beq_iff_eq] at this
        exact ⟨this.1, by rw [eK _ _ this.2]; rfl, hgl p hp⟩
      · rw [eG]; exact R.ok.gg
      · rw [eB]; exact R.ok.gb
      · rw [eL]; exact deadG _ (Nat.le_succ _)
      · obtain ⟨j, hj1, hj2⟩ := (capVal i x X e1 e3).get
        exfalso
        rw [List.getElem?_append] at e1 e3
        rw [List.length_map] at e3
        by_cases hi : i < locals.length
        · rw [if_pos hi] at e3
          rw [List.getElem?_map] at e3
          obtain ⟨y, _, e⟩ := Option.map_eq_some_iff.mp e3
          cases e
        · rw [if_neg hi] at e1
          rw [kCap x (List.mem_of_getElem? e1)] at e2; cases e2
      · obtain ⟨hi1, hi2, hxc⟩ := isCap i x e1 e2
        rw [eC] at e3
        have hc := clLk x c e3
        obtain ⟨i0, c0, g1, g2, g3⟩ := capCell x hxc
        obtain ⟨q1, ⟨ov, q2, q3⟩, q4⟩ := R₁.cl i0 x c g1 g2 hc
        obtain ⟨oc, hoc, _⟩ := id q2
        refine ⟨(by rw [eL]; rintro rfl; rw [dead _ (Nat.le_succ _)] at hoc; cases hoc), ⟨ov, q2.keeps kp, fun X e4 => ?_⟩, oc, by rw [lift_mine (Or.inr ⟨i0, x, g1, g2, hc⟩)]; exact hoc⟩
        obtain ⟨j, hj1, hj2⟩ := (capVal i x X e1 e4).get
        have : j = i0 := nodup_idx R.ok.nd hj1 g1
        subst this
        exact q3 X hj2
    have offW : Off E (locals ++ caps) (lift env vars G s₂) D₁ σ₁ (acc :: wr) := fun a ha => by
      have hcellAlive : ∀ (i : Nat) x c, (locals ++ caps)[i]? = some x → E.kindOf x = some .cell → E.cells.lookup x = some c → Held env vars c := fun i x c e1 e2 e3 => by
        obtain ⟨_, _, hxc⟩ := isCap i x e1 e2
        rw [eC] at e3
        obtain ⟨i0, c0, g1, g2, g3⟩ := capCell x hxc
        exact Or.inr ⟨i0, x, g1, g2, clLk x c e3⟩
      rcases List.mem_cons.mp ha with rfl | ha
      · refine ⟨(deadG a (Nat.le_refl _)).1, (deadG a (Nat.le_refl _)).2.1, (deadG a (Nat.le_refl _)).2.2, ?_⟩
        rintro (e | ⟨i, x, e1, e2, e3⟩)
        · rw [eL] at e; exact absurd e (Nat.ne_of_lt (Nat.lt_succ_self _))
        · obtain ⟨o, e⟩ := R₁.mineLives (hcellAlive i x a e1 e2 e3)
          rw [dead a (Nat.le_refl _)] at e; cases e
      · obtain ⟨o, hal⟩ := W.live _ _ st₀ a ha
        have q := off₁ a ha
        refine ⟨by rw [lift_not q.2.2.2]; exact q.1, q.2.1, q.2.2.1, ?_⟩
        rintro (e | ⟨i, x, e1, e2, e3⟩)
        · rw [eL] at e; rw [e, dead _ (Nat.le_succ _)] at hal; cases hal
        · exact q.2.2.2 (hcellAlive i x a e1 e2 e3)
    have stA : St 0 h₁ := W.frame _ _ _ st₀ fun b _ o e => kp b o e
    have haw : acc ∉ wr := fun hw => by
      obtain ⟨o, e⟩ := W.live _ _ st₀ acc hw
      rw [dead acc (Nat.le_refl _)] at e; cases e
    have haf : acc ∉ fp := fun hf => W.old acc hf haw _ st₀ (dead acc (Nat.le_refl _))
    have stay' : Stay C D₁ P h₁ fp wr := fun G' D' σ' s' R' hs' hP' b hb hbw o e => by
      cases q : s₂.heap.get? b with
      | none => exact (W.old b hb hbw _ st₀ q).elim
      | some o0 =>
        have := kp b o0 q
        rw [e] at this; cases this
        exact stay G' D' σ' s' R' hs' hP' b hb hbw o q
    have loop : ∀ (s₄ : Shared), s₄ = { s₂ with heap := h₁, toks := s₂.toks + 0 } → codeAny C.M A (.compLoop (.ListComp elt [⟨tgt, iter, ifs, 0⟩] scope pos) 0 (.ref I) (.ref acc) E) (compPost C.M A (fun _ _ => False) use K (.ref acc) (acc + 1)) s₄ := by
      rintro s₄ rfl
      refine comp_loop W hA hsz stA RI (Sub.refl _) offW haw haf hacc hP₁ stay' (hL E eS) fun s' D' σ' m'' vs n ys dx' RF' off' ho' hvs' hq' => ?_
      have oa := off' acc (.head _)
      have RC := RF'.toRelC.addL oa.1 oa.2.1 oa.2.2.1 ho' hvs'
      have RO := R₁.back RC dx'
      obtain ⟨mm, hmm, _⟩ := RF'.ns
      refine hK s' D' σ' acc vs n ys (acc + 1) mm (dx₁.trans (R₁.dx dx')) RO (fun a ha => ?_) (eL ▸ hmm) hq'
      simp at ha; subst ha
      have hl := RF'.offL
      rw [eL] at hl
      refine ⟨?_, hl.2.1, fun hf => ?_, fun hm => ?_⟩
      · cases e : G (acc + 1) with
        | none => rfl
        | some o => have := R₁.over e; rw [hl.1] at this; cases this
      · rcases List.mem_cons.mp hf with e | hf
        · exact absurd e (Nat.ne_of_gt (Nat.lt_succ_self _))
        · exact hl.2.2 hf
      · obtain ⟨o, e⟩ := R₁.mineLives hm
        rw [dead _ (Nat.le_succ _)] at e; cases e
    have fin := codeAny_compStart_list (loop _ rfl) (W.self 0 _ _ stA (loop _ rfl) |> fun h => wpAny_mono h (fun _ _ e => e) fun _ _ e => e.elim)
    have e1 : (newEnv scope (s₂.heap.push (lstO #[] 0)).objs.size env.globals (clOf env scope.names []) env.qual none .none (some env) builtinsNs).locals = acc + 1 := by rw [← hLe]; rfl
    rw [e1]
    exact fin
end
end Mine

set_option autoImplicit false
set_option linter.unusedVariables false
namespace Mine
open PySem
section
variable {C : Cx} {env : Env} {vars : List Str} {gl gl' : List (Str × V)} {own : Bool} {d : Nat} {m m' : Loc} {σ σ' : Sto}
variable {A : Around} {G D D₀ D₁ : Gh} {s : Shared} {P : V → Sto → Prop}


theorem RelF.freeze {a : Addr} {o : Obj} {xs : List V} {u v : Sto} (R : RelF C env vars gl own G D m (u ++ (a, o, .list xs) :: v) s) :
    RelF C env vars gl own G (putD D a o) m (u ++ v) s ∧ DX G D (putD D a o) ∧ VR C.w (putD D a o) (.ref a) (.lst xs) := by
  obtain ⟨h1, h2, h3⟩ := R.lifted.freezeL rfl
  exact ⟨R.back h1 h2, R.dx h2, h3⟩

/-- a comprehension's list, as a mutable thing -/
theorem AT_CompM {elt tgt iter : Expr} {ifs : List Expr} {scope : Scope} {pos : Pos} (locals caps : List Str) (gl' : List (Str × V)) {ms : Loc}
    (hok : compOk scope env.scope vars locals caps (gl'.map (·.1)) = true) (hgl : ∀ p ∈ gl', GlobR C p.1 p.2) (hcaps : Caps vars m caps ms)
    (h : AI C env vars gl own d iter tgt m σ fun xs Pp σ₁ => xs.length ≤ sizeLine ∧ ∀ env', env'.scope = relabel scope env →
      CompL C env' (locals ++ caps) gl' d tgt elt ifs Pp (fun ys σ₂ => ∀ a o, P (.ref a) ((a, o, .list ys) :: σ₂)) xs [] ((locals.map fun _ => none) ++ ms) σ₁)
    (hs : ∀ x, foldedSetIterable iter env x = pure x := by intro _; with_unfolding_all exact rfl) :
    AT C env vars gl own d (eval (.ListComp elt [⟨tgt, iter, ifs, 0⟩] scope pos) env) m σ P := fun A G D s hA R => by
  rw [eval_ListComp]
  refine comp_whole hA R hok hgl hcaps h hs fun s' D' σ' a vs n ys L mm dx RO off hns q => ?_
  refine ⟨mm, hns, fun h' hs' => ⟨.ref a, D', _, dx, .ref a, ?_, q a (lstO vs n)⟩⟩
  have := RO.keepBut (h' := h') s'.toks off fun b o hb e => hs'.extBut b o (by simpa using hb) e
  exact this
/-- a comprehension's list, frozen -/
theorem AT_CompF {elt tgt iter : Expr} {ifs : List Expr} {scope : Scope} {pos : Pos} (locals caps : List Str) (gl' : List (Str × V)) {ms : Loc}
    (hok : compOk scope env.scope vars locals caps (gl'.map (·.1)) = true) (hgl : ∀ p ∈ gl', GlobR C p.1 p.2) (hcaps : Caps vars m caps ms)
    (h : AI C env vars gl own d iter tgt m σ fun xs Pp σ₁ => xs.length ≤ sizeLine ∧ ∀ env', env'.scope = relabel scope env →
      CompL C env' (locals ++ caps) gl' d tgt elt ifs Pp (fun ys σ₂ => P (.lst ys) σ₂) xs [] ((locals.map fun _ => none) ++ ms) σ₁)
    (hs : ∀ x, foldedSetIterable iter env x = pure x := by intro _; with_unfolding_all exact rfl) :
    AT C env vars gl own d (eval (.ListComp elt [⟨tgt, iter, ifs, 0⟩] scope pos) env) m σ P := fun A G D s hA R => by
  rw [eval_ListComp]
  refine comp_whole hA R hok hgl hcaps h hs fun s' D' σ' a vs n ys L mm dx RO off hns q => ?_
  refine ⟨mm, hns, fun h' hs' => ?_⟩
  have R1 : RelF C env vars gl own G D' m ((a, lstO vs n, .list ys) :: σ') { s' with heap := h' } := by
    have := RO.keepBut (h' := h') s'.toks off fun b o hb e => hs'.extBut b o (by simpa using hb) e
    exact this
  obtain ⟨R2, dx2, hv⟩ := RelF.freeze (u := []) R1
  exact ⟨.lst ys, _, σ', dx.trans dx2, hv, R2, q⟩

variable {Q : Fl → Loc → Sto → Prop}
theorem comp_used {elt tgt iter : Expr} {ifs : List Expr} {scope : Scope} {pos p' p : Pos} {x : Str} {locals caps : List Str} {gl' : List (Str × V)} {ms : Loc} {Z : List V → Sto → Prop}
    (hA : AOk A d) (R : RelF C env vars gl own G D m σ s) (hown : own = true)
    (hsw : swapsWith (.ListComp elt [⟨tgt, iter, ifs, 0⟩] scope pos) (some (.Name x p')) p.line env = pure true)
    (hok : compOk scope env.scope vars locals caps (gl'.map (·.1)) = true) (hgl : ∀ p ∈ gl', GlobR C p.1 p.2) (hcaps : Caps vars m caps ms)
    (h : AI C env vars gl own d iter tgt m σ fun xs Pp σ₁ => xs.length ≤ sizeLine ∧ ∀ env', env'.scope = relabel scope env → CompL C env' (locals ++ caps) gl' d tgt elt ifs Pp Z xs [] ((locals.map fun _ => none) ++ ms) σ₁)
    (hs : ∀ x, foldedSetIterable iter env x = pure x)
    (k : ∀ s' D' σ' a vs n ys, DX G D D' → RelF C env vars gl own G D' m ((a, lstO vs n, .list ys) :: σ') s' → Z ys σ' → ∃ X m' D₂ σ₂, DX G D' D₂ ∧ VR C.w D₂ (.ref a) X ∧ RelF C env vars gl own G D₂ m σ₂ s' ∧ Sub D' D₂ ∧ (∀ L, Off env vars G D' ((a, lstO vs n, .list ys) :: σ') [L] → Off env vars G D₂ σ₂ [L]) ∧ Put vars m x X m' ∧ Q .next m' σ₂) :
    wpAny C.M A (exec (.Assign [.Name x p'] (.ListComp elt [⟨tgt, iter, ifs, 0⟩] scope pos) p) env) (PostS C env vars gl own G D Q) (fun _ _ => False) s := by
  rw [exec_Assign_Name_used _ _ _ _ hsw]
  refine wpAny_bind (wpAny_standAt (wpAny_bind ?_))
  show wpAny _ A (do let _ ← comprehension (.ListComp elt [⟨tgt, iter, ifs, 0⟩] scope pos) scope env _ (newList []) false (eval iter env) (some (assign (.Name x p') env))) _ _ s
  refine wpAny_bind (wpAny_mono (comp_whole (K := fun _ s' => PostS C env vars gl own G D Q .next s') hA R hok hgl hcaps h hs fun s' D' σ' a vs n ys L mm dx RO off hns q => ?_) (fun _ s' hq => wpAny_pure (wpAny_pure hq)) fun _ _ e => e)
  obtain ⟨X, m', D₂, σ₂, dx₂, hv, R₂, _, off₂, hP, q₂⟩ := k s' D' σ' a vs n ys dx RO q
  have offL := off₂ L off
  have RW := R₂.withW offL
  show wpAny C.M A (assign (.Name x p') env (.ref a)) _ _ s'
  refine wpAny_bind (wpAny_standAt (wpAny_bindName (RW.store hP hv (.inl hown) fun s'' R'' => ?_)))
  obtain ⟨oL, hoL⟩ : ∃ o, s'.heap.get? L = some o := let ⟨o, _, _, ho, _⟩ := hns; ⟨o, ho⟩
  have hL'' : s''.heap.get? L = some oL := R''.g L oL (by rw [withW_in (.head _)]; exact hoL)
  obtain ⟨R₃, _, off₃⟩ := R''.lessW offL R.base (DX.refl _ _) (fun a ha => by simp at ha; subst ha; exact ⟨_, hoL⟩)
  refine ⟨mm, hns.at' (fun o e => by rw [hoL] at e; cases e; exact hL''), fun h' hs' => ⟨.next, m', D₂, σ₂, dx.trans dx₂, trivial, ?_, q₂⟩⟩
  have := R₃.keepBut (h' := h') s''.toks off₃ fun b o hb e => hs'.extBut b o (by simpa using hb) e
  exact this

theorem Off.freeze {a L : Addr} {o : Obj} {xs : List V} (h : Off env vars G D ((a, o, .list xs) :: σ) [L]) : Off env vars G (putD D a o) σ [L] := fun b hb => by
  have q := h b hb
  have hne : b ≠ a := fun e => q.2.2.1 (by rw [e]; exact .head _)
  exact ⟨q.1, by rw [putD_ne o hne]; exact q.2.1, fun hf => q.2.2.1 (.tail _ hf), q.2.2.2⟩

theorem S_AssignCompF {elt tgt iter : Expr} {ifs : List Expr} {scope : Scope} {pos p' p : Pos} {x : Str} (locals caps : List Str) (gl' : List (Str × V)) {ms : Loc}
    (hsw : swapsWith (.ListComp elt [⟨tgt, iter, ifs, 0⟩] scope pos) (some (.Name x p')) p.line env = pure true)
    (hok : compOk scope env.scope vars locals caps (gl'.map (·.1)) = true) (hgl : ∀ p ∈ gl', GlobR C p.1 p.2) (hcaps : Caps vars m caps ms)
    (h : AI C env vars gl own d iter tgt m σ fun xs Pp σ₁ => xs.length ≤ sizeLine ∧ ∀ env', env'.scope = relabel scope env →
      CompL C env' (locals ++ caps) gl' d tgt elt ifs Pp (fun ys σ₂ => ∃ m', Put vars m x (.lst ys) m' ∧ Q .next m' σ₂) xs [] ((locals.map fun _ => none) ++ ms) σ₁)
    (hown : own = true := by with_unfolding_all exact rfl) (hs : ∀ x, foldedSetIterable iter env x = pure x := by intro _; with_unfolding_all exact rfl) :
    AS C env vars gl own d (exec (.Assign [.Name x p'] (.ListComp elt [⟨tgt, iter, ifs, 0⟩] scope pos) p) env) m σ Q := fun A G D s hA R =>
  comp_used hA R hown hsw hok hgl hcaps h hs fun s' D' σ' a vs n ys dx RO ⟨m', hP, q⟩ => by
    obtain ⟨R2, dx2, hv⟩ := RelF.freeze (u := []) RO
    exact ⟨.lst ys, m', _, σ', dx2, hv, R2, dx2.sub, fun L off => off.freeze, hP, q⟩
theorem S_AssignCompM {elt tgt iter : Expr} {ifs : List Expr} {scope : Scope} {pos p' p : Pos} {x : Str} (locals caps : List Str) (gl' : List (Str × V)) {ms : Loc}
    (hsw : swapsWith (.ListComp elt [⟨tgt, iter, ifs, 0⟩] scope pos) (some (.Name x p')) p.line env = pure true)
    (hok : compOk scope env.scope vars locals caps (gl'.map (·.1)) = true) (hgl : ∀ p ∈ gl', GlobR C p.1 p.2) (hcaps : Caps vars m caps ms)
    (h : AI C env vars gl own d iter tgt m σ fun xs Pp σ₁ => xs.length ≤ sizeLine ∧ ∀ env', env'.scope = relabel scope env →
      CompL C env' (locals ++ caps) gl' d tgt elt ifs Pp (fun ys σ₂ => ∀ a o, ∃ m', Put vars m x (.ref a) m' ∧ Q .next m' ((a, o, .list ys) :: σ₂)) xs [] ((locals.map fun _ => none) ++ ms) σ₁)
    (hown : own = true := by with_unfolding_all exact rfl) (hs : ∀ x, foldedSetIterable iter env x = pure x := by intro _; with_unfolding_all exact rfl) :
    AS C env vars gl own d (exec (.Assign [.Name x p'] (.ListComp elt [⟨tgt, iter, ifs, 0⟩] scope pos) p) env) m σ Q := fun A G D s hA R =>
  comp_used hA R hown hsw hok hgl hcaps h hs fun s' D' σ' a vs n ys dx RO q => by
    obtain ⟨m', hP, q⟩ := q a (lstO vs n)
    exact ⟨.ref a, m', D', _, DX.refl _ _, .ref a, RO, Sub.refl _, fun L off => off, hP, q⟩
end
end Mine

set_option autoImplicit false
set_option linter.unusedVariables false
namespace Mine
open PySem

section
variable {C : Cx} {d : Nat} {σ : Sto} {Q : V → Sto → Prop}

/-! ## ints -/
theorem B_add {a b : Int} (q : Q (.int (a + b)) σ) : AC2 C d (binaryOp .Add) (.int a) (.int b) σ Q := fun A G D s v u hA R hv hu => by
  cases hv; cases hu; exact P.add_int (PostC.now (R.tok _) (.int _ _) q)
theorem B_sub {a b : Int} (q : Q (.int (a - b)) σ) : AC2 C d (binaryOp .Sub) (.int a) (.int b) σ Q := fun A G D s v u hA R hv hu => by
  cases hv; cases hu; exact P.sub_int (PostC.now (R.tok _) (.int _ _) q)
theorem B_mul {a b : Int} (q : Q (.int (a * b)) σ) (h : IntMulOk a b) : AC2 C d (binaryOp .Mult) (.int a) (.int b) σ Q := fun A G D s v u hA R hv hu => by
  cases hv; cases hu; exact P.mul_int (PostC.now (R.tok _) (.int _ _) q) h
theorem B_div {a b : Int} (q : Q (.int (a.fdiv b)) σ) (h : b ≠ 0) (hs : b.natAbs < 1073741824) : AC2 C d (binaryOp .FloorDiv) (.int a) (.int b) σ Q := fun A G D s v u hA R hv hu => by
  cases hv; cases hu; exact PyProof.Rows.floordiv_int h (PostC.now (R.tok _) (.int _ _) q) (.inl (PyProof.noPylong_small hs))
theorem B_mod {a b : Int} (q : Q (.int (a.fmod b)) σ) (h : b ≠ 0) : AC2 C d (binaryOp .Mod) (.int a) (.int b) σ Q := fun A G D s v u hA R hv hu => by
  cases hv; cases hu; exact PyProof.Rows.mod_int' h (PostC.now (R.tok _) (.int _ _) q)
theorem U_neg {a : Int} (q : Q (.int (-a)) σ) : AC1 C d (unaryOp .USub) (.int a) σ Q := fun A G D s v hA R hv => by
  cases hv; exact P.neg_int (PostC.now (R.tok _) (.int _ _) q)
theorem C_lt {a b : Int} (q : Q (.bool (decide (a < b))) σ) : AC2 C d (compareOp .Lt) (.int a) (.int b) σ Q := fun A G D s v u hA R hv hu => by
  cases hv; cases hu; exact P.lt_int (PostC.now R (.bool _) q)
theorem C_le {a b : Int} (q : Q (.bool (decide (a ≤ b))) σ) : AC2 C d (compareOp .LtE) (.int a) (.int b) σ Q := fun A G D s v u hA R hv hu => by
  cases hv; cases hu; exact P.le_int (PostC.now R (.bool _) q)
theorem C_gt {a b : Int} (q : Q (.bool (decide (b < a))) σ) : AC2 C d (compareOp .Gt) (.int a) (.int b) σ Q := fun A G D s v u hA R hv hu => by
  cases hv; cases hu; exact P.gt_int (PostC.now R (.bool _) q)
theorem C_ge {a b : Int} (q : Q (.bool (decide (b ≤ a))) σ) : AC2 C d (compareOp .GtE) (.int a) (.int b) σ Q := fun A G D s v u hA R hv hu => by
  cases hv; cases hu; exact P.ge_int (PostC.now R (.bool _) q)
theorem C_eq {a b : Int} (q : Q (.bool (decide (a = b))) σ) : AC2 C d (compareOp .Eq) (.int a) (.int b) σ Q := fun A G D s v u hA R hv hu => by
  cases hv; cases hu
  refine P.eq_int (PostC.now R ?_ q)
  rw [show (a == b) = decide (a = b) from rfl]; exact .bool _
theorem C_ne {a b : Int} (q : Q (.bool (!decide (a = b))) σ) : AC2 C d (compareOp .NotEq) (.int a) (.int b) σ Q := fun A G D s v u hA R hv hu => by
  cases hv; cases hu
  refine P.ne_int (PostC.now R ?_ q)
  rw [show (a != b) = !decide (a = b) from rfl]; exact .bool _

/-! ## truths -/
theorem T_bool {b : Bool} : TR C d (.bool b) σ b := fun A G D s v hA R hv K k => by cases hv; exact wpAny_truthy_bool (k s.toks)
theorem T_int {a : Int} : TR C d (.int a) σ (!decide (a = 0)) := fun A G D s v hA R hv K k => by
  cases hv
  refine P.truthy_int ?_
  rw [show (a != 0) = !decide (a = 0) from rfl]; exact k s.toks
theorem TX_bool {b : Bool} {P : Bool → Sto → Prop} (p : P b σ) : TRX C d (.bool b) σ P := ⟨b, T_bool, p⟩

/-! ## identity with None, True, False -/
theorem isSame_bool {M : Model} {A : Around} {E : Value → Shared → Prop} {s : Shared} {v : Value} {b : Bool} {K : Bool → Shared → Prop} (hn : ∀ n, v ≠ .builtin n) (h : K (v == .bool b) s) : wpAny M A (isSame v (.bool b)) K E s := by
  have e : isSame v (.bool b) = pure (v == .bool b) := by cases v <;> first | rfl | exact absurd rfl (hn _)
  rw [e]; exact wpAny_pure h
def V.isNone : V → Bool
  | .none => true
  | _ => false
theorem C_isNone {x : V} (q : Q (.bool x.isNone) σ) : AC2 C d (compareOp .Is) x .none σ Q := fun A G D s v u hA R hv hu => by
  cases hu
  refine is_none (PostC.now R ?_ q)
  cases hv <;> exact .bool _
theorem C_isNotNone {x : V} (q : Q (.bool (!x.isNone)) σ) : AC2 C d (compareOp .IsNot) x .none σ Q := fun A G D s v u hA R hv hu => by
  cases hu
  refine isNot_none (PostC.now R ?_ q)
  cases hv <;> exact .bool _
def V.isBool (b : Bool) : V → Bool
  | .bool c => c == b
  | _ => false
theorem notBi {w : World} {D : Gh} {v : Value} {x : V} (h : VR w D v x) (hx : ∀ n, x ≠ .bi n) : ∀ n, v ≠ .builtin n := fun n e => by
  subst e; cases h; exact hx n rfl
theorem C_isB {x : V} {b : Bool} (q : Q (.bool (x.isBool b)) σ) (hx : ∀ n, x ≠ .bi n := by intro n h; cases h) : AC2 C d (compareOp .Is) x (.bool b) σ Q := fun A G D s v u hA R hv hu => by
  cases hu
  show wpAny C.M A (isSame v (.bool b) >>= fun c => pure (Value.bool c)) _ _ s
  refine wpAny_bind (isSame_bool (notBi hv hx) (wpAny_pure (PostC.now R ?_ q)))
  cases hv <;> first | exact .bool _ | skip
  rename_i c
  have e : (Value.bool c == Value.bool b) = (c == b) := by cases b <;> cases c <;> rfl
  rw [e]; exact .bool _
theorem C_isNotB {x : V} {b : Bool} (q : Q (.bool (!x.isBool b)) σ) (hx : ∀ n, x ≠ .bi n := by intro n h; cases h) : AC2 C d (compareOp .IsNot) x (.bool b) σ Q := fun A G D s v u hA R hv hu => by
  cases hu
  show wpAny C.M A (isSame v (.bool b) >>= fun c => pure (Value.bool (!c))) _ _ s
  refine wpAny_bind (isSame_bool (notBi hv hx) (wpAny_pure (PostC.now R ?_ q)))
  cases hv <;> first | exact .bool _ | skip
  rename_i c
  have e : (Value.bool c == Value.bool b) = (c == b) := by cases b <;> cases c <;> rfl
  rw [e]; exact .bool _

/-! ## texts -/
theorem B_addS {x y : Str} (q : Q (.str (x ++ y)) σ) (h : x.length + y.length ≤ sizeLine) : AC2 C d (binaryOp .Add) (.str x) (.str y) σ Q := fun A G D s v u hA R hv hu => by
  cases hv; cases hu; exact PyProof.Rows.add_str (fun t' tk => PostC.now (R.tok tk) (.str _ _) q) h
theorem C_eqS {x y : Str} (q : Q (.bool (x == y)) σ) : AC2 C d (compareOp .Eq) (.str x) (.str y) σ Q := fun A G D s v u hA R hv hu => by
  cases hv; cases hu; exact PyProof.Rows.eq_str (PostC.now R (.bool _) q)
theorem C_leS {x y : Str} (q : Q (.bool (!(decide (y.cps.toList < x.cps.toList)))) σ) : AC2 C d (compareOp .LtE) (.str x) (.str y) σ Q := fun A G D s v u hA R hv hu => by
  cases hv; cases hu; exact P.le_str (PostC.now R (.bool _) q)
theorem C_inS {x y : Str} (q : Q (.bool (!(Builtin.Str.occurrences x y 0 x.length 1).isEmpty)) σ) : AC2 C d (compareOp .In) (.str y) (.str x) σ Q := fun A G D s v u hA R hv hu => by
  cases hv; cases hu; exact P.in_str (PostC.now R (.bool _) q)
end
end Mine

set_option autoImplicit false
set_option linter.unusedVariables false
namespace Mine
open PySem

/-- a new list: frozen, or to be changed -/
def NLq (P : V → Sto → Prop) (Xs : List V) (σ : Sto) : Prop := P (.lst Xs) σ ∨ ∀ a o, P (.ref a) ((a, o, .list Xs) :: σ)

section
variable {C : Cx} {d : Nat} {σ : Sto} {Q : V → Sto → Prop} {G D : Gh} {s : Shared} {A : Around}

theorem RelC.mkL (R : RelC C G D σ s) {vs : List Value} {Xs : List V} (h : VRs C.w D vs Xs) (q : NLq Q Xs σ) : PostC C G D Q (.ref s.heap.objs.size) { s with heap := s.heap.push (lstO vs.toArray 0) } := by
  rcases q with q | q
  · obtain ⟨R', dx⟩ := R.newF (lstO vs.toArray 0)
    exact ⟨.lst Xs, _, σ, dx, .lst (putD_self ..) (h.mono dx.sub), R', q⟩
  · exact ⟨.ref _, D, _, DX.refl _ _, .ref _, R.newM (lstO vs.toArray 0) (.list Xs) ⟨vs.toArray, 0, rfl, by simpa using h⟩ rfl (fun _ _ => rfl), q _ _⟩

/-! ## data -/
mutual
inductive Dp (σ : Sto) : V → PyData → Prop
  | none : Dp σ .none .none
  | bool (b : Bool) : Dp σ (.bool b) (.bool b)
  | int (i : Int) : Dp σ (.int i) (.int i)
  | str (x : Str) : Dp σ (.str x) (.str x)
  | tup {xs : List V} {ds : List PyData} : Dps σ xs ds → Dp σ (.tup xs) (.tuple ds)
  | lst {xs : List V} {ds : List PyData} : Dps σ xs ds → Dp σ (.lst xs) (.list ds)
  | ref {a : Addr} {o : Obj} {xs : List V} {ds : List PyData} : (a, o, AO.list xs) ∈ σ → Dps σ xs ds → Dp σ (.ref a) (.list ds)
inductive Dps (σ : Sto) : List V → List PyData → Prop
  | nil : Dps σ [] []
  | cons {x : V} {e : PyData} {xs : List V} {ds : List PyData} : Dp σ x e → Dps σ xs ds → Dps σ (x :: xs) (e :: ds)
end
mutual
theorem Dp.reads (R : RelC C G D σ s) : ∀ {x : V} {e : PyData}, Dp σ x e → ∀ {v : Value}, VR C.w D v x → ∃ as, Reads s.heap v e as
  | _, _, .none, _, h => by cases h; exact ⟨_, .none⟩
  | _, _, .bool b, _, h => by cases h; exact ⟨_, .bool b⟩
  | _, _, .int i, _, h => by cases h; exact ⟨_, .int i _⟩
  | _, _, .str x, _, h => by cases h; exact ⟨_, .str x _⟩
  | _, _, .tup r, _, h => by
    cases h with
    | tup e hc hd hv => obtain ⟨as, q⟩ := Dps.reads R r hv; exact ⟨_, .tuple (R.d _ _ e) hc hd (by simpa using q)⟩
  | _, _, .lst r, _, h => by
    cases h with
    | lst e hv => obtain ⟨as, q⟩ := Dps.reads R r hv; exact ⟨_, .list (R.d _ _ e) rfl rfl (by simpa using q)⟩
  | _, _, .ref hm r, _, h => by
    cases h
    obtain ⟨vs, n, e, hv⟩ := R.sto _ hm
    obtain ⟨as, q⟩ := Dps.reads R r hv
    have e' := R.pl _ hm
    exact ⟨_, .list e' (by rw [show _ = lstO vs n from e]) (by rw [show _ = lstO vs n from e]) q⟩
theorem Dps.reads (R : RelC C G D σ s) : ∀ {x : List V} {e : List PyData}, Dps σ x e → ∀ {v : List Value}, VRs C.w D v x → ∃ as, ReadsAll s.heap v e as
  | _, _, .nil, _, h => by cases h; exact ⟨_, .nil⟩
  | _, _, .cons a b, _, h => by
    cases h with
    | cons h1 h2 =>
      obtain ⟨as, q⟩ := Dp.reads R a h1
      obtain ⟨bs, q'⟩ := Dps.reads R b h2
      exact ⟨_, .cons q q'⟩
end

theorem AOk.line {A : Around} {d : Nat} (h : AOk A d) : A.units + 64 < cLine := by have := h.units; show A.units + 64 < 9900; omega
theorem C_eqD {x y : V} {e f : PyData} (hx : Dp σ x e) (hy : Dp σ y f) (he : SeqAt.shaped e = true) (hf : SeqAt.shaped f = true) (q : Q (.bool (PyData.eqv e f)) σ) : AC2 C d (compareOp .Eq) x y σ Q := fun A G D s v u hA R hv hu => by
  obtain ⟨_, r1⟩ := hx.reads R hv
  obtain ⟨_, r2⟩ := hy.reads R hu
  exact SeqAt.compareEq_shaped r1 r2 he hf hA.line (PostC.now R (.bool _) q)
theorem C_neD {x y : V} {e f : PyData} (hx : Dp σ x e) (hy : Dp σ y f) (he : SeqAt.shaped e = true) (hf : SeqAt.shaped f = true) (q : Q (.bool (!PyData.eqv e f)) σ) : AC2 C d (compareOp .NotEq) x y σ Q := fun A G D s v u hA R hv hu => by
  obtain ⟨_, r1⟩ := hx.reads R hv
  obtain ⟨_, r2⟩ := hy.reads R hu
  exact SeqAt.compareNe_shaped r1 r2 he hf hA.line (PostC.now R (.bool _) q)

/-! ## what a value is -/
theorem Has.isL {x : V} {xs : List V} {P : Sto → Prop} (h : Has σ x (.list xs) P) (R : RelC C G D σ s) {v : Value} (hv : VR C.w D v x) :
    ∃ a vs, v = .ref a ∧ s.heap.IsList a vs ∧ VRs C.w D vs.toList xs := by
  obtain ⟨a, vs, n, rfl, ho, hr⟩ := h.isList R hv
  exact ⟨a, vs, rfl, ⟨_, ho, rfl, n, rfl⟩, hr⟩
theorem VR.isT {xs : List V} (R : RelC C G D σ s) {v : Value} (hv : VR C.w D v (.tup xs)) : ∃ a vs, v = .ref a ∧ PyProof.Rows.IsTup s.heap a vs ∧ s.heap.IsTuple a vs ∧ VRs C.w D vs.toList xs := by
  cases hv with
  | tup e hc hd hr => exact ⟨_, _, rfl, ⟨_, R.d _ _ e, hc, _, hd⟩, ⟨_, R.d _ _ e, hc, _, hd⟩, by simpa using hr⟩

/-! ## len -/
theorem K_lenL {x : V} {xs : List V} {P : Sto → Prop} (h : Has σ x (.list xs) P) (hl : xs.length ≤ sizeLine) (q : Q (.int xs.length) σ) : KW C d (.bi "len") [x] σ Q := fun A G D s v vs hA R hv hs => by
  cases hv
  cases hs with
  | cons h1 h2 =>
    cases h2
    obtain ⟨a, ws, rfl, hL, hr⟩ := h.isL R h1
    have e : ws.size = xs.length := by rw [← hr.length]; simp
    refine Calls.call_len_list hL (by rw [e]; have : xs.length ≤ 16777216 := hl; omega) ?_
    rw [e]; exact PostC.now (R.tok _) (.int _ _) q
theorem K_lenT {xs : List V} (hl : xs.length ≤ sizeLine) (q : Q (.int xs.length) σ) : KW C d (.bi "len") [.tup xs] σ Q := fun A G D s v vs hA R hv hs => by
  cases hv
  cases hs with
  | cons h1 h2 =>
    cases h2
    obtain ⟨a, ws, rfl, hT, _, hr⟩ := VR.isT R h1
    have e : ws.size = xs.length := by rw [← hr.length]; simp
    refine PyProof.Rows.len_tuple hT (by rw [e]; have : xs.length ≤ 16777216 := hl; omega) ?_
    rw [e]; exact PostC.now (R.tok _) (.int _ _) q
theorem K_lenS {x : Str} (hl : x.length ≤ sizeLine) (q : Q (.int x.length) σ) : KW C d (.bi "len") [.str x] σ Q := fun A G D s v vs hA R hv hs => by
  cases hv
  cases hs with
  | cons h1 h2 =>
    cases h2; cases h1
    exact PyProof.Rows.len_str (by have : x.length ≤ 16777216 := hl; omega) (PostC.now (R.tok _) (.int _ _) q)

/-! ## items -/
theorem G_list {x : V} {xs : List V} {P : Sto → Prop} {k : Int} {X : V} (h : Has σ x (.list xs) P) (h0 : 0 ≤ k) (hf : k < 2 ^ 63) (hx : xs[k.toNat]? = some X) (q : Q X σ) : SubR C d x (.int k) σ Q := fun A G D s o v hA R ho hv => by
  cases hv
  obtain ⟨a, ws, rfl, hL, hr⟩ := h.isL R ho
  obtain ⟨u, hu, ru⟩ := hr.get hx
  exact ⟨"list", _, hL.typeIs, slot_list_getitem.lookup, wpAny_getItem_list hL h0 hf (by rw [← Array.getElem?_toList]; exact hu) (PostC.now R ru q)⟩
theorem G_listN {x : V} {xs : List V} {P : Sto → Prop} {k : Int} {X : V} (h : Has σ x (.list xs) P) (h0 : k < 0) (h1 : -(xs.length : Int) ≤ k) (hf : -(2 ^ 63) ≤ k) (hx : xs[(k + xs.length).toNat]? = some X) (q : Q X σ) : SubR C d x (.int k) σ Q := fun A G D s o v hA R ho hv => by
  cases hv
  obtain ⟨a, ws, rfl, hL, hr⟩ := h.isL R ho
  obtain ⟨u, hu, ru⟩ := hr.get hx
  have e : ws.size = xs.length := by rw [← hr.length]; simp
  exact ⟨"list", _, hL.typeIs, slot_list_getitem.lookup, wpAny_getItem_list_neg hL h0 (by rw [e]; exact h1) hf (by rw [← Array.getElem?_toList, e]; exact hu) (PostC.now R ru q)⟩
theorem G_tup {xs : List V} {k : Int} {X : V} (h0 : 0 ≤ k) (hf : k < 2 ^ 63) (hx : xs[k.toNat]? = some X) (q : Q X σ) : SubR C d (.tup xs) (.int k) σ Q := fun A G D s o v hA R ho hv => by
  cases hv
  obtain ⟨a, ws, rfl, hT, _, hr⟩ := VR.isT R ho
  obtain ⟨u, hu, ru⟩ := hr.get hx
  have e : ws.size = xs.length := by rw [← hr.length]; simp
  have hk : k.toNat < xs.length := (List.getElem?_eq_some_iff.mp hx).1
  have hj : seqIndex? k ws.size = some k.toNat := by
    unfold seqIndex?
    rw [e]
    have h1 : (k : Int) < (xs.length : Int) := by omega
    simp [show ¬ k < 0 by omega, h0, h1]
  exact ⟨"tuple", _, hT.typeIs, PyProof.Rows.slot_tuple_getitem.lookup, PyProof.Rows.getItem_tuple hT (by omega) hf hj (by rw [← Array.getElem?_toList]; exact hu) (PostC.now R ru q)⟩
theorem G_str {x : Str} {k : Int} {c : Nat} (h0 : 0 ≤ k) (hf : k < 2 ^ 63) (hx : x.cps[k.toNat]? = some c) (q : Q (.str ⟨#[c]⟩) σ) : SubR C d (.str x) (.int k) σ Q := fun A G D s o v hA R ho hv => by
  cases hv; cases ho
  have hk : k.toNat < x.cps.size := by
    rcases Nat.lt_or_ge k.toNat x.cps.size with h | h
    · exact h
    · rw [Array.getElem?_eq_none h] at hx; cases hx
  have hj : seqIndex? k x.length = some k.toNat := by
    unfold seqIndex? Str.length
    have h1 : (k : Int) < (x.cps.size : Int) := by omega
    simp [show ¬ k < 0 by omega, h0, h1]
  refine ⟨"str", _, typeIs_str _ _ _, F.slot_str_getitem.lookup, PyProof.Rows.getItem_str (c := c) (by simp; omega) (by rw [hj]; exact hx) (PostC.now (R.tok _) (.str _ _) q)⟩
end
end Mine

set_option autoImplicit false
set_option linter.unusedVariables false
namespace Mine
open PySem

section
variable {C : Cx} {d : Nat} {σ : Sto} {Q : V → Sto → Prop} {G D : Gh} {s : Shared} {A : Around}

/-! ## isinstance -/
theorem I_int_str {i : Int} (q : Q (.bool false) σ) : KW C d (.bi "isinstance") [.int i, .type "str"] σ Q := fun A G D s v vs hA R hv hs => by
  cases hv; cases hs with | cons h1 h2 => cases h2 with | cons h3 h4 => cases h4; cases h3; cases h1; exact IsiPair.int_str (PostC.now (R.tok _) (.bool _) q)
theorem I_int_int {i : Int} (q : Q (.bool true) σ) : KW C d (.bi "isinstance") [.int i, .type "int"] σ Q := fun A G D s v vs hA R hv hs => by
  cases hv; cases hs with | cons h1 h2 => cases h2 with | cons h3 h4 => cases h4; cases h3; cases h1; exact IsiPair.int_int (PostC.now R (.bool _) q)
theorem I_int_bool {i : Int} (q : Q (.bool false) σ) : KW C d (.bi "isinstance") [.int i, .type "bool"] σ Q := fun A G D s v vs hA R hv hs => by
  cases hv; cases hs with | cons h1 h2 => cases h2 with | cons h3 h4 => cases h4; cases h3; cases h1; exact IsiPair.int_bool (PostC.now (R.tok _) (.bool _) q)
theorem I_int_tuple {i : Int} (q : Q (.bool false) σ) : KW C d (.bi "isinstance") [.int i, .type "tuple"] σ Q := fun A G D s v vs hA R hv hs => by
  cases hv; cases hs with | cons h1 h2 => cases h2 with | cons h3 h4 => cases h4; cases h3; cases h1; exact IsiPair.int_tuple (PostC.now (R.tok _) (.bool _) q)
theorem I_bool_str {b : Bool} (q : Q (.bool false) σ) : KW C d (.bi "isinstance") [.bool b, .type "str"] σ Q := fun A G D s v vs hA R hv hs => by
  cases hv; cases hs with | cons h1 h2 => cases h2 with | cons h3 h4 => cases h4; cases h3; cases h1; exact IsiPair.bool_str (PostC.now (R.tok _) (.bool _) q)
theorem I_bool_int {b : Bool} (q : Q (.bool true) σ) : KW C d (.bi "isinstance") [.bool b, .type "int"] σ Q := fun A G D s v vs hA R hv hs => by
  cases hv; cases hs with | cons h1 h2 => cases h2 with | cons h3 h4 => cases h4; cases h3; cases h1; exact IsiPair.bool_int (PostC.now R (.bool _) q)
theorem I_bool_bool {b : Bool} (q : Q (.bool true) σ) : KW C d (.bi "isinstance") [.bool b, .type "bool"] σ Q := fun A G D s v vs hA R hv hs => by
  cases hv; cases hs with | cons h1 h2 => cases h2 with | cons h3 h4 => cases h4; cases h3; cases h1; exact IsiPair.bool_bool (PostC.now R (.bool _) q)
theorem I_bool_tuple {b : Bool} (q : Q (.bool false) σ) : KW C d (.bi "isinstance") [.bool b, .type "tuple"] σ Q := fun A G D s v vs hA R hv hs => by
  cases hv; cases hs with | cons h1 h2 => cases h2 with | cons h3 h4 => cases h4; cases h3; cases h1; exact IsiPair.bool_tuple (PostC.now (R.tok _) (.bool _) q)
theorem I_str_str {x : Str} (q : Q (.bool true) σ) : KW C d (.bi "isinstance") [.str x, .type "str"] σ Q := fun A G D s v vs hA R hv hs => by
  cases hv; cases hs with | cons h1 h2 => cases h2 with | cons h3 h4 => cases h4; cases h3; cases h1; exact IsiPair.str_str (PostC.now R (.bool _) q)
theorem I_str_int {x : Str} (q : Q (.bool false) σ) : KW C d (.bi "isinstance") [.str x, .type "int"] σ Q := fun A G D s v vs hA R hv hs => by
  cases hv; cases hs with | cons h1 h2 => cases h2 with | cons h3 h4 => cases h4; cases h3; cases h1; exact IsiPair.str_int (PostC.now (R.tok _) (.bool _) q)
theorem I_str_bool {x : Str} (q : Q (.bool false) σ) : KW C d (.bi "isinstance") [.str x, .type "bool"] σ Q := fun A G D s v vs hA R hv hs => by
  cases hv; cases hs with | cons h1 h2 => cases h2 with | cons h3 h4 => cases h4; cases h3; cases h1; exact IsiPair.str_bool (PostC.now (R.tok _) (.bool _) q)
theorem I_str_tuple {x : Str} (q : Q (.bool false) σ) : KW C d (.bi "isinstance") [.str x, .type "tuple"] σ Q := fun A G D s v vs hA R hv hs => by
  cases hv; cases hs with | cons h1 h2 => cases h2 with | cons h3 h4 => cases h4; cases h3; cases h1; exact IsiPair.str_tuple (PostC.now (R.tok _) (.bool _) q)
theorem I_NoneType_str  (q : Q (.bool false) σ) : KW C d (.bi "isinstance") [.none, .type "str"] σ Q := fun A G D s v vs hA R hv hs => by
  cases hv; cases hs with | cons h1 h2 => cases h2 with | cons h3 h4 => cases h4; cases h3; cases h1; exact IsiPair.NoneType_str (PostC.now (R.tok _) (.bool _) q)
theorem I_NoneType_int  (q : Q (.bool false) σ) : KW C d (.bi "isinstance") [.none, .type "int"] σ Q := fun A G D s v vs hA R hv hs => by
  cases hv; cases hs with | cons h1 h2 => cases h2 with | cons h3 h4 => cases h4; cases h3; cases h1; exact IsiPair.NoneType_int (PostC.now (R.tok _) (.bool _) q)
theorem I_NoneType_bool  (q : Q (.bool false) σ) : KW C d (.bi "isinstance") [.none, .type "bool"] σ Q := fun A G D s v vs hA R hv hs => by
  cases hv; cases hs with | cons h1 h2 => cases h2 with | cons h3 h4 => cases h4; cases h3; cases h1; exact IsiPair.NoneType_bool (PostC.now (R.tok _) (.bool _) q)
theorem I_NoneType_tuple  (q : Q (.bool false) σ) : KW C d (.bi "isinstance") [.none, .type "tuple"] σ Q := fun A G D s v vs hA R hv hs => by
  cases hv; cases hs with | cons h1 h2 => cases h2 with | cons h3 h4 => cases h4; cases h3; cases h1; exact IsiPair.NoneType_tuple (PostC.now (R.tok _) (.bool _) q)
theorem I_tuple_str {xs : List V} (q : Q (.bool false) σ) : KW C d (.bi "isinstance") [.tup xs, .type "str"] σ Q := fun A G D s v vs hA R hv hs => by
  cases hv; cases hs with | cons h1 h2 => cases h2 with | cons h3 h4 => cases h4; cases h3; cases h1 with | tup e hc hd hr => exact IsiPair.tuple_str (R.d _ _ e) hc (PostC.now (R.tok _) (.bool _) q)
theorem I_tuple_int {xs : List V} (q : Q (.bool false) σ) : KW C d (.bi "isinstance") [.tup xs, .type "int"] σ Q := fun A G D s v vs hA R hv hs => by
  cases hv; cases hs with | cons h1 h2 => cases h2 with | cons h3 h4 => cases h4; cases h3; cases h1 with | tup e hc hd hr => exact IsiPair.tuple_int (R.d _ _ e) hc (PostC.now (R.tok _) (.bool _) q)
theorem I_tuple_bool {xs : List V} (q : Q (.bool false) σ) : KW C d (.bi "isinstance") [.tup xs, .type "bool"] σ Q := fun A G D s v vs hA R hv hs => by
  cases hv; cases hs with | cons h1 h2 => cases h2 with | cons h3 h4 => cases h4; cases h3; cases h1 with | tup e hc hd hr => exact IsiPair.tuple_bool (R.d _ _ e) hc (PostC.now (R.tok _) (.bool _) q)
theorem I_tuple_tuple {xs : List V} (q : Q (.bool true) σ) : KW C d (.bi "isinstance") [.tup xs, .type "tuple"] σ Q := fun A G D s v vs hA R hv hs => by
  cases hv; cases hs with | cons h1 h2 => cases h2 with | cons h3 h4 => cases h4; cases h3; cases h1 with | tup e hc hd hr => exact IsiPair.tuple_tuple (R.d _ _ e) hc (PostC.now R (.bool _) q)
theorem I_list_str {x : V} {xs : List V} {P : Sto → Prop} (h : Has σ x (.list xs) P) (q : Q (.bool false) σ) : KW C d (.bi "isinstance") [x, .type "str"] σ Q := fun A G D s v vs hA R hv hs => by
  cases hv; cases hs with | cons h1 h2 => cases h2 with | cons h3 h4 => cases h4; cases h3; obtain ⟨a, o, rfl, ho, hr, _⟩ := h.run R h1; obtain ⟨_, _, rfl, _⟩ := hr; exact IsiPair.list_str ho rfl (PostC.now (R.tok _) (.bool _) q)
theorem I_list_int {x : V} {xs : List V} {P : Sto → Prop} (h : Has σ x (.list xs) P) (q : Q (.bool false) σ) : KW C d (.bi "isinstance") [x, .type "int"] σ Q := fun A G D s v vs hA R hv hs => by
  cases hv; cases hs with | cons h1 h2 => cases h2 with | cons h3 h4 => cases h4; cases h3; obtain ⟨a, o, rfl, ho, hr, _⟩ := h.run R h1; obtain ⟨_, _, rfl, _⟩ := hr; exact IsiPair.list_int ho rfl (PostC.now (R.tok _) (.bool _) q)
theorem I_list_bool {x : V} {xs : List V} {P : Sto → Prop} (h : Has σ x (.list xs) P) (q : Q (.bool false) σ) : KW C d (.bi "isinstance") [x, .type "bool"] σ Q := fun A G D s v vs hA R hv hs => by
  cases hv; cases hs with | cons h1 h2 => cases h2 with | cons h3 h4 => cases h4; cases h3; obtain ⟨a, o, rfl, ho, hr, _⟩ := h.run R h1; obtain ⟨_, _, rfl, _⟩ := hr; exact IsiPair.list_bool ho rfl (PostC.now (R.tok _) (.bool _) q)
theorem I_list_tuple {x : V} {xs : List V} {P : Sto → Prop} (h : Has σ x (.list xs) P) (q : Q (.bool false) σ) : KW C d (.bi "isinstance") [x, .type "tuple"] σ Q := fun A G D s v vs hA R hv hs => by
  cases hv; cases hs with | cons h1 h2 => cases h2 with | cons h3 h4 => cases h4; cases h3; obtain ⟨a, o, rfl, ho, hr, _⟩ := h.run R h1; obtain ⟨_, _, rfl, _⟩ := hr; exact IsiPair.list_tuple ho rfl (PostC.now (R.tok _) (.bool _) q)
theorem I_dict_str {x : V} {es : List (V × V)} {P : Sto → Prop} (h : Has σ x (.dict es) P) (q : Q (.bool false) σ) : KW C d (.bi "isinstance") [x, .type "str"] σ Q := fun A G D s v vs hA R hv hs => by
  cases hv; cases hs with | cons h1 h2 => cases h2 with | cons h3 h4 => cases h4; cases h3; obtain ⟨a, o, rfl, ho, hr, _⟩ := h.run R h1; obtain ⟨_, _, rfl, _⟩ := hr; exact IsiPair.dict_str ho rfl (PostC.now (R.tok _) (.bool _) q)
theorem I_dict_int {x : V} {es : List (V × V)} {P : Sto → Prop} (h : Has σ x (.dict es) P) (q : Q (.bool false) σ) : KW C d (.bi "isinstance") [x, .type "int"] σ Q := fun A G D s v vs hA R hv hs => by
  cases hv; cases hs with | cons h1 h2 => cases h2 with | cons h3 h4 => cases h4; cases h3; obtain ⟨a, o, rfl, ho, hr, _⟩ := h.run R h1; obtain ⟨_, _, rfl, _⟩ := hr; exact IsiPair.dict_int ho rfl (PostC.now (R.tok _) (.bool _) q)
theorem I_dict_bool {x : V} {es : List (V × V)} {P : Sto → Prop} (h : Has σ x (.dict es) P) (q : Q (.bool false) σ) : KW C d (.bi "isinstance") [x, .type "bool"] σ Q := fun A G D s v vs hA R hv hs => by
  cases hv; cases hs with | cons h1 h2 => cases h2 with | cons h3 h4 => cases h4; cases h3; obtain ⟨a, o, rfl, ho, hr, _⟩ := h.run R h1; obtain ⟨_, _, rfl, _⟩ := hr; exact IsiPair.dict_bool ho rfl (PostC.now (R.tok _) (.bool _) q)
theorem I_dict_tuple {x : V} {es : List (V × V)} {P : Sto → Prop} (h : Has σ x (.dict es) P) (q : Q (.bool false) σ) : KW C d (.bi "isinstance") [x, .type "tuple"] σ Q := fun A G D s v vs hA R hv hs => by
  cases hv; cases hs with | cons h1 h2 => cases h2 with | cons h3 h4 => cases h4; cases h3; obtain ⟨a, o, rfl, ho, hr, _⟩ := h.run R h1; obtain ⟨_, _, rfl, _⟩ := hr; exact IsiPair.dict_tuple ho rfl (PostC.now (R.tok _) (.bool _) q)
/-! ## slices -/
inductive PartV : V → Option Int → Prop
  | none : PartV .none none
  | int (i : Int) : PartV (.int i) (some i)
theorem PartV.is {w : World} {x : V} {o : Option Int} (h : PartV x o) {v : Value} (hv : VR w D v x) : IsPart v o := by
  cases h <;> cases hv
  · exact .none
  · exact .int _ _
def slL (xs : List V) (lo hi st : Option Int) : List V :=
  (sliceRange (sliceBounds lo hi st xs.length).1 (sliceBounds lo hi st xs.length).2.1 (sliceBounds lo hi st xs.length).2.2).filterMap (xs[·]?)
theorem VRs.pick {w : World} {vs : List Value} {xs : List V} (h : VRs w D vs xs) (is : List Nat) : VRs w D (is.filterMap (vs[·]?)) (is.filterMap (xs[·]?)) := by
  induction is with
  | nil => exact .nil
  | cons i r ih =>
    cases e : xs[i]? with
    | some X =>
      obtain ⟨u, hu, ru⟩ := h.get e
      rw [List.filterMap_cons_some hu, List.filterMap_cons_some e]
      exact .cons ru ih
    | none =>
      have e' : vs[i]? = none := by
        rw [List.getElem?_eq_none_iff] at e ⊢; rw [h.length]; exact e
      rw [List.filterMap_cons_none e', List.filterMap_cons_none e]
      exact ih
theorem G_slice {x L U S : V} {xs : List V} {P : Sto → Prop} {lo hi st : Option Int} (h : Has σ x (.list xs) P) (hL : PartV L lo) (hU : PartV U hi) (hS : PartV S st) (h0 : st ≠ some 0) (hl : xs.length ≤ sizeLine)
    (q : NLq Q (slL xs lo hi st) σ) : SubR C d x (.slc L U S) σ Q := fun A G D s o v hA R ho hv => by
  cases hv with
  | slc e h1 h2 h3 =>
    obtain ⟨a, ws, rfl, hIs, hr⟩ := h.isL R ho
    have es : ws.size = xs.length := by rw [← hr.length]; simp
    refine ⟨"list", _, hIs.typeIs, slot_list_getitem.lookup, wpAny_getItem_list_slice hIs ⟨_, R.d _ _ e, rfl, rfl⟩ (hL.is h1) (hU.is h2) (hS.is h3) h0 ?_ (by rw [es]; exact hl)⟩
    have ep : slicePick ws lo hi st = ((sliceRange (sliceBounds lo hi st xs.length).1 (sliceBounds lo hi st xs.length).2.1 (sliceBounds lo hi st xs.length).2.2).filterMap (ws.toList[·]?)).toArray := by
      unfold slicePick; rw [es]; congr 1
      simp
    rw [ep]
    exact R.mkL (hr.pick _) q

/-! ## list + list -/
theorem B_addL {x y : V} {xs ys : List V} {P P' : Sto → Prop} (h : Has σ x (.list xs) P) (h' : Has σ y (.list ys) P') (hl : xs.length + ys.length ≤ sizeLine) (q : NLq Q (xs ++ ys) σ) : AC2 C d (binaryOp .Add) x y σ Q := fun A G D s v u hA R hv hu => by
  obtain ⟨a, ws, n, rfl, ho, hr⟩ := h.isList R hv
  obtain ⟨b, zs, n', rfl, ho', hr'⟩ := h'.isList R hu
  have e1 : ws.size = xs.length := by rw [← hr.length]; simp
  have e2 : zs.size = ys.length := by rw [← hr'.length]; simp
  refine concat_meets ⟨_, ho, rfl⟩ ⟨_, ho', rfl⟩ noFill_list_add seq_list_add F.slot_list_add F.entry_list_add (F.args_list_add_2 _ _) (PyProof.Rows.list_addW a b ws zs n n' none none #[] #[] (by omega)) ⟨ho, ho', ?_⟩
  have e : ws ++ zs = (ws.toList ++ zs.toList).toArray := by simp
  rw [e]
  exact R.mkL (hr.append hr') q

/-! ## all, max, min, range, str -/
def boolsOf : List V → Option (List Bool)
  | [] => some []
  | .bool b :: r => (boolsOf r).map (b :: ·)
  | _ => none
theorem K_all {x : V} {bs : List Bool} {P : Sto → Prop} (h : Has σ x (.list (bs.map V.bool)) P) (q : Q (.bool (bs.all id)) σ) : KW C d (.bi "all") [x] σ Q := fun A G D s v vs hA R hv hs => by
  cases hv
  cases hs with
  | cons h1 h2 =>
    cases h2
    obtain ⟨a, ws, rfl, hL, hr⟩ := h.isL R h1
    have ew : ws.size = bs.length := by rw [show ws.size = ws.toList.length by simp, hr.length]; simp
    have hne : a ≠ s.heap.objs.size := Nat.ne_of_lt (let ⟨_, e, _⟩ := hL; Heap.lt_size e)
    refine call_all_walk (wpAny_pyIter_list hL ⟨s.heap.objs.size, _, _, ws.size, _, _, fun i => bs.getD i false, rfl, Walks.list (A := A.in1) hA.h s.heap.objs.size a hne ws, ⟨⟨_, Heap.get?_push_size _ rfl, rfl, rfl⟩, hL.push _⟩, ?_, fun h' tk hk => ?_⟩)
    · intro i u s' K E' hu hK
      have hu' : ws.toList[i]? = some u := by simpa using hu
      obtain ⟨X, hX, rX⟩ := hr.get' hu'
      rw [List.getElem?_map] at hX
      obtain ⟨b, hb, e⟩ := Option.map_eq_some_iff.mp hX
      subst e
      cases rX
      refine wpAny_truthy_bool ?_
      simpa [List.getD, hb] using hK
    · have : (List.range ws.size).all (fun i => bs.getD i false) = bs.all id := by
        rw [ew]
        clear hr ew hL hne hk h q h1
        induction bs with
        | nil => rfl
        | cons b r ih =>
          rw [List.length_cons, List.range_succ_eq_map, List.all_cons, List.all_map]
          simp only [List.getD_cons_zero, List.all_cons, id, Function.comp_def, List.getD_cons_succ]
          rw [ih]
      rw [this]
      exact PostC.now ((R.push _).keepBut (h' := h') tk [s.heap.objs.size] (fun c hc => by simp at hc; subst hc; exact ⟨R.new_G, R.new_D, R.new_notFoot⟩) hk) (.bool _) q
theorem K_max2 {a b : Int} (q : Q (.int (max a b)) σ) : KW C d (.bi "max") [.int a, .int b] σ Q := fun A G D s v vs hA R hv hs => by
  cases hv; cases hs with
  | cons h1 h2 =>
    cases h2 with
    | cons h3 h4 =>
      cases h4; cases h3; cases h1
      refine max_two_ints hA.h fun h' tk hk => ?_
      have R' := R.keep (h' := h') tk hk
      by_cases hc : b > a
      · rw [if_pos hc]; rw [show max a b = b by omega] at q; exact PostC.now R' (.int _ _) q
      · rw [if_neg hc]; rw [show max a b = a by omega] at q; exact PostC.now R' (.int _ _) q
theorem K_min2 {a b : Int} (q : Q (.int (min a b)) σ) : KW C d (.bi "min") [.int a, .int b] σ Q := fun A G D s v vs hA R hv hs => by
  cases hv; cases hs with
  | cons h1 h2 =>
    cases h2 with
    | cons h3 h4 =>
      cases h4; cases h3; cases h1
      refine min_two_ints hA.h fun h' tk hk => ?_
      have R' := R.keep (h' := h') tk hk
      by_cases hc : b < a
      · rw [if_pos hc]; rw [show min a b = b by omega] at q; exact PostC.now R' (.int _ _) q
      · rw [if_neg hc]; rw [show min a b = a by omega] at q; exact PostC.now R' (.int _ _) q
theorem K_range1 {n : Int} (q : Q (.rng 0 n 1) σ) : KW C d (.type "range") [.int n] σ Q := fun A G D s v vs hA R hv hs => by
  cases hv; cases hs with
  | cons h1 h2 =>
    cases h2; cases h1
    refine call_range_1 ?_
    obtain ⟨R', dx⟩ := (R.tok (s.toks + 1 + 1)).newF { cls := .type "range", data := .fields #[.int 0 s.toks, .int n _, .int 1 (s.toks + 1)] }
    exact ⟨_, _, σ, dx, .rng (putD_self ..), R', q⟩
theorem K_range2 {a b : Int} (q : Q (.rng a b 1) σ) : KW C d (.type "range") [.int a, .int b] σ Q := fun A G D s v vs hA R hv hs => by
  cases hv; cases hs with
  | cons h1 h2 =>
    cases h2 with
    | cons h3 h4 =>
      cases h4; cases h3; cases h1
      refine call_range_2 ?_
      obtain ⟨R', dx⟩ := (R.tok (s.toks + 1)).newF { cls := .type "range", data := .fields #[.int a _, .int b _, .int 1 s.toks] }
      exact ⟨_, _, σ, dx, .rng (putD_self ..), R', q⟩
theorem K_strI {a : Int} (ha : a.natAbs.log2 < 1920) (q : Q (.str (toString a)) σ) : KW C d (.type "str") [.int a] σ Q := fun A G D s v vs hA R hv hs => by
  cases hv; cases hs with
  | cons h1 h2 => cases h2; cases h1; exact P.str_of_int ha (PostC.now (R.tok _) (.str _ _) q)
end
end Mine

set_option autoImplicit false
set_option linter.unusedVariables false
namespace Mine
open PySem

section
variable {C : Cx} {env : Env} {vars : List Str} {gl : List (Str × V)} {own : Bool} {d : Nat} {m m' : Loc} {σ σ' : Sto}
variable {A : Around} {G D D₀ D₁ : Gh} {s : Shared} {P : V → Sto → Prop}

/-! ## slices written -/
def APart (C : Cx) (env : Env) (vars : List Str) (gl : List (Str × V)) (own : Bool) (d : Nat) : Option Expr → Loc → Sto → (V → Sto → Prop) → Prop
  | none, m, σ, K => K .none σ
  | some e, m, σ, K => AT C env vars gl own d (eval e env) m σ K
theorem APart.run {e : Option Expr} {K : V → Sto → Prop} (h : APart C env vars gl own d e m σ K) (hA : AOk A d) (R : RelF C env vars gl own G D m σ s) {Z : Value → Shared → Prop}
    (k : ∀ v s' x D' σ', DX G D D' → VR C.w D' v x → RelF C env vars gl own G D' m σ' s' → K x σ' → Z v s') : wpAny C.M A (evalPart e env) Z (fun _ _ => False) s := by
  cases e with
  | none => rw [evalPart_none]; exact wpAny_pure (k _ _ _ _ _ (DX.refl _ _) .none R h)
  | some e => rw [evalPart_some]; exact AT.run h hA R k
theorem AT_Slice {l u st : Option Expr} {p : Pos} (h : APart C env vars gl own d l m σ fun L σ₁ => APart C env vars gl own d u m σ₁ fun U σ₂ => APart C env vars gl own d st m σ₂ fun S σ₃ => P (.slc L U S) σ₃) :
    AT C env vars gl own d (eval (.Slice l u st p) env) m σ P := fun A G D s hA R =>
  wpAny_Slice (h.run hA R fun v₁ s₁ L D₁ σ₁ a₁ b₁ c₁ e₁ => e₁.run hA c₁ fun v₂ s₂ U D₂ σ₂ a₂ b₂ c₂ e₂ => e₂.run hA c₂ fun v₃ s₃ S D₃ σ₃ a₃ b₃ c₃ e₃ => by
    obtain ⟨R', dx⟩ := c₃.newF { cls := .type "slice", data := .fields #[v₁, v₂, v₃] }
    exact ⟨.slc L U S, _, σ₃, ((a₁.trans a₂).trans a₃).trans dx, .slc (putD_self ..) (b₁.mono ((a₂.trans a₃).trans dx).sub) (b₂.mono (a₃.trans dx).sub) (b₃.mono dx.sub), R', e₃⟩)

/-! ## methods of built-in types -/
structure MethIs (T : String) (name : Str) (id : String) : Prop where
  pa : PlainAttrs T
  slot : Slot T name id
  ty : typeOf (.builtin id) = pure (.type "method_descriptor")
def TyR (C : Cx) (x : V) (σ : Sto) (T : String) : Prop :=
  ∀ G D s v, RelC C G D σ s → VR C.w D v x → s.TypeIs v T ∧ ∀ a, v = .ref a → ∃ ob, s.heap.get? a = some ob ∧ ob.dict = none
theorem TyR_str {x : Str} : TyR C (.str x) σ "str" := fun G D s v R hv => by cases hv; exact ⟨typeIs_str _ _ _, fun a e => by cases e⟩
theorem TyR_list {x : V} {xs : List V} {P : Sto → Prop} (h : Has σ x (.list xs) P) : TyR C x σ "list" := fun G D s v R hv => by
  obtain ⟨a, vs, n, rfl, ho, hr⟩ := h.isList R hv
  exact ⟨⟨_, ho, rfl⟩, fun b e => by cases e; exact ⟨_, ho, rfl⟩⟩
theorem TyR_dict {x : V} {es : List (V × V)} {P : Sto → Prop} (h : Has σ x (.dict es) P) : TyR C x σ "dict" := fun G D s v R hv => by
  obtain ⟨a, o, rfl, ho, ⟨es, n, rfl, hr⟩, _⟩ := h.run R hv
  exact ⟨⟨_, ho, rfl⟩, fun b e => by cases e; exact ⟨_, ho, rfl⟩⟩

theorem AT_Meth0 {T id : String} {o : Expr} {name : Str} {ap p : Pos} (hM : MethIs T name id) (h : AT C env vars gl own d (eval o env) m σ fun X σ₁ => TyR C X σ₁ T ∧ KW C d (.bi id) [X] σ₁ P)
    (hbase : attributeBase o name env (eval o env) = eval o env := by with_unfolding_all exact rfl) (hline : (ap.endLine == p.line) = true := by with_unfolding_all exact rfl) :
    AT C env vars gl own d (eval (.Call (.Attribute o name ap) [] [] p) env) m σ P := fun A G D s hA R =>
  wpAny_Call_method_lateS hbase rfl hline (h.run hA R fun v s₁ X D₁ σ₁ a b c ⟨hT, hk⟩ => ⟨T, id, hM.pa, hM.slot, hM.ty, (hT _ _ _ _ c.toRelC b).1, (hT _ _ _ _ c.toRelC b).2,
    Calls.callWith_builtin rfl (evalArgs_none (wp_weak a (hk.inF hA c (.bi id) (.cons b .nil))))⟩)
theorem AT_Meth {T id : String} {o e : Expr} {rest : List Expr} {name : Str} {ap p : Pos} (hM : MethIs T name id)
    (h : AT C env vars gl own d (eval o env) m σ fun X σ₁ => TyR C X σ₁ T ∧ AL C env vars gl own d (spliced (backTo p (starEach (e :: rest) env))) m σ₁ fun Xs σ₂ => KW C d (.bi id) (X :: Xs) σ₂ P)
    (hbase : attributeBase o name env (eval o env) = eval o env := by with_unfolding_all exact rfl) (hline : (ap.endLine == p.line) = true := by with_unfolding_all exact rfl)
    (he : starEach (e :: rest) env = (false, eval e env) :: starEach rest env := by with_unfolding_all exact rfl) (hplain : (backTo p (starEach rest env)).any (·.1) = false := by with_unfolding_all exact rfl)
    (hfew : ((backTo p (starEach (e :: rest) env)).all (fun x => !x.1) && (backToKw p (keywordEach [] env)).all (fun x => x.1.isSome) && decide ((e :: rest).length + ([] : List Keyword).length + (if ([] : List Keyword).isEmpty then 0 else 1) < 30)) = true := by with_unfolding_all exact rfl) :
    AT C env vars gl own d (eval (.Call (.Attribute o name ap) (e :: rest) [] p) env) m σ P := fun A G D s hA R =>
  wpAny_Call_method_lateS hbase hfew hline (h.run hA R fun v s₁ X D₁ σ₁ a b c ⟨hT, hk⟩ => ⟨T, id, hM.pa, hM.slot, hM.ty, (hT _ _ _ _ c.toRelC b).1, (hT _ _ _ _ c.toRelC b).2, by
    rw [he] at hk ⊢
    exact Calls.callWith_builtin hplain (Calls.evalArgs_plain (AL.run hk hA c fun vs s₂ Xs D₂ σ₂ a' b' c' q => wp_weak (a.trans a') (q.inF hA c' (.bi id) (.cons (b.mono a'.sub) b'))))⟩)

theorem M_join : MethIs "str" "join" "str.join" := ⟨F.plainAttrs_str, F.slot_str_join, F.type_str_join⟩

/-! ## chains of two comparisons -/
theorem AT_Cmp2 {l r r2 : Expr} {op op2 : CmpOp} {p : Pos} (h : AT C env vars gl own d (eval l env) m σ fun X σ₁ => AT C env vars gl own d (eval r env) m σ₁ fun Y σ₂ => AC2 C d (compareOp op) X Y σ₂ fun Z σ₃ =>
      ∃ b, TR C d Z σ₃ b ∧ (b = false → P Z σ₃) ∧ (b = true → AT C env vars gl own d (eval r2 env) m σ₃ fun W σ₄ => AC2 C d (compareOp op2) Y W σ₄ P))
    (hm2 : behindInMarks op2 r2 = false := by with_unfolding_all rfl) :
    AT C env vars gl own d (eval (.Compare l [op, op2] [r, r2] p) env) m σ P := fun A G D s hA R => by
  rw [show eval (.Compare l [op, op2] [r, r2] p) env = (do compareChain p (← eval l env) [op, op2] (markedEach [op, op2] [r, r2] (evalEach [r, r2] env))) from by rw [eval]]
  have e0 : markedEach [op, op2] [r, r2] (evalEach [r, r2] env) = [eval r env, markedBehindIn op2 r2 (eval r2 env)] := rfl
  rw [e0, markedBehindIn_of_false hm2]
  refine wpAny_bind (h.run hA R fun v s₁ X D₁ σ₁ a b c e => ?_)
  show wpAny C.M A (do
    let rv ← holding [v] (eval r env)
    standAt p
    let c ← holding [v, rv] (compareOp op v rv)
    release [v, rv] [c]
    if ← holding [c, rv] (truthy c) then compareChain p rv [op2] [eval r2 env] else pure c) _ _ s₁
  refine wpAny_bind (wpAny_holding (e.run hA c fun u s₂ Y D₂ σ₂ a' b' c' e' => wpAny_bind (wpAny_standAt (wpAny_bind (wpAny_holding ?_)))))
  refine wpAny_mono (e'.inF hA c' (b.mono a'.sub) b') (fun z s₃ ⟨Z, D₃, σ₃, a₃, b₃, c₃, t, ht, h1, h2⟩ => wpAny_bind (PyProof.Rows.wpAny_release' (wpAny_bind (wpAny_holding (ht.inF hA c₃ b₃ fun tk => ?_))))) fun _ _ x => x
  have dx3 := (a.trans a').trans a₃
  cases t with
  | false => exact wpAny_pure ⟨Z, D₃, σ₃, dx3, b₃, c₃.tok tk, h1 rfl⟩
  | true =>
    show wpAny C.M A (do
      let rv ← holding [u] (eval r2 env)
      standAt p
      operate [u, rv] (compareOp op2 u rv)) _ _ _
    refine wpAny_bind (wpAny_holding ((h2 rfl).run hA (c₃.tok tk) fun u2 s₄ W D₄ σ₄ a₄ b₄ c₄ e₄ => wpAny_bind (wpAny_standAt (wpAny_operating ?_))))
    exact wp_weak (dx3.trans a₄) (e₄.inF hA c₄ (b'.mono (a₃.trans a₄).sub) b₄)
variable {K : Bool → Sto → Prop}
theorem AB_Cmp2 {l r r2 : Expr} {op op2 : CmpOp} {p : Pos} {whole : Sem Value} (h : AT C env vars gl own d (eval l env) m σ fun X σ₁ => AT C env vars gl own d (eval r env) m σ₁ fun Y σ₂ => AC2 C d (compareOp op) X Y σ₂ fun Z σ₃ =>
      ∃ b, TR C d Z σ₃ b ∧ (b = false → K false σ₃) ∧ (b = true → AT C env vars gl own d (eval r2 env) m σ₃ fun W σ₄ => AC2 C d (compareOp op2) Y W σ₄ fun Z2 σ₅ => TRX C d Z2 σ₅ K))
    (hm2 : behindInMarks op2 r2 = false := by with_unfolding_all rfl) :
    AB C env vars gl own d (isTrue (.Compare l [op, op2] [r, r2] p) env whole) m σ K := fun A G D s hA R => by
  rw [arm_isTrue_Compare]
  have e0 : markedEach [op, op2] [r, r2] (evalEach [r, r2] env) = [eval r env, markedBehindIn op2 r2 (eval r2 env)] := rfl
  rw [e0, markedBehindIn_of_false hm2]
  refine wpAny_bind (h.run hA R fun v s₁ X D₁ σ₁ a b c e => ?_)
  show wpAny C.M A (do
    let rv ← holding [v] (eval r env)
    standAt p
    let c ← holding [v, rv] (compareOp op v rv)
    release [v, rv] [c]
    if ← holding [c, rv] (truthy c) then testChain p rv [op2] [eval r2 env] else pure false) _ _ s₁
  refine wpAny_bind (wpAny_holding (e.run hA c fun u s₂ Y D₂ σ₂ a' b' c' e' => wpAny_bind (wpAny_standAt (wpAny_bind (wpAny_holding ?_)))))
  refine wpAny_mono (e'.inF hA c' (b.mono a'.sub) b') (fun z s₃ ⟨Z, D₃, σ₃, a₃, b₃, c₃, t, ht, h1, h2⟩ => wpAny_bind (PyProof.Rows.wpAny_release' (wpAny_bind (wpAny_holding (ht.inF hA c₃ b₃ fun tk => ?_))))) fun _ _ x => x
  have dx3 := (a.trans a').trans a₃
  cases t with
  | false => exact wpAny_pure ⟨D₃, σ₃, dx3, c₃.tok tk, h1 rfl⟩
  | true =>
    show wpAny C.M A (do
      let rv ← holding [u] (eval r2 env)
      standAt p
      let c ← operate [u, rv] (compareOp op2 u rv)
      holding [c] (truthy c)) _ _ _
    refine wpAny_bind (wpAny_holding ((h2 rfl).run hA (c₃.tok tk) fun u2 s₄ W D₄ σ₄ a₄ b₄ c₄ e₄ => wpAny_bind (wpAny_standAt (wpAny_bind (wpAny_operating ?_)))))
    refine wpAny_mono (e₄.inF hA c₄ (b'.mono (a₃.trans a₄).sub) b₄) (fun z s₅ ⟨Z2, D₅, σ₅, a₅, b₅, c₅, t2, ht2, hk⟩ => wpAny_holding (ht2.inF hA c₅ b₅ fun tk2 => ?_)) fun _ _ x => x
    exact ⟨D₅, σ₅, (dx3.trans a₄).trans a₅, c₅.tok tk2, hk⟩

/-! ## the signs of a text -/
def signsOf (x : Str) : List V := x.cps.toList.map fun c => V.str ⟨#[c]⟩
variable {Q : List V → (Sto → Prop) → Sto → Prop}
theorem AI_str {iter tgt : Expr} (h : AT C env vars gl own d (eval iter env) m σ fun X σ₁ => ∃ x, X = .str x ∧ Q (signsOf x) (fun _ => True) σ₁) : AI C env vars gl own d iter tgt m σ Q := fun A G D s hA R =>
  h.run hA R fun v s₁ X D₁ σ₁ dx b c ⟨x, hX, q⟩ => by
    subst hX
    cases b with
    | str x t =>
      have rel : ∀ (i : Nat) v X, SignAt x i v → (signsOf x)[i]? = some X → VR C.w D₁ v X := by
        rintro i v X ⟨ch, u, hc, rfl⟩ hX
        have hc' : x.cps.toList[i]? = some ch := by simpa using hc
        simp only [signsOf, List.getElem?_map, hc', Option.map_some, Option.some.injEq] at hX
        subst hX; exact .str _ _
      have len : x.cps.size = (signsOf x).length := by simp [signsOf]
      have stay : ∀ h : Heap, Stay C D₁ (fun _ => True) h [s₁.heap.objs.size] [s₁.heap.objs.size] := fun h G' D' σ' s' R' hs hP' b hb hbw o' e' => absurd hb hbw
      cases ha : x.cps.all (· < 128)
      · refine wpAny_pyIter_wide ha ⟨D₁, σ₁, _, fun _ => True, dx, ⟨s₁.heap.objs.size, _, _, _, rfl, IW.ofWalks (Walks.strWide hA.h s₁.heap.objs.size x t) len rel ?_ ?_ ?_, ⟨_, Heap.get?_push_size _ rfl, rfl, rfl⟩, c.push _, c.offNew (lstO #[] 0), trivial, stay _⟩, q⟩
        · rintro i h ⟨o, ho, _⟩ a ha; simp at ha; subst ha; exact ⟨_, ho⟩
        · rintro b hb hbw h _ e; exact hbw hb
        · rintro i h ⟨o, ho, hc, _⟩; exact ⟨_, _, ho, hc, by decide⟩
      · refine wpAny_pyIter_ascii ha ⟨D₁, σ₁, _, fun _ => True, dx, ⟨s₁.heap.objs.size, _, _, _, rfl, IW.ofWalks (Walks.strAscii hA.h s₁.heap.objs.size x t) len rel ?_ ?_ ?_, ⟨_, Heap.get?_push_size _ rfl, rfl, rfl⟩, c.push _, c.offNew (lstO #[] 0), trivial, stay _⟩, q⟩
        · rintro i h ⟨o, ho, _⟩ a ha; simp at ha; subst ha; exact ⟨_, ho⟩
        · rintro b hb hbw h _ e; exact hbw hb
        · rintro i h ⟨o, ho, hc, _⟩; exact ⟨_, _, ho, hc, by decide⟩
end
end Mine

set_option autoImplicit false
set_option linter.unusedVariables false
namespace Mine
open PySem

class LkC (ns : List Str) (m : Loc) (x : Str) (X : outParam V) : Prop where
  lk : Lk ns m x X
instance LkC.head {x : Str} {ns : List Str} {X : V} {m : Loc} : LkC (x :: ns) (some X :: m) x X := ⟨.head⟩
instance (priority := low) LkC.tail {x y : Str} {ns : List Str} {X : V} {o : Option V} {m : Loc} [h : LkC ns m x X] : LkC (y :: ns) (o :: m) x X := ⟨.tail h.lk⟩
class PutC (ns : List Str) (m : Loc) (x : Str) (X : V) (m' : outParam Loc) : Prop where
  put : Put ns m x X m'
instance PutC.head {x : Str} {ns : List Str} {X : V} {o : Option V} {m : Loc} : PutC (x :: ns) (o :: m) x X (some X :: m) := ⟨.head⟩
instance (priority := low) PutC.tail {x y : Str} {ns : List Str} {X : V} {o : Option V} {m m' : Loc} [h : PutC ns m x X m'] : PutC (y :: ns) (o :: m) x X (o :: m') := ⟨.tail h.put⟩
class GInC (gl : List (Str × V)) (x : Str) (X : outParam V) : Prop where
  mem : (x, X) ∈ gl
instance GInC.head {x : Str} {X : V} {r : List (Str × V)} : GInC ((x, X) :: r) x X := ⟨List.mem_cons_self⟩
instance (priority := low) GInC.tail {x : Str} {X : V} {p : Str × V} {r : List (Str × V)} [h : GInC r x X] : GInC (p :: r) x X := ⟨List.mem_cons_of_mem _ h.mem⟩
inductive GIn : List (Str × V) → Str → V → Prop
  | head {x : Str} {X : V} {r : List (Str × V)} : GIn ((x, X) :: r) x X
  | tail {x : Str} {X : V} {p : Str × V} {r : List (Str × V)} : GIn r x X → GIn (p :: r) x X
theorem GIn.mem {x : Str} {X : V} {l : List (Str × V)} (h : GIn l x X) : (x, X) ∈ l := by
  induction h with
  | head => exact List.mem_cons_self
  | tail _ ih => exact List.mem_cons_of_mem _ ih

section
variable {C : Cx} {env : Env} {vars : List Str} {gl : List (Str × V)} {own : Bool} {d : Nat} {m m' : Loc} {σ σ' : Sto}
variable {A : Around} {G D D₀ D₁ : Gh} {s : Shared} {Q : V → Sto → Prop}

theorem PartV.is2 {w : World} {x : V} {o : Option Int} (h : PartV x o) {v : Value} (hv : VR w D v x) : ∃ l : Option (Int × Tok), v = partValue l ∧ l.map (·.1) = o := by
  cases h <;> cases hv
  · exact ⟨Option.none, rfl, rfl⟩
  · exact ⟨Option.some (_, _), rfl, rfl⟩
theorem G_strSl {x : Str} {L U : V} {lo hi : Option Int} (hL : PartV L lo) (hU : PartV U hi) (hl : x.length ≤ sizeLine) (q : Q (.str (Txt.slice x lo hi)) σ) : SubR C d (.str x) (.slc L U .none) σ Q := fun A G D s o v hA R ho hv => by
  cases ho
  cases hv with
  | slc e h1 h2 h3 =>
    cases h3
    obtain ⟨l, rfl, rfl⟩ := hL.is2 h1
    obtain ⟨u, rfl, rfl⟩ := hU.is2 h2
    refine ⟨"str", _, typeIs_str _ _ _, F.slot_str_getitem.lookup, wpAny_getItem_str_slice (l := l) (u := u) (st := none) ⟨_, R.d _ _ e, rfl, rfl⟩ rfl (post_val_or_str ⟨?_, fun t' k => ?_⟩)⟩
    · exact Nat.le_trans (Txt.slice_le x _ _) hl
    · exact PostC.now (R.tok k) (.str _ _) q
theorem strsV {w : World} : ∀ {vs : List Value} {xs : List Str}, VRs w D vs (xs.map V.str) → ∃ l : List (Str × Tok), vs = strValues l ∧ l.map (·.1) = xs
  | _, [], h => by cases h; exact ⟨[], rfl, rfl⟩
  | _, x :: xs, h => by
    cases h with
    | cons h1 h2 =>
      cases h1 with
      | str _ t =>
        obtain ⟨l, rfl, e⟩ := strsV h2
        exact ⟨(x, t) :: l, rfl, by simp [e]⟩
theorem K_join {x : V} {sep : Str} {xs : List Str} {P : Sto → Prop} (h : Has σ x (.list (xs.map V.str)) P) (hok : JoinOk sep xs = true) (q : Q (.str (Txt.join sep xs)) σ) : KW C d (.bi "str.join") [.str sep, x] σ Q := fun A G D s v vs hA R hv hs => by
  cases hv
  cases hs with
  | cons h1 h2 =>
    cases h2 with
    | cons h3 h4 =>
      cases h4; cases h1
      obtain ⟨a, ws, rfl, hL, hr⟩ := h.isL R h3
      obtain ⟨l, e, e2⟩ := strsV hr
      have : ws = (strValues l).toArray := by rw [← e]
      rw [this] at hL
      exact SC.join hL e2 hok fun t' k => PostC.now (R.tok k) (.str _ _) q

theorem AT_gl {x : Str} {p : Pos} {X : V} (h : GIn gl x X) (q : Q X σ) : AT C env vars gl own d (eval (.Name x p) env) m σ Q := AT_glob h.mem q
theorem AT_lc {x : Str} {p : Pos} {X : V} [h : LkC vars m x X] (q : Q X σ) : AT C env vars gl own d (eval (.Name x p) env) m σ Q := AT_local h.lk q
theorem AT_gc {x : Str} {p : Pos} {X : V} [h : GInC gl x X] (q : Q X σ) : AT C env vars gl own d (eval (.Name x p) env) m σ Q := AT_glob h.mem q
theorem put_c {x : Str} {X : V} {m' : Loc} {K : Loc → Prop} [h : PutC vars m x X m'] (k : K m') : ∃ m', Put vars m x X m' ∧ K m' := ⟨m', h.put, k⟩
theorem AT_andE {x y : Expr} {r : List Expr} {p : Pos} (h : AT C env vars gl own d (eval x env) m σ fun X σ₁ => ∃ b, TR C d X σ₁ b ∧ (b = true → AT C env vars gl own d (boolOp p .And (evalEach (y :: r) env)) m σ₁ Q) ∧ (b = false → Q X σ₁)) :
    AT C env vars gl own d (boolOp p .And (evalEach (x :: y :: r) env)) m σ Q := AT_and h
theorem AT_orE {x y : Expr} {r : List Expr} {p : Pos} (h : AT C env vars gl own d (eval x env) m σ fun X σ₁ => ∃ b, TR C d X σ₁ b ∧ (b = true → Q X σ₁) ∧ (b = false → AT C env vars gl own d (boolOp p .Or (evalEach (y :: r) env)) m σ₁ Q)) :
    AT C env vars gl own d (boolOp p .Or (evalEach (x :: y :: r) env)) m σ Q := AT_or h
theorem AT_and1E {x : Expr} {p : Pos} (h : AT C env vars gl own d (eval x env) m σ Q) : AT C env vars gl own d (boolOp p .And (evalEach [x] env)) m σ Q := h
theorem AT_or1E {x : Expr} {p : Pos} (h : AT C env vars gl own d (eval x env) m σ Q) : AT C env vars gl own d (boolOp p .Or (evalEach [x] env)) m σ Q := h
variable {QS : Fl → Loc → Sto → Prop} {rest : List Stmt} {X : V}
theorem Then_ret (q : QS (.ret X) m σ) : Then C env vars gl own d rest QS (.ret X) m σ := q
theorem Then_next (q : AS C env vars gl own d (execs rest env) m σ QS) : Then C env vars gl own d rest QS .next m σ := q
theorem RetQ_ret (q : Q X σ) : RetQ Q (.ret X) m σ := q
theorem RetQ_next (q : Q .none σ) : RetQ Q .next m σ := q
theorem APart_none {K : V → Sto → Prop} (q : K .none σ) : APart C env vars gl own d none m σ K := q
theorem APart_some {e : Expr} {K : V → Sto → Prop} (q : AT C env vars gl own d (eval e env) m σ K) : APart C env vars gl own d (some e) m σ K := q
theorem GL_nil : ∀ p ∈ ([] : List (Str × V)), GlobR C p.1 p.2 := fun p h => by cases h
theorem GL_cons {x : Str} {X : V} {r : List (Str × V)} (h : GlobR C x X) (t : ∀ p ∈ r, GlobR C p.1 p.2) : ∀ p ∈ (x, X) :: r, GlobR C p.1 p.2 := fun p hp => by
  rcases List.mem_cons.mp hp with rfl | hp
  · exact h
  · exact t p hp
theorem callee_bi {n : String} : Callee C (.bi n) := trivial
theorem callee_type {n : String} : Callee C (.type n) := trivial
theorem callee_at {K : W.Frag} (H : K.In C.base) {a : Addr} {o : Obj} {fd : FuncData} (e1 : K.lookup a = some o) (e2 : o.data = .func fd) : Callee C (.ref a) := ⟨o, fd, H a o e1, e2⟩
/-- a call of a def: its contract -/
theorem fnc {a : Addr} {xs : List V} (h : CW C d (.ref a) xs σ Q) : KW C d (.ref a) xs σ Q := KW_of_CW h
theorem CW.le {d' : Nat} {a : Addr} {xs : List V} (h : CW C d' (.ref a) xs σ Q) (hd : d' ≤ d) : CW C d (.ref a) xs σ Q := fun A G D s vs hA R hv => h A G D s vs (hA.le hd) R hv

/-! ## plain comprehensions -/
theorem comp_local {sc : Scope} {env env' : Env} {x : Str} (hsc : env'.scope = relabel sc env) (h : sc.names.lookup x = some .local) : env'.kindOf x = some .local := by
  show env'.scope.names.lookup x = some .local
  rw [hsc]; exact lookup_relabel_local h
section
variable {x : Str} {pp : Pos} {caps : List Str} {elt c : Expr} {ms : Loc} {P : Sto → Prop} {Z : List V → Sto → Prop}
theorem CompL_map {f : V → V} (hk : env.kindOf x = some .local) (hP : P σ) (xs : List V) :
    ∀ (acc : List V) (o : Option V), (∀ X ∈ xs, ∀ K : V → Sto → Prop, K (f X) σ → AT C env (x :: caps) gl false d (eval elt env) (some X :: ms) σ K) → Z (acc ++ xs.map f) σ →
      CompL C env (x :: caps) gl d (.Name x pp) elt [] P Z xs acc (o :: ms) σ := by
  induction xs with
  | nil => intro acc o _ q; simpa [CompL] using q
  | cons X xs ih =>
    intro acc o h q
    refine AA_Name Put.head ?_ (.inr hk)
    refine ⟨fun _ => h X (.head _) _ ⟨hP, ih (acc ++ [f X]) (some X) (fun Y hY => h Y (.tail _ hY)) (by simpa using q)⟩, fun e => by cases e⟩
theorem CompL_filter {f : V → V} {t : V → Bool} (hk : env.kindOf x = some .local) (hP : P σ) (xs : List V) :
    ∀ (acc : List V) (o : Option V), (∀ X ∈ xs, ∀ K : Bool → Sto → Prop, K (t X) σ → AB C env (x :: caps) gl false d (isTrue c env (eval c env)) (some X :: ms) σ K) →
      (∀ X ∈ xs, t X = true → ∀ K : V → Sto → Prop, K (f X) σ → AT C env (x :: caps) gl false d (eval elt env) (some X :: ms) σ K) → Z (acc ++ (xs.filter t).map f) σ →
      CompL C env (x :: caps) gl d (.Name x pp) elt [c] P Z xs acc (o :: ms) σ := by
  induction xs with
  | nil => intro acc o _ _ q; simpa [CompL] using q
  | cons X xs ih =>
    intro acc o ht h q
    refine AA_Name Put.head ?_ (.inr hk)
    refine ht X (.head _) _ ⟨fun e => h X (.head _) e _ ⟨hP, ih (acc ++ [f X]) (some X) (fun Y hY => ht Y (.tail _ hY)) (fun Y hY => h Y (.tail _ hY)) ?_⟩, fun e => ⟨hP, ih acc (some X) (fun Y hY => ht Y (.tail _ hY)) (fun Y hY => h Y (.tail _ hY)) ?_⟩⟩
    · simpa [List.filter_cons, e] using q
    · simpa [List.filter_cons, e] using q
theorem CompL_some {R : V → V → Prop} (hk : env.kindOf x = some .local) (hP : P σ) (xs : List V) :
    ∀ (acc : List V) (o : Option V), (∀ X ∈ xs, ∀ K : V → Sto → Prop, (∀ Y, R X Y → K Y σ) → AT C env (x :: caps) gl false d (eval elt env) (some X :: ms) σ K) →
      (∀ ys : List V, ys.length = xs.length → (∀ y ∈ ys, ∃ X ∈ xs, R X y) → Z (acc ++ ys) σ) → CompL C env (x :: caps) gl d (.Name x pp) elt [] P Z xs acc (o :: ms) σ := by
  induction xs with
  | nil => intro acc o _ q; simpa [CompL] using q [] rfl (fun y hy => by cases hy)
  | cons X xs ih =>
    intro acc o h q
    refine AA_Name Put.head ?_ (.inr hk)
    refine ⟨fun _ => h X (.head _) _ fun Y hY => ⟨hP, ih (acc ++ [Y]) (some X) (fun Y hY => h Y (.tail _ hY)) fun ys hl hys => ?_⟩, fun e => by cases e⟩
    have := q (Y :: ys) (by simp [hl]) (fun y hy => by
      rcases List.mem_cons.mp hy with rfl | hy
      · exact ⟨X, .head _, hY⟩
      · obtain ⟨Z, h1, h2⟩ := hys y hy; exact ⟨Z, .tail _ h1, h2⟩)
    simpa using this
end

section
variable {elt tgt iter : Expr} {ifs : List Expr} {scope : Scope} {pos p' p : Pos} {y : Str} {ms : Loc} {QS : Fl → Loc → Sto → Prop}
theorem AT_CompF1 (x : Str) (caps : List Str) (gl' : List (Str × V))
    (hok : compOk scope env.scope vars [x] caps (gl'.map (·.1)) = true) (hgl : ∀ p ∈ gl', GlobR C p.1 p.2) (hcaps : Caps vars m caps ms)
    (h : AI C env vars gl own d iter tgt m σ fun xs Pp σ₁ => xs.length ≤ sizeLine ∧ ∀ env', env'.scope = relabel scope env →
      CompL C env' (x :: caps) gl' d tgt elt ifs Pp (fun ys σ₂ => Q (.lst ys) σ₂) xs [] (none :: ms) σ₁)
    (hs : ∀ x, foldedSetIterable iter env x = pure x := by intro _; with_unfolding_all exact rfl) :
    AT C env vars gl own d (eval (.ListComp elt [⟨tgt, iter, ifs, 0⟩] scope pos) env) m σ Q := AT_CompF [x] caps gl' hok hgl hcaps h hs
theorem AT_CompM1 (x : Str) (caps : List Str) (gl' : List (Str × V))
    (hok : compOk scope env.scope vars [x] caps (gl'.map (·.1)) = true) (hgl : ∀ p ∈ gl', GlobR C p.1 p.2) (hcaps : Caps vars m caps ms)
    (h : AI C env vars gl own d iter tgt m σ fun xs Pp σ₁ => xs.length ≤ sizeLine ∧ ∀ env', env'.scope = relabel scope env →
      CompL C env' (x :: caps) gl' d tgt elt ifs Pp (fun ys σ₂ => ∀ a o, Q (.ref a) ((a, o, .list ys) :: σ₂)) xs [] (none :: ms) σ₁)
    (hs : ∀ x, foldedSetIterable iter env x = pure x := by intro _; with_unfolding_all exact rfl) :
    AT C env vars gl own d (eval (.ListComp elt [⟨tgt, iter, ifs, 0⟩] scope pos) env) m σ Q := AT_CompM [x] caps gl' hok hgl hcaps h hs
theorem S_AssignCompF1 (x : Str) (caps : List Str) (gl' : List (Str × V))
    (hsw : swapsWith (.ListComp elt [⟨tgt, iter, ifs, 0⟩] scope pos) (some (.Name y p')) p.line env = pure true)
    (hok : compOk scope env.scope vars [x] caps (gl'.map (·.1)) = true) (hgl : ∀ p ∈ gl', GlobR C p.1 p.2) (hcaps : Caps vars m caps ms)
    (h : AI C env vars gl own d iter tgt m σ fun xs Pp σ₁ => xs.length ≤ sizeLine ∧ ∀ env', env'.scope = relabel scope env →
      CompL C env' (x :: caps) gl' d tgt elt ifs Pp (fun ys σ₂ => ∃ m', Put vars m y (.lst ys) m' ∧ QS .next m' σ₂) xs [] (none :: ms) σ₁)
    (hown : own = true := by rfl) (hs : ∀ x, foldedSetIterable iter env x = pure x := by intro _; with_unfolding_all exact rfl) :
    AS C env vars gl own d (exec (.Assign [.Name y p'] (.ListComp elt [⟨tgt, iter, ifs, 0⟩] scope pos) p) env) m σ QS := S_AssignCompF [x] caps gl' hsw hok hgl hcaps h hown hs
theorem S_AssignCompM1 (x : Str) (caps : List Str) (gl' : List (Str × V))
    (hsw : swapsWith (.ListComp elt [⟨tgt, iter, ifs, 0⟩] scope pos) (some (.Name y p')) p.line env = pure true)
    (hok : compOk scope env.scope vars [x] caps (gl'.map (·.1)) = true) (hgl : ∀ p ∈ gl', GlobR C p.1 p.2) (hcaps : Caps vars m caps ms)
    (h : AI C env vars gl own d iter tgt m σ fun xs Pp σ₁ => xs.length ≤ sizeLine ∧ ∀ env', env'.scope = relabel scope env →
      CompL C env' (x :: caps) gl' d tgt elt ifs Pp (fun ys σ₂ => ∀ a o, ∃ m', Put vars m y (.ref a) m' ∧ QS .next m' ((a, o, .list ys) :: σ₂)) xs [] (none :: ms) σ₁)
    (hown : own = true := by rfl) (hs : ∀ x, foldedSetIterable iter env x = pure x := by intro _; with_unfolding_all exact rfl) :
    AS C env vars gl own d (exec (.Assign [.Name y p'] (.ListComp elt [⟨tgt, iter, ifs, 0⟩] scope pos) p) env) m σ QS := S_AssignCompM [x] caps gl' hsw hok hgl hcaps h hown hs
end
theorem NL_f {Xs : List V} (q : Q (.lst Xs) σ) : NLq Q Xs σ := Or.inl q
theorem NL_m {Xs : List V} (q : ∀ a o, Q (.ref a) ((a, o, .list Xs) :: σ)) : NLq Q Xs σ := Or.inr q
theorem log2_small {n : Int} (h : n.natAbs < 2 ^ 64) : n.natAbs.log2 < 1920 := by
  by_cases h0 : n.natAbs = 0
  · rw [h0]; decide
  · exact Nat.lt_of_lt_of_le ((Nat.log2_lt h0).mpr h) (by decide)
theorem C_isBb {a b : Bool} (q : Q (.bool (a == b)) σ) : AC2 C d (compareOp .Is) (.bool a) (.bool b) σ Q := C_isB q (fun n h => by cases h)
theorem C_isNotBb {a b : Bool} (q : Q (.bool (!(a == b))) σ) : AC2 C d (compareOp .IsNot) (.bool a) (.bool b) σ Q := C_isNotB q (fun n h => by cases h)
theorem len_ok {n : Nat} (h : n ≤ 100000) : n ≤ sizeLine := Nat.le_trans h (by decide)
theorem qB {a b : Bool} (q : Q (.bool a) σ) (e : a = b) : Q (.bool b) σ := e ▸ q

theorem slL_mem {xs : List V} {lo hi st : Option Int} : ∀ x ∈ slL xs lo hi st, x ∈ xs := fun x h => by
  unfold slL at h
  obtain ⟨i, _, e⟩ := List.mem_filterMap.mp h
  exact List.mem_of_getElem? e
theorem sr_le (l u : Option Int) (n : Nat) : (sliceRange (sliceBounds l u none n).1 (sliceBounds l u none n).2.1 (sliceBounds l u none n).2.2).length ≤ n := by
  unfold sliceBounds sliceRange
  cases l <;> cases u <;> simp <;> (try split) <;> (try split) <;> omega
theorem slL_le {xs : List V} {lo hi : Option Int} : (slL xs lo hi none).length ≤ xs.length := by
  unfold slL
  exact Nat.le_trans (List.length_filterMap_le _ _) (sr_le _ _ _)

/-! ## the functions of a text, at their places -/
inductive MM : List V → List Str → Loc → Prop
  | nil : MM [] [] []
  | oth {y : Str} {o : List Str} {m : Loc} : MM [] o m → MM [] (y :: o) (none :: m)
  | arg {x : V} {xs : List V} {o : List Str} {m : Loc} : MM xs o m → MM (x :: xs) o (some x :: m)
theorem MM.eq {xs : List V} {o : List Str} {m : Loc} (h : MM xs o m) : (xs.map some ++ o.map fun _ => none) = m := by
  induction h with
  | nil => rfl
  | oth _ ih => simpa using ih
  | arg _ ih => simpa using ih
theorem CW_at {K : W.Frag} (H : K.In C.base) {a : Addr} {o : Obj} {fd : FuncData} {body : List Stmt} {params : List Str} (others : List Str) {vars : List Str} (gl : List (Str × V)) {xs : List V} {mm : Loc}
    (e1 : K.lookup a = some o) (e2 : o.data = .func fd) (e3 : fd.body = .stmts body) (e4 : fd.closure = []) (e5 : W.codeIn K fd.code fd.qualname = true) (e6 : fd.globals = mainGlobals) (e7 : fd.builtins = builtinsNs)
    (e8 : ∀ vs : List Value, vs.length = params.length → bindArgs fd ⟨vs, []⟩ = pure (params.zip vs)) (e9 : xs.length = params.length) (e10 : params ++ others = vars) (e11 : MM xs others mm)
    (hst : scopeOk fd.scope vars (gl.map (·.1)) = true) (hgl : ∀ p ∈ gl, GlobR C p.1 p.2)
    (h : ∀ env, env.scope = fd.scope → AS C env vars gl true d (execs body env) mm σ (RetQ Q)) : CW C (d + 1) (.ref a) xs σ Q := by
  have e11 := e11.eq
  subst e10 e11
  exact CW_fn ⟨⟨o, H a o e1, e2⟩, e3, e4, W.codeRec_of H e5, e6, e7, e8⟩ e9 hst hgl h
end
end Mine

set_option autoImplicit false
set_option linter.unusedVariables false
set_option Elab.async false
set_option maxRecDepth 100000
set_option maxHeartbeats 8000000
namespace Mine
open PySem
noncomputable abbrev K1 (C : Cx) : W.Frag := hd01.heap_39 C.w.params
structure G1 (C : Cx) : Prop where
  kin : (K1 C).In C.base
  bi : ∀ x : Str, x ≠ "__name__" → C.mb x = bootBuiltins x
section
variable {C : Cx}
theorem glF (H : G1 C) {x : Str} {v : Value} {X : V} (e : W.nsIn (K1 C) mainGlobals x = some (some v)) (hv : VR C.w (fun _ => none) v X) : GlobR C x X := ⟨v, hv, .inl (W.mg_of H.kin C.hg e)⟩
theorem glB (H : G1 C) {x : Str} {v : Value} {X : V} (e : W.nsIn (K1 C) mainGlobals x = some none) (hb : bootBuiltins x = some v) (hv : VR C.w (fun _ => none) v X) (hn : x ≠ "__name__" := by decide +kernel) : GlobR C x X :=
  ⟨v, hv, .inr ⟨W.mg_none_of H.kin C.hg e, (H.bi x hn).trans hb⟩⟩
end
section
variable {C : Cx}
theorem g_isinstance (H : G1 C) : GlobR C "isinstance" (.bi "isinstance") := glB H (by rfl) (by decide +kernel) (.bi _)
theorem g_str (H : G1 C) : GlobR C "str" (.type "str") := glB H (by rfl) (by decide +kernel) (.type _)
theorem g_len (H : G1 C) : GlobR C "len" (.bi "len") := glB H (by rfl) (by decide +kernel) (.bi _)
theorem g_MOST_LETTERS (H : G1 C) : GlobR C "MOST_LETTERS" (.int 8) := glF H (by rfl) (.int _ _)
theorem g_all (H : G1 C) : GlobR C "all" (.bi "all") := glB H (by rfl) (by decide +kernel) (.bi _)
theorem g_LETTERS (H : G1 C) : GlobR C "LETTERS" (.str "abcdefghijklmnopqrstuvwxyz") := glF H (by rfl) (.str _ _)
theorem g_int (H : G1 C) : GlobR C "int" (.type "int") := glB H (by rfl) (by decide +kernel) (.type _)
theorem g_bool (H : G1 C) : GlobR C "bool" (.type "bool") := glB H (by rfl) (by decide +kernel) (.type _)
theorem g_MOST_MAKE (H : G1 C) : GlobR C "MOST_MAKE" (.int 999) := glF H (by rfl) (.int _ _)
theorem g_tuple (H : G1 C) : GlobR C "tuple" (.type "tuple") := glB H (by rfl) (by decide +kernel) (.type _)
theorem g_is_ware (H : G1 C) : GlobR C "is_ware" (.ref 19) := glF H (by rfl) (.ref _)
theorem g_is_make (H : G1 C) : GlobR C "is_make" (.ref 26) := glF H (by rfl) (.ref _)
theorem g_max (H : G1 C) : GlobR C "max" (.bi "max") := glB H (by rfl) (by decide +kernel) (.bi _)
theorem g_min (H : G1 C) : GlobR C "min" (.bi "min") := glB H (by rfl) (by decide +kernel) (.bi _)
theorem g_range (H : G1 C) : GlobR C "range" (.type "range") := glB H (by rfl) (by decide +kernel) (.type _)
theorem g__law_word (H : G1 C) : GlobR C "_law_word" (.ref 73) := glF H (by rfl) (.ref _)
theorem g__law_is_word (H : G1 C) : GlobR C "_law_is_word" (.ref 85) := glF H (by rfl) (.ref _)
theorem g__law_is_number (H : G1 C) : GlobR C "_law_is_number" (.ref 92) := glF H (by rfl) (.ref _)
theorem g__law_pair (H : G1 C) : GlobR C "_law_pair" (.ref 61) := glF H (by rfl) (.ref _)
theorem g__law_cell_at (H : G1 C) : GlobR C "_law_cell_at" (.ref 54) := glF H (by rfl) (.ref _)
theorem g__law_same (H : G1 C) : GlobR C "_law_same" (.ref 68) := glF H (by rfl) (.ref _)
theorem g_joined (H : G1 C) : GlobR C "joined" (.ref 40) := glF H (by rfl) (.ref _)
theorem g_within (H : G1 C) : GlobR C "within" (.ref 47) := glF H (by rfl) (.ref _)
theorem g__law_thing (H : G1 C) : GlobR C "_law_thing" (.ref 80) := glF H (by rfl) (.ref _)
theorem g_is_need (H : G1 C) : GlobR C "is_need" (.ref 33) := glF H (by rfl) (.ref _)
theorem g__law_is_need (H : G1 C) : GlobR C "_law_is_need" (.ref 99) := glF H (by rfl) (.ref _)
theorem c_is_ware (H : G1 C) : Callee C (.ref 19) := callee_at H.kin rfl rfl
theorem c_is_make (H : G1 C) : Callee C (.ref 26) := callee_at H.kin rfl rfl
theorem c_is_need (H : G1 C) : Callee C (.ref 33) := callee_at H.kin rfl rfl
theorem c_joined (H : G1 C) : Callee C (.ref 40) := callee_at H.kin rfl rfl
theorem c_within (H : G1 C) : Callee C (.ref 47) := callee_at H.kin rfl rfl
theorem c__law_cell_at (H : G1 C) : Callee C (.ref 54) := callee_at H.kin rfl rfl
theorem c__law_pair (H : G1 C) : Callee C (.ref 61) := callee_at H.kin rfl rfl
theorem c__law_same (H : G1 C) : Callee C (.ref 68) := callee_at H.kin rfl rfl
theorem c__law_word (H : G1 C) : Callee C (.ref 73) := callee_at H.kin rfl rfl
theorem c__law_thing (H : G1 C) : Callee C (.ref 80) := callee_at H.kin rfl rfl
theorem c__law_is_word (H : G1 C) : Callee C (.ref 85) := callee_at H.kin rfl rfl
theorem c__law_is_number (H : G1 C) : Callee C (.ref 92) := callee_at H.kin rfl rfl
theorem c__law_is_need (H : G1 C) : Callee C (.ref 99) := callee_at H.kin rfl rfl
theorem c_law (H : G1 C) : Callee C (.ref 104) := callee_at H.kin rfl rfl
end
end Mine
set_option autoImplicit false
set_option linter.unusedVariables false
set_option Elab.async false
set_option maxRecDepth 100000
set_option maxHeartbeats 8000000
namespace Mine
open PySem
local macro_rules
  | `(tactic| walk_at "bind") => `(tactic| (intro vs h; rcases vs with _ | ⟨a, _ | ⟨b, _ | ⟨c, _ | ⟨e, _ | ⟨f, r⟩⟩⟩⟩⟩ <;> first | (exact rfl) | (exact absurd h (by simp))))
  | `(tactic| walk_at "isi") => `(tactic| first
      | (show KW _ _ _ [V.int _, _] _ _; first | refine I_int_int ?_ | refine I_int_bool ?_ | refine I_int_str ?_ | refine I_int_tuple ?_  )
      | (show KW _ _ _ [V.bool _, _] _ _; first | refine I_bool_bool ?_ | refine I_bool_int ?_ | refine I_bool_str ?_ | refine I_bool_tuple ?_  )
      | (show KW _ _ _ [V.str _, _] _ _; first | refine I_str_str ?_ | refine I_str_int ?_ | refine I_str_bool ?_ | refine I_str_tuple ?_  )
      | (show KW _ _ _ [V.none, _] _ _; first | refine I_NoneType_str ?_ | refine I_NoneType_int ?_ | refine I_NoneType_bool ?_ | refine I_NoneType_tuple ?_  )
      | (show KW _ _ _ [V.tup _, _] _ _; first | refine I_tuple_tuple ?_ | refine I_tuple_str ?_ | refine I_tuple_int ?_ | refine I_tuple_bool ?_  )
      | (show KW _ _ _ [V.lst _, _] _ _; first | refine I_list_str (.lst _) ?_ | refine I_list_int (.lst _) ?_ | refine I_list_bool (.lst _) ?_ | refine I_list_tuple (.lst _) ?_  ))
  | `(tactic| walk_at "len") => `(tactic| first | (with_unfolding_all exact Nat.le_of_ble_eq_true rfl) | (refine len_ok ?_; omega))
  | `(tactic| walk_at "nz") => `(tactic| first | (with_unfolding_all decide) | omega)
  | `(tactic| walk_at "call") => `(tactic| first
      | (show KW _ _ (V.bi "isinstance") _ _ _; walk_at "isi")
      | refine K_lenL (.lst _) (by walk_at "len") ?_ | refine K_lenT (by walk_at "len") ?_ | refine K_lenS (by walk_at "len") ?_
      | refine K_max2 ?_ | refine K_min2 ?_ | refine K_range1 ?_ | refine K_range2 ?_ | walk_at "use")
  | `(tactic| walk_at "op") => `(tactic| first
      | refine B_add ?_ | refine B_sub ?_ | refine B_mod ?_ (by walk_at "nz") | refine B_div ?_ (by walk_at "nz") (by walk_at "nz") | refine B_mod ?_ ?_ | refine B_div ?_ ?_ ?_ | refine B_mul ?_ (IntMulOk.of_left (by with_unfolding_all decide)) | refine B_mul ?_ ?_
      | refine C_lt ?_ | refine C_le ?_ | refine C_gt ?_ | refine C_ge ?_ | refine C_eq ?_ | refine C_ne ?_
      | refine C_isNone ?_ | refine C_isNotNone ?_ | refine C_isBb ?_ | refine C_isNotBb ?_ | refine C_leS ?_ | refine C_inS ?_ | refine B_addS ?_ ?_ | walk_at "use")
  | `(tactic| walk_at "tree") => `(tactic| first
      | (show AT _ _ _ _ _ _ (eval (.Name _ _) _) _ _ _; first | refine AT_lc ?_ | refine AT_gc ?_)
      | (show AT _ _ _ _ _ _ (eval (.Constant _ _ _) _) _ _ _; first | refine AT_int ?_ | refine AT_str ?_ | refine AT_bool ?_ | refine AT_none ?_)
      | refine AT_Call ?_ | refine AT_Meth M_join ?_ | refine AT_Sub ?_ | refine AT_BinOp ?_ | refine AT_Cmp1 ?_ | refine AT_Cmp2 ?_ | refine AT_BoolOp ?_
      | refine AT_andE ?_ | refine AT_orE ?_ | refine AT_and1E ?_ | refine AT_or1E ?_
      | refine AT_Unary ?_ | refine AT_Tuple ?_ | refine AT_ListF ?_ | refine AT_Slice ?_ | refine AT_IfExp ?_ | walk_at "use")
  | `(tactic| walk_at "stmt") => `(tactic| first
      | refine S_cons ?_ | refine S_nil ?_ | refine S_If ?_ | refine S_Return ?_ | refine S_Assign ?_ | refine S_Expr ?_ | refine S_Pass ?_ | refine S_ReturnN ?_ | walk_at "use")
  | `(tactic| walk_at "test") => `(tactic| first
      | refine AB_Not ?_ | refine AB_Cmp1 ?_ | refine AB_Cmp2 ?_ | refine AB_BoolOp ?_ | refine AB_and ?_ | refine AB_or ?_ | refine AB_andNil ?_ | refine AB_orNil ?_ | refine AB_val ?_)
  | `(tactic| walk_at "logic") => `(tactic| first
      | refine Then_ret ?_ | refine Then_next ?_ | refine RetQ_ret ?_ | refine RetQ_next ?_
      | refine TX_bool ?_
      | refine put_c ?_
      | refine ⟨TyR_str, ?_⟩ | refine ⟨callee_bi, ?_⟩ | refine ⟨callee_type, ?_⟩ | walk_at "callee"
      | (refine ⟨_, T_bool, fun hb => ?_, fun hb => ?_⟩ <;> try walk_at "dead")
      | (refine ⟨fun hb => ?_, fun hb => ?_⟩ <;> try walk_at "dead")
      | refine ⟨by with_unfolding_all exact Nat.le_of_ble_eq_true rfl, ?_⟩
      | refine APart_none ?_ | refine APart_some ?_ | walk_at "use")
  | `(tactic| walk_at "dead") => `(tactic| (exfalso; rename_i hb; revert hb; simp [V.isNone, V.isBool]; done))
  | `(tactic| walk_at "one") => `(tactic| with_reducible first
      | (show AT _ _ _ _ _ _ _ _ _ _; walk_at "tree")
      | (show AL _ _ _ _ _ _ _ _ _ _; first | refine AL_cons ?_ | refine AL_nil ?_)
      | (show AC2 _ _ _ _ _ _ _; walk_at "op")
      | (show KW _ _ _ _ _ _; walk_at "call")
      | (show AS _ _ _ _ _ _ _ _ _ _; walk_at "stmt")
      | (show AB _ _ _ _ _ _ _ _ _ _; walk_at "test")
      | (show AC1 _ _ _ _ _ _; first | refine AC1_not T_bool ?_ | refine U_neg ?_)
      | walk_at "logic")
local macro_rules
  | `(tactic| walk_at "callee") => `(tactic| with_reducible first | refine ⟨c_is_ware (by assumption), ?_⟩ | refine ⟨c_is_make (by assumption), ?_⟩ | refine ⟨c_is_need (by assumption), ?_⟩ | refine ⟨c_joined (by assumption), ?_⟩ | refine ⟨c_within (by assumption), ?_⟩ | refine ⟨c__law_cell_at (by assumption), ?_⟩ | refine ⟨c__law_pair (by assumption), ?_⟩ | refine ⟨c__law_same (by assumption), ?_⟩ | refine ⟨c__law_word (by assumption), ?_⟩ | refine ⟨c__law_thing (by assumption), ?_⟩ | refine ⟨c__law_is_word (by assumption), ?_⟩ | refine ⟨c__law_is_number (by assumption), ?_⟩ | refine ⟨c__law_is_need (by assumption), ?_⟩ | refine ⟨c_law (by assumption), ?_⟩)
def Ok (x : Str) : Prop := ∀ c ∈ x.cps.toList, c < 0x110000
theorem Ok.strOk {x : Str} (h : Ok x) : PyData.strOk x = true := by
  unfold PyData.strOk
  rw [← Array.all_toList, List.all_eq_true]
  intro c hc; exact decide_eq_true (h c hc)
theorem ok_of (s : String) : Ok (Str.ofString s) := by
  intro c hc
  rw [Str.ofString_eq_toList] at hc
  simp only [List.mem_map] at hc
  obtain ⟨k, _, rfl⟩ := hc
  exact (Nat.lt_of_lt_of_le (UInt32.lt_iff_toNat_lt.mp (by
    rcases k.valid with h | ⟨_, h⟩
    · exact UInt32.lt_iff_toNat_lt.mpr (show k.val.toNat < (0x110000 : UInt32).toNat by have : k.val.toNat < 0xd800 := h; show k.val.toNat < 0x110000; omega)
    · exact UInt32.lt_iff_toNat_lt.mpr (show k.val.toNat < (0x110000 : UInt32).toNat from h)) : k.val.toNat < (0x110000 : UInt32).toNat) (by decide))
theorem Ok.append {x y : Str} (hx : Ok x) (hy : Ok y) : Ok (x ++ y) := by
  intro c hc
  have : c ∈ (x.cps ++ y.cps).toList := hc
  rw [Array.toList_append, List.mem_append] at this
  rcases this with h | h
  · exact hx c h
  · exact hy c h
theorem Ok.slice {x : Str} (hx : Ok x) (l u : Option Int) : Ok (Txt.slice x l u) := by
  unfold Txt.slice
  split
  · exact hx
  · intro c hc
    simp only [List.mem_filterMap] at hc
    obtain ⟨i, _, e⟩ := hc
    exact hx c (by simpa using Array.mem_of_getElem? e)
theorem glued_facts (ps : List Str) : ∀ (acc : Array Nat), (∀ c ∈ acc.toList, c < 0x110000) → (∀ p ∈ ps, Ok p ∧ p.length = 1) →
    (∀ c ∈ (ps.foldl (fun acc p => acc ++ (Str.ofString "").cps ++ p.cps) acc).toList, c < 0x110000) ∧ (ps.foldl (fun acc p => acc ++ (Str.ofString "").cps ++ p.cps) acc).size = acc.size + ps.length := by
  have e0 : (Str.ofString "").cps = #[] := by decide +kernel
  rw [e0]
  induction ps with
  | nil => intro acc h _; exact ⟨h, rfl⟩
  | cons p ps ih =>
    intro acc h hp
    have h1 := hp p (.head _)
    have := ih (acc ++ #[] ++ p.cps) (by
      intro c hc
      simp only [Array.append_empty, Array.toList_append, List.mem_append] at hc
      rcases hc with hc | hc
      · exact h c hc
      · exact h1.1 c hc) (fun q hq => hp q (.tail _ hq))
    refine ⟨this.1, ?_⟩
    rw [List.foldl_cons, this.2]
    have : p.cps.size = 1 := h1.2
    simp [this]; omega
theorem join_facts {ps : List Str} (hp : ∀ p ∈ ps, Ok p ∧ p.length = 1) : Ok (Txt.join "" ps) ∧ (Txt.join "" ps).length = ps.length := by
  unfold Txt.join Builtin.Str.glued
  cases ps with
  | nil => exact ⟨fun c hc => by simp [Str.empty] at hc, rfl⟩
  | cons p ps =>
    have h1 := hp p (.head _)
    have := glued_facts ps p.cps h1.1 fun q hq => hp q (.tail _ hq)
    refine ⟨this.1, ?_⟩
    show (ps.foldl (fun acc p => acc ++ (Str.ofString "").cps ++ p.cps) p.cps).size = _
    rw [this.2]
    have : p.cps.size = 1 := h1.2
    simp [this]; omega
theorem joinOk_small {ps : List Str} (hp : ∀ p ∈ ps, p.length = 1) (hl : ps.length ≤ 1000) : JoinOk "" ps = true := by
  unfold JoinOk
  have e0 : (Str.ofString "").length = 0 := by decide +kernel
  have : ∀ (l : List Str) (n : Nat), (∀ p ∈ l, p.length = 1) → l.foldl (fun (a : Nat) (p : Str) => a + p.length + (Str.ofString "").length) n = n + l.length := by
    intro l
    induction l with
    | nil => intro n _; rfl
    | cons p l ih => intro n h; rw [List.foldl_cons, ih _ (fun q hq => h q (.tail _ hq)), h p (.head _), e0]; simp; omega
  have h2 : ps.toArray.foldl (fun (a : Nat) (p : Str) => a + p.length + (Str.ofString "").length) 0 = ps.length := by
    rw [← Array.foldl_toList]; rw [this _ _ hp]; simp
  rw [h2]
  unfold Builtin.Str.tooLong
  simp
  show ps.length ≤ 16777216
  omega
section
variable {C : Cx} {d : Nat} {σ : Sto} {Q : V → Sto → Prop}
inductive Kd : V → Prop
  | none : Kd .none
  | bool (b : Bool) : Kd (.bool b)
  | int (i : Int) : Kd (.int i)
  | str (x : Str) (h : x.length ≤ 100) (ho : Ok x) : Kd (.str x)
  | lst (xs : List V) : Kd (.lst xs)
  | tup (xs : List V) (hl : xs.length ≤ 100) (h : ∀ x ∈ xs, Kd x) : Kd (.tup xs)
def makeB : V → Bool
  | .int i => decide (1 ≤ i) && decide (i ≤ 999)
  | _ => false
theorem w_is_make (H : G1 C) {X : V} (k : Kd X) (q : Q (.bool (makeB X)) σ) : CW C (d + 1) (.ref 26) [X] σ Q := by
  refine CW_at (G1.kin (by assumption)) [] [("isinstance", .bi "isinstance"), ("int", .type "int"), ("bool", .type "bool"), ("MOST_MAKE", .int 999)] rfl rfl rfl rfl (by rfl) rfl rfl (params := ["thing"]) (by walk_at "bind") rfl (vars := ["thing"]) rfl (.arg (.nil)) (by decide +kernel) (GL_cons (g_isinstance (by assumption)) (GL_cons (g_int (by assumption)) (GL_cons (g_bool (by assumption)) (GL_cons (g_MOST_MAKE (by assumption)) GL_nil)))) ?_
  intro env hsc
  clear hsc
  cases k
  all_goals repeat' walk_at "one"
  all_goals refine qB q ?_
  all_goals rw [Bool.eq_iff_iff]
  all_goals first | (simp_all [makeB]; done) | (simp_all [makeB]; omega)
theorem w__law_is_number (H : G1 C) {X : V} (k : Kd X) (q : Q (.bool (makeB X)) σ) : CW C (d + 1) (.ref 92) [X] σ Q := by
  refine CW_at (G1.kin (by assumption)) [] [("isinstance", .bi "isinstance"), ("int", .type "int"), ("bool", .type "bool")] rfl rfl rfl rfl (by rfl) rfl rfl (params := ["_law_thing_here"]) (by walk_at "bind") rfl (vars := ["_law_thing_here"]) rfl (.arg (.nil)) (by decide +kernel) (GL_cons (g_isinstance (by assumption)) (GL_cons (g_int (by assumption)) (GL_cons (g_bool (by assumption)) GL_nil))) ?_
  intro env hsc
  clear hsc
  cases k
  all_goals repeat' walk_at "one"
  all_goals refine qB q ?_
  all_goals rw [Bool.eq_iff_iff]
  all_goals first | (simp_all [makeB]; done) | (simp_all [makeB]; omega)
theorem w_within (H : G1 C) {a b c : Int} (q : Q (.bool (decide (b ≤ a) && decide (a ≤ c))) σ) : CW C (d + 1) (.ref 47) [.int a, .int b, .int c] σ Q := by
  refine CW_at (G1.kin (by assumption)) [] [] rfl rfl rfl rfl (by rfl) rfl rfl (params := ["make", "low", "high"]) (by walk_at "bind") rfl (vars := ["make", "low", "high"]) rfl (.arg (.arg (.arg (.nil)))) (by decide +kernel) GL_nil ?_
  intro env hsc
  clear hsc
  repeat' walk_at "one"
  all_goals refine qB q ?_
  all_goals rw [Bool.eq_iff_iff]
  all_goals first | (simp_all; done) | (simp_all; omega)
def joinV (a b c e : Int) : V := if min b e < max a c then .none else .tup [.int (max a c), .int (min b e)]
local macro_rules
  | `(tactic| walk_at "use") => `(tactic| first
      | refine G_tup (by with_unfolding_all decide) (by with_unfolding_all decide) (by with_unfolding_all exact rfl) ?_)
theorem w_joined (H : G1 C) {a b c e : Int} (q : Q (joinV a b c e) σ) : CW C (d + 1) (.ref 40) [.tup [.int a, .int b], .tup [.int c, .int e]] σ Q := by
  refine CW_at (G1.kin (by assumption)) ["low", "high"] [("max", .bi "max"), ("min", .bi "min")] rfl rfl rfl rfl (by rfl) rfl rfl (params := ["one", "other"]) (by walk_at "bind") rfl (vars := ["one", "other", "low", "high"]) rfl (.arg (.arg (.oth (.oth (.nil))))) (by decide +kernel) (GL_cons (g_max (by assumption)) (GL_cons (g_min (by assumption)) GL_nil)) ?_
  intro env hsc
  clear hsc
  repeat' walk_at "one"
  all_goals (rename_i hb; unfold joinV at q; simp at hb)
  · rw [if_pos hb] at q; exact q
  · rw [if_neg (by omega)] at q; exact q
def cellAt (xs : List Int) (k : Nat) : Int := xs.getD k 0
theorem w__law_cell_at (H : G1 C) {xs : List Int} {k : Nat} (hx : xs.length ≤ 100) (hk : k < 100) (q : Q (.int (cellAt xs k)) σ) : CW C (d + 1) (.ref 54) [.lst (xs.map V.int), .int k] σ Q := by
  refine CW_at (G1.kin (by assumption)) [] [("len", .bi "len")] rfl rfl rfl rfl (by rfl) rfl rfl (params := ["_law_script", "_law_k"]) (by walk_at "bind") rfl (vars := ["_law_script", "_law_k"]) rfl (.arg (.arg (.nil))) (by decide +kernel) (GL_cons (g_len (by assumption)) GL_nil) ?_
  intro env hsc
  clear hsc
  have hl : (xs.map V.int).length ≤ sizeLine := by rw [List.length_map]; show _ ≤ 16777216; omega
  repeat' walk_at "one"
  · refine K_lenL (.lst _) hl ?_
    repeat' walk_at "one"
    · rename_i hb
      simp at hb
      refine G_list (.lst _) (by omega) (by omega) (X := .int (cellAt xs k)) (by simp [cellAt, hb]) ?_
      repeat' walk_at "one"
      exact q
    · rename_i hb
      simp at hb
      have : cellAt xs k = 0 := by simp [cellAt, List.getD, List.getElem?_eq_none hb]
      rw [this] at q; exact q
theorem w__law_pair (H : G1 C) {a b : Int} (q : ∀ lo hi : Int, Q (.tup [.int lo, .int hi]) σ) : CW C (d + 1) (.ref 61) [.int a, .int b] σ Q := by
  refine CW_at (G1.kin (by assumption)) ["_law_low"] [("max", .bi "max"), ("min", .bi "min")] rfl rfl rfl rfl (by rfl) rfl rfl (params := ["_law_cell", "_law_other"]) (by walk_at "bind") rfl (vars := ["_law_cell", "_law_other", "_law_low"]) rfl (.arg (.arg (.oth (.nil)))) (by decide +kernel) (GL_cons (g_max (by assumption)) (GL_cons (g_min (by assumption)) GL_nil)) ?_
  intro env hsc
  clear hsc
  have h1 : 0 ≤ a.fmod 999 := Int.fmod_nonneg_of_pos _ (by decide)
  have h2 : a.fmod 999 < 999 := Int.fmod_lt_of_pos _ (by decide)
  repeat' walk_at "one"
  all_goals exact q _ _
theorem eqv2 (a b : Int) : PyData.eqv (.tuple [.int a, .int b]) (.tuple [.int a, .int b]) = true := by simp [PyData.eqv, PyData.eqvAll]
theorem w__law_same (H : G1 C) {a b c e : Int} (q : Q (.bool true) σ) : CW C (d + 1) (.ref 68) [joinV a b c e, joinV a b c e] σ Q := by
  refine CW_at (G1.kin (by assumption)) [] [("isinstance", .bi "isinstance"), ("tuple", .type "tuple"), ("len", .bi "len"), ("bool", .type "bool")] rfl rfl rfl rfl (by rfl) rfl rfl (params := ["_law_found", "_law_due"]) (by walk_at "bind") rfl (vars := ["_law_found", "_law_due"]) rfl (.arg (.arg (.nil))) (by decide +kernel) (GL_cons (g_isinstance (by assumption)) (GL_cons (g_tuple (by assumption)) (GL_cons (g_len (by assumption)) (GL_cons (g_bool (by assumption)) GL_nil)))) ?_
  intro env hsc
  clear hsc
  unfold joinV
  split
  · repeat' walk_at "one"
    exact q
  · repeat' walk_at "one"
    refine C_neD (.tup (.cons (.int _) (.cons (.int _) .nil))) (.tup (.cons (.int _) (.cons (.int _) .nil))) rfl rfl ?_
    rw [eqv2]
    repeat' walk_at "one"
    exact q
end
def letB (c : Nat) : Bool := decide (97 ≤ c) && decide (c ≤ 122)
theorem let_small : ∀ c < 128, (!(Builtin.Str.occurrences ("abcdefghijklmnopqrstuvwxyz" : Str) ⟨#[c]⟩ 0 (Str.length "abcdefghijklmnopqrstuvwxyz") 1).isEmpty) = letB c := by
  decide +kernel
theorem let_cps : ∀ k < 26, ∀ x, ("abcdefghijklmnopqrstuvwxyz" : Str).cps[k]? = some x → x < 128 := by
  intro k hk x
  have : ∀ k < 26, (match ("abcdefghijklmnopqrstuvwxyz" : Str).cps[k]? with | some x => decide (x < 128) | none => true) = true := by decide +kernel
  intro h
  have := this k hk
  rw [h] at this
  simpa using this
theorem let_size : ("abcdefghijklmnopqrstuvwxyz" : Str).cps.size = 26 := by decide +kernel
theorem occ_none {s y : Str} (hs : ∀ i, Builtin.Str.subAt s y i = false) (hi : Nat) : Builtin.Str.occurrences s y 0 hi 1 = [] := by
  unfold Builtin.Str.occurrences
  simp [hs, Id.run]
  have : ∀ (l : List Nat) (p : Array Nat × Nat), List.foldl (fun (b : Array Nat × Nat) (a : Nat) => (b.fst, b.snd)) p l = p := by
    intro l; induction l with
    | nil => intro p; rfl
    | cons a l ih => intro p; simp [ih]
  rw [this]
  rfl
theorem let_in (c : Nat) : (!(Builtin.Str.occurrences ("abcdefghijklmnopqrstuvwxyz" : Str) ⟨#[c]⟩ 0 (Str.length "abcdefghijklmnopqrstuvwxyz") 1).isEmpty) = letB c := by
  by_cases hc : c < 128
  · exact let_small c hc
  · rw [occ_none]
    · simp [letB]; omega
    · intro i
      unfold Builtin.Str.subAt
      have h1 : ¬ (("abcdefghijklmnopqrstuvwxyz" : Str).cps.extract i (i + (⟨#[c]⟩ : Str).length) = #[c]) := by
        intro e
        have h0 : (("abcdefghijklmnopqrstuvwxyz" : Str).cps.extract i (i + (⟨#[c]⟩ : Str).length))[0]? = some c := by rw [e]; rfl
        rw [Array.getElem?_extract] at h0
        split at h0
        · have : i < 26 := by
            rcases Nat.lt_or_ge i 26 with h | h
            · exact h
            · rw [Array.getElem?_eq_none (by rw [let_size]; omega)] at h0; cases h0
          have := let_cps i this c (by simpa using h0)
          omega
        · cases h0
      simpa using h1
theorem let_le1 (c : Nat) : (!(decide ((⟨#[c]⟩ : Str).cps.toList < ("a" : Str).cps.toList))) = decide (97 ≤ c) := by
  have : ("a" : Str).cps.toList = [97] := by decide +kernel
  rw [this, Bool.eq_iff_iff]
  simp [List.cons_lt_cons_iff]
theorem let_le2 (c : Nat) : (!(decide (("z" : Str).cps.toList < (⟨#[c]⟩ : Str).cps.toList))) = decide (c ≤ 122) := by
  have : ("z" : Str).cps.toList = [122] := by decide +kernel
  rw [this, Bool.eq_iff_iff]
  simp [List.cons_lt_cons_iff]
section
variable {C : Cx} {d : Nat} {σ : Sto} {Q : V → Sto → Prop}
def wareB : V → Bool
  | .str x => decide (1 ≤ x.length) && decide (x.length ≤ 8) && x.cps.toList.all letB
  | _ => false
def letV : V → V
  | .str x => .bool (letB (x.cps.getD 0 0))
  | v => v
def letF : V → Bool
  | .str x => !letB (x.cps.getD 0 0)
  | v => false
theorem signs_mem {x : Str} {X : V} (h : X ∈ signsOf x) : ∃ c, X = .str ⟨#[c]⟩ := by
  unfold signsOf at h
  obtain ⟨c, _, rfl⟩ := List.mem_map.mp h
  exact ⟨c, rfl⟩
theorem signs_let (x : Str) : (signsOf x).map letV = (x.cps.toList.map letB).map V.bool := by
  simp [signsOf, letV]
theorem signs_flt (x : Str) : ((signsOf x).filter letF).isEmpty = x.cps.toList.all letB := by
  unfold signsOf
  induction x.cps.toList with
  | nil => rfl
  | cons c cs ih =>
    simp only [List.map_cons, List.filter_cons, List.all_cons]
    cases h : letB c
    · simp [letF, h]
    · simpa [letF, h] using ih
theorem signs_len (x : Str) : (signsOf x).length = x.length := by simp [signsOf, Str.length]
theorem w_is_ware (H : G1 C) {X : V} (k : Kd X) (q : Q (.bool (wareB X)) σ) : CW C (d + 1) (.ref 19) [X] σ Q := by
  refine CW_at (G1.kin (by assumption)) [] [("isinstance", .bi "isinstance"), ("str", .type "str"), ("len", .bi "len"), ("MOST_LETTERS", .int 8), ("all", .bi "all")] rfl rfl rfl rfl (by rfl) rfl rfl (params := ["thing"]) (by walk_at "bind") rfl (vars := ["thing"]) rfl (.arg (.nil)) (by decide +kernel) (GL_cons (g_isinstance (by assumption)) (GL_cons (g_str (by assumption)) (GL_cons (g_len (by assumption)) (GL_cons (g_MOST_LETTERS (by assumption)) (GL_cons (g_all (by assumption)) GL_nil))))) ?_
  intro env hsc
  cases k
  case str x hx ho =>
    repeat' walk_at "one"
    all_goals first | (refine qB q ?_; clear q hsc; rw [Bool.eq_iff_iff]; simp_all [wareB]; omega) | skip
    refine AT_CompF1 "sign" [] [("LETTERS", .str "abcdefghijklmnopqrstuvwxyz")] (by rw [hsc]; decide +kernel) (GL_cons (g_LETTERS H) GL_nil) .nil (AI_str (AT_lc ⟨x, rfl, len_ok (by rw [signs_len]; omega), fun env' he => CompL_map (f := letV) (comp_local he (by decide +kernel)) trivial _ _ _ (fun X hX K hK => ?_) ?_⟩))
    · obtain ⟨c, rfl⟩ := signs_mem hX
      repeat' walk_at "one"
      rw [let_in]; exact hK
    · rw [List.nil_append, signs_let]
      repeat' walk_at "one"
      refine K_all (.lst _) ?_
      repeat' walk_at "one"
      refine qB q ?_
      clear q hsc
      rw [Bool.eq_iff_iff]; simp_all [wareB]
      intro _; omega
  all_goals repeat' walk_at "one"
  all_goals exact q
theorem eqvE (l : List V) : ∀ ds, Dps σ l ds → PyData.eqv (.list ds) (.list []) = l.isEmpty
  | _, .nil => by simp [PyData.eqv, PyData.eqvAll]
  | _, .cons _ _ => by simp [PyData.eqv, PyData.eqvAll]
theorem strs_lay (l : List Str) (ho : ∀ x ∈ l, Ok x) : PyData.canLayAll0 (l.map PyData.str) = true ∧ PyData.depthAll (l.map PyData.str) ≤ 1 := by
  induction l with
  | nil => exact ⟨rfl, by decide⟩
  | cons a l ih =>
    have ih := ih fun x hx => ho x (.tail _ hx)
    exact ⟨by simp [PyData.canLayAll0, PyData.canLay0, ih.1, (ho a (.head _)).strOk], by have := ih.2; simp only [List.map_cons, PyData.depthAll, PyData.depth]; omega⟩
theorem strs_dps : ∀ (l : List Str), Dps σ (l.map V.str) (l.map PyData.str)
  | [] => .nil
  | a :: l => .cons (.str a) (strs_dps l)
theorem signs_dps {x : Str} (ho : Ok x) : ∃ ds, Dps σ ((signsOf x).filter letF) ds ∧ SeqAt.shaped (.list ds) = true := by
  have : ∃ l : List Str, (signsOf x).filter letF = l.map V.str ∧ ∀ y ∈ l, Ok y := by
    unfold signsOf
    rw [List.filter_map]
    refine ⟨(List.filter _ _).map fun c => ⟨#[c]⟩, by rw [List.map_map]; rfl, fun y hy => ?_⟩
    obtain ⟨c, hc, rfl⟩ := List.mem_map.mp hy
    intro k hk
    simp at hk
    subst hk
    exact ho _ (List.mem_filter.mp hc).1
  obtain ⟨l, e, hl⟩ := this
  rw [e]
  refine ⟨_, strs_dps l, ?_⟩
  have := strs_lay l hl
  have h2 : PyData.depth (.list (l.map PyData.str)) ≤ 64 := by
    have := this.2
    simp only [PyData.depth]; omega
  unfold SeqAt.shaped
  rw [show PyData.canLay0 (.list (l.map PyData.str)) = true from by simp only [PyData.canLay0]; exact this.1, decide_eq_true h2]; rfl
theorem w__law_is_word (H : G1 C) {X : V} (k : Kd X) (q : Q (.bool (wareB X)) σ) : CW C (d + 1) (.ref 85) [X] σ Q := by
  refine CW_at (G1.kin (by assumption)) [] [("isinstance", .bi "isinstance"), ("str", .type "str"), ("len", .bi "len")] rfl rfl rfl rfl (by rfl) rfl rfl (params := ["_law_thing_here"]) (by walk_at "bind") rfl (vars := ["_law_thing_here"]) rfl (.arg (.nil)) (by decide +kernel) (GL_cons (g_isinstance (by assumption)) (GL_cons (g_str (by assumption)) (GL_cons (g_len (by assumption)) GL_nil))) ?_
  intro env hsc
  cases k
  case str x hx ho =>
    repeat' walk_at "one"
    all_goals first | (refine qB q ?_; clear q hsc; rw [Bool.eq_iff_iff]; simp_all [wareB]; omega) | skip
    refine AT_CompF1 "_law_sign" [] [] (by rw [hsc]; decide +kernel) GL_nil .nil (AI_str (AT_lc ⟨x, rfl, len_ok (by rw [signs_len]; omega), fun env' he => CompL_filter (f := id) (t := letF) (comp_local he (by decide +kernel)) trivial _ _ _ (fun X hX K hK => ?_) (fun X hX _ K hK => ?_) ?_⟩))
    · obtain ⟨c, rfl⟩ := signs_mem hX
      repeat' walk_at "one"
      all_goals rw [let_le1] at *
      all_goals try rw [let_le2]
      all_goals (rename_i hb; rw [show letF (V.str ⟨#[c]⟩) = !letB c from rfl] at hK)
      · simpa [letB, hb] using hK
      · simpa [letB, hb] using hK
    · repeat' walk_at "one"
      exact hK
    · rw [List.nil_append, List.map_id]
      repeat' walk_at "one"
      obtain ⟨ds, h1, h2⟩ := signs_dps (σ := σ) ho
      refine C_eqD (.lst h1) (.lst .nil) h2 rfl ?_
      rw [eqvE _ _ h1, signs_flt]
      repeat' walk_at "one"
      refine qB q ?_
      clear q hsc
      rw [Bool.eq_iff_iff]; simp_all [wareB]
      intro _; omega
  all_goals repeat' walk_at "one"
  all_goals exact q
end
section
variable {C : Cx} {d : Nat} {σ : Sto} {Q : V → Sto → Prop}
def leV : V → V → Bool
  | .int a, .int b => decide (a ≤ b)
  | _, _ => false
def needB : V → Bool
  | .tup [a, b, c] => wareB a && makeB b && makeB c && leV b c
  | _ => false
theorem make_int {X : V} (h : makeB X = true) : ∃ i, X = .int i := by
  cases X <;> first | exact ⟨_, rfl⟩ | (simp [makeB] at h)
local macro_rules
  | `(tactic| walk_at "use") => `(tactic| first
      | refine G_tup (by with_unfolding_all decide) (by with_unfolding_all decide) (by with_unfolding_all exact rfl) ?_
      | refine fnc (w_is_ware (by assumption) (by assumption) ?_)
      | refine fnc (w_is_make (by assumption) (by assumption) ?_)
      | refine fnc (w__law_is_word (by assumption) (by assumption) ?_)
      | refine fnc (w__law_is_number (by assumption) (by assumption) ?_))
theorem qE {X Y : V} (q : Q X σ) (e : X = Y) : Q Y σ := e ▸ q
theorem w_is_need (H : G1 C) {X : V} (k : Kd X) (q : Q (.bool (needB X)) σ) : CW C (d + 2) (.ref 33) [X] σ Q := by
  refine CW_at (G1.kin (by assumption)) [] [("isinstance", .bi "isinstance"), ("tuple", .type "tuple"), ("len", .bi "len"), ("is_ware", .ref 19), ("is_make", .ref 26)] rfl rfl rfl rfl (by rfl) rfl rfl (params := ["thing"]) (by walk_at "bind") rfl (vars := ["thing"]) rfl (.arg (.nil)) (by decide +kernel) (GL_cons (g_isinstance (by assumption)) (GL_cons (g_tuple (by assumption)) (GL_cons (g_len (by assumption)) (GL_cons (g_is_ware (by assumption)) (GL_cons (g_is_make (by assumption)) GL_nil))))) ?_
  intro env hsc
  clear hsc
  cases k
  case tup xs hl hk =>
    match xs, hl, hk with
    | [a, b, c], hl, hk =>
      have ka := hk a (by simp)
      have kb := hk b (by simp)
      have kc := hk c (by simp)
      repeat' walk_at "one"
      · rename_i h1 h2 h3
        obtain ⟨i, rfl⟩ := make_int h2
        obtain ⟨j, rfl⟩ := make_int h3
        repeat' walk_at "one"
        refine qB q ?_
        simp [needB, h1, h2, h3, leV]
      all_goals refine qB q ?_
      all_goals simp_all [needB]
    | [], _, _ | [a], _, _ | [a, b], _, _ =>
      repeat' walk_at "one"
      all_goals exact q
    | a :: b :: c :: e :: r, hl, hk =>
      repeat' walk_at "one"
      · exact q
      · rename_i h1 h2; simp at h1; omega
  all_goals repeat' walk_at "one"
  all_goals exact q
theorem w__law_is_need (H : G1 C) {X : V} (k : Kd X) (q : Q (.bool (needB X)) σ) : CW C (d + 2) (.ref 99) [X] σ Q := by
  refine CW_at (G1.kin (by assumption)) ["_law_good"] [("isinstance", .bi "isinstance"), ("tuple", .type "tuple"), ("len", .bi "len"), ("_law_is_word", .ref 85), ("_law_is_number", .ref 92)] rfl rfl rfl rfl (by rfl) rfl rfl (params := ["_law_thing_here"]) (by walk_at "bind") rfl (vars := ["_law_thing_here", "_law_good"]) rfl (.arg (.oth (.nil))) (by decide +kernel) (GL_cons (g_isinstance (by assumption)) (GL_cons (g_tuple (by assumption)) (GL_cons (g_len (by assumption)) (GL_cons (g__law_is_word (by assumption)) (GL_cons (g__law_is_number (by assumption)) GL_nil))))) ?_
  intro env hsc
  clear hsc
  cases k
  case tup xs hl hk =>
    match xs, hl, hk with
    | [a, b, c], hl, hk =>
      have ka := hk a (by simp)
      have kb := hk b (by simp)
      have kc := hk c (by simp)
      repeat' walk_at "one"
      all_goals first | (refine qB q ?_; simp_all [needB]; done) | (clear q; exfalso; simp_all; done) | skip
      rename_i h1 h2 h3
      obtain ⟨i, rfl⟩ := make_int h2
      obtain ⟨j, rfl⟩ := make_int h3
      repeat' walk_at "one"
      refine qB q ?_
      simp [needB, h1, h2, h3, leV]
    | [], _, _ | [a], _, _ | [a, b], _, _ =>
      repeat' walk_at "one"
      all_goals exact q
    | a :: b :: c :: e :: r, hl, hk =>
      repeat' walk_at "one"
      · exact q
      · rename_i h1 h2; simp at h1; omega
  all_goals repeat' walk_at "one"
  all_goals exact q
theorem letters_at {k : Int} (h0 : 0 ≤ k) (h1 : k < 26) : ∃ c, ("abcdefghijklmnopqrstuvwxyz" : Str).cps[k.toNat]? = some c ∧ c < 128 := by
  have : k.toNat < ("abcdefghijklmnopqrstuvwxyz" : Str).cps.size := by rw [let_size]; omega
  refine ⟨_, Array.getElem?_eq_getElem this, ?_⟩
  exact let_cps k.toNat (by omega) _ (Array.getElem?_eq_getElem this)
theorem w__law_word (H : G1 C) {a : Int} (q : ∀ x : Str, x.length ≤ 9 → Ok x → Q (.str x) σ) : CW C (d + 1) (.ref 73) [.int a] σ Q := by
  refine CW_at (G1.kin (by assumption)) ["_law_letters"] [("range", .type "range")] rfl rfl rfl rfl (by rfl) rfl rfl (params := ["_law_cell"]) (by walk_at "bind") rfl (vars := ["_law_cell", "_law_letters"]) rfl (.arg (.oth (.nil))) (by decide +kernel) (GL_cons (g_range (by assumption)) GL_nil) ?_
  intro env hsc
  have h1 : 0 ≤ a.fmod 10 := Int.fmod_nonneg_of_pos _ (by decide)
  have h2 : a.fmod 10 < 10 := Int.fmod_lt_of_pos _ (by decide)
  repeat' walk_at "one"
  refine AT_CompF1 "_law_j" ["_law_letters", "_law_cell"] [] (by rw [hsc]; decide +kernel) GL_nil (.cons LkC.lk (.cons LkC.lk .nil)) (AI_range ?_)
  repeat' walk_at "one"
  refine ⟨_, _, _, (a.fmod 10).toNat, rfl, small_one (by decide) (by decide) (by omega) (by omega), by rw [rangeSize_one]; split <;> omega, len_ok (by simp [rangeL]; omega), fun env' he =>
    CompL_some (R := fun _ Y => ∃ c, Y = .str ⟨#[c]⟩ ∧ c < 128) (comp_local he (by decide +kernel)) trivial _ _ _ (fun X hX K hK => ?_) (fun ys hl hys => ?_)⟩
  · unfold rangeL at hX
    obtain ⟨i, _, rfl⟩ := List.mem_map.mp hX
    repeat' walk_at "one"
    obtain ⟨c, hc, hc2⟩ := letters_at (k := (a.fdiv 10 + 7 * (0 + (i : Int) * 1)).fmod 26) (Int.fmod_nonneg_of_pos _ (by decide)) (Int.fmod_lt_of_pos _ (by decide))
    have h0 : 0 ≤ (a.fdiv 10 + 7 * (0 + (i : Int) * 1)).fmod 26 := Int.fmod_nonneg_of_pos _ (by decide)
    have h9 : (a.fdiv 10 + 7 * (0 + (i : Int) * 1)).fmod 26 < 26 := Int.fmod_lt_of_pos _ (by decide)
    exact G_str h0 (by omega) hc (hK _ ⟨c, rfl, hc2⟩)
  · have : ∃ ws : List Str, ys = ws.map V.str ∧ ∀ p ∈ ws, Ok p ∧ p.length = 1 := by
      clear q hsc hl
      induction ys with
      | nil => exact ⟨[], rfl, fun p hp => by cases hp⟩
      | cons y ys ih =>
        obtain ⟨ws, rfl, h⟩ := ih fun z hz => hys z (.tail _ hz)
        obtain ⟨_, _, c, rfl, hc⟩ := hys y (.head _)
        refine ⟨⟨#[c]⟩ :: ws, rfl, fun p hp => ?_⟩
        rcases List.mem_cons.mp hp with rfl | hp
        · exact ⟨fun k hk => by simp at hk; omega, rfl⟩
        · exact h p hp
    obtain ⟨ws, rfl, hw⟩ := this
    have hn : ws.length ≤ 9 := by
      simp [rangeL] at hl; omega
    repeat' walk_at "one"
    have hj := join_facts hw
    refine K_join (.lst _) (joinOk_small (fun p hp => (hw p hp).2) (by omega)) ?_
    repeat' walk_at "one"
    exact q _ (by rw [hj.2]; exact hn) hj.1
end
section
variable {C : Cx} {d : Nat} {σ : Sto} {Q : V → Sto → Prop}
theorem kd_get {xs : List V} (h : ∀ x ∈ xs, Kd x) {k : Int} (h0 : 0 ≤ k) (h1 : k < xs.length) : ∃ X, xs[k.toNat]? = some X ∧ Kd X := by
  have hl : k.toNat < xs.length := by omega
  exact ⟨xs[k.toNat], List.getElem?_eq_getElem hl, h _ (List.getElem_mem hl)⟩
local macro_rules
  | `(tactic| walk_at "use") => `(tactic| first
      | refine fnc (w__law_word (by assumption) (fun x hx ho => ?_))
      | refine K_strI ?_ ?_
      | refine G_strSl (.int _) .none (by walk_at "len") ?_
      | refine G_strSl .none (.int _) (by walk_at "len") ?_
      | refine B_addL (.lst _) (.lst _) (by with_unfolding_all exact Nat.le_of_ble_eq_true rfl) (NL_f ?_))
theorem num_len : ∀ k < 1010, (Str.ofString (toString ((k : Nat) - 1 : Int))).length ≤ 100 := by decide +kernel
theorem num_len' {n : Int} (h0 : -1 ≤ n) (h1 : n ≤ 1001) : (Str.ofString (toString n)).length ≤ 100 := by
  have := num_len (n + 1).toNat (by omega)
  rw [show (((n + 1).toNat : Nat) - 1 : Int) = n by omega] at this
  exact this
theorem slen_append (x y : Str) : (x ++ y).length = x.length + y.length := by
  show (x.cps ++ y.cps).size = _
  rw [Array.size_append]; rfl
theorem kds_nil : ∀ y ∈ ([] : List V), Kd y := fun y h => by cases h
theorem kds_cons {x : V} {l : List V} (h : Kd x) (t : ∀ y ∈ l, Kd y) : ∀ y ∈ x :: l, Kd y := fun y hy => by
  rcases List.mem_cons.mp hy with rfl | hy
  · exact h
  · exact t y hy
theorem G_kd {xs : List V} {k : Int} (h : ∀ x ∈ xs, Kd x) (h0 : 0 ≤ k) (h1 : k < xs.length) (hf : k < 2 ^ 63) (q : ∀ X, Kd X → Q X σ) : SubR C d (.lst xs) (.int k) σ Q := by
  obtain ⟨X, e, kX⟩ := kd_get h h0 h1
  exact G_list (.lst _) h0 hf e (q X kX)
theorem signs_size : ("AZ09 _-.~\n" : Str).cps.size = 10 := by decide +kernel
theorem w__law_thing (H : G1 C) {a : Int} (q : ∀ X, Kd X → Q X σ) : CW C (d + 2) (.ref 80) [.int a] σ Q := by
  refine CW_at (G1.kin (by assumption)) ["_law_word_here", "_law_number", "_law_at", "_law_sign", "_law_some"] [("_law_word", .ref 73), ("len", .bi "len"), ("str", .type "str")] rfl rfl rfl rfl (by rfl) rfl rfl (params := ["_law_cell"]) (by walk_at "bind") rfl (vars := ["_law_cell", "_law_word_here", "_law_number", "_law_at", "_law_sign", "_law_some"]) rfl (.arg (.oth (.oth (.oth (.oth (.oth (.nil))))))) (by decide +kernel) (GL_cons (g__law_word (by assumption)) (GL_cons (g_len (by assumption)) (GL_cons (g_str (by assumption)) GL_nil))) ?_
  intro env hsc
  clear hsc
  repeat' walk_at "one"
  rename_i x hx ho
  have hk0 : 0 ≤ (a.fdiv 144).fmod 6 := Int.fmod_nonneg_of_pos _ (by decide)
  have hk1 : (a.fdiv 144).fmod 6 < 6 := Int.fmod_lt_of_pos _ (by decide)
  have hm0 : 0 ≤ (a.fdiv 12).fmod 1003 := Int.fmod_nonneg_of_pos _ (by decide)
  have hm1 : (a.fdiv 12).fmod 1003 < 1003 := Int.fmod_lt_of_pos _ (by decide)
  obtain ⟨n, hn, hn0, hn1⟩ : ∃ n : Int, [V.int 0, V.int 1, V.int 999, V.int 1000, V.int (-1), V.int ((a.fdiv 12).fmod 1003 - 1)][((a.fdiv 144).fmod 6).toNat]? = some (.int n) ∧ -1 ≤ n ∧ n ≤ 1001 := by
    have : ((a.fdiv 144).fmod 6).toNat = 0 ∨ ((a.fdiv 144).fmod 6).toNat = 1 ∨ ((a.fdiv 144).fmod 6).toNat = 2 ∨ ((a.fdiv 144).fmod 6).toNat = 3 ∨ ((a.fdiv 144).fmod 6).toNat = 4 ∨ ((a.fdiv 144).fmod 6).toNat = 5 := by omega
    rcases this with h | h | h | h | h | h <;> rw [h] <;> exact ⟨_, rfl, by omega, by omega⟩
  refine G_list (.lst _) hk0 (by omega) hn ?_
  clear hn hk0 hk1
  repeat' walk_at "one"
  have hk0 : 0 ≤ (a.fdiv 120).fmod 10 := Int.fmod_nonneg_of_pos _ (by decide)
  have hk1 : (a.fdiv 120).fmod 10 < 10 := Int.fmod_lt_of_pos _ (by decide)
  have hk2 : ((a.fdiv 120).fmod 10).toNat < ("AZ09 _-.~\n" : Str).cps.size := by rw [signs_size]; omega
  refine G_str hk0 (by omega) (Array.getElem?_eq_getElem hk2) ?_
  have hc : Ok ⟨#[("AZ09 _-.~\n" : Str).cps[((a.fdiv 120).fmod 10).toNat]]⟩ := fun k hk => by
    simp at hk; subst hk
    exact ok_of "AZ09 _-.~\n" _ (by simp)
  generalize ("AZ09 _-.~\n" : Str).cps[((a.fdiv 120).fmod 10).toNat] = c at hc ⊢
  have l1 := Txt.slice_le x none (some ((a.fdiv 12).fmod ((x.length : Int) + 1)))
  have l2 := Txt.slice_le x (some ((a.fdiv 12).fmod ((x.length : Int) + 1))) none
  have lc : (⟨#[c]⟩ : Str).length = 1 := rfl
  repeat' walk_at "one"
  case refine_1.refine_1.refine_1 => exact log2_small (by omega)
  case refine_1.refine_2 => rw [slen_append]; exact len_ok (by omega)
  case refine_2 => exact len_ok (by omega)
  have g0 : 0 ≤ a.fmod 18 := Int.fmod_nonneg_of_pos _ (by decide)
  have g1 : a.fmod 18 < 18 := Int.fmod_lt_of_pos _ (by decide)
  refine G_kd ?_ g0 (by simpa using g1) (by omega) (fun X kX => ?_)
  · simp only [List.cons_append, List.nil_append]
    repeat' first | exact kds_nil | refine kds_cons ?_ ?_ | exact Kd.int _ | exact Kd.none | exact Kd.bool _ | exact Kd.lst _ | refine Kd.tup _ (by simp) ?_ | exact Kd.str x (by omega) ho | refine Kd.str _ ?_ ?_
    · rw [slen_append, slen_append]; omega
    · exact ((ho.slice _ _).append hc).append (ho.slice _ _)
    · exact num_len' hn0 hn1
    · exact ok_of _
  · repeat' walk_at "one"
    exact q X kX
end
section
variable {C : Cx} {d : Nat} {σ : Sto} {Q : V → Sto → Prop}
theorem eqv3 (a b c : Bool) : PyData.eqv (.list [.bool a, .bool b, .bool c]) (.list [.bool a, .bool b, .bool c]) = true := by cases a <;> cases b <;> cases c <;> decide
theorem ai_nil : ∀ y ∈ ([] : List V), ∃ i, y = .int i := fun y h => by cases h
theorem ai_cons {x : Int} {l : List V} (t : ∀ y ∈ l, ∃ i, y = .int i) : ∀ y ∈ V.int x :: l, ∃ i, y = .int i := fun y hy => by
  rcases List.mem_cons.mp hy with rfl | hy
  · exact ⟨x, rfl⟩
  · exact t y hy
theorem G_tupI {xs : List V} {k : Int} (h : ∀ x ∈ xs, ∃ i, x = .int i) (h0 : 0 ≤ k) (h1 : k < xs.length) (hf : k < 2 ^ 63) (q : ∀ i, Q (.int i) σ) : SubR C d (.tup xs) (.int k) σ Q := by
  have hl : k.toNat < xs.length := by omega
  obtain ⟨i, e⟩ := h _ (List.getElem_mem hl)
  exact G_tup h0 hf (by rw [List.getElem?_eq_getElem hl, e]) (q i)
theorem G_lstI {xs : List V} {k : Int} (h : ∀ x ∈ xs, ∃ i, x = .int i) (h0 : 0 ≤ k) (h1 : k < xs.length) (hf : k < 2 ^ 63) (q : ∀ i, Q (.int i) σ) : SubR C d (.lst xs) (.int k) σ Q := by
  have hl : k.toNat < xs.length := by omega
  obtain ⟨i, e⟩ := h _ (List.getElem_mem hl)
  exact G_list (.lst _) h0 hf (by rw [List.getElem?_eq_getElem hl, e]) (q i)
theorem w_same_none (H : G1 C) (q : Q (.bool true) σ) : CW C (d + 1) (.ref 68) [.none, .none] σ Q :=
  w__law_same H (a := 1) (b := 0) (c := 1) (e := 0) q
theorem w_same_tup (H : G1 C) {a b c e : Int} (h : a ≤ b) (h1 : a = c) (h2 : b = e) (q : Q (.bool true) σ) : CW C (d + 1) (.ref 68) [.tup [.int a, .int b], .tup [.int c, .int e]] σ Q := by
  subst h1 h2
  have := w__law_same (C := C) (d := d) (σ := σ) (Q := Q) H (a := a) (b := b) (c := a) (e := b) q
  unfold joinV at this
  rw [if_neg (by omega), show max a a = a by omega, show min b b = b by omega] at this
  exact this
theorem w_joined_none (H : G1 C) {a b c e : Int} (h : min b e < max a c) (q : Q .none σ) : CW C (d + 1) (.ref 40) [.tup [.int a, .int b], .tup [.int c, .int e]] σ Q :=
  w_joined H (by unfold joinV; rw [if_pos h]; exact q)
theorem w_joined_tup (H : G1 C) {a b c e : Int} (h : ¬ min b e < max a c) (q : Q (.tup [.int (max a c), .int (min b e)]) σ) : CW C (d + 1) (.ref 40) [.tup [.int a, .int b], .tup [.int c, .int e]] σ Q :=
  w_joined H (by unfold joinV; rw [if_neg h]; exact q)
local macro_rules
  | `(tactic| walk_at "use") => `(tactic| first
      | refine G_tup (by with_unfolding_all decide) (by with_unfolding_all decide) (by with_unfolding_all exact rfl) ?_
      | refine G_slice (.lst _) (.int _) (.int _) .none (fun e => nomatch e) (by assumption) (NL_f ?_)
      | refine B_addL (.lst _) (.lst _) (by assumption) (NL_f ?_)
      | refine G_tupI (ai_cons (ai_cons ai_nil)) (Int.fmod_nonneg_of_pos _ (by with_unfolding_all decide)) (Int.fmod_lt_of_pos _ (by with_unfolding_all decide)) (Int.lt_trans (Int.fmod_lt_of_pos _ (by with_unfolding_all decide)) (by with_unfolding_all decide)) (fun i => ?_)
      | refine G_lstI (ai_cons (ai_cons (ai_cons (ai_cons (ai_cons (ai_cons ai_nil)))))) (Int.fmod_nonneg_of_pos _ (by with_unfolding_all decide)) (Int.fmod_lt_of_pos _ (by with_unfolding_all decide)) (Int.lt_trans (Int.fmod_lt_of_pos _ (by with_unfolding_all decide)) (by with_unfolding_all decide)) (fun i => ?_)
      | refine fnc (w__law_pair (by assumption) (fun lo hi => ?_))
      | refine fnc (w__law_cell_at (k := 0) (by assumption) (by assumption) (by with_unfolding_all decide) ?_)
      | refine fnc (w__law_cell_at (k := 1) (by assumption) (by assumption) (by with_unfolding_all decide) ?_)
      | refine fnc (w__law_cell_at (k := 2) (by assumption) (by assumption) (by with_unfolding_all decide) ?_)
      | refine fnc (w_within (by assumption) ?_)
      | refine fnc (w_same_none (by assumption) ?_)
      | refine fnc (w_same_tup (by assumption) (by omega) (by omega) (by omega) ?_)
      | refine fnc (w_joined_none (by assumption) (by omega) ?_)
      | refine fnc (w_joined_tup (by assumption) (by omega) ?_)
      | refine fnc (w__law_thing (by assumption) (fun X kX => ?_))
      | refine fnc (w_is_ware (by assumption) (by assumption) ?_)
      | refine fnc (w_is_make (by assumption) (by assumption) ?_)
      | refine fnc (w_is_need (by assumption) (by assumption) ?_)
      | refine fnc (w__law_is_word (by assumption) (by assumption) ?_)
      | refine fnc (w__law_is_number (by assumption) (by assumption) ?_)
      | refine fnc (w__law_is_need (by assumption) (by assumption) ?_))
def LQ (I : Loc → Prop) (σ : Sto) (P : Sto → Prop) (Q : Fl → Loc → Sto → Prop) : Fl → Loc → Sto → Prop
  | .next, m, σ' => P σ' ∧ σ' = σ ∧ I m
  | .cont, m, σ' => P σ' ∧ σ' = σ ∧ I m
  | .brk, m, σ' => Q .next m σ'
  | .ret v, m, σ' => Q (.ret v) m σ'
theorem Loop_inv {env : Env} {vars : List Str} {gl : List (Str × V)} {own : Bool} {tgt : Expr} {body : List Stmt} {P : Sto → Prop} {QS : Fl → Loc → Sto → Prop} {I : Loc → Prop} (ys : List V) :
    (∀ X ∈ ys, ∀ m, I m → AA C env vars gl own d (assign tgt env) X m σ fun m₁ σ₁ => AS C env vars gl own d (execs body env) m₁ σ₁ (LQ I σ P QS)) → (∀ m, I m → QS .next m σ) →
    ∀ m, I m → Loop C env vars gl own d tgt body P QS ys m σ := by
  induction ys with
  | nil => intro _ h m hm; exact h m hm
  | cons X ys ih =>
    intro h hq m hm A G D s v hA R hv
    refine wpAny_mono (h X (.head _) m hm A G D s v hA R hv) (fun u s' ⟨m', D', σ', a, c, e⟩ => ⟨m', D', σ', a, c, e.mono fun fl m₂ σ₂ q => ?_⟩) fun _ _ e => e
    cases fl with
    | next => obtain ⟨q1, rfl, q3⟩ := q; exact ⟨q1, ih (fun Y hY => h Y (.tail _ hY)) hq _ q3⟩
    | cont => obtain ⟨q1, rfl, q3⟩ := q; exact ⟨q1, ih (fun Y hY => h Y (.tail _ hY)) hq _ q3⟩
    | brk => exact q
    | ret v => exact q
theorem Loop8 {env : Env} {vars : List Str} {gl : List (Str × V)} {own : Bool} {tgt : Expr} {body : List Stmt} {P : Sto → Prop} {QS : Fl → Loc → Sto → Prop} {a b c e f o1 o2 o3 : Option V} {ys : List V}
    (h : ∀ X ∈ ys, ∀ o1 o2 o3, AA C env vars gl own d (assign tgt env) X [a, b, c, e, f, o1, o2, o3] σ fun m₁ σ₁ => AS C env vars gl own d (execs body env) m₁ σ₁ (LQ (fun m => ∃ o1 o2 o3, m = [a, b, c, e, f, o1, o2, o3]) σ P QS))
    (hq : ∀ o1 o2 o3, QS .next [a, b, c, e, f, o1, o2, o3] σ) : Loop C env vars gl own d tgt body P QS ys [a, b, c, e, f, o1, o2, o3] σ :=
  Loop_inv (I := fun m => ∃ o1 o2 o3, m = [a, b, c, e, f, o1, o2, o3]) ys (fun X hX m hm => by obtain ⟨o1, o2, o3, rfl⟩ := hm; exact h X hX o1 o2 o3) (fun m hm => by obtain ⟨o1, o2, o3, rfl⟩ := hm; exact hq o1 o2 o3) _ ⟨_, _, _, rfl⟩
theorem w_law (H : G1 C) {xs : List Int} (hx : xs.length ≤ 100) (q : Q (.bool true) σ) : CW C (d + 3) (.ref 104) [.lst (xs.map V.int)] σ Q := by
  refine CW_at (G1.kin (by assumption)) ["_law_one", "_law_other", "_law_make", "_law_due", "_law_cell", "_law_thing_here", "_law_found"] [("_law_pair", .ref 61), ("_law_cell_at", .ref 54), ("max", .bi "max"), ("min", .bi "min"), ("_law_same", .ref 68), ("joined", .ref 40), ("MOST_MAKE", .int 999), ("within", .ref 47), ("_law_thing", .ref 80), ("is_ware", .ref 19), ("is_make", .ref 26), ("is_need", .ref 33), ("_law_is_word", .ref 85), ("_law_is_number", .ref 92), ("_law_is_need", .ref 99)] rfl rfl rfl rfl (by rfl) rfl rfl (params := ["_law_script"]) (by walk_at "bind") rfl (vars := ["_law_script", "_law_one", "_law_other", "_law_make", "_law_due", "_law_cell", "_law_thing_here", "_law_found"]) rfl (.arg (.oth (.oth (.oth (.oth (.oth (.oth (.oth (.nil))))))))) (by decide +kernel) (GL_cons (g__law_pair (by assumption)) (GL_cons (g__law_cell_at (by assumption)) (GL_cons (g_max (by assumption)) (GL_cons (g_min (by assumption)) (GL_cons (g__law_same (by assumption)) (GL_cons (g_joined (by assumption)) (GL_cons (g_MOST_MAKE (by assumption)) (GL_cons (g_within (by assumption)) (GL_cons (g__law_thing (by assumption)) (GL_cons (g_is_ware (by assumption)) (GL_cons (g_is_make (by assumption)) (GL_cons (g_is_need (by assumption)) (GL_cons (g__law_is_word (by assumption)) (GL_cons (g__law_is_number (by assumption)) (GL_cons (g__law_is_need (by assumption)) GL_nil))))))))))))))) ?_
  intro env hsc
  have hl1 : (xs.map V.int).length ≤ sizeLine := by rw [List.length_map]; exact len_ok (by omega)
  have hl2 : (slL (xs.map V.int) (some 2) (some 32) none).length + [V.int 0].length ≤ sizeLine := by
    have h := slL_le (xs := xs.map V.int) (lo := some 2) (hi := some 32)
    rw [List.length_map] at h
    exact len_ok (by simp; omega)
  have hall : ∀ x ∈ slL (xs.map V.int) (some 2) (some 32) none ++ [V.int 0], ∃ i, x = V.int i := fun x hx => by
    rcases List.mem_append.mp hx with h | h
    · obtain ⟨i, _, rfl⟩ := List.mem_map.mp (slL_mem x h); exact ⟨i, rfl⟩
    · simp at h; exact ⟨0, h⟩
  repeat' walk_at "one"
  all_goals (rename_i hb; simp only [decide_eq_true_eq, decide_eq_false_iff_not] at hb)
  all_goals repeat' walk_at "one"
  all_goals first | (exfalso; clear hsc q hall hl1 hl2; simp_all; done) | (exfalso; clear hsc q hall hl1 hl2; simp_all; omega) | skip
  all_goals refine S_For (AI_list ?_)
  all_goals repeat' walk_at "one"
  all_goals refine ⟨_, _, .lst _, ?_⟩
  all_goals (
    refine Loop8 (fun X hX o1 o2 o3 => ?_) (fun o1 o2 o3 => ?_)
    rotate_left
    · repeat' walk_at "one"
      exact q
    obtain ⟨i, rfl⟩ := hall X hX
    with_reducible refine AA_Name PutC.put ?_
    repeat' walk_at "one"
    refine AT_CompF1 "_law_answer" [] [("isinstance", .bi "isinstance"), ("bool", .type "bool")] (by rw [hsc]; decide +kernel) (GL_cons (g_isinstance H) (GL_cons (g_bool H) GL_nil)) .nil (AI_list ?_)
    with_reducible refine AT_lc ?_
    refine ⟨_, _, .lst _, by with_unfolding_all exact Nat.le_of_ble_eq_true rfl, fun env' he => CompL_filter (f := id) (t := fun _ => false) (comp_local he (by decide +kernel)) trivial _ _ _ (fun X hX K hK => ?_) (fun X hX e K hK => by cases e) ?_⟩
    · have : ∃ b, X = .bool b := by
        simp only [List.mem_cons, List.not_mem_nil, or_false] at hX
        rcases hX with rfl | rfl | rfl <;> exact ⟨_, rfl⟩
      obtain ⟨b, rfl⟩ := this
      repeat' walk_at "one"
      exact hK
    · rw [show ∀ l : List V, [] ++ (l.filter fun _ => false).map id = [] from fun l => by simp]
      repeat' walk_at "one"
      refine C_neD (.lst .nil) (.lst .nil) rfl rfl ?_
      repeat' walk_at "one"
      · exfalso; rename_i h; revert h; decide
      refine C_neD (.lst (.cons (.bool _) (.cons (.bool _) (.cons (.bool _) .nil)))) (.lst (.cons (.bool _) (.cons (.bool _) (.cons (.bool _) .nil)))) rfl rfl ?_
      rw [eqv3]
      repeat' walk_at "one"
      exact ⟨trivial, rfl, _, _, _, rfl⟩)
end
end Mine
open PySem PySem.W PyProof.Rows
set_option Elab.async false
set_option maxRecDepth 100000
set_option maxHeartbeats 8000000
namespace Mine
theorem intsV {w : World} {D : Mine.Gh} {vs : List Value} {xs : List Int} (h : IntsAre vs xs) : Mine.VRs w D vs (xs.map Mine.V.int) := by
  induction h with
  | nil => exact .nil
  | cons n t _ ih => exact .cons (.int n t) ih
open Classical in
theorem law_of {prog : Program} {w : World} {s₁ : Shared} {mg mb : Str → Option Value} {a : Addr} {vs us : List Value} {xs : List Int} {K : Value → Shared → Prop} {E : Value → Shared → Prop}
    (hg : s₁.heap.Ns mainGlobals mg) (hb : s₁.heap.Ns builtinsNs mb) (hl : s₁.heap.NoLimit) (hbi : ∀ x : Str, x ≠ "__name__" → mb x = bootBuiltins x) (KX : (hd01.heap_39 w.params).In s₁.heap)
    (ha : s₁.heap.get? a = some (Mine.lstO us.toArray 0)) (hL : s₁.heap.IsList a vs.toArray) (hI : IntsAre vs xs) (hx : xs.length ≤ 100)
    (k : ∀ s', (∀ b o, s₁.heap.get? b = some o → s'.heap.get? b = some o) → s'.os = s₁.os → s'.gens = s₁.gens → K (.bool true) s') :
    wpAny (model prog w) callerA (call (.ref 104) [.ref a]) K E s₁ := by
  let C : Mine.Cx := ⟨prog, w, s₁.heap, s₁, mg, mb, hg, hb, hl⟩
  have H : Mine.G1 C := ⟨KX, hbi⟩
  have hv : us = vs := by
    obtain ⟨o, ho, _, n, hd⟩ := hL
    rw [ha] at ho; cases ho
    have : us.toArray = vs.toArray := by
      have h' : Data.seq us.toArray 0 = Data.seq vs.toArray n := hd
      injection h'
    simpa using this
  subst hv
  let D : Mine.Gh := fun b => if b = a then some (Mine.lstO us.toArray 0) else none
  have R : Mine.RelC C (fun b => s₁.heap.get? b) D [] s₁ := ⟨⟨s₁.heap, s₁.toks, rfl⟩, fun _ _ e => e, (fun b o e => by
      have e' : (if b = a then some (Mine.lstO us.toArray 0) else none) = some o := e
      split at e'
      · rename_i hb; subst hb; rw [← e']; exact ha
      · cases e'), fun _ _ e => e, List.nodup_nil, (fun _ h => by cases h), (fun _ h => by cases h), (fun _ h => by cases h), (fun _ h => by cases h)⟩
  have hargs : Mine.VRs C.w D [.ref a] [.lst (xs.map Mine.V.int)] := .cons (.lst (show (if a = a then some (Mine.lstO us.toArray 0) else none) = _ by rw [if_pos rfl]) (intsV hI)) .nil
  have hA : Mine.AOk callerA 3 := ⟨rfl, by decide +kernel, by decide +kernel⟩
  have := Mine.KW_of_CW (Mine.w_law (d := 0) (σ := []) (Q := fun x _ => x = .bool true) H hx rfl) callerA _ D s₁ (.ref 104) [.ref a] hA R (.ref 104) hargs
  refine wpAny_mono this (fun v s' ⟨x, D', σ', dx, hv, R', hx⟩ => ?_) fun _ _ e => e.elim
  subst hx
  cases hv
  obtain ⟨h, tk, e⟩ := R'.same
  refine k s' (fun b o e => R'.g b o e) (by rw [e]) (by rw [e])
end Mine
theorem PySem.Challenge.cw_uf010025_01_holds : PySem.Challenge.rw_uf010025_01.Holds := by
  refine Mine.hd01 ?_
  k_fill
  intro w s₀ s₁ mg mb G Y fa o pm cd doc dV kV ho hd hcd hD hmg hg args vals as hpre hlay hrd hwl hlo
  have KX := kIn_of Y
  refine Ground.open G ?_
  intro T B D TE TW
  clear G Y B D TE TW hd hcd hD
  have hfa : fa = 104 := by
    have h1 := mg_of KX T.g (show nsIn (Mine.hd01.heap_39 w.params) mainGlobals "law" = some (some (.ref 104)) from rfl)
    have h2 : mg "law" = some (.ref fa) := hmg
    rw [h1] at h2; injection h2 with h2; injection h2 with h2; exact h2.symm
  subst hfa
  clear hmg
  wrow_args hpre hlay hrd hwl hlo
  rename_i hL _ w1 _ hI _ hc _
  obtain ⟨us, ha⟩ : ∃ us : List Value, s₁.heap.get? _ = some (Mine.lstO us.toArray 0) := by
    cases w1 with
    | list h _ => exact ⟨_, h⟩
  refine Mine.law_of T.g T.b T.nolimit T.builtins KX ha hL hI (by omega) fun s' h1 h2 h3 => GoodW.toG ⟨.inl ⟨_, .bool true, [], rfl, fun _ => rfl, .bool true, ?_, fun h => ?_⟩, h1, h2, h3.trans hg⟩
  · wrow_post
  · exact ⟨List.nodup_nil, fun a h => by cases h⟩
