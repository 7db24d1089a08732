import PyProof.Rows.All
import Wide.All
import OpenK.AllK
import Wide.FinOn
import HandS.ForMost
import HandS.Exc
import HandS.TryMany
import HandS.Lambda
import HandS.Walk
import HandS.Defaults
import HandS.Property
import HandS.ExcInit
import HandS.ExcField
import HandS.Small
import KE.KExcInit
import HandS.Wide
import HandS.TupAny
import HandS.Style
import HandS.Deep
import HandS.IsInst
import HandS.SortInts
import HandS.WideBits
import HandS.Zip
import HandS.Conv
import HandS.WordsDict
import HandS.Iter
import KE.GoesEnum
import HandS.SetFor
import HandS.ExcIs
import KE.KIsAll
import HandS.EndTab
import HandS.HeadWalk
import HandS.HeadHook4
import HandS.Head0
import HandS.Head1
import HandS.Head2
import HandS.HeadEnd
import HandS.Gcd
import KE.SortData
import HandS.HeadHook1
import HandS.HeadHook2
import KE.DataCmp
import PyProof.Rows.StrDigits
import KE.KStateDown
import Lean
import PySem.Challenge.RW_treeposts_k91_whole_least_speeds

-- DlBase
set_option Elab.async false
set_option linter.all false
set_option maxRecDepth 100000
/-! DlBase: a data layer over HandS: values D with tuples and frozen lists as plain data, a small store M of what may still change, and how both lie in the abstract heap. -/
namespace DL
open PySem PySem.Spec PyProof.Rows L2
/-- not a rule by definition: the kernel is to rewrite, not to compute -/
theorem nd {α : Sort u} {a b : α} (h : a = b) : a = b := h
/-! ### data -/
inductive D where
  | non | bl (b : Bool) | int (i : Int) | str (x : Str) | tup (xs : List D) | lst (xs : List D) | dk (kvs : List (Key × D)) | ref (i : Nat) | ty (n : String) | scr (ns : List Int) | bor (xs : List D) | fdk (kvs : List (Key × D))
  deriving Inhabited
/-- what may still change -/
inductive MO where
  | gone | lst (xs : List D) | dk (kvs : List (Key × D)) | ins (C : Str) (fs : List (Str × D))
abbrev Mem := List MO
/-- what a piece of code comes to -/
inductive R (α : Type) where
  | ok (a : α) (M : Mem)
  | exc (C : Str) (as : List (Str × D)) (M : Mem)
  | stuck
/-- the constants of a text: its written part, where its classes stand, its tables of code objects -/
structure G0 where
  P : Program
  w : World
  base : Heap
  K : PySem.W.Frag
  mg : Str → Option Value
  ca : Str → Addr
  T : List (Addr × Str)
/-- F: what the callers own: not to be told as data, not changed; xs: the exception of an except clause: where it is, its own dict, its class, its fields; or a lambda that was handed in, with its maker's slots; B: lists of the callers' that may be looked at -/
structure Lm where
  σ : L2.St
  env : List (Option D)
  c : Addr
  q : Str
structure Xi where
  n : Nat
  a : Addr
  d : Option Addr
  C : Str
  as : List (Str × D)
  lam : Option Lm
structure G extends G0 where
  F : Addr → Prop
  xs : Option Xi
  B : Addr → Prop
/-! ### how data lie in the heap -/
structure RC where
  K : PySem.W.Frag
  H : Hp
  io : Nat → Addr
  n : Nat
  own : Addr → Prop
  bor : Addr → Prop
/-- the script -/
def ScrAt (K : PySem.W.Frag) (H : Hp) (own : Addr → Prop) (a : Addr) (ns : List Int) : Prop := (Rd H a (.lst (ns.map V.int)) ∧ ¬ own a) ∨
  ∃ (o : Obj) (its : Array Value) (n : Nat), K.lookup a = some o ∧ o.cls = .type "list" ∧ o.dict = none ∧ o.data = .seq its n ∧ its.size ≤ sizeLine ∧ Vals (ns.map V.int) its.toList
theorem ScrAt.sq {K : PySem.W.Frag} {H : Hp} {own : Addr → Prop} {a : Addr} {ns : List Int} (h : ScrAt K H own a ns) : SqL K H a (ns.map V.int) := h.elim (fun z => .inl z.1) .inr
mutual
inductive VR (c : RC) : V → D → Prop
  | non : VR c .non .non
  | bl (b : Bool) : VR c (.bl b) (.bl b)
  | int (i : Int) : VR c (.int i) (.int i)
  | str (x : Str) : VR c (.str x) (.str x)
  | ty (n : String) : VR c (.ty n) (.ty n)
  | tup {a : Addr} {vs : List V} {ds : List D} : SqT c.K c.H a vs → VRs c vs ds → VR c (.ref a) (.tup ds)
  | lst {a : Addr} {vs : List V} {ds : List D} : c.H a = some (.lst vs) → ¬ c.own a → VRs c vs ds → VR c (.ref a) (.lst ds)
  | scr {a : Addr} {ns : List Int} : ScrAt c.K c.H c.own a ns → VR c (.ref a) (.scr ns)
  | dk {a : Addr} {vs : List (Key × V)} {ds : List (Key × D)} : Rd c.H a (.dK vs) → ¬ c.own a → VRk c vs ds → VR c (.ref a) (.dk ds)
  | ref {i : Nat} : i < c.n → VR c (.ref (c.io i)) (.ref i)
  | fdk {a : Addr} {o : Obj} {vs : List (Key × V)} {ds : List (Key × D)} : c.H a = some (.frz o (.dK vs)) → VRk c vs ds → VR c (.ref a) (.fdk ds)
  | bor {a : Addr} {vs : List V} {ds : List D} : c.H a = some (.lst vs) → c.bor a → VRs c vs ds → VR c (.ref a) (.bor ds)
inductive VRs (c : RC) : List V → List D → Prop
  | nil : VRs c [] []
  | cons {v : V} {d : D} {vs : List V} {ds : List D} : VR c v d → VRs c vs ds → VRs c (v :: vs) (d :: ds)
inductive VRk (c : RC) : List (Key × V) → List (Key × D) → Prop
  | nil : VRk c [] []
  | cons {k : Key} {v : V} {d : D} {vs : List (Key × V)} {ds : List (Key × D)} : VR c v d → VRk c vs ds → VRk c ((k, v) :: vs) ((k, d) :: ds)
end
inductive VRf (c : RC) : List (Str × V) → List (Str × D) → Prop
  | nil : VRf c [] []
  | cons {f : Str} {v : V} {d : D} {vs : List (Str × V)} {ds : List (Str × D)} : VR c v d → VRf c vs ds → VRf c ((f, v) :: vs) ((f, d) :: ds)
def OwnOf (io : Nat → Addr) (M : Mem) (a : Addr) : Prop := ∃ i o, M[i]? = some o ∧ o ≠ .gone ∧ io i = a
abbrev rc (g : G) (io : Nat → Addr) (M : Mem) (H : Hp) : RC := ⟨g.K, H, io, M.length, fun a => g.F a ∨ OwnOf io M a, g.B⟩
def MOk (g : G) (c : RC) (a : Addr) : MO → Prop
  | .gone => True
  | .lst ds => ∃ vs, c.H a = some (.lst vs) ∧ VRs c vs ds
  | .dk ds => ∃ vs, c.H a = some (.dK vs) ∧ VRk c vs ds
  | .ins C fs => ∃ dx vs, c.H a = some (.ins (g.ca C) dx vs) ∧ VRf c vs fs
abbrev DEnv := List (Option D)
/-- what is known of an exception, of a lambda -/
def XdP (c : RC) (p : Xi) : Prop := match p.lam with
  | none => p.as = [] ∨ ∃ dd vs, p.d = some dd ∧ c.H dd = some (.xd vs) ∧ VRf c vs p.as
  | some l => c.H l.c = some (LamX.CodeO l.c l.q) ∧ l.env.length = l.σ.length ∧ ∀ (i : Nat) (d : D), l.env[i]? = some (some d) → ∃ v : V, l.σ[i]? = some (some v) ∧ VR c v d
structure MR (g : G) (io : Nat → Addr) (M : Mem) (H : Hp) : Prop where
  mem : ∀ i o, M[i]? = some o → MOk g (rc g io M H) (io i) o
  inj : ∀ i j o o', M[i]? = some o → M[j]? = some o' → o ≠ .gone → o' ≠ .gone → io i = io j → i = j
  tab : LamX.Tabs g.T H
  frm : ∀ a, g.F a → (∃ o, H a = some o ∧ ∀ ps, o ≠ .tbl ps) ∧ ¬ OwnOf io M a
  bor : ∀ a, g.B a → g.F a
structure SR (g : G) (io : Nat → Addr) (env : DEnv) (M : Mem) (s : L2.St) (H : Hp) : Prop extends MR g io M H where
  ev : ∀ (i : Nat) (d : D), env[i]? = some (some d) → ∃ v : V, s[i]? = some (some v) ∧ VR (rc g io M H) v d
  len : env.length = s.length
  xd : ∀ p, g.xs = some p → (io p.n = p.a ∧ p.n < M.length) ∧ XdP (rc g io M H) p
/-- from one state to a later one: what isn't ours stays -/
structure ST (io : Nat → Addr) (M : Mem) (H : Hp) (io' : Nat → Addr) (M' : Mem) (H' : Hp) : Prop where
  ext : ∀ b o, H b = some o → ¬ OwnOf io M b → (∀ ps, o ≠ .tbl ps) → H' b = some o ∧ ¬ OwnOf io' M' b
  keep : ∀ i, i < M.length → io' i = io i
  len : M.length ≤ M'.length
theorem ST.refl {io : Nat → Addr} {M : Mem} {H : Hp} : ST io M H io M H := ⟨fun _ _ h n _ => ⟨h, n⟩, fun _ _ => rfl, Nat.le_refl _⟩
theorem ST.trans {io io1 io2 : Nat → Addr} {M M1 M2 : Mem} {H H1 H2 : Hp} (a : ST io M H io1 M1 H1) (b : ST io1 M1 H1 io2 M2 H2) : ST io M H io2 M2 H2 :=
  ⟨fun c o h n t => let ⟨h1, n1⟩ := a.ext c o h n t; b.ext c o h1 n1 t, fun i hi => (b.keep i (Nat.lt_of_lt_of_le hi a.len)).trans (a.keep i hi), Nat.le_trans a.len b.len⟩
/-- tables stay where all that is no list, dict or instance stays -/
theorem tabs_keep {T : List (Addr × Str)} {H H' : Hp} (t : LamX.Tabs T H) (e : ∀ b o, H b = some o → (∀ vs, o ≠ .lst vs) → (∀ vs, o ≠ .dK vs) → (∀ C dx vs, o ≠ .ins C dx vs) → H' b = some o) : LamX.Tabs T H' := fun p hp => by
  obtain ⟨ps, h1, h2, h3⟩ := t p hp
  refine ⟨ps, e _ _ h1 (fun _ z => by cases z) (fun _ z => by cases z) (fun _ _ _ z => by cases z), h2, fun pos cv hc => ?_⟩
  obtain ⟨c, e1, e2⟩ := h3 pos cv hc
  exact ⟨c, e1, e _ _ e2 (fun _ z => by unfold LamX.CodeO at z; cases z) (fun _ z => by unfold LamX.CodeO at z; cases z) (fun _ _ _ z => by unfold LamX.CodeO at z; cases z)⟩
section
variable {g : G} {io io' : Nat → Addr} {M M' : Mem} {H H' : Hp}
/-- an owned address bears something that changes -/
theorem MR.own_at (m : MR g io M H) {a : Addr} (h : OwnOf io M a) : (∃ vs, H a = some (.lst vs)) ∨ (∃ vs, H a = some (.dK vs)) ∨ ∃ C dx vs, H a = some (.ins C dx vs) := by
  obtain ⟨i, o, e, ng, rfl⟩ := h
  have q := m.mem i o e
  cases o with
  | gone => exact absurd rfl ng
  | lst ds => obtain ⟨vs, h, _⟩ := q; exact .inl ⟨vs, h⟩
  | dk ds => obtain ⟨vs, h, _⟩ := q; exact .inr (.inl ⟨vs, h⟩)
  | ins C fs => obtain ⟨dx, vs, h, _⟩ := q; exact .inr (.inr ⟨_, dx, vs, h⟩)
theorem MR.not_own (m : MR g io M H) {a : Addr} {o : HO} (h : H a = some o) (h1 : ∀ vs, o ≠ .lst vs) (h2 : ∀ vs, o ≠ .dK vs) (h3 : ∀ C dx vs, o ≠ .ins C dx vs) : ¬ OwnOf io M a := fun w => by
  rcases m.own_at w with ⟨vs, e⟩ | ⟨vs, e⟩ | ⟨C, dx, vs, e⟩ <;> rw [h] at e <;> cases e
  · exact h1 _ rfl
  · exact h2 _ rfl
  · exact h3 _ _ _ rfl
theorem MR.frm_mono (m : MR g io M H) (t : ST io M H io' M' H') : ∀ a, g.F a → (∃ o, H' a = some o ∧ ∀ ps, o ≠ .tbl ps) ∧ ¬ OwnOf io' M' a := fun a h => by
  obtain ⟨⟨o, e, n⟩, w⟩ := m.frm a h
  obtain ⟨e', w'⟩ := t.ext a o e w n
  exact ⟨⟨o, e', n⟩, w'⟩
theorem ST.rd (t : ST io M H io' M' H') {a : Addr} {u : HO} (r : Rd H a u) (n : ¬ (g.F a ∨ OwnOf io M a)) (hu : ∀ ps, u ≠ .tbl ps) : Rd H' a u ∧ ¬ (g.F a ∨ OwnOf io' M' a) := by
  have n1 : ¬ OwnOf io M a := fun z => n (.inr z)
  have fin : ¬ OwnOf io' M' a → ¬ (g.F a ∨ OwnOf io' M' a) := fun q z => z.elim (fun y => n (.inl y)) q
  rcases r with r | ⟨o, r⟩
  · obtain ⟨a1, a2⟩ := t.ext _ _ r n1 hu
    exact ⟨.inl a1, fin a2⟩
  · obtain ⟨a1, a2⟩ := t.ext _ _ r n1 (fun ps z => by cases z)
    exact ⟨.inr ⟨o, a1⟩, fin a2⟩
theorem ST.sqt (m : MR g io M H) (t : ST io M H io' M' H') {K : PySem.W.Frag} {a : Addr} {vs : List V} (r : SqT K H a vs) : SqT K H' a vs := by
  rcases r with r | r
  · have n : ¬ OwnOf io M a := by
      rcases r with r | ⟨o, r⟩
      · exact m.not_own r (fun _ z => by cases z) (fun _ z => by cases z) (fun _ _ _ z => by cases z)
      · exact m.not_own r (fun _ z => by cases z) (fun _ z => by cases z) (fun _ _ _ z => by cases z)
    rcases r with r | ⟨o, r⟩
    · exact .inl (.inl (t.ext _ _ r n (fun _ z => by cases z)).1)
    · exact .inl (.inr ⟨o, (t.ext _ _ r n (fun _ z => by cases z)).1⟩)
  · exact .inr r
/-- the same with more that is foreign -/
abbrev G.wF (g : G) (F : Addr → Prop) : G := ⟨g.toG0, F, g.xs, g.B⟩
theorem ST.rdF {F : Addr → Prop} (hF : ∀ a, F a → g.F a ∨ H a = none) (t : ST io M H io' M' H') {a : Addr} {u : HO} (r : Rd H a u) (n : ¬ (g.F a ∨ OwnOf io M a)) (hu : ∀ ps, u ≠ .tbl ps) : Rd H' a u ∧ ¬ (F a ∨ OwnOf io' M' a) := by
  obtain ⟨h1, h2⟩ := t.rd r n hu
  refine ⟨h1, fun z => z.elim (fun y => ?_) fun y => h2 (.inr y)⟩
  rcases hF a y with q | q
  · exact n (.inl q)
  · rcases r with r | ⟨o, r⟩ <;> rw [q] at r <;> cases r
mutual
theorem VR.monoF {F : Addr → Prop} (hF : ∀ a, F a → g.F a ∨ H a = none) (m : MR g io M H) (t : ST io M H io' M' H') : ∀ {v : V} {d : D}, VR (rc g io M H) v d → VR (rc (g.wF F) io' M' H') v d
  | _, _, .non => .non
  | _, _, .bl b => .bl b
  | _, _, .int i => .int i
  | _, _, .str x => .str x
  | _, _, .ty n => .ty n
  | _, _, .tup h r => .tup (t.sqt m h) (VRs.monoF hF m t r)
  | _, _, .lst h n r => .lst (t.ext _ _ h (fun z => n (.inr z)) (fun _ z => by cases z)).1 (t.rdF hF (.of h) n (fun _ z => by cases z)).2 (VRs.monoF hF m t r)
  | _, _, .scr h => .scr (h.imp (fun z => t.rdF hF z.1 z.2 (fun _ z => by cases z)) id)
  | _, _, .dk h n r => .dk (t.rdF hF h n (fun _ z => by cases z)).1 (t.rdF hF h n (fun _ z => by cases z)).2 (VRk.monoF hF m t r)
  | _, _, .ref (i := i) h => by
    have h : i < M.length := h
    show VR (rc (g.wF F) io' M' H') (.ref (io i)) (.ref i)
    rw [← t.keep i h]
    exact .ref (Nat.lt_of_lt_of_le h t.len)
  | _, _, .bor h hb r => .bor (t.ext _ _ h (m.frm _ (m.bor _ hb)).2 (fun _ z => by cases z)).1 hb (VRs.monoF hF m t r)
  | _, _, .fdk h r => .fdk (t.ext _ _ h (m.not_own h (fun _ z => by cases z) (fun _ z => by cases z) (fun _ _ _ z => by cases z)) (fun _ z => by cases z)).1 (VRk.monoF hF m t r)
theorem VRs.monoF {F : Addr → Prop} (hF : ∀ a, F a → g.F a ∨ H a = none) (m : MR g io M H) (t : ST io M H io' M' H') : ∀ {v : List V} {d : List D}, VRs (rc g io M H) v d → VRs (rc (g.wF F) io' M' H') v d
  | _, _, .nil => .nil
  | _, _, .cons r s => .cons (VR.monoF hF m t r) (VRs.monoF hF m t s)
theorem VRk.monoF {F : Addr → Prop} (hF : ∀ a, F a → g.F a ∨ H a = none) (m : MR g io M H) (t : ST io M H io' M' H') : ∀ {v : List (Key × V)} {d : List (Key × D)}, VRk (rc g io M H) v d → VRk (rc (g.wF F) io' M' H') v d
  | _, _, .nil => .nil
  | _, _, .cons r s => .cons (VR.monoF hF m t r) (VRk.monoF hF m t s)
end
theorem VRf.monoF {F : Addr → Prop} (hF : ∀ a, F a → g.F a ∨ H a = none) (m : MR g io M H) (t : ST io M H io' M' H') : ∀ {v : List (Str × V)} {d : List (Str × D)}, VRf (rc g io M H) v d → VRf (rc (g.wF F) io' M' H') v d
  | _, _, .nil => .nil
  | _, _, .cons r s => .cons (VR.monoF hF m t r) (VRf.monoF hF m t s)
mutual
theorem VR.mono (m : MR g io M H) (t : ST io M H io' M' H') : ∀ {v : V} {d : D}, VR (rc g io M H) v d → VR (rc g io' M' H') v d
  | _, _, .non => .non
  | _, _, .bl b => .bl b
  | _, _, .int i => .int i
  | _, _, .str x => .str x
  | _, _, .ty n => .ty n
  | _, _, .tup h r => .tup (t.sqt m h) (VRs.mono m t r)
  | _, _, .lst h n r => .lst (t.ext _ _ h (fun z => n (.inr z)) (fun _ z => by cases z)).1 (t.rd (.of h) n (fun _ z => by cases z)).2 (VRs.mono m t r)
  | _, _, .scr h => .scr (h.imp (fun z => t.rd z.1 z.2 (fun _ z => by cases z)) id)
  | _, _, .dk h n r => .dk (t.rd h n (fun _ z => by cases z)).1 (t.rd h n (fun _ z => by cases z)).2 (VRk.mono m t r)
  | _, _, .ref (i := i) h => by
    have h : i < M.length := h
    show VR (rc g io' M' H') (.ref (io i)) (.ref i)
    rw [← t.keep i h]
    exact .ref (Nat.lt_of_lt_of_le h t.len)
  | _, _, .bor h hb r => .bor (t.ext _ _ h (m.frm _ (m.bor _ hb)).2 (fun _ z => by cases z)).1 hb (VRs.mono m t r)
  | _, _, .fdk h r => .fdk (t.ext _ _ h (m.not_own h (fun _ z => by cases z) (fun _ z => by cases z) (fun _ _ _ z => by cases z)) (fun _ z => by cases z)).1 (VRk.mono m t r)
theorem VRs.mono (m : MR g io M H) (t : ST io M H io' M' H') : ∀ {v : List V} {d : List D}, VRs (rc g io M H) v d → VRs (rc g io' M' H') v d
  | _, _, .nil => .nil
  | _, _, .cons r s => .cons (VR.mono m t r) (VRs.mono m t s)
theorem VRk.mono (m : MR g io M H) (t : ST io M H io' M' H') : ∀ {v : List (Key × V)} {d : List (Key × D)}, VRk (rc g io M H) v d → VRk (rc g io' M' H') v d
  | _, _, .nil => .nil
  | _, _, .cons r s => .cons (VR.mono m t r) (VRk.mono m t s)
end
theorem VRf.mono (m : MR g io M H) (t : ST io M H io' M' H') : ∀ {v : List (Str × V)} {d : List (Str × D)}, VRf (rc g io M H) v d → VRf (rc g io' M' H') v d
  | _, _, .nil => .nil
  | _, _, .cons r s => .cons (VR.mono m t r) (VRf.mono m t s)
end
section
variable {c : RC}
theorem VRs.length : ∀ {vs : List V} {ds : List D}, VRs c vs ds → vs.length = ds.length
  | _, _, .nil => rfl
  | _, _, .cons _ s => by simp [VRs.length s]
theorem VRs.get : ∀ {vs : List V} {ds : List D} {i : Nat} {d : D}, VRs c vs ds → ds[i]? = some d → ∃ v, vs[i]? = some v ∧ VR c v d
  | _, _, _, _, .nil, e => by simp at e
  | _, _, 0, _, .cons r _, e => by simp at e; subst e; exact ⟨_, rfl, r⟩
  | _, _, i + 1, d, .cons _ s, e => by
    obtain ⟨v, h1, h2⟩ := VRs.get (i := i) (d := d) s (by simpa using e)
    exact ⟨v, by simpa using h1, h2⟩
theorem VRs.get' : ∀ {vs : List V} {ds : List D} {i : Nat} {v : V}, VRs c vs ds → vs[i]? = some v → ∃ d, ds[i]? = some d ∧ VR c v d
  | _, _, _, _, .nil, e => by simp at e
  | _, _, 0, _, .cons r _, e => by simp at e; subst e; exact ⟨_, rfl, r⟩
  | _, _, i + 1, v, .cons _ s, e => by
    obtain ⟨d, h1, h2⟩ := VRs.get' (i := i) (v := v) s (by simpa using e)
    exact ⟨d, by simpa using h1, h2⟩
theorem VRs.append : ∀ {vs ws : List V} {ds es : List D}, VRs c vs ds → VRs c ws es → VRs c (vs ++ ws) (ds ++ es)
  | _, _, _, _, .nil, s => s
  | _, _, _, _, .cons r t, s => .cons r (VRs.append t s)
theorem VRs.take : ∀ {vs : List V} {ds : List D} (n : Nat), VRs c vs ds → VRs c (vs.take n) (ds.take n)
  | _, _, 0, _ => .nil
  | _, _, _ + 1, .nil => .nil
  | _, _, n + 1, .cons r t => .cons r (VRs.take n t)
theorem VRs.drop : ∀ {vs : List V} {ds : List D} (n : Nat), VRs c vs ds → VRs c (vs.drop n) (ds.drop n)
  | _, _, 0, r => r
  | _, _, _ + 1, .nil => .nil
  | _, _, n + 1, .cons _ t => VRs.drop n t
theorem VRs.set : ∀ {vs : List V} {ds : List D} (i : Nat) {v : V} {d : D}, VR c v d → VRs c vs ds → VRs c (vs.set i v) (ds.set i d)
  | _, _, _, _, _, _, .nil => .nil
  | _, _, 0, _, _, r, .cons _ t => .cons r t
  | _, _, i + 1, _, _, r, .cons q t => .cons q (VRs.set i r t)
theorem VRs.reverse {vs : List V} {ds : List D} (h : VRs c vs ds) : VRs c vs.reverse ds.reverse := by
  induction vs generalizing ds with
  | nil => cases h; exact .nil
  | cons v vs ih =>
    cases h with
    | cons r t =>
      rw [List.reverse_cons, List.reverse_cons]
      exact (ih t).append (.cons r .nil)
theorem VRs.ints {ns : List Int} : ∀ {vs : List V}, VRs c vs (ns.map D.int) → vs = ns.map V.int := by
  induction ns with
  | nil => intro vs h; cases h; rfl
  | cons n ns ih => intro vs h; cases h with | cons r t => cases r; rw [ih t]; rfl
theorem VRs.ofInts : ∀ (ns : List Int), VRs c (ns.map V.int) (ns.map D.int)
  | [] => .nil
  | n :: ns => .cons (.int n) (VRs.ofInts ns)
end
/-! ### small changes of the state -/
section
variable {g : G} {io : Nat → Addr} {env : DEnv} {M : Mem} {s : L2.St} {H : Hp}
/-- a new thing is tracked that isn't ours -/
theorem ST.fresh {p : Addr} {o : HO} (hp : H p = none) : ST io M H io M (upd H p o) :=
  ⟨fun b u h n _ => ⟨by rw [upd_ne (ne_of_none h hp)]; exact h, n⟩, fun _ _ => rfl, Nat.le_refl _⟩
theorem ext_fresh {p : Addr} {o : HO} (hp : H p = none) : ∀ b u, H b = some u → upd H p o b = some u := fun b u h => by rw [upd_ne (ne_of_none h hp)]; exact h
theorem MR.fresh (m : MR g io M H) {p : Addr} {o : HO} (hp : H p = none) : MR g io M (upd H p o) := by
  refine ⟨fun i u e => ?_, m.inj, m.tab.ext (ext_fresh hp), m.frm_mono (.fresh hp), m.bor⟩
  have q := m.mem i u e
  have t : ST io M H io M (upd H p o) := .fresh hp
  cases u with
  | gone => trivial
  | lst ds => obtain ⟨vs, h, r⟩ := q; exact ⟨vs, ext_fresh hp _ _ h, VRs.mono m t r⟩
  | dk ds => obtain ⟨vs, h, r⟩ := q; exact ⟨vs, ext_fresh hp _ _ h, VRk.mono m t r⟩
  | ins C fs => obtain ⟨dx, vs, h, r⟩ := q; exact ⟨dx, vs, ext_fresh hp _ _ h, VRf.mono m t r⟩
theorem XdP.mono {io' : Nat → Addr} {M' : Mem} {H' : Hp} {p : Xi} (m : MR g io M H) (t : ST io M H io' M' H') (h : XdP (rc g io M H) p) : XdP (rc g io' M' H') p := by
  unfold XdP at h ⊢
  split
  · rename_i e
    rw [e] at h
    rcases h with z | ⟨dd, vs, hd, h, r⟩
    · exact .inl z
    exact .inr ⟨dd, vs, hd, (t.ext _ _ h (m.not_own h (fun _ z => by cases z) (fun _ z => by cases z) (fun _ _ _ z => by cases z)) (fun _ z => by cases z)).1, VRf.mono m t r⟩
  · rename_i l e
    rw [e] at h
    obtain ⟨h1, h2, h3⟩ := h
    refine ⟨(t.ext _ _ h1 (m.not_own h1 (fun _ z => by unfold LamX.CodeO at z; cases z) (fun _ z => by unfold LamX.CodeO at z; cases z) (fun _ _ _ z => by unfold LamX.CodeO at z; cases z)) (fun _ z => by unfold LamX.CodeO at z; cases z)).1, h2, fun i d e => ?_⟩
    obtain ⟨v, q1, q2⟩ := h3 i d e
    exact ⟨v, q1, VR.mono m t q2⟩
theorem XdP.monoF {F : Addr → Prop} {io' : Nat → Addr} {M' : Mem} {H' : Hp} {p : Xi} (hF : ∀ a, F a → g.F a ∨ H a = none) (m : MR g io M H) (t : ST io M H io' M' H') (h : XdP (rc g io M H) p) : XdP (rc (g.wF F) io' M' H') p := by
  unfold XdP at h ⊢
  split
  · rename_i e
    rw [e] at h
    rcases h with z | ⟨dd, vs, hd, h, r⟩
    · exact .inl z
    exact .inr ⟨dd, vs, hd, (t.ext _ _ h (m.not_own h (fun _ z => by cases z) (fun _ z => by cases z) (fun _ _ _ z => by cases z)) (fun _ z => by cases z)).1, VRf.monoF hF m t r⟩
  · rename_i l e
    rw [e] at h
    obtain ⟨h1, h2, h3⟩ := h
    refine ⟨(t.ext _ _ h1 (m.not_own h1 (fun _ z => by unfold LamX.CodeO at z; cases z) (fun _ z => by unfold LamX.CodeO at z; cases z) (fun _ _ _ z => by unfold LamX.CodeO at z; cases z)) (fun _ z => by unfold LamX.CodeO at z; cases z)).1, h2, fun i d e => ?_⟩
    obtain ⟨v, q1, q2⟩ := h3 i d e
    exact ⟨v, q1, VR.monoF hF m t q2⟩
theorem SR.xm {io' : Nat → Addr} {M' : Mem} {H' : Hp} (S : SR g io env M s H) (t : ST io M H io' M' H') : ∀ p, g.xs = some p → (io' p.n = p.a ∧ p.n < M'.length) ∧ XdP (rc g io' M' H') p := fun p e => by
  obtain ⟨⟨z1, z2⟩, z⟩ := S.xd p e
  exact ⟨⟨(t.keep _ z2).trans z1, Nat.lt_of_lt_of_le z2 t.len⟩, z.mono S.toMR t⟩
theorem SR.fresh (S : SR g io env M s H) {p : Addr} {o : HO} (hp : H p = none) : SR g io env M s (upd H p o) :=
  ⟨S.toMR.fresh hp, fun i d e => let ⟨v, h, r⟩ := S.ev i d e; ⟨v, h, VR.mono S.toMR (.fresh hp) r⟩, S.len, S.xm (.fresh hp)⟩
theorem SR.set (S : SR g io env M s H) {i : Nat} {v : V} {d : D} (r : VR (rc g io M H) v d) : SR g io (env.set i (some d)) M (s.set i (some v)) H := by
  refine ⟨S.toMR, fun j e h => ?_, by simpa using S.len, S.xd⟩
  by_cases hj : i = j
  · subst hj
    have hi : i < env.length := by
      rcases Nat.lt_or_ge i env.length with q | q
      · exact q
      · rw [List.getElem?_eq_none (by simpa using q)] at h; cases h
    rw [List.getElem?_set_self hi] at h
    cases h
    exact ⟨v, List.getElem?_set_self (by rw [← S.len]; exact hi), r⟩
  · rw [List.getElem?_set_ne hj] at h
    obtain ⟨w, h1, h2⟩ := S.ev j e h
    exact ⟨w, by rw [List.getElem?_set_ne hj]; exact h1, h2⟩
theorem SR.weak {env' : DEnv} {s' : L2.St} (S : SR g io env M s H) (hl : env'.length = s'.length) (h : ∀ (i : Nat) (d : D), env'[i]? = some (some d) → env[i]? = some (some d)) (hs : ∀ (i : Nat) (v : V), s[i]? = some (some v) → env'[i]? ≠ some none → env'[i]? ≠ none → s'[i]? = some (some v)) : SR g io env' M s' H :=
  ⟨S.toMR, fun i d e => by
    obtain ⟨v, h1, h2⟩ := S.ev i d (h i d e)
    exact ⟨v, hs i v h1 (by rw [e]; simp) (by rw [e]; simp), h2⟩, hl, S.xd⟩
end
/-! ### an owned thing is made, is written -/
section
variable {g : G} {io : Nat → Addr} {env : DEnv} {M : Mem} {s : L2.St} {H : Hp}
/-- the address map with one place more -/
def ioN (io : Nat → Addr) (n : Nat) (p : Addr) : Nat → Addr := fun i => if i = n then p else io i
theorem ioN_same {n : Nat} {p : Addr} : ioN io n p n = p := if_pos rfl
theorem ioN_ne {n i : Nat} {p : Addr} (h : i ≠ n) : ioN io n p i = io i := if_neg h
theorem own_new {p : Addr} {o : MO} {b : Addr} (h : OwnOf (ioN io M.length p) (M ++ [o]) b) : b = p ∨ OwnOf io M b := by
  obtain ⟨i, u, e, ng, q⟩ := h
  rcases Nat.lt_or_ge i M.length with hi | hi
  · rw [List.getElem?_append_left hi] at e
    rw [ioN_ne (Nat.ne_of_lt hi)] at q
    exact .inr ⟨i, u, e, ng, q⟩
  · have hi2 : i = M.length := by
      rcases Nat.lt_or_ge M.length i with z | z
      · rw [List.getElem?_eq_none (by simp; omega)] at e; cases e
      · omega
    subst hi2
    rw [ioN_same] at q
    exact .inl q.symm
theorem ST.newOwn {p : Addr} {o : HO} {u : MO} (hp : H p = none) : ST io M H (ioN io M.length p) (M ++ [u]) (upd H p o) :=
  ⟨fun b w h n _ => ⟨by rw [upd_ne (ne_of_none h hp)]; exact h, fun z => (own_new z).elim (fun e => by rw [e, hp] at h; cases h) n⟩, fun i hi => ioN_ne (Nat.ne_of_lt hi), by simp⟩
theorem MR.newOwn (m : MR g io M H) {p : Addr} {o : HO} {u : MO} (hp : H p = none) (hu : MOk g (rc g (ioN io M.length p) (M ++ [u]) (upd H p o)) p u) : MR g (ioN io M.length p) (M ++ [u]) (upd H p o) := by
  have t : ST io M H (ioN io M.length p) (M ++ [u]) (upd H p o) := .newOwn hp
  refine ⟨fun i w e => ?_, fun i j w w' e e' n n' h => ?_, m.tab.ext (ext_fresh hp), m.frm_mono t, m.bor⟩
  · rcases Nat.lt_or_ge i M.length with hi | hi
    · rw [List.getElem?_append_left hi] at e
      rw [ioN_ne (Nat.ne_of_lt hi)]
      have q := m.mem i w e
      cases w with
      | gone => trivial
      | lst ds => obtain ⟨vs, h, r⟩ := q; exact ⟨vs, ext_fresh hp _ _ h, VRs.mono m t r⟩
      | dk ds => obtain ⟨vs, h, r⟩ := q; exact ⟨vs, ext_fresh hp _ _ h, VRk.mono m t r⟩
      | ins C fs => obtain ⟨dx, vs, h, r⟩ := q; exact ⟨dx, vs, ext_fresh hp _ _ h, VRf.mono m t r⟩
    · have hi2 : i = M.length := by
        rcases Nat.lt_or_ge M.length i with z | z
        · rw [List.getElem?_eq_none (by simp; omega)] at e; cases e
        · omega
      subst hi2
      simp at e
      subst e
      rw [ioN_same]
      exact hu
  · have key : ∀ i w, (M ++ [u])[i]? = some w → (i < M.length ∧ M[i]? = some w) ∨ i = M.length := fun i w e => by
      rcases Nat.lt_or_ge i M.length with hi | hi
      · rw [List.getElem?_append_left hi] at e; exact .inl ⟨hi, e⟩
      · rcases Nat.lt_or_ge M.length i with z | z
        · rw [List.getElem?_eq_none (by simp; omega)] at e; cases e
        · exact .inr (by omega)
    have notp : ∀ i w, M[i]? = some w → w ≠ .gone → io i ≠ p := fun i w e n z => by
      rcases m.own_at ⟨i, w, e, n, z⟩ with ⟨vs, h⟩ | ⟨vs, h⟩ | ⟨C, dx, vs, h⟩ <;> rw [hp] at h <;> cases h
    rcases key i w e with ⟨hi, e1⟩ | hi <;> rcases key j w' e' with ⟨hj, e2⟩ | hj
    · rw [ioN_ne (Nat.ne_of_lt hi), ioN_ne (Nat.ne_of_lt hj)] at h
      exact m.inj i j w w' e1 e2 n n' h
    · subst hj
      rw [ioN_ne (Nat.ne_of_lt hi), ioN_same] at h
      exact absurd h (notp i w e1 n)
    · subst hi
      rw [ioN_ne (Nat.ne_of_lt hj), ioN_same] at h
      exact absurd h.symm (notp j w' e2 n')
    · rw [hi, hj]
theorem SR.newOwn (S : SR g io env M s H) {p : Addr} {o : HO} {u : MO} (hp : H p = none) (hu : MOk g (rc g (ioN io M.length p) (M ++ [u]) (upd H p o)) p u) : SR g (ioN io M.length p) env (M ++ [u]) s (upd H p o) :=
  ⟨S.toMR.newOwn hp hu, fun i d e => let ⟨v, h, r⟩ := S.ev i d e; ⟨v, h, VR.mono S.toMR (.newOwn hp) r⟩, S.len, S.xm (.newOwn hp)⟩
/-- an owned thing is written -/
theorem own_set {i : Nat} {u : MO} {b : Addr} (h : OwnOf io (M.set i u) b) (hi : ∃ w, M[i]? = some w ∧ w ≠ .gone) : OwnOf io M b := by
  obtain ⟨j, w, e, ng, q⟩ := h
  by_cases hj : i = j
  · subst hj
    obtain ⟨w', e', n'⟩ := hi
    exact ⟨i, w', e', n', q⟩
  · rw [List.getElem?_set_ne hj] at e
    exact ⟨j, w, e, ng, q⟩
theorem ST.write {i : Nat} {w u : MO} {o : HO} (e : M[i]? = some w) (nw : w ≠ .gone) : ST io M H io (M.set i u) (upd H (io i) o) := by
  have hown : OwnOf io M (io i) := ⟨i, w, e, nw, rfl⟩
  refine ⟨fun b v h n _ => ⟨?_, fun z => n (own_set z ⟨w, e, nw⟩)⟩, fun _ _ => rfl, by simp⟩
  rw [upd_ne (show b ≠ io i from fun z => n (by rw [z]; exact hown))]
  exact h
theorem MR.write (m : MR g io M H) {i : Nat} {w u : MO} {o : HO} (e : M[i]? = some w) (nw : w ≠ .gone) (hu : MOk g (rc g io (M.set i u) (upd H (io i) o)) (io i) u) : MR g io (M.set i u) (upd H (io i) o) := by
  have t : ST io M H io (M.set i u) (upd H (io i) o) := .write e nw
  have hi : i < M.length := (List.getElem?_eq_some_iff.mp e).1
  have hown : OwnOf io M (io i) := ⟨i, w, e, nw, rfl⟩
  refine ⟨fun j v ej => ?_, fun a b v v' ea eb na nb h => ?_, tabs_keep m.tab fun b v h n1 n2 n3 => (upd_ne (show b ≠ io i from fun z => m.not_own h n1 n2 n3 (by rw [z]; exact hown))).trans h, m.frm_mono t, m.bor⟩
  · by_cases hj : i = j
    · subst hj
      rw [List.getElem?_set_self hi] at ej
      cases ej
      exact hu
    · rw [List.getElem?_set_ne hj] at ej
      have q := m.mem j v ej
      by_cases hg : v = .gone
      · subst hg; trivial
      have ne : io j ≠ io i := fun z => hj (m.inj j i v w ej e hg nw z).symm
      cases v with
      | gone => trivial
      | lst ds => obtain ⟨vs, h, r⟩ := q; exact ⟨vs, (upd_ne ne).trans h, VRs.mono m t r⟩
      | dk ds => obtain ⟨vs, h, r⟩ := q; exact ⟨vs, (upd_ne ne).trans h, VRk.mono m t r⟩
      | ins C fs => obtain ⟨dx, vs, h, r⟩ := q; exact ⟨dx, vs, (upd_ne ne).trans h, VRf.mono m t r⟩
  · have key : ∀ (j : Nat) (v : MO), (M.set i u)[j]? = some v → v ≠ MO.gone → ∃ v', M[j]? = some v' ∧ v' ≠ MO.gone := fun j v ej nj => by
      by_cases hj : i = j
      · subst hj; exact ⟨w, e, nw⟩
      · rw [List.getElem?_set_ne hj] at ej; exact ⟨v, ej, nj⟩
    obtain ⟨x, ex, nx⟩ := key a v ea na
    obtain ⟨y, ey, ny⟩ := key b v' eb nb
    exact m.inj a b x y ex ey nx ny h
end
end DL

-- DlCore
set_option Elab.async false
set_option linter.all false
set_option maxRecDepth 100000
/-! DlCore: what code comes to, as functions of data; the readings that say so. -/
namespace DL
open PySem PySem.Spec PyProof.Rows L2
abbrev FE := DEnv → Mem → R D
abbrev FT := DEnv → Mem → R Bool
abbrev FA := DEnv → Mem → R (List D)
def R.bind {α β : Type} (r : R α) (k : α → Mem → R β) : R β := match r with
  | .ok a M => k a M
  | .exc C as M => .exc C as M
  | .stuck => .stuck
@[simp] theorem R.bind_ok {α β : Type} (a : α) (M : Mem) (k : α → Mem → R β) : (R.ok a M).bind k = k a M := nd rfl
@[simp] theorem R.bind_exc {α β : Type} (C : Str) (as : List (Str × D)) (M : Mem) (k : α → Mem → R β) : (R.exc C as M).bind k = R.exc C as M := nd rfl
@[simp] theorem R.bind_stuck {α β : Type} (k : α → Mem → R β) : (R.stuck : R α).bind k = R.stuck := nd rfl
/-- from an option: none is stuck -/
def R.of {α : Type} (o : Option α) (M : Mem) : R α := match o with
  | some a => .ok a M
  | none => .stuck
@[simp] theorem R.of_some {α : Type} (a : α) (M : Mem) : R.of (some a) M = .ok a M := nd rfl
@[simp] theorem R.of_none {α : Type} (M : Mem) : (R.of (none : Option α) M) = .stuck := nd rfl
/-- an exception's own dict -/
def XR (c : RC) (as : List (Str × D)) (d : Option Addr) : Prop := as = [] ∨ ∃ a vs, d = some a ∧ c.H a = some (.xd vs) ∧ VRf c vs as
section
variable (g : G) (E : WX)
def PX (io : Nat → Addr) (env : DEnv) (M : Mem) (s : L2.St) (H : Hp) (C : Str) (as : List (Str × D)) (M' : Mem) : Prop :=
  ∀ (dd : Option Addr) (H' : Hp) (io' : Nat → Addr), ST io M H io' M' H' → SR g io' env M' s H' → XR (rc g io' M' H') as dd → E (.ref (g.ca C)) dd s H'
def PostE (io : Nat → Addr) (env : DEnv) (M : Mem) (s : L2.St) (H : Hp) (r : R D) (Q : VK) : Prop := match r with
  | .ok d M' => ∀ (v : V) (H' : Hp) (io' : Nat → Addr), ST io M H io' M' H' → SR g io' env M' s H' → VR (rc g io' M' H') v d → Q v H'
  | .exc C as M' => PX g E io env M s H C as M'
  | .stuck => False
def PostT (io : Nat → Addr) (env : DEnv) (M : Mem) (s : L2.St) (H : Hp) (r : R Bool) (Q : Bool → Hp → Prop) : Prop := match r with
  | .ok b M' => ∀ (H' : Hp) (io' : Nat → Addr), ST io M H io' M' H' → SR g io' env M' s H' → Q b H'
  | .exc C as M' => PX g E io env M s H C as M'
  | .stuck => False
def PostA (io : Nat → Addr) (env : DEnv) (M : Mem) (s : L2.St) (H : Hp) (r : R (List D)) (Q : List V → Hp → Prop) : Prop := match r with
  | .ok ds M' => ∀ (vs : List V) (H' : Hp) (io' : Nat → Addr), ST io M H io' M' H' → SR g io' env M' s H' → VRs (rc g io' M' H') vs ds → Q vs H'
  | .exc C as M' => PX g E io env M s H C as M'
  | .stuck => False
def trE (f : FE) : TE := fun s H Q => ∃ (env : DEnv) (io : Nat → Addr) (M : Mem), SR g io env M s H ∧ PostE g E io env M s H (f env M) Q
def trT (f : FT) : TT := fun s H Q => ∃ (env : DEnv) (io : Nat → Addr) (M : Mem), SR g io env M s H ∧ PostT g E io env M s H (f env M) Q
def trA (f : FA) : TA := fun s H Q => ∃ (env : DEnv) (io : Nat → Addr) (M : Mem), SR g io env M s H ∧ PostA g E io env M s H (f env M) Q
end
/-- what a context must be, in an except clause too -/
structure OkB (g : G) (X : Cx) : Prop where
  prog : X.prog = g.P
  w : X.w = g.w
  base : X.base = g.base
  K : X.K = g.K
  mg : X.mg = g.mg
  nd : X.N.Nodup
  grd : X.A.guards = some []
  un : X.A.units + 200 < cLine
/-- what a context must be -/
structure Ok (g : G) (E : WX) (X : Cx) (k : Nat) : Prop extends OkB g X where
  calm : X.calm = true
  tk : Takes X E
  room : Room k X.A
  own : PassesOwn (model X.prog X.w) X.A X.env X.xe
abbrev DE (g : G) (E : WX) (X : Cx) (e : Expr) (f : FE) : Prop := PE X e (trE g E f)
abbrev DT (g : G) (E : WX) (X : Cx) (e : Expr) (f : FT) : Prop := PT X e (trT g E f)
abbrev DW (g : G) (E : WX) (X : Cx) (e : Expr) (f : FT) : Prop := PW X e (trT g E f)
abbrev DA (g : G) (E : WX) (X : Cx) (es : List Expr) (f : FA) : Prop := PA X es (trA g E f)
section
variable {X : Cx} {e : Expr}
theorem PE.weak {t t' : TE} (h : PE X e t) (w : ∀ s H Q, t' s H Q → t s H Q) : PE X e t' := ⟨fun pins s σ H Q I k => h.run pins s σ H Q I (w σ H Q k)⟩
theorem PT.weak {t t' : TT} (h : PT X e t) (w : ∀ s H Q, t' s H Q → t s H Q) : PT X e t' := ⟨fun pins s σ H Q I k => h.run pins s σ H Q I (w σ H Q k)⟩
theorem PW.weak {t t' : TT} (h : PW X e t) (w : ∀ s H Q, t' s H Q → t s H Q) : PW X e t' := ⟨fun wh pins s σ H Q I k => h.run wh pins s σ H Q I (w σ H Q k)⟩
theorem PA.weak {es : List Expr} {t t' : TA} (h : PA X es t) (w : ∀ s H Q, t' s H Q → t s H Q) : PA X es t' := ⟨fun pos pins s σ H Q I k => h.run pos pins s σ H Q I (w σ H Q k)⟩
end
section
variable {g : G} {E : WX} {io io1 : Nat → Addr} {env : DEnv} {M M1 : Mem} {s : L2.St} {H H1 : Hp}
theorem PX.step {C : Str} {as : List (Str × D)} {M' : Mem} (t : ST io M H io1 M1 H1) (p : PX g E io env M s H C as M') : PX g E io1 env M1 s H1 C as M' := fun dd H' io' t' m x => p dd H' io' (t.trans t') m x
theorem PostE.step {r : R D} {Q : VK} (t : ST io M H io1 M1 H1) (p : PostE g E io env M s H r Q) : PostE g E io1 env M1 s H1 r Q := by
  cases r with
  | ok d M' => exact fun v H' io' t' => p v H' io' (t.trans t')
  | exc C as M' => exact PX.step t p
  | stuck => exact p
theorem PostT.step {r : R Bool} {Q : Bool → Hp → Prop} (t : ST io M H io1 M1 H1) (p : PostT g E io env M s H r Q) : PostT g E io1 env M1 s H1 r Q := by
  cases r with
  | ok d M' => exact fun H' io' t' => p H' io' (t.trans t')
  | exc C as M' => exact PX.step t p
  | stuck => exact p
theorem PostA.step {r : R (List D)} {Q : List V → Hp → Prop} (t : ST io M H io1 M1 H1) (p : PostA g E io env M s H r Q) : PostA g E io1 env M1 s H1 r Q := by
  cases r with
  | ok d M' => exact fun v H' io' t' => p v H' io' (t.trans t')
  | exc C as M' => exact PX.step t p
  | stuck => exact p
/-- the answer is data that lie there already -/
theorem PostE.here {d : D} {Q : VK} {v : V} (p : PostE g E io env M s H (.ok d M) Q) (S : SR g io env M s H) (r : VR (rc g io M H) v d) : Q v H := p v H io .refl S r
theorem PostT.here {b : Bool} {Q : Bool → Hp → Prop} (p : PostT g E io env M s H (.ok b M) Q) (S : SR g io env M s H) : Q b H := p H io .refl S
/-- a new tuple -/
theorem PostE.newTup {ds : List D} {vs : List V} {Q : VK} (p : PostE g E io env M s H (.ok (.tup ds) M) Q) (S : SR g io env M s H) (r : VRs (rc g io M H) vs ds) (a : Addr) (ha : H a = none) : Q (.ref a) (upd H a (.tup vs)) :=
  p _ _ io (.fresh ha) (S.fresh ha) (.tup (SqT.of upd_same) (VRs.mono S.toMR (.fresh ha) r))
/-- what stands nowhere is nobody's -/
theorem free_not_own (m : MR g io M H) {a : Addr} (ha : H a = none) : ¬ (g.F a ∨ OwnOf io M a) := fun z => by
  rcases z with z | z
  · obtain ⟨⟨o, e, _⟩, _⟩ := m.frm a z
    rw [ha] at e; cases e
  · rcases m.own_at z with ⟨vs, h⟩ | ⟨vs, h⟩ | ⟨C, dx, vs, h⟩ <;> rw [ha] at h <;> cases h
/-- a new list that is data from now on -/
theorem PostE.newLst {ds : List D} {vs : List V} {Q : VK} (p : PostE g E io env M s H (.ok (.lst ds) M) Q) (S : SR g io env M s H) (r : VRs (rc g io M H) vs ds) (a : Addr) (ha : H a = none) : Q (.ref a) (upd H a (.lst vs)) :=
  p _ _ io (.fresh ha) (S.fresh ha) (.lst upd_same (free_not_own S.toMR ha) (VRs.mono S.toMR (.fresh ha) r))
/-- a new list of ours -/
theorem PostE.newOwn {ds : List D} {vs : List V} {Q : VK} (p : PostE g E io env M s H (.ok (.ref M.length) (M ++ [.lst ds])) Q) (S : SR g io env M s H) (r : VRs (rc g io M H) vs ds) (a : Addr) (ha : H a = none) : Q (.ref a) (upd H a (.lst vs)) := by
  have t : ST io M H (ioN io M.length a) (M ++ [.lst ds]) (upd H a (.lst vs)) := .newOwn ha
  have S' := S.newOwn (u := .lst ds) (o := .lst vs) ha ⟨vs, upd_same, VRs.mono S.toMR t r⟩
  have q : VR (rc g (ioN io M.length a) (M ++ [.lst ds]) (upd H a (.lst vs))) (.ref (ioN io M.length a M.length)) (.ref M.length) := .ref (by simp)
  rw [ioN_same] at q
  exact p _ _ _ t S' q
end
/-! ### names, constants -/
def fVar (i : Nat) : FE := fun env M => match env[i]? with
  | some (some d) => .ok d M
  | _ => .stuck
def fC (d : D) : FE := fun _ M => .ok d M
section
variable {g : G} {E : WX} {X : Cx} {k : Nat} {pos : Pos}
theorem d_v {i : Nat} {x : Str} (hN : X.N[i]? = some x) (hv : Vis X.env.scope x) (hd : (x == ("__debug__" : Str)) = false := by decide) (hcd : (x == ("__classdict__" : Str)) = false := by decide) : DE g E X (.Name x pos) (fVar i) := by
  refine PE.weak (pe_var hN hv hd hcd) fun s H Q ⟨env, io, M, S, p⟩ => ?_
  unfold fVar at p
  cases e : env[i]? with
  | none => rw [e] at p; exact p.elim
  | some o =>
    cases o with
    | none => rw [e] at p; exact p.elim
    | some d =>
      rw [e] at p
      obtain ⟨v, h, r⟩ := S.ev i d e
      exact ⟨v, h, PostE.here p S r⟩
theorem d_c {v : V} {d : D} {t : Expr} (h : PE X t (tC v)) (r : ∀ c, VR c v d) : DE g E X t (fC d) := PE.weak h fun s H Q ⟨env, io, M, S, p⟩ => PostE.here p S (r _)
theorem d_int {i : Int} {j : Nat} : DE g E X (.Constant (.int i) j pos) (fC (.int i)) := d_c pe_int fun _ => .int i
theorem d_bl {b : Bool} {j : Nat} : DE g E X (.Constant (.bool b) j pos) (fC (.bl b)) := d_c pe_bl fun _ => .bl b
theorem d_non {j : Nat} : DE g E X (.Constant .none j pos) (fC .non) := d_c pe_non fun _ => .non
theorem d_str {x : Str} {j : Nat} : DE g E X (.Constant (.str x) j pos) (fC (.str x)) := d_c pe_str fun _ => .str x
/-- a module's constant -/
theorem d_glob {x : Str} {v : V} {u : Value} {d : D} (o : OkB g X) (hg : Gl X x) (hm : g.mg x = some u) (r : RelV v u) (q : ∀ c : RC, c.K = g.K → VR c v d) (hd : (x == ("__debug__" : Str)) = false := by decide) : DE g E X (.Name x pos) (fC d) :=
  PE.weak (pe_glob hg (by rw [o.mg]; exact hm) r hd) fun s H Q ⟨env, io, M, S, p⟩ => PostE.here p S (q _ rfl)
/-- a built-in class as a value -/
theorem d_ty {x : Str} {n : String} (o : OkB g X) (hg : Gl X x) (hm : g.mg x = none) (hv : bootBuiltins x = some (.type n)) (hn : x ≠ "__name__" := by decide) (hd : (x == ("__debug__" : Str)) = false := by decide) : DE g E X (.Name x pos) (fC (.ty n)) :=
  d_c (pe_bltn hg (by rw [o.mg]; exact hm) hv (v := .ty n) rfl hn hd) fun _ => .ty n
end
/-! ### one and two parts -/
def f1 (k : D → Mem → R D) (f : FE) : FE := fun env M => (f env M).bind k
def f2 (k : D → D → Mem → R D) (f h : FE) : FE := fun env M => (f env M).bind fun a M1 => (h env M1).bind fun b M2 => k a b M2
/-- what a reading of two values must do with data -/
def Two (g : G) (r : R2) (k : D → D → Mem → R D) : Prop := ∀ (E : WX) (io : Nat → Addr) (env : DEnv) (M : Mem) (s : L2.St) (H : Hp) (v w : V) (a b : D) (Q : VK),
  SR g io env M s H → VR (rc g io M H) v a → VR (rc g io M H) w b → PostE g E io env M s H (k a b M) Q → r v w H Q
def One (g : G) (r : V → Hp → VK → Prop) (k : D → Mem → R D) : Prop := ∀ (E : WX) (io : Nat → Addr) (env : DEnv) (M : Mem) (s : L2.St) (H : Hp) (v : V) (a : D) (Q : VK),
  SR g io env M s H → VR (rc g io M H) v a → PostE g E io env M s H (k a M) Q → r v H Q
def ArgsK (g : G) (r : List V → Hp → VK → Prop) (k : List D → Mem → R D) : Prop := ∀ (E : WX) (io : Nat → Addr) (env : DEnv) (M : Mem) (s : L2.St) (H : Hp) (vs : List V) (ds : List D) (Q : VK),
  SR g io env M s H → VRs (rc g io M H) vs ds → PostE g E io env M s H (k ds M) Q → r vs H Q
section
variable {g : G} {E : WX} {X : Cx} {k : Nat} {pos : Pos} {a b c : Expr} {f h : FE}
/-- evaluated first, then what comes behind -/
theorem trE_then {f : FE} {kk : D → Mem → R D} {s : L2.St} {H : Hp} {Q : VK} {C : V → Hp → Prop} {env : DEnv} {io : Nat → Addr} {M : Mem} (S : SR g io env M s H) (p : PostE g E io env M s H ((f env M).bind kk) Q)
    (hk : ∀ (d : D) (M1 : Mem) (v : V) (H1 : Hp) (io1 : Nat → Addr), ST io M H io1 M1 H1 → SR g io1 env M1 s H1 → VR (rc g io1 M1 H1) v d → PostE g E io1 env M1 s H1 (kk d M1) Q → C v H1) : trE g E f s H C := by
  refine ⟨env, io, M, S, ?_⟩
  cases e : f env M with
  | ok d M1 =>
    rw [e] at p
    exact fun v H1 io1 t S1 r => hk d M1 v H1 io1 t S1 r (PostE.step t p)
  | exc C as M1 => rw [e] at p; exact p
  | stuck => rw [e] at p; exact p.elim
theorem tr_two {r : R2} {kk : D → D → Mem → R D} (hk : Two g r kk) (s : L2.St) (H : Hp) (Q : VK) (t : trE g E (f2 kk f h) s H Q) : tOp r (trE g E f) (trE g E h) s H Q := by
  obtain ⟨env, io, M, S, p⟩ := t
  refine trE_then S p fun d M1 v H1 io1 t1 S1 r1 p1 => ?_
  refine trE_then S1 p1 fun d2 M2 v2 H2 io2 t2 S2 r2 p2 => ?_
  exact hk E io2 env M2 s H2 v v2 d d2 Q S2 (VR.mono S1.toMR t2 r1) r2 p2
theorem tr_one {r : V → Hp → VK → Prop} {kk : D → Mem → R D} (hk : One g r kk) (s : L2.St) (H : Hp) (Q : VK) (t : trE g E (f1 kk f) s H Q) : tUn r (trE g E f) s H Q := by
  obtain ⟨env, io, M, S, p⟩ := t
  exact trE_then S p fun d M1 v H1 io1 t1 S1 r1 p1 => hk E io1 env M1 s H1 v d Q S1 r1 p1
theorem d_op {op : Operator} {r : R2} {kk : D → D → Mem → R D} (ho : OpR X (binaryOp op) r) (hk : Two g r kk) (ha : DE g E X a f) (hb : DE g E X b h) : DE g E X (.BinOp a op b pos) (f2 kk f h) :=
  PE.weak (pe_op ho ha hb) (tr_two hk)
theorem d_un {op : UnaryOp} {r : V → Hp → VK → Prop} {kk : D → Mem → R D} (ho : UnR X (unaryOp op) r) (hk : One g r kk) (ha : DE g E X a f) : DE g E X (.UnaryOp op a pos) (f1 kk f) :=
  PE.weak (pe_un ho ha) (tr_one hk)
theorem d_cmp {op : CmpOp} {r : R2} {kk : D → D → Mem → R D} (ho : OpR X (compareOp op) r) (hk : Two g r kk) (ha : DE g E X a f) (hb : DE g E X b h) (hm : behindInMarks op b = false) : DE g E X (.Compare a [op] [b] pos) (f2 kk f h) :=
  PE.weak (pe_cmpR ho ha hb hm) (tr_two hk)
theorem d_ix {r : R2} {kk : D → D → Mem → R D} (ho : IxR X r) (hk : Two g r kk) (ha : DE g E X a f) (hb : DE g E X b h) (hs : PlainIx b) : DE g E X (.Subscript a b pos) (f2 kk f h) :=
  PE.weak (pe_ix ho ha hb hs) (tr_two hk)
end
/-! ### tests -/
def asB (d : D) (M : Mem) : R Bool := match d with
  | .bl b => .ok b M
  | _ => .stuck
/-- a value as a test by being True or False -/
def tOf (f : FE) : FT := fun env M => (f env M).bind asB
def tNotF (f : FT) : FT := fun env M => (f env M).bind fun b M1 => .ok (!b) M1
def tAndF (f h : FT) : FT := fun env M => (f env M).bind fun b M1 => if b = true then h env M1 else .ok false M1
def tOrF (f h : FT) : FT := fun env M => (f env M).bind fun b M1 => if b = true then .ok true M1 else h env M1
section
variable {g : G} {E : WX} {X : Cx} {k : Nat} {pos : Pos} {a b c : Expr} {f h : FE} {p q : FT}
theorem trT_then {f : FT} {kk : Bool → Mem → R Bool} {s : L2.St} {H : Hp} {Q : Bool → Hp → Prop} {C : Bool → Hp → Prop} {env : DEnv} {io : Nat → Addr} {M : Mem} (S : SR g io env M s H) (p : PostT g E io env M s H ((f env M).bind kk) Q)
    (hk : ∀ (d : Bool) (M1 : Mem) (H1 : Hp) (io1 : Nat → Addr), ST io M H io1 M1 H1 → SR g io1 env M1 s H1 → PostT g E io1 env M1 s H1 (kk d M1) Q → C d H1) : trT g E f s H C := by
  refine ⟨env, io, M, S, ?_⟩
  cases e : f env M with
  | ok d M1 =>
    rw [e] at p
    exact fun H1 io1 t S1 => hk d M1 H1 io1 t S1 (PostT.step t p)
  | exc C as M1 => rw [e] at p; exact p
  | stuck => rw [e] at p; exact p.elim
theorem trET_then {f : FE} {kk : D → Mem → R Bool} {s : L2.St} {H : Hp} {Q : Bool → Hp → Prop} {C : V → Hp → Prop} {env : DEnv} {io : Nat → Addr} {M : Mem} (S : SR g io env M s H) (p : PostT g E io env M s H ((f env M).bind kk) Q)
    (hk : ∀ (d : D) (M1 : Mem) (v : V) (H1 : Hp) (io1 : Nat → Addr), ST io M H io1 M1 H1 → SR g io1 env M1 s H1 → VR (rc g io1 M1 H1) v d → PostT g E io1 env M1 s H1 (kk d M1) Q → C v H1) : trE g E f s H C := by
  refine ⟨env, io, M, S, ?_⟩
  cases e : f env M with
  | ok d M1 =>
    rw [e] at p
    exact fun v H1 io1 t S1 r => hk d M1 v H1 io1 t S1 r (PostT.step t p)
  | exc C as M1 => rw [e] at p; exact p
  | stuck => rw [e] at p; exact p.elim
theorem trTE_then {f : FT} {kk : Bool → Mem → R D} {s : L2.St} {H : Hp} {Q : VK} {C : Bool → Hp → Prop} {env : DEnv} {io : Nat → Addr} {M : Mem} (S : SR g io env M s H) (p : PostE g E io env M s H ((f env M).bind kk) Q)
    (hk : ∀ (d : Bool) (M1 : Mem) (H1 : Hp) (io1 : Nat → Addr), ST io M H io1 M1 H1 → SR g io1 env M1 s H1 → PostE g E io1 env M1 s H1 (kk d M1) Q → C d H1) : trT g E f s H C := by
  refine ⟨env, io, M, S, ?_⟩
  cases e : f env M with
  | ok d M1 =>
    rw [e] at p
    exact fun H1 io1 t S1 => hk d M1 H1 io1 t S1 (PostE.step t p)
  | exc C as M1 => rw [e] at p; exact p
  | stuck => rw [e] at p; exact p.elim
theorem VR.bool {c : RC} {v : V} {d : D} {M : Mem} {P : Prop} {b : Bool} {M1 : Mem} (r : VR c v d) (e : asB d M = .ok b M1) : v = .bl b ∧ M1 = M := by
  cases d <;> simp [asB] at e
  cases r
  exact ⟨by rw [e.1], e.2.symm⟩
theorem tr_b {r : TE} {f : FE} (hr : ∀ s H Q, trE g E f s H Q → r s H Q) (s : L2.St) (H : Hp) (Q : Bool → Hp → Prop) (t : trT g E (tOf f) s H Q) : r s H fun x H1 => ∃ c, x = .bl c ∧ Q c H1 := by
  obtain ⟨env, io, M, S, p⟩ := t
  refine hr s H _ (trET_then S p fun d M1 v H1 io1 t1 S1 r1 p1 => ?_)
  cases r1 <;> first | exact p1.elim | skip
  rename_i b
  exact ⟨b, rfl, PostT.here p1 S1⟩
/-- a comparison as a test -/
theorem dt_cmp {op : CmpOp} {r : R2} {kk : D → D → Mem → R D} (ho : OpR X (compareOp op) r) (hk : Two g r kk) (ha : DE g E X a f) (hb : DE g E X b h) (hm : behindInMarks op b = false) : DT g E X (.Compare a [op] [b] pos) (tOf (f2 kk f h)) :=
  PT.weak (pt_cmpR ho ha hb hm) fun s H Q t => tr_b (r := tOp r (trE g E f) (trE g E h)) (tr_two hk) s H Q t
/-- any expression that is True or False -/
theorem dt_val {e : Expr} (he : DE g E X e f) (ht : ∀ whole, isTrue e X.env whole = (do let v ← whole; standAt e.pos; holding [v] (truthy v)) := by intro _; rfl) : DT g E X e (tOf f) :=
  PT.weak (pt_val he ht) fun s H Q t => tr_b (r := trE g E f) (fun _ _ _ z => z) s H Q t
theorem dt_not (ha : DT g E X a p) : DT g E X (.UnaryOp .Not a pos) (tNotF p) :=
  PT.weak (pt_not ha) fun s H Q ⟨env, io, M, S, z⟩ => trT_then S z fun d M1 H1 io1 t1 S1 p1 => PostT.here p1 S1
theorem dw_and1 (ha : DT g E X a p) : DW g E X (.BoolOp .And [a] pos) p := pw_and1 ha
theorem dw_or1 (ha : DT g E X a p) : DW g E X (.BoolOp .Or [a] pos) p := pw_or1 ha
theorem dw_and {rest : List Expr} (ha : DT g E X a p) (hb : DW g E X (.BoolOp .And (b :: rest) pos) q) : DW g E X (.BoolOp .And (a :: b :: rest) pos) (tAndF p q) :=
  PW.weak (pw_and ha hb) fun s H Q ⟨env, io, M, S, z⟩ => trT_then S z fun d M1 H1 io1 t1 S1 p1 => by
    cases d with
    | true => exact ⟨env, io1, M1, S1, p1⟩
    | false => exact PostT.here p1 S1
theorem dw_or {rest : List Expr} (ha : DT g E X a p) (hb : DW g E X (.BoolOp .Or (b :: rest) pos) q) : DW g E X (.BoolOp .Or (a :: b :: rest) pos) (tOrF p q) :=
  PW.weak (pw_or ha hb) fun s H Q ⟨env, io, M, S, z⟩ => trT_then S z fun d M1 H1 io1 t1 S1 p1 => by
    cases d with
    | true => exact PostT.here p1 S1
    | false => exact ⟨env, io1, M1, S1, p1⟩
theorem dt_w (h : DW g E X a p) : DT g E X a p := PW.pt h
/-- and, or, not as values -/
def fAnd (f h : FE) : FE := fun env M => (f env M).bind fun a M1 => match a with
  | .bl true => h env M1
  | .bl false => .ok (.bl false) M1
  | _ => .stuck
def fOr (f h : FE) : FE := fun env M => (f env M).bind fun a M1 => match a with
  | .bl true => .ok (.bl true) M1
  | .bl false => h env M1
  | _ => .stuck
def fNot (f : FE) : FE := f1 (fun a M => match a with
  | .bl b => .ok (.bl (!b)) M
  | _ => .stuck) f
theorem d_one {op} (ha : DE g E X a f) : DE g E X (.BoolOp op [a] pos) f := pe_one ha
theorem d_and {rest : List Expr} (ha : DE g E X a f) (hb : DE g E X (.BoolOp .And (b :: rest) pos) h) : DE g E X (.BoolOp .And (a :: b :: rest) pos) (fAnd f h) :=
  PE.weak (pe_and ha hb) fun s H Q ⟨env, io, M, S, z⟩ => trE_then S z fun d M1 v H1 io1 t1 S1 r1 p1 => by
    cases r1 <;> first | exact p1.elim | skip
    rename_i b
    cases b with
    | true => exact ⟨true, rfl, ⟨env, io1, M1, S1, p1⟩⟩
    | false => exact ⟨false, rfl, PostE.here p1 S1 (.bl false)⟩
theorem d_or {rest : List Expr} (ha : DE g E X a f) (hb : DE g E X (.BoolOp .Or (b :: rest) pos) h) : DE g E X (.BoolOp .Or (a :: b :: rest) pos) (fOr f h) :=
  PE.weak (pe_or ha hb) fun s H Q ⟨env, io, M, S, z⟩ => trE_then S z fun d M1 v H1 io1 t1 S1 r1 p1 => by
    cases r1 <;> first | exact p1.elim | skip
    rename_i b
    cases b with
    | true => exact ⟨true, rfl, PostE.here p1 S1 (.bl true)⟩
    | false => exact ⟨false, rfl, ⟨env, io1, M1, S1, p1⟩⟩
theorem d_not (ha : DE g E X a f) : DE g E X (.UnaryOp .Not a pos) (fNot f) :=
  PE.weak (pe_not ha) fun s H Q ⟨env, io, M, S, z⟩ => trE_then S z fun d M1 v H1 io1 t1 S1 r1 p1 => by
    cases r1 <;> first | exact p1.elim | skip
    rename_i b
    exact ⟨b, rfl, PostE.here p1 S1 (.bl _)⟩
/-- a if t else b -/
def fIf (t : FT) (f h : FE) : FE := fun env M => (t env M).bind fun b M1 => if b = true then f env M1 else h env M1
theorem d_if (hc : DT g E X c p) (ha : DE g E X a f) (hb : DE g E X b h) : DE g E X (.IfExp c a b pos) (fIf p f h) :=
  PE.weak (pe_ifExp hc ha hb) fun s H Q ⟨env, io, M, S, z⟩ => trTE_then S z fun d M1 H1 io1 t1 S1 p1 => by
    cases d with
    | true => exact ⟨env, io1, M1, S1, p1⟩
    | false => exact ⟨env, io1, M1, S1, p1⟩
end
/-! ### argument lists, displays -/
def aNil : FA := fun _ M => .ok [] M
def aCons (f : FE) (r : FA) : FA := fun env M => (f env M).bind fun a M1 => (r env M1).bind fun as M2 => .ok (a :: as) M2
def fOf (k : List D → Mem → R D) (r : FA) : FE := fun env M => (r env M).bind k
def small (n : Nat) : Bool := decide (n ≤ sizeLine)
def kTup (ds : List D) (M : Mem) : R D := if ds.length ≤ 16777216 then .ok (.tup ds) M else .stuck
def kLst (ds : List D) (M : Mem) : R D := if ds.length ≤ 16777216 then .ok (.lst ds) M else .stuck
def kOwn (ds : List D) (M : Mem) : R D := if ds.length ≤ 16777216 then .ok (.ref M.length) (M ++ [.lst ds]) else .stuck
section
variable {g : G} {E : WX} {X : Cx} {k : Nat} {pos : Pos} {e : Expr} {es : List Expr} {f : FE} {r : FA}
theorem trA_then {f : FA} {kk : List D → Mem → R D} {s : L2.St} {H : Hp} {Q : VK} {C : List V → Hp → Prop} {env : DEnv} {io : Nat → Addr} {M : Mem} (S : SR g io env M s H) (p : PostE g E io env M s H ((f env M).bind kk) Q)
    (hk : ∀ (d : List D) (M1 : Mem) (v : List V) (H1 : Hp) (io1 : Nat → Addr), ST io M H io1 M1 H1 → SR g io1 env M1 s H1 → VRs (rc g io1 M1 H1) v d → PostE g E io1 env M1 s H1 (kk d M1) Q → C v H1) : trA g E f s H C := by
  refine ⟨env, io, M, S, ?_⟩
  cases e : f env M with
  | ok d M1 =>
    rw [e] at p
    exact fun v H1 io1 t S1 r => hk d M1 v H1 io1 t S1 r (PostE.step t p)
  | exc C as M1 => rw [e] at p; exact p
  | stuck => rw [e] at p; exact p.elim
theorem da_nil : DA g E X [] aNil := PA.weak pa_nil fun s H Q ⟨env, io, M, S, z⟩ => z [] H io .refl S .nil
theorem da_cons (ha : DE g E X e f) (hr : DA g E X es r) (hs : starEach (e :: es) X.env = (false, eval e X.env) :: starEach es X.env := by rfl) : DA g E X (e :: es) (aCons f r) :=
  PA.weak (pa_cons ha hr hs) fun s H Q ⟨env, io, M, S, z⟩ => by
    have z' : PostA g E io env M s H ((f env M).bind fun a M1 => (r env M1).bind fun as M2 => .ok (a :: as) M2) Q := z
    refine ⟨env, io, M, S, ?_⟩
    cases e1 : f env M with
    | stuck => rw [e1] at z'; exact z'.elim
    | exc C as M1 => rw [e1] at z'; exact z'
    | ok d M1 =>
      rw [e1] at z'
      intro v H1 io1 t1 S1 r1
      refine ⟨env, io1, M1, S1, ?_⟩
      have z1 := PostA.step t1 z'
      rw [R.bind_ok] at z1
      cases e2 : r env M1 with
      | stuck => rw [e2] at z1; exact z1.elim
      | exc C as M2 => rw [e2] at z1; exact z1
      | ok ds M2 =>
        rw [e2] at z1
        exact fun vs H2 io2 t2 S2 r2 => z1 (v :: vs) H2 io2 t2 S2 (.cons (VR.mono S1.toMR t2 r1) r2)
theorem line_eq {n : Nat} (h : n ≤ 16777216) : n ≤ sizeLine := by rw [sizeLine_eq]; exact h
theorem d_tup {x1} (h : DA g E X es r) : DE g E X (.Tuple es x1 pos) (fOf kTup r) :=
  PE.weak (pe_tup h) fun s H Q ⟨env, io, M, S, z⟩ => trA_then S z fun ds M1 vs H1 io1 t1 S1 r1 p1 => by
    unfold kTup at p1
    by_cases hl : ds.length ≤ 16777216
    · rw [if_pos hl] at p1
      exact ⟨by rw [VRs.length r1]; exact line_eq hl, fun a ha => PostE.newTup p1 S1 r1 a ha⟩
    · rw [if_neg hl] at p1; exact p1.elim
/-- a list that is data -/
theorem d_lst (h : DA g E X es r) : DE g E X (.List es pos) (fOf kLst r) :=
  PE.weak (pe_lst h) fun s H Q ⟨env, io, M, S, z⟩ => trA_then S z fun ds M1 vs H1 io1 t1 S1 r1 p1 => by
    unfold kLst at p1
    by_cases hl : ds.length ≤ 16777216
    · rw [if_pos hl] at p1
      exact ⟨by rw [VRs.length r1]; exact line_eq hl, fun a ha => PostE.newLst p1 S1 r1 a ha⟩
    · rw [if_neg hl] at p1; exact p1.elim
/-- a list of ours -/
theorem d_own (h : DA g E X es r) : DE g E X (.List es pos) (fOf kOwn r) :=
  PE.weak (pe_lst h) fun s H Q ⟨env, io, M, S, z⟩ => trA_then S z fun ds M1 vs H1 io1 t1 S1 r1 p1 => by
    unfold kOwn at p1
    by_cases hl : ds.length ≤ 16777216
    · rw [if_pos hl] at p1
      exact ⟨by rw [VRs.length r1]; exact line_eq hl, fun a ha => PostE.newOwn p1 S1 r1 a ha⟩
    · rw [if_neg hl] at p1; exact p1.elim
/-- f(..), f a built-in function -/
theorem d_bi {x : Str} {id : String} {rr : List V → Hp → VK → Prop} {kk : List D → Mem → R D} {p : Pos} (o : OkB g X) (hc : CallR X (.builtin id) rr) (hk : ArgsK g rr kk) (hg : Gl X x) (hm : g.mg x = none) (hv : bootBuiltins x = some (.builtin id)) (ha : DA g E X (e :: es) r) (hn : x ≠ "__name__" := by decide) (hdb : (x == ("__debug__" : Str)) = false := by decide)
    (he : starEach (e :: es) X.env = (false, eval e X.env) :: starEach es X.env := by rfl) (hpl : (backTo pos (starEach es X.env)).any (·.1) = false := by rfl) : DE g E X (.Call (.Name x p) (e :: es) [] pos) (fOf kk r) :=
  PE.weak (pe_callB hc hg (by rw [o.mg]; exact hm) hv ha hn hdb he hpl) fun s H Q ⟨env, io, M, S, z⟩ => trA_then S z fun ds M1 vs H1 io1 t1 S1 r1 p1 => hk E io1 env M1 s H1 vs ds Q S1 r1 p1
theorem d_bt {x : Str} {id : String} {rr : List V → Hp → VK → Prop} {kk : List D → Mem → R D} {p : Pos} (o : OkB g X) (hc : CallR X (.type id) rr) (hk : ArgsK g rr kk) (hg : Gl X x) (hm : g.mg x = none) (hv : bootBuiltins x = some (.type id)) (ha : DA g E X (e :: es) r) (hn : x ≠ "__name__" := by decide) (hdb : (x == ("__debug__" : Str)) = false := by decide)
    (he : starEach (e :: es) X.env = (false, eval e X.env) :: starEach es X.env := by rfl) (hpl : (backTo pos (starEach es X.env)).any (·.1) = false := by rfl) : DE g E X (.Call (.Name x p) (e :: es) [] pos) (fOf kk r) :=
  PE.weak (pe_callTy hc hg (by rw [o.mg]; exact hm) hv ha hn hdb he hpl) fun s H Q ⟨env, io, M, S, z⟩ => trA_then S z fun ds M1 vs H1 io1 t1 S1 r1 p1 => hk E io1 env M1 s H1 vs ds Q S1 r1 p1
end
end DL

-- DlStm
set_option Elab.async false
set_option linter.all false
set_option maxRecDepth 100000
/-! DlStm: statements, targets, loops, comprehensions, defs and their calls. -/
namespace DL
open PySem PySem.Spec PyProof.Rows L2
inductive RS where
  | next (env : DEnv) (M : Mem)
  | ret (d : D) (M : Mem)
  | brk (env : DEnv) (M : Mem)
  | cont (env : DEnv) (M : Mem)
  | exc (env : DEnv) (C : Str) (as : List (Str × D)) (M : Mem)
  | stuck
abbrev FS := DEnv → Mem → RS
section
variable (g : G) (E : WX)
def PostN (io : Nat → Addr) (M : Mem) (H : Hp) (env' : DEnv) (M' : Mem) (Q : L2.St → Hp → Prop) : Prop := ∀ (s' : L2.St) (H' : Hp) (io' : Nat → Addr), ST io M H io' M' H' → SR g io' env' M' s' H' → Q s' H'
def PostS (io : Nat → Addr) (M : Mem) (H : Hp) (r : RS) (D : Ends) : Prop := match r with
  | .next env' M' => PostN g io M H env' M' D.nx
  | .ret d M' => ∀ (v : V) (H' : Hp) (io' : Nat → Addr), ST io M H io' M' H' → MR g io' M' H' → VR (rc g io' M' H') v d → D.rt v H'
  | .brk env' M' => PostN g io M H env' M' D.bk
  | .cont env' M' => PostN g io M H env' M' D.ct
  | .exc env' C as M' => ∀ (s' : L2.St) (dd : Option Addr) (H' : Hp) (io' : Nat → Addr), ST io M H io' M' H' → SR g io' env' M' s' H' → XR (rc g io' M' H') as dd → E (.ref (g.ca C)) dd s' H'
  | .stuck => False
def trS (f : FS) : TS := fun D s H => ∃ (env : DEnv) (io : Nat → Addr) (M : Mem), SR g io env M s H ∧ PostS g E io M H (f env M) D
end
abbrev DS (g : G) (E : WX) (X : Cx) (st : Stmt) (f : FS) : Prop := PS X st (trS g E f)
abbrev DSs (g : G) (E : WX) (X : Cx) (st : List Stmt) (f : FS) : Prop := PSs X st (trS g E f)
theorem PS.weak {X : Cx} {st : Stmt} {t t' : TS} (h : PS X st t) (w : ∀ D s H, t' D s H → t D s H) : PS X st t' := ⟨fun pins s σ H D I k => h.run pins s σ H D I (w D σ H k)⟩
theorem PSs.weak {X : Cx} {st : List Stmt} {t t' : TS} (h : PSs X st t) (w : ∀ D s H, t' D s H → t D s H) : PSs X st t' := ⟨fun pins s σ H D I k => h.run pins s σ H D I (w D σ H k)⟩
section
variable {g : G} {E : WX} {io io1 : Nat → Addr} {env : DEnv} {M M1 : Mem} {s : L2.St} {H H1 : Hp}
theorem PostN.step {env' : DEnv} {M' : Mem} {Q : L2.St → Hp → Prop} (t : ST io M H io1 M1 H1) (p : PostN g io M H env' M' Q) : PostN g io1 M1 H1 env' M' Q := fun s' H' io' t' => p s' H' io' (t.trans t')
theorem PostN.here {env' : DEnv} {Q : L2.St → Hp → Prop} (p : PostN g io M H env' M Q) (S : SR g io env' M s H) : Q s H := p s H io .refl S
theorem PostS.step {r : RS} {D : Ends} (t : ST io M H io1 M1 H1) (p : PostS g E io M H r D) : PostS g E io1 M1 H1 r D := by
  cases r with
  | next e M' => exact PostN.step t p
  | brk e M' => exact PostN.step t p
  | cont e M' => exact PostN.step t p
  | ret d M' => exact fun v H' io' t' => p v H' io' (t.trans t')
  | exc env' C as M' => exact fun s' dd H' io' t' => p s' dd H' io' (t.trans t')
  | stuck => exact p
end
def RS.then {α : Type} (env : DEnv) (r : R α) (k : α → Mem → RS) : RS := match r with
  | .ok a M => k a M
  | .exc C as M => .exc env C as M
  | .stuck => .stuck
@[simp] theorem RS.then_ok {α : Type} (env : DEnv) (a : α) (M : Mem) (k : α → Mem → RS) : RS.then env (.ok a M) k = k a M := nd rfl
@[simp] theorem RS.then_exc {α : Type} (env : DEnv) (C : Str) (as : List (Str × D)) (M : Mem) (k : α → Mem → RS) : RS.then env (.exc C as M : R α) k = .exc env C as M := nd rfl
@[simp] theorem RS.then_stuck {α : Type} (env : DEnv) (k : α → Mem → RS) : RS.then env (.stuck : R α) k = .stuck := nd rfl
section
variable {g : G} {E : WX} {X : Cx} {k : Nat}
theorem trE_thenS {f : FE} {kk : D → Mem → RS} {s : L2.St} {H : Hp} {D' : Ends} {C : V → Hp → Prop} {env : DEnv} {io : Nat → Addr} {M : Mem} (S : SR g io env M s H) (p : PostS g E io M H (RS.then env (f env M) kk) D')
    (hk : ∀ (d : D) (M1 : Mem) (v : V) (H1 : Hp) (io1 : Nat → Addr), ST io M H io1 M1 H1 → SR g io1 env M1 s H1 → VR (rc g io1 M1 H1) v d → PostS g E io1 M1 H1 (kk d M1) D' → C v H1) : trE g E f s H C := by
  refine ⟨env, io, M, S, ?_⟩
  cases e : f env M with
  | ok d M1 =>
    rw [e] at p
    exact fun v H1 io1 t S1 r => hk d M1 v H1 io1 t S1 r (PostS.step t p)
  | exc C as M1 => rw [e] at p; exact fun dd H' io' t S' x => p s dd H' io' t S' x
  | stuck => rw [e] at p; exact p.elim
theorem trT_thenS {f : FT} {kk : Bool → Mem → RS} {s : L2.St} {H : Hp} {D' : Ends} {C : Bool → Hp → Prop} {env : DEnv} {io : Nat → Addr} {M : Mem} (S : SR g io env M s H) (p : PostS g E io M H (RS.then env (f env M) kk) D')
    (hk : ∀ (d : Bool) (M1 : Mem) (H1 : Hp) (io1 : Nat → Addr), ST io M H io1 M1 H1 → SR g io1 env M1 s H1 → PostS g E io1 M1 H1 (kk d M1) D' → C d H1) : trT g E f s H C := by
  refine ⟨env, io, M, S, ?_⟩
  cases e : f env M with
  | ok d M1 =>
    rw [e] at p
    exact fun H1 io1 t S1 => hk d M1 H1 io1 t S1 (PostS.step t p)
  | exc C as M1 => rw [e] at p; exact fun dd H' io' t S' x => p s dd H' io' t S' x
  | stuck => rw [e] at p; exact p.elim
end
/-! ### small statements, blocks -/
def sNil : FS := fun env M => .next env M
def sSeq (f h : FS) : FS := fun env M => match f env M with
  | .next env1 M1 => h env1 M1
  | r => r
def sBreak : FS := fun env M => .brk env M
def sCont : FS := fun env M => .cont env M
def sDrop (f : FE) : FS := fun env M => RS.then env (f env M) fun _ M1 => .next env M1
def sRet (f : FE) : FS := fun env M => RS.then env (f env M) fun d M1 => .ret d M1
def sRetN : FS := fun _ M => .ret .non M
def sIf (c : FT) (f h : FS) : FS := fun env M => RS.then env (c env M) fun b M1 => if b = true then f env M1 else h env M1
def sSet (i : Nat) (f : FE) : FS := fun env M => RS.then env (f env M) fun d M1 => .next (env.set i (some d)) M1
section
variable {g : G} {E : WX} {X : Cx} {k : Nat} {pos : Pos} {e c : Expr} {st : Stmt} {rest xs ys : List Stmt} {f h : FS} {q : FE} {p : FT}
theorem dss_nil : DSs g E X [] sNil := PSs.weak pss_nil fun D s H ⟨env, io, M, S, z⟩ => PostN.here z S
theorem dss_cons (h1 : DS g E X st f) (h2 : DSs g E X rest h) : DSs g E X (st :: rest) (sSeq f h) :=
  PSs.weak (pss_cons h1 h2) fun D s H ⟨env, io, M, S, z⟩ => by
    refine ⟨env, io, M, S, ?_⟩
    unfold sSeq at z
    cases e : f env M with
    | next env1 M1 =>
      rw [e] at z
      exact fun s' H' io' t S' => ⟨env1, io', M1, S', PostS.step t z⟩
    | ret d M1 => rw [e] at z; exact z
    | brk env1 M1 => rw [e] at z; exact z
    | cont env1 M1 => rw [e] at z; exact z
    | exc env1 C as M1 => rw [e] at z; exact z
    | stuck => rw [e] at z; exact z.elim
theorem dss_one (h1 : DS g E X st f) : DSs g E X [st] f := pss_one h1
theorem ds_pass : DS g E X (.Pass pos) sNil := PS.weak ps_pass fun D s H ⟨env, io, M, S, z⟩ => PostN.here z S
theorem ds_break : DS g E X (.Break pos) sBreak := PS.weak ps_break fun D s H ⟨env, io, M, S, z⟩ => PostN.here z S
theorem ds_continue : DS g E X (.Continue pos) sCont := PS.weak ps_continue fun D s H ⟨env, io, M, S, z⟩ => PostN.here z S
theorem ds_expr (he : DE g E X e q) (hs : swapsWith e none pos.line X.env = pure false := by rfl) : DS g E X (.Expr e pos) (sDrop q) :=
  PS.weak (ps_expr he hs) fun D s H ⟨env, io, M, S, z⟩ => trE_thenS S z fun d M1 v H1 io1 t S1 r p1 => PostN.here p1 S1
theorem ds_ret (he : DE g E X e q) : DS g E X (.Return (some e) pos) (sRet q) :=
  PS.weak (ps_ret he) fun D s H ⟨env, io, M, S, z⟩ => trE_thenS S z fun d M1 v H1 io1 t S1 r p1 => p1 v H1 io1 .refl S1.toMR r
theorem ds_retN : DS g E X (.Return none pos) sRetN := PS.weak ps_retN fun D s H ⟨env, io, M, S, z⟩ => z .non H io .refl S.toMR .non
theorem ds_if (hc : DT g E X c p) (ha : DSs g E X xs f) (hb : DSs g E X ys h) : DS g E X (.If c xs ys pos) (sIf p f h) :=
  PS.weak (ps_if hc ha hb) fun D s H ⟨env, io, M, S, z⟩ => trT_thenS S z fun b M1 H1 io1 t S1 p1 => by
    cases b with
    | true => exact ⟨env, io1, M1, S1, p1⟩
    | false => exact ⟨env, io1, M1, S1, p1⟩
theorem ds_set {i : Nat} {x : Str} {pos' : Pos} (o : OkB g X) (hi : X.N[i]? = some x) (hx : Loc X.env.scope x) (he : DE g E X e q) (hs : swapsWith e (some (.Name x pos')) pos.line X.env = pure false := by rfl) (hf : X.fn x = true ∨ X.env.scope.names.lookup x = some .local := by first | exact .inl rfl | exact .inr rfl | assumption) :
    DS g E X (.Assign [.Name x pos'] e pos) (sSet i q) :=
  PS.weak (ps_set o.nd hi hx he hs hf) fun D s H ⟨env, io, M, S, z⟩ => trE_thenS S z fun d M1 v H1 io1 t S1 r p1 => PostN.here p1 (S1.set r)
end
/-! ### targets -/
inductive Tgt where
  | name (i : Nat)
  | tup (ts : List Tgt)
mutual
def Tgt.bind : Tgt → D → DEnv → Option DEnv
  | .name i, d, env => some (env.set i (some d))
  | .tup ts, .tup ds, env => Tgt.binds ts ds env
  | .tup _, _, _ => none
def Tgt.binds : List Tgt → List D → DEnv → Option DEnv
  | [], [], env => some env
  | t :: ts, d :: ds, env => (Tgt.bind t d env).bind (Tgt.binds ts ds)
  | _, _, _ => none
end
mutual
def Tgt.slots : Tgt → List Nat
  | .name i => [i]
  | .tup ts => Tgt.slotss ts
def Tgt.slotss : List Tgt → List Nat
  | [] => []
  | t :: ts => Tgt.slots t ++ Tgt.slotss ts
end
mutual
def Tgt.rd (K : PySem.W.Frag) : Tgt → TG
  | .name i => gName i
  | .tup ts => gTup K ts.length (Tgt.rds K ts)
def Tgt.rds (K : PySem.W.Frag) : List Tgt → TGs
  | [] => gNil
  | t :: ts => gCons (Tgt.rd K t) (Tgt.rds K ts)
end
section
variable {g : G} {io : Nat → Addr} {M : Mem} {H : Hp}
theorem wipe_set : ∀ {vs : List Nat} {i : Nat} {s : L2.St} {v : V}, i ∈ vs → wipe (s.set i (some v)) vs = wipe s vs
  | w :: vs, i, s, v, h => by
    unfold wipe
    by_cases e : i ∈ vs
    · rw [wipe_set e]
    · have e2 : i = w := by
        rcases List.mem_cons.mp h with z | z
        · exact z
        · exact absurd z e
      subst e2
      have key : ∀ (vs : List Nat), i ∉ vs → wipe (s.set i (some v)) vs = (wipe s vs).set i (some v) := by
        intro vs
        induction vs with
        | nil => intro _; rfl
        | cons a vs ih =>
          intro hn
          simp only [List.mem_cons, not_or] at hn
          unfold wipe
          rw [ih hn.2, List.set_comm _ _ hn.1]
      rw [key vs e, List.set_set]
mutual
theorem Tgt.reads : ∀ {t : Tgt} {v : V} {d : D} {env env' : DEnv} {s : L2.St} {Q : L2.St → Hp → Prop}, t.bind d env = some env' → VR (rc g io M H) v d → SR g io env M s H →
    (∀ s', SR g io env' M s' H → (∀ vs : List Nat, (∀ i ∈ t.slots, i ∈ vs) → wipe s' vs = wipe s vs) → Q s' H) → Tgt.rd g.K t v s H Q
  | .name i, v, d, env, env', s, Q, e, r, S, h => by
    unfold Tgt.bind at e
    cases e
    unfold Tgt.rd
    exact h _ (S.set r) fun vs hv => wipe_set (hv i (by simp [Tgt.slots]))
  | .tup ts, v, .tup ds, env, env', s, Q, e, r, S, h => by
    unfold Tgt.bind at e
    unfold Tgt.rd
    cases r with
    | tup ht rs =>
      refine ⟨_, _, rfl, ht, ?_, Tgt.readss e rs S fun s' S' w => h s' S' fun vs hv => w vs (by simpa [Tgt.slots] using hv)⟩
      rw [VRs.length rs]
      exact (Tgt.len_binds e).symm
  | .tup ts, _, .non, _, _, _, _, e, _, _, _ => by simp [Tgt.bind] at e
  | .tup ts, _, .bl _, _, _, _, _, e, _, _, _ => by simp [Tgt.bind] at e
  | .tup ts, _, .int _, _, _, _, _, e, _, _, _ => by simp [Tgt.bind] at e
  | .tup ts, _, .str _, _, _, _, _, e, _, _, _ => by simp [Tgt.bind] at e
  | .tup ts, _, .lst _, _, _, _, _, e, _, _, _ => by simp [Tgt.bind] at e
  | .tup ts, _, .dk _, _, _, _, _, e, _, _, _ => by simp [Tgt.bind] at e
  | .tup ts, _, .ref _, _, _, _, _, e, _, _, _ => by simp [Tgt.bind] at e
  | .tup ts, _, .ty _, _, _, _, _, e, _, _, _ => by simp [Tgt.bind] at e
  | .tup ts, _, .scr _, _, _, _, _, e, _, _, _ => by simp [Tgt.bind] at e
  | .tup ts, _, .bor _, _, _, _, _, e, _, _, _ => by simp [Tgt.bind] at e
  | .tup ts, _, .fdk _, _, _, _, _, e, _, _, _ => by simp [Tgt.bind] at e
theorem Tgt.readss : ∀ {ts : List Tgt} {vs : List V} {ds : List D} {env env' : DEnv} {s : L2.St} {Q : L2.St → Hp → Prop}, Tgt.binds ts ds env = some env' → VRs (rc g io M H) vs ds → SR g io env M s H →
    (∀ s', SR g io env' M s' H → (∀ vs : List Nat, (∀ i ∈ Tgt.slotss ts, i ∈ vs) → wipe s' vs = wipe s vs) → Q s' H) → Tgt.rds g.K ts vs s H Q
  | [], vs, [], env, env', s, Q, e, r, S, h => by
    cases r
    unfold Tgt.binds at e
    cases e
    unfold Tgt.rds
    exact ⟨rfl, h s S fun _ _ => rfl⟩
  | t :: ts, vs, d :: ds, env, env', s, Q, e, r, S, h => by
    unfold Tgt.binds at e
    cases r with
    | cons r1 r2 =>
      cases e1 : Tgt.bind t d env with
      | none => rw [e1] at e; cases e
      | some env1 =>
        rw [e1] at e
        unfold Tgt.rds
        refine ⟨_, _, rfl, Tgt.reads e1 r1 S fun s1 S1 w1 => Tgt.readss e r2 S1 fun s2 S2 w2 => h s2 S2 fun vs hv => ?_⟩
        rw [w2 vs fun i hi => hv i (by simp [Tgt.slotss, hi]), w1 vs fun i hi => hv i (by simp [Tgt.slotss, hi])]
  | [], _, _ :: _, _, _, _, _, e, _, _, _ => by simp [Tgt.binds] at e
  | _ :: _, _, [], _, _, _, _, e, _, _, _ => by simp [Tgt.binds] at e
theorem Tgt.len_binds : ∀ {ts : List Tgt} {ds : List D} {env env' : DEnv}, Tgt.binds ts ds env = some env' → ts.length = ds.length
  | [], [], _, _, _ => rfl
  | t :: ts, d :: ds, env, env', e => by
    unfold Tgt.binds at e
    cases e1 : Tgt.bind t d env with
    | none => rw [e1] at e; cases e
    | some env1 =>
      rw [e1] at e
      have := Tgt.len_binds (ts := ts) (ds := ds) e
      simp [this]
  | [], _ :: _, _, _, e => by simp [Tgt.binds] at e
  | _ :: _, [], _, _, e => by simp [Tgt.binds] at e
end
end
/-- a target's reading -/
abbrev DG (g : G) (X : Cx) (e : Expr) (t : Tgt) : Prop := PG X e (Tgt.rd g.K t)
abbrev DGs (g : G) (X : Cx) (es : List Expr) (ts : List Tgt) : Prop := PGs X es (Tgt.rds g.K ts)
def sAsg (t : Tgt) (f : FE) : FS := fun env M => RS.then env (f env M) fun d M1 => match t.bind d env with
  | some env1 => .next env1 M1
  | none => .stuck
section
variable {g : G} {E : WX} {X : Cx} {k : Nat} {pos : Pos} {e tg : Expr} {es : List Expr} {q : FE} {t : Tgt} {ts : List Tgt}
theorem dg_name {i : Nat} {x : Str} (nd : X.N.Nodup) (hi : X.N[i]? = some x) (hx : Loc X.env.scope x) (hf : X.fn x = true ∨ X.env.scope.names.lookup x = some .local := by first | exact .inl rfl | exact .inr rfl | assumption) : DG g X (.Name x pos) (.name i) := by
  show PG X _ (Tgt.rd g.K (.name i))
  unfold Tgt.rd
  exact pg_name nd hi hx hf
theorem dgs_nil : DGs g X [] [] := by
  show PGs X [] (Tgt.rds g.K [])
  unfold Tgt.rds
  exact pgs_nil
theorem dgs_cons (h1 : DG g X e t) (h2 : DGs g X es ts) (hs : (assignEach (e :: es) X.env).map (·.2) = assign e X.env :: (assignEach es X.env).map (·.2) := by rfl) : DGs g X (e :: es) (t :: ts) := by
  show PGs X _ (Tgt.rds g.K (t :: ts))
  unfold Tgt.rds
  exact pgs_cons h1 h2 hs
theorem dg_tup {kk : Nat} (hK : X.K = g.K) (hc : X.calm = true) (h : DGs g X es ts) (hl : (assignEach es X.env).length = ts.length := by rfl) (hst : (assignEach es X.env).findIdx? (·.1) = none := by rfl) : DG g X (.Tuple es kk pos) (.tup ts) := by
  show PG X _ (Tgt.rd g.K (.tup ts))
  unfold Tgt.rd
  have h' : PGs X es (Tgt.rds g.K ts) := h
  rw [← hK] at h' ⊢
  exact pg_tup hc h' hl hst
theorem ds_asg (he : DE g E X e q) (hg : DG g X tg t) (hs : swapsWithSole [tg] e pos.line X.env = pure false := by rfl) (hw : swappedStores [tg] e X.env = pure none := by rfl)
    (h1 : (assignEach [tg] X.env).map (·.2) = [assign tg X.env] := by rfl) : DS g E X (.Assign [tg] e pos) (sAsg t q) :=
  PS.weak (ps_asg he hg hs hw h1) fun D s H ⟨env, io, M, S, z⟩ => trE_thenS S z fun d M1 v H1 io1 tt S1 r p1 => by
    cases e1 : t.bind d env with
    | none => rw [e1] at p1; exact p1.elim
    | some env1 =>
      rw [e1] at p1
      exact Tgt.reads e1 r S1 fun s' S' _ => PostN.here p1 S'
end
/-! ### while -/
def sWhile (c : FT) (b : FS) : Nat → FS
  | 0 => fun _ _ => .stuck
  | n + 1 => fun env M => RS.then env (c env M) fun k M1 => if k = true then match b env M1 with
      | .next env2 M2 => sWhile c b n env2 M2
      | .cont env2 M2 => sWhile c b n env2 M2
      | .brk env2 M2 => .next env2 M2
      | r => r
    else .next env M1
section
variable {g : G} {E : WX} {X : Cx} {k : Nat} {pos : Pos} {c : Expr} {body : List Stmt} {p : FT} {b : FS}
theorem ds_while (n : Nat) (o : Ok g E X k) (hc : DT g E X c p) (hb : DSs g E X body b) : DS g E X (.While c body [] pos) (sWhile p b n) :=
  PS.weak (ps_while o.own hc hb) fun D s H ⟨env, io, M, S, z⟩ => by
    refine ⟨fun m s1 H1 => ∃ (env1 : DEnv) (io1 : Nat → Addr) (M1 : Mem), SR g io1 env1 M1 s1 H1 ∧ PostS g E io1 M1 H1 (sWhile p b m env1 M1) D, ⟨n, env, io, M, S, z⟩, ?_⟩
    rintro m s1 H1 ⟨env1, io1, M1, S1, z1⟩
    cases m with
    | zero => exact z1.elim
    | succ m =>
      unfold sWhile at z1
      refine trT_thenS S1 z1 fun kb M2 H2 io2 t2 S2 p2 => ?_
      cases kb with
      | false => exact PostN.here p2 S2
      | true =>
        refine ⟨fun s3 H3 => ∃ (env1 : DEnv) (io1 : Nat → Addr) (M1 : Mem), SR g io1 env1 M1 s3 H3 ∧ PostS g E io1 M1 H3 (sWhile p b m env1 M1) D, fun s3 H3 w => ⟨m, Nat.lt_succ_self _, w⟩, ?_⟩
        refine ⟨env1, io2, M2, S2, ?_⟩
        rw [if_pos rfl] at p2
        cases e : b env1 M2 with
        | next env3 M3 => rw [e] at p2; exact fun s' H' io' t S' => ⟨env3, io', M3, S', PostS.step t p2⟩
        | cont env3 M3 => rw [e] at p2; exact fun s' H' io' t S' => ⟨env3, io', M3, S', PostS.step t p2⟩
        | brk env3 M3 => rw [e] at p2; exact p2
        | ret d M3 => rw [e] at p2; exact p2
        | exc env3 C as M3 => rw [e] at p2; exact p2
        | stuck => rw [e] at p2; exact p2.elim
end
/-! ### what is walked -/
structure WalkD (g : G) (io : Nat → Addr) (M : Mem) (H : Hp) (J : It) (ds : List D) : Prop where
  goes : ∀ (F : Addr → Prop) (i : Nat) (io2 : Nat → Addr) (M2 : Mem) (H2 : Hp), (∀ a, F a → g.F a ∨ H a = none) → ST io M H io2 M2 H2 → MR (g.wF F) io2 M2 H2 → i < ds.length → J.go i H2
  stops : ∀ (F : Addr → Prop) (io2 : Nat → Addr) (M2 : Mem) (H2 : Hp), (∀ a, F a → g.F a ∨ H a = none) → ST io M H io2 M2 H2 → MR (g.wF F) io2 M2 H2 → J.stop ds.length H2
  yields : ∀ (F : Addr → Prop) (i : Nat) (d : D) (io2 : Nat → Addr) (M2 : Mem) (H2 H3 : Hp) (x : V), (∀ a, F a → g.F a ∨ H a = none) → ST io M H io2 M2 H2 → MR (g.wF F) io2 M2 H2 → ds[i]? = some d → J.yld i H2 x H3 →
    ST io2 M2 H2 io2 M2 H3 ∧ MR (g.wF F) io2 M2 H3 ∧ VR (rc (g.wF F) io2 M2 H3) x d
def PostI (g : G) (E : WX) (io : Nat → Addr) (env : DEnv) (M : Mem) (s : L2.St) (H : Hp) (r : R (List D)) (Q : It → Hp → Prop) : Prop := match r with
  | .ok ds M' => ∀ (J : It) (H' : Hp) (io' : Nat → Addr), ST io M H io' M' H' → SR g io' env M' s H' → WalkD g io' M' H' J ds → Q J H'
  | .exc C as M' => PX g E io env M s H C as M'
  | .stuck => False
def trI (g : G) (E : WX) (f : FA) : TI := fun s H R => ∃ (env : DEnv) (io : Nat → Addr) (M : Mem), SR g io env M s H ∧ PostI g E io env M s H (f env M) R
abbrev DI (g : G) (E : WX) (X : Cx) (tg iter : Expr) (f : FA) : Prop := PI X tg iter (trI g E f)
theorem PI.weak {X : Cx} {tg iter : Expr} {t t' : TI} (h : PI X tg iter t) (w : ∀ s H R, t' s H R → t s H R) : PI X tg iter t' := ⟨fun pins s σ H R I k => h.run pins s σ H R I (w σ H R k)⟩
def sFor (t : Tgt) (b : FS) : List D → FS
  | [] => fun env M => .next env M
  | d :: ds => fun env M => match t.bind d env with
    | none => .stuck
    | some env1 => match b env1 M with
      | .next env2 M2 => sFor t b ds env2 M2
      | .cont env2 M2 => sFor t b ds env2 M2
      | .brk env2 M2 => .next env2 M2
      | r => r
def sForI (f : FA) (t : Tgt) (b : FS) : FS := fun env M => RS.then env (f env M) fun ds M1 => sFor t b ds env M1
section
variable {g : G} {E : WX} {X : Cx} {k : Nat} {pos : Pos} {tg iter : Expr} {body : List Stmt} {f : FA} {t : Tgt} {b : FS}
theorem SR.ext_mono {io : Nat → Addr} {M : Mem} {env : DEnv} {s : L2.St} {H H' : Hp} (S : SR g io env M s H) (t : ST io M H io M H') (m : MR g io M H') : SR g io env M s H' :=
  ⟨m, fun i d e => let ⟨v, h, r⟩ := S.ev i d e; ⟨v, h, VR.mono S.toMR t r⟩, S.len, S.xm t⟩
theorem ds_for (o : Ok g E X k) (hi : DI g E X tg iter f) (hg : DG g X tg t) (hb : DSs g E X body b) (hfs : ∀ x, foldedSetIterable iter X.env x = pure x := by intro _; rfl) : DS g E X (.For tg iter body [] pos) (sForI f t b) :=
  PS.weak (ps_for o.own o.calm hi hg hb hfs) fun D s H ⟨env, io, M, S, z⟩ => by
    show trI g E f s H _
    refine ⟨env, io, M, S, ?_⟩
    have z' : PostS g E io M H (RS.then env (f env M) fun ds M1 => sFor t b ds env M1) D := z
    cases e : f env M with
    | stuck => rw [e] at z'; exact z'.elim
    | exc C as M1 => rw [e] at z'; exact fun dd H' io' t S' x => z' s dd H' io' t S' x
    | ok ds M1 =>
      rw [e] at z'
      intro J H1 io1 t1 S1 w
      have z1 := PostS.step t1 z'
      refine ⟨fun i m s2 H2 => m = ds.length - i ∧ i ≤ ds.length ∧ ∃ (env2 : DEnv) (io2 : Nat → Addr) (M2 : Mem), ST io1 M1 H1 io2 M2 H2 ∧ SR g io2 env2 M2 s2 H2 ∧ PostS g E io2 M2 H2 (sFor t b (ds.drop i) env2 M2) D, ⟨ds.length, rfl, Nat.zero_le _, env, io1, M1, .refl, S1, z1⟩, ?_⟩
      rintro i m s2 H2 ⟨rfl, hi, env2, io2, M2, t2, S2, z2⟩
      by_cases hlt : i < ds.length
      · refine .inr ⟨w.goes g.F i io2 M2 H2 (fun _ z => .inl z) t2 S2.toMR hlt, fun s3 H3 => (i + 1 ≤ ds.length) ∧ ∃ (env3 : DEnv) (io3 : Nat → Addr) (M3 : Mem), ST io1 M1 H1 io3 M3 H3 ∧ SR g io3 env3 M3 s3 H3 ∧ PostS g E io3 M3 H3 (sFor t b (ds.drop (i + 1)) env3 M3) D,
          fun s3 H3 ⟨h1, h2⟩ => ⟨ds.length - (i + 1), by omega, rfl, h1, h2⟩, fun x H3 y => ?_⟩
        have ed : ds[i]? = some ds[i] := List.getElem?_eq_getElem hlt
        obtain ⟨t3, m3, r3⟩ := w.yields g.F i _ io2 M2 H2 H3 x (fun _ z => .inl z) t2 S2.toMR ed y
        have S3 := S2.ext_mono t3 m3
        have z3 := PostS.step t3 z2
        rw [List.drop_eq_getElem_cons hlt] at z3
        unfold sFor at z3
        cases e1 : t.bind ds[i] env2 with
        | none => rw [e1] at z3; exact z3.elim
        | some env3 =>
          rw [e1] at z3
          dsimp only at z3
          refine Tgt.reads e1 r3 S3 fun s4 S4 _ => ⟨env3, io2, M2, S4, ?_⟩
          have t13 := t2.trans t3
          cases e2 : b env3 M2 with
          | next env4 M4 => rw [e2] at z3; exact fun s' H' io' t' S' => ⟨hlt, env4, io', M4, t13.trans t', S', PostS.step t' z3⟩
          | cont env4 M4 => rw [e2] at z3; exact fun s' H' io' t' S' => ⟨hlt, env4, io', M4, t13.trans t', S', PostS.step t' z3⟩
          | brk env4 M4 => rw [e2] at z3; exact z3
          | ret d M4 => rw [e2] at z3; exact z3
          | exc env4 C as M4 => rw [e2] at z3; exact z3
          | stuck => rw [e2] at z3; exact z3.elim
      · have ei : i = ds.length := by omega
        subst ei
        rw [List.drop_length] at z2
        exact .inl ⟨w.stops g.F io2 M2 H2 (fun _ z => .inl z) t2 S2.toMR, PostN.here z2 S2⟩
end
end DL

-- DlFun
set_option Elab.async false
set_option linter.all false
set_option maxRecDepth 100000
/-! DlFun: defs and their calls, what a call leaves behind, comprehensions. -/
namespace DL
open PySem PySem.Spec PyProof.Rows L2
/-! ### data that name nothing of ours from place n on -/
mutual
def D.blw (n : Nat) : D → Bool
  | .ref i => decide (i < n)
  | .tup ds => D.blws n ds
  | .lst ds => D.blws n ds
  | .dk kvs => D.blwk n kvs
  | .non => true
  | .bl _ => true
  | .int _ => true
  | .str _ => true
  | .ty _ => true
  | .scr _ => true
  | .bor ds => decide (0 < n) && D.blws n ds
  | .fdk kvs => D.blwk n kvs
def D.blws (n : Nat) : List D → Bool
  | [] => true
  | d :: ds => D.blw n d && D.blws n ds
def D.blwk (n : Nat) : List (Key × D) → Bool
  | [] => true
  | (_, d) :: ds => D.blw n d && D.blwk n ds
end
def D.blwf (n : Nat) : List (Str × D) → Bool
  | [] => true
  | (_, d) :: ds => D.blw n d && D.blwf n ds
def MO.blw (n : Nat) : MO → Bool
  | .gone => true
  | .lst ds => D.blws n ds
  | .dk ds => D.blwk n ds
  | .ins _ fs => D.blwf n fs
theorem ba {a b : Bool} (h : (a && b) = true) : a = true ∧ b = true := Bool.and_eq_true_iff.mp h
/-- from one description of a heap to another of the same heap -/
structure Sub (n : Nat) (c c' : RC) : Prop where
  K : c'.K = c.K
  H : c'.H = c.H
  io : ∀ i, i < n → c'.io i = c.io i
  le : n ≤ c'.n
  own : ∀ a, ¬ c.own a → ¬ c'.own a
  bor : 0 < n → ∀ a, c.bor a → c'.bor a
theorem VR.sub_ref {n : Nat} {c c' : RC} (h : Sub n c c') {v : V} {i : Nat} (b : (D.ref i).blw n = true) (r : VR c v (.ref i)) : VR c' v (.ref i) := by
  have q : i < n := by simpa [D.blw] using b
  cases r
  have w : VR c' (.ref (c'.io i)) (.ref i) := .ref (Nat.lt_of_lt_of_le q h.le)
  rw [h.io i q] at w
  exact w
mutual
theorem VR.sub {n : Nat} {c c' : RC} (h : Sub n c c') : ∀ {v : V} {d : D}, d.blw n = true → VR c v d → VR c' v d
  | _, _, _, .non => .non
  | _, _, _, .bl b => .bl b
  | _, _, _, .int i => .int i
  | _, _, _, .str x => .str x
  | _, _, _, .ty x => .ty x
  | _, _, b, .tup ht r => .tup (by rw [h.K, h.H]; exact ht) (VRs.sub h (by simpa [D.blw] using b) r)
  | _, _, _, .scr ht => .scr (by rw [h.K, h.H]; exact ht.imp (fun z => ⟨z.1, h.own _ z.2⟩) id)
  | _, _, b, .lst ht n r => .lst (by rw [h.H]; exact ht) (h.own _ n) (VRs.sub h (by simpa [D.blw] using b) r)
  | _, _, b, .dk ht n r => .dk (by rw [h.H]; exact ht) (h.own _ n) (VRk.sub h (by simpa [D.blw] using b) r)
  | _, .ref i, b, r => VR.sub_ref h b r
  | _, _, b, .fdk ht r => .fdk (by rw [h.H]; exact ht) (VRk.sub h (by simpa [D.blw] using b) r)
  | _, _, b, .bor ht hb r => by
    obtain ⟨b1, b2⟩ := ba (show (decide (0 < n) && D.blws n _) = true by simpa [D.blw] using b)
    exact .bor (by rw [h.H]; exact ht) (h.bor (of_decide_eq_true b1) _ hb) (VRs.sub h b2 r)
theorem VRs.sub {n : Nat} {c c' : RC} (h : Sub n c c') : ∀ {v : List V} {d : List D}, D.blws n d = true → VRs c v d → VRs c' v d
  | _, _, _, .nil => .nil
  | _, _, b, .cons r s => by
    obtain ⟨b1, b2⟩ := ba (by simpa [D.blws] using b)
    exact .cons (VR.sub h b1 r) (VRs.sub h b2 s)
theorem VRk.sub {n : Nat} {c c' : RC} (h : Sub n c c') : ∀ {v : List (Key × V)} {d : List (Key × D)}, D.blwk n d = true → VRk c v d → VRk c' v d
  | _, _, _, .nil => .nil
  | _, _, b, .cons r s => by
    obtain ⟨b1, b2⟩ := ba (by simpa [D.blwk] using b)
    exact .cons (VR.sub h b1 r) (VRk.sub h b2 s)
end
theorem VRf.sub {n : Nat} {c c' : RC} (h : Sub n c c') : ∀ {v : List (Str × V)} {d : List (Str × D)}, D.blwf n d = true → VRf c v d → VRf c' v d
  | _, _, _, .nil => .nil
  | _, _, b, .cons r s => by
    obtain ⟨b1, b2⟩ := ba (by simpa [D.blwf] using b)
    exact .cons (VR.sub h b1 r) (VRf.sub h b2 s)
/-! ### what a call leaves: new lists become data, new places go -/
def cutD (n : Nat) (M : Mem) : Nat → D → Option D
  | 0, _ => none
  | f + 1, d => if d.blw n = true then some d else match d with
    | .ref i => (match M[i]? with
      | some (.lst ds) => (ds.mapM (cutD n M f)).map D.lst
      | some (.dk kvs) => if D.blwk n kvs = true then some (.dk kvs) else none
      | _ => none)
    | .tup ds => (ds.mapM (cutD n M f)).map D.tup
    | .lst ds => (ds.mapM (cutD n M f)).map D.lst
    | _ => none
def trimR (n : Nat) (r : R D) : R D := match r with
  | .ok d M' => if (M'.take n).all (MO.blw n) = true then (match cutD n M' 8 d with
      | some d' => .ok d' (M'.take n)
      | none => .ok d M') else .ok d M'
  | .exc C as M' => if ((M'.take n).all (MO.blw n) && D.blwf n as) = true then .exc C as (M'.take n) else .exc C as M'
  | .stuck => .stuck
def trimM (m : List D → Mem → R D) : List D → Mem → R D := fun ds M => trimR M.length (m ds M)
section
variable {g : G} {E : XK} {io io' : Nat → Addr} {M M' : Mem} {H H' : Hp}
theorem own_take {n : Nat} {a : Addr} (h : OwnOf io' (M'.take n) a) : OwnOf io' M' a := by
  obtain ⟨i, o, e, ng, q⟩ := h
  rw [List.getElem?_take] at e
  split at e
  · exact ⟨i, o, e, ng, q⟩
  · cases e
theorem sub_take {n : Nat} (hn : n ≤ M'.length) : Sub n (rc g io' M' H') (rc g io' (M'.take n) H') :=
  ⟨rfl, rfl, fun _ _ => rfl, by show n ≤ (M'.take n).length; simp; omega, fun a z q => z (q.elim .inl fun y => .inr (own_take y)), fun _ _ => id⟩
theorem MR.take (m : MR g io' M' H') {n : Nat} (hn : n ≤ M'.length) (hb : (M'.take n).all (MO.blw n) = true) : MR g io' (M'.take n) H' := by
  refine ⟨fun i o e => ?_, fun i j o o' e e' => ?_, m.tab, fun a h => ⟨(m.frm a h).1, fun z => (m.frm a h).2 (own_take z)⟩, m.bor⟩
  · have b := List.all_eq_true.mp hb o (List.mem_of_getElem? e)
    rw [List.getElem?_take] at e
    split at e
    · have q := m.mem i o e
      have sb : Sub n (rc g io' M' H') (rc g io' (M'.take n) H') := sub_take hn
      cases o with
      | gone => trivial
      | lst ds => obtain ⟨vs, h, r⟩ := q; exact ⟨vs, h, VRs.sub sb b r⟩
      | dk ds => obtain ⟨vs, h, r⟩ := q; exact ⟨vs, h, VRk.sub sb b r⟩
      | ins C fs => obtain ⟨dx, vs, h, r⟩ := q; exact ⟨dx, vs, h, VRf.sub sb b r⟩
    · cases e
  · rw [List.getElem?_take] at e e'
    split at e
    · split at e'
      · exact m.inj i j o o' e e'
      · cases e'
    · cases e
theorem ST.take (t : ST io M H io' M' H') : ST io M H io' (M'.take M.length) H' :=
  ⟨fun b o h n q => let ⟨a1, a2⟩ := t.ext b o h n q; ⟨a1, fun z => a2 (own_take z)⟩, t.keep, by simp [t.len]⟩
theorem cut_ok (m : MR g io' M' H') {n : Nat} (hn : n ≤ M'.length) : ∀ (f : Nat) {d d' : D} {v : V}, cutD n M' f d = some d' → VR (rc g io' M' H') v d → VR (rc g io' (M'.take n) H') v d'
  | 0, _, _, _, e, _ => by cases e
  | f + 1, d, d', v, e, r => by
    have list : ∀ {ds ds' : List D} {vs : List V}, ds.mapM (cutD n M' f) = some ds' → VRs (rc g io' M' H') vs ds → VRs (rc g io' (M'.take n) H') vs ds' := by
      intro ds
      induction ds with
      | nil =>
        intro ds' vs e r
        cases r
        simp at e
        subst e
        exact .nil
      | cons d ds ih =>
        intro ds' vs e r
        rw [List.mapM_cons] at e
        cases e1 : cutD n M' f d with
        | none => rw [e1] at e; cases e
        | some d1 =>
          rw [e1] at e
          cases e2 : ds.mapM (cutD n M' f) with
          | none => rw [e2] at e; cases e
          | some ds1 =>
            rw [e2] at e
            cases e
            cases r with
            | cons r1 r2 => exact .cons (cut_ok m hn f e1 r1) (ih e2 r2)
    unfold cutD at e
    by_cases hb : d.blw n = true
    · rw [if_pos hb] at e
      cases e
      exact VR.sub (sub_take hn) hb r
    · rw [if_neg hb] at e
      cases r with
      | non => cases e
      | bl b => cases e
      | int i => cases e
      | str x => cases e
      | ty x => cases e
      | scr x => cases e
      | bor h1 h2 r => cases e
      | fdk h1 r => cases e
      | dk h1 h2 r => cases e
      | tup ht r =>
        dsimp only at e
        rw [Option.map_eq_some_iff] at e
        obtain ⟨ds', e1, rfl⟩ := e
        exact .tup ht (list e1 r)
      | lst ht hq r =>
        dsimp only at e
        rw [Option.map_eq_some_iff] at e
        obtain ⟨ds', e1, rfl⟩ := e
        exact .lst ht (fun z => hq (z.elim .inl fun y => .inr (own_take y))) (list e1 r)
      | @ref i hi =>
        dsimp only at e
        have hge : ¬ i < n := by simpa [D.blw] using hb
        cases em : M'[i]? with
        | none => rw [em] at e; cases e
        | some o =>
          rw [em] at e
          have nown : o ≠ .gone → ¬ (g.F (io' i) ∨ OwnOf io' (M'.take n) (io' i)) := fun ng z => by
            have w : OwnOf io' M' (io' i) := ⟨i, o, em, ng, rfl⟩
            rcases z with z | ⟨j, u, ej, nj, q⟩
            · exact (m.frm _ z).2 w
            · rw [List.getElem?_take] at ej
              split at ej
              · rename_i hj
                exact hge (m.inj j i u o ej em nj ng q ▸ hj)
              · cases ej
          have q := m.mem i o em
          cases o with
          | gone => cases e
          | ins C fs => cases e
          | lst ds =>
            dsimp only at e
            rw [Option.map_eq_some_iff] at e
            obtain ⟨ds', e1, rfl⟩ := e
            obtain ⟨vs, h, r⟩ := q
            exact .lst h (nown (fun z => by cases z)) (list e1 r)
          | dk kvs =>
            dsimp only at e
            split at e
            · rename_i hk
              cases e
              obtain ⟨vs, h, r⟩ := q
              exact .dk (.of h) (nown (fun z => by cases z)) (VRk.sub (sub_take hn) hk r)
            · cases e
end
/-! ### a def's promise -/
def PXC (g : G) (E : XK) (io : Nat → Addr) (M : Mem) (H : Hp) (C : Str) (as : List (Str × D)) (M' : Mem) : Prop :=
  ∀ (dd : Option Addr) (H' : Hp) (io' : Nat → Addr), ST io M H io' M' H' → MR g io' M' H' → XR (rc g io' M' H') as dd → E (.ref (g.ca C)) dd H'
def PostC (g : G) (E : XK) (io : Nat → Addr) (M : Mem) (H : Hp) (r : R D) (Q : VK) : Prop := match r with
  | .ok d M' => ∀ (v : V) (H' : Hp) (io' : Nat → Addr), ST io M H io' M' H' → MR g io' M' H' → VR (rc g io' M' H') v d → Q v H'
  | .exc C as M' => PXC g E io M H C as M'
  | .stuck => False
def spD (b : G0) (n : Nat) (m : List D → Mem → R D) : Sp := fun vs H Q E => vs.length = n ∧ ∃ (F B : Addr → Prop) (io : Nat → Addr) (M : Mem) (ds : List D), MR ⟨b, F, none, B⟩ io M H ∧ VRs (rc ⟨b, F, none, B⟩ io M H) vs ds ∧ PostC ⟨b, F, none, B⟩ E io M H (m ds M) Q
theorem PostC.trim {g : G} {E : XK} {io : Nat → Addr} {M : Mem} {H : Hp} {r : R D} {Q : VK} (p : PostC g E io M H (trimR M.length r) Q) : PostC g E io M H r Q := by
  cases r with
  | stuck => exact p
  | ok d M' =>
    intro v H' io' t m r
    unfold trimR at p
    by_cases hb : (M'.take M.length).all (MO.blw M.length) = true
    · dsimp only at p
      rw [if_pos hb] at p
      cases e : cutD M.length M' 8 d with
      | none => rw [e] at p; exact p v H' io' t m r
      | some d' => rw [e] at p; exact p v H' io' t.take (m.take t.len hb) (cut_ok m t.len 8 e r)
    · dsimp only at p
      rw [if_neg hb] at p
      exact p v H' io' t m r
  | exc C as M' =>
    unfold trimR at p
    dsimp only at p
    split at p
    · rename_i h
      obtain ⟨hb, ha⟩ := ba h
      intro dd H' io' t m x
      refine p dd H' io' t.take (m.take t.len hb) ?_
      rcases x with x | ⟨a, vs, e1, e2, r⟩
      · exact .inl x
      · exact .inr ⟨a, vs, e1, e2, VRf.sub (sub_take t.len) ha r⟩
    · exact p
/-- a def's promise where nothing is being shown: what the library's FnOk says, with the caller's guards known to be none -/
structure FnG (b : G0) (k : Nat) (f : Addr) (fd : FuncData) (ps : List Str) (sp : Sp) : Prop where
  len : ∀ vs H Q E, sp vs H Q E → vs.length = ps.length
  run : ∀ (A : Around) (outer : List Env) (s : Shared) (H : Hp) (args : Args) (us : List Value) (vs : List V) (Q : VK) (E : XK), Room k A → A.guards = some [] → Env0 b.P b.w b.K b.mg b.base A outer s H → BindsTo s fd args (ps.zip us) → Vals vs us → sp vs H Q E →
    codeAny (model b.P b.w) A (.call (.ref f) args) (CR (L2.CX b.P b.w) outer b.P b.w H s Q E) s
theorem FnG.mono {b : G0} {j k : Nat} {f : Addr} {fd : FuncData} {ps : List Str} {sp : Sp} (F : FnG b j f fd ps sp) (h : j ≤ k) : FnG b k f fd ps sp := ⟨F.len, fun A outer s H args us vs Q E hr => F.run A outer s H args us vs Q E (hr.mono h)⟩
theorem FnG.imp {b : G0} {k : Nat} {f : Addr} {fd : FuncData} {ps : List Str} {sp sp' : Sp} (F : FnG b k f fd ps sp) (h : ∀ vs H Q E, sp' vs H Q E → sp vs H Q E) : FnG b k f fd ps sp' :=
  ⟨fun vs H Q E q => F.len vs H Q E (h _ _ _ _ q), fun A outer s H args us vs Q E hr hg he hb hv hs => F.run A outer s H args us vs Q E hr hg he hb hv (h _ _ _ _ hs)⟩
/-- how a call's arguments come to the parameters: n positional ones, the keywords ks; gD says it of data -/
def Bd (K : PySem.W.Frag) (fd : FuncData) (ps : List Str) (n : Nat) (ks : List Str) (gD : List D → List D → List D) : Prop :=
  ∃ (gU : List Value → List Value → List Value) (gV : List V → List V → List V), KBn K fd ps n ks gU gV ∧ (∀ (c : RC) vs zs ds es, VRs c vs ds → VRs c zs es → vs.length = n → zs.length = ks.length → VRs c (gV vs zs) (gD ds es)) ∧ ∀ ds es, ds.length = n → es.length = ks.length → (gD ds es).length = ps.length
/-- a shape of calls -/
structure Shp where
  n : Nat
  ks : List Str
  g : List D → List D → List D
/-- all parameters written, by place -/
def shN (n : Nat) : Shp := ⟨n, [], fun ds _ => ds⟩
/-- a def that is known: what it does, by so many levels; the ways to call it -/
def Fk (b : G0) (k : Nat) (f : Addr) (sh : List Shp) (m : List D → Mem → R D) : Prop := ∃ (fd : FuncData) (ps : List Str), FnG b k f fd ps (spD b ps.length m) ∧ PySem.W.keepIn b.K (.ref f) = true ∧ ∀ q ∈ sh, Bd b.K fd ps q.n q.ks q.g
theorem Fk.mono {b : G0} {j k : Nat} {f : Addr} {sh : List Shp} {m : List D → Mem → R D} (h : Fk b j f sh m) (hk : j ≤ k) : Fk b k f sh m := by
  obtain ⟨fd, ps, h2, h3⟩ := h
  exact ⟨fd, ps, h2.mono hk, h3⟩
theorem Fk.trim {b : G0} {k : Nat} {f : Addr} {sh : List Shp} {m : List D → Mem → R D} (h : Fk b k f sh m) : Fk b k f sh (trimM m) := by
  obtain ⟨fd, ps, h2, h3⟩ := h
  exact ⟨fd, ps, h2.imp fun vs H Q E ⟨e, F, B, io, M, ds, m1, r1, p1⟩ => ⟨e, F, B, io, M, ds, m1, r1, p1.trim⟩, h3⟩
/-- another function that gives the same -/
theorem Fk.eq {b : G0} {k : Nat} {f : Addr} {sh : List Shp} {m m' : List D → Mem → R D} (h : Fk b k f sh m) (e : ∀ ds M, m' ds M ≠ .stuck → m ds M = m' ds M) : Fk b k f sh m' := by
  obtain ⟨fd, ps, h2, h3⟩ := h
  refine ⟨fd, ps, h2.imp fun vs H Q E ⟨el, F, B, io, M, ds, m1, r1, p1⟩ => ⟨el, F, B, io, M, ds, m1, r1, ?_⟩, h3⟩
  rw [e ds M (fun z => by rw [z] at p1; exact p1)]
  exact p1
def startD (N : Nat) (ds : List D) : DEnv := ds.map some ++ List.replicate (N - ds.length) none
def mOf (N : Nat) (b : FS) : List D → Mem → R D := fun ds M => match b (startD N ds) M with
  | .next _ M' => .ok .non M'
  | .ret d M' => .ok d M'
  | .exc _ C as M' => .exc C as M'
  | _ => .stuck
theorem sr_start {g : G} {io : Nat → Addr} {M : Mem} {H : Hp} {vs : List V} {ds : List D} (N : List Str) (hx : g.xs = none) (m : MR g io M H) (r : VRs (rc g io M H) vs ds) : SR g io (startD N.length ds) M (L2.start N vs) H := by
  have hl := VRs.length r
  refine ⟨m, fun i d e => ?_, by simp [startD, L2.start, hl], fun p e => by rw [hx] at e; cases e⟩
  unfold startD at e
  rcases Nat.lt_or_ge i ds.length with hi | hi
  · rw [List.getElem?_append_left (by simpa using hi), List.getElem?_map] at e
    cases e1 : ds[i]? with
    | none => rw [e1] at e; cases e
    | some d1 =>
      rw [e1] at e
      cases e
      obtain ⟨v, h1, h2⟩ := r.get e1
      refine ⟨v, ?_, h2⟩
      unfold L2.start
      rw [List.getElem?_append_left (by simp; omega), List.getElem?_map, h1]
      rfl
  · rw [List.getElem?_append_right (by simpa using hi), List.getElem?_replicate] at e
    split at e <;> cases e
/-- THE RULE: a def of the text by its body -/
theorem fn_ok {b : G0} {x qual : Str} {params : Arguments} {body : List Stmt} {scope : Scope} {dvs : List V} {kws : List (Str × V)} {f : Addr} {fd : FuncData} {N ps : List Str} {k : Nat} {bd : FS} (F : FunD b.K x qual params body scope dvs kws f fd) (S : FnScope N ps scope)
    (h : ∀ (F' B' : Addr → Prop) (cdv : Value) (A : Around) (outer : List Env) (s : Shared) (H : Hp) (E : XK), fd.code = cdv → Ok ⟨b, F', none, B'⟩ (fun cls d _ H => E cls d H) (cxOf (L2.CX b.P b.w) b.P b.w b.K b.mg b.base N qual scope f cdv A outer s H E) k →
      DSs ⟨b, F', none, B'⟩ (fun cls d _ H => E cls d H) (cxOf (L2.CX b.P b.w) b.P b.w b.K b.mg b.base N qual scope f cdv A outer s H E) body bd) : FnG b (k + 1) f fd ps (spD b ps.length (mOf N.length bd)) := by
  refine ⟨fun vs H Q E q => q.1, fun A outer s H args us vs Q E hr hg e0 hb r ⟨hl, F', B', io, M, ds, m, r', p⟩ => ?_⟩
  obtain ⟨oc, od, dV, kV, doc, pm, an, cdv, ct, osl, rfl, lk, hcd, _, _⟩ := F.ex
  refine LamX.run_ofS lk hcd S hr e0 hb r hl fun hr' => ?_
  have tk : Takes (cxOf (L2.CX b.P b.w) b.P b.w b.K b.mg b.base N qual scope f cdv A outer s H E) (fun cls d _ H => E cls d H) := takes_of rfl rfl rfl rfl
  have o : Ok ⟨b, F', none, B'⟩ (fun cls d _ H => E cls d H) (cxOf (L2.CX b.P b.w) b.P b.w b.K b.mg b.base N qual scope f cdv A outer s H E) k :=
    ⟨⟨rfl, rfl, rfl, rfl, rfl, S.nd, hg, by have := hr'.un; show A.units + 3 + 200 < _; have h2 : (A.deeper (envOfC qual scope s.heap.objs.size f cdv)).units = A.units + 3 := rfl; omega⟩, rfl, tk, hr', passes_of rfl⟩
  refine ⟨_, h F' B' cdv A outer s H E rfl o, startD N.length ds, io, M, sr_start N rfl m r', ?_⟩
  unfold mOf at p
  cases e : bd (startD N.length ds) M with
  | next env M' => rw [e] at p; exact fun s' H' io' t S' => p .non H' io' t S'.toMR .non
  | ret d M' => rw [e] at p; exact p
  | brk env M' => rw [e] at p; exact p.elim
  | cont env M' => rw [e] at p; exact p.elim
  | exc env' C as M' => rw [e] at p; exact fun s' dd H' io' t S' x => p dd H' io' t S'.toMR x
  | stuck => rw [e] at p; exact p.elim
/-! ### what calls do with data -/
/-- what a callee that writes at nothing of ours may see: our lists to be looked at -/
def D.fz (M : Mem) : Nat → D → Option D
  | 0, _ => none
  | n + 1, .ref i => (match M[i]? with
    | some (.lst ds) => (ds.mapM (D.fz M n)).map D.bor
    | _ => none)
  | n + 1, .tup ds => (ds.mapM (D.fz M n)).map D.tup
  | n + 1, .lst ds => (ds.mapM (D.fz M n)).map D.lst
  | n + 1, .bor ds => (ds.mapM (D.fz M n)).map D.bor
  | n + 1, d => if d.blw 0 = true then some d else none
/-- a call that writes at nothing of ours -/
def kPure (m : List D → Mem → R D) (ds : List D) (M : Mem) : R D := match ds.mapM (D.fz M 8) with
  | none => .stuck
  | some es => (match m es [] with
    | .ok d [] => if d.blw 0 = true then .ok d M else .stuck
    | .exc C as [] => if D.blwf 0 as = true then .exc C as M else .stuck
    | _ => .stuck)
section
variable {g : G} {E : WX} {n : Nat} {m : List D → Mem → R D}
theorem spD.impure (hx : g.xs = none) {io : Nat → Addr} {env : DEnv} {M : Mem} {s : L2.St} {H : Hp} {vs : List V} {ds : List D} {Q : VK} (S : SR g io env M s H) (rr : VRs (rc g io M H) vs ds) (hn : ds.length = n) (p : PostE g E io env M s H (m ds M) Q) : spD g.toG0 n m vs H Q (fun cls d H' => E cls d s H') := by
  obtain ⟨b, F, xs, B⟩ := g
  subst hx
  refine ⟨by rw [VRs.length rr, hn], F, B, io, M, ds, ⟨S.toMR.mem, S.toMR.inj, S.toMR.tab, S.toMR.frm, S.toMR.bor⟩, rr, ?_⟩
  cases e : m ds M with
  | stuck => rw [e] at p; exact p.elim
  | exc C as M' => rw [e] at p; exact fun dd H' io' t m' x => p dd H' io' t ⟨⟨m'.mem, m'.inj, m'.tab, m'.frm, m'.bor⟩, fun i d e => let ⟨v, h, q⟩ := S.ev i d e; ⟨v, h, VR.mono S.toMR t q⟩, S.len, S.xm t⟩ x
  | ok d M' =>
    rw [e] at p
    exact fun v H' io' t m' r' => p v H' io' t ⟨⟨m'.mem, m'.inj, m'.tab, m'.frm, m'.bor⟩, fun i d e => let ⟨v, h, q⟩ := S.ev i d e; ⟨v, h, VR.mono S.toMR t q⟩, S.len, S.xm t⟩ r'
theorem fz_ok {io : Nat → Addr} {M : Mem} {H : Hp} (m : MR g io M H) : ∀ (n : Nat) {v : V} {d d' : D}, VR (rc g io M H) v d → D.fz M n d = some d' → VR (rc ⟨g.toG0, fun a => g.F a ∨ OwnOf io M a, none, fun a => g.B a ∨ OwnOf io M a⟩ io [] H) v d'
  | 0, _, _, _, _, e => by cases e
  | n + 1, v, d, d', r, e => by
    have noown : ∀ a, ¬ OwnOf io [] a := fun a ⟨i, o, e, _⟩ => absurd e (by simp)
    have sb : Sub 0 (rc g io M H) (rc ⟨g.toG0, fun a => g.F a ∨ OwnOf io M a, none, fun a => g.B a ∨ OwnOf io M a⟩ io [] H) := ⟨rfl, rfl, fun _ _ => rfl, Nat.zero_le _, fun a z q => z (q.elim id fun y => absurd y (noown a)), fun h => absurd h (Nat.lt_irrefl _)⟩
    have list : ∀ {ds ds' : List D} {vs : List V}, ds.mapM (D.fz M n) = some ds' → VRs (rc g io M H) vs ds → VRs (rc ⟨g.toG0, fun a => g.F a ∨ OwnOf io M a, none, fun a => g.B a ∨ OwnOf io M a⟩ io [] H) vs ds' := by
      intro ds
      induction ds with
      | nil =>
        intro ds' vs e r
        cases r
        simp at e
        subst e
        exact .nil
      | cons d ds ih =>
        intro ds' vs e r
        rw [List.mapM_cons] at e
        cases e1 : D.fz M n d with
        | none => rw [e1] at e; cases e
        | some d1 =>
          rw [e1] at e
          cases e2 : ds.mapM (D.fz M n) with
          | none => rw [e2] at e; cases e
          | some ds1 =>
            rw [e2] at e
            cases e
            cases r with
            | cons r1 r2 => exact .cons (fz_ok m n r1 e1) (ih e2 r2)
    have flat : ∀ {d : D}, VR (rc g io M H) v d → (if d.blw 0 = true then some d else none) = some d' → VR (rc ⟨g.toG0, fun a => g.F a ∨ OwnOf io M a, none, fun a => g.B a ∨ OwnOf io M a⟩ io [] H) v d' := fun {d} r e => by
      by_cases hb : d.blw 0 = true
      · rw [if_pos hb] at e
        cases e
        exact VR.sub sb hb r
      · rw [if_neg hb] at e; cases e
    unfold D.fz at e
    cases r with
    | non => exact flat .non e
    | bl b => exact flat (.bl b) e
    | int i => exact flat (.int i) e
    | str x => exact flat (.str x) e
    | ty x => exact flat (.ty x) e
    | scr h => exact flat (.scr h) e
    | dk h1 h2 r => exact flat (.dk h1 h2 r) e
    | fdk h1 r => exact flat (.fdk h1 r) e
    | tup ht r =>
      dsimp only at e
      obtain ⟨ds', e1, rfl⟩ := Option.map_eq_some_iff.mp e
      exact .tup ht (list e1 r)
    | lst ht hn r =>
      dsimp only at e
      obtain ⟨ds', e1, rfl⟩ := Option.map_eq_some_iff.mp e
      exact .lst ht (sb.own _ hn) (list e1 r)
    | bor ht hb r =>
      dsimp only at e
      obtain ⟨ds', e1, rfl⟩ := Option.map_eq_some_iff.mp e
      exact .bor ht (.inl hb) (list e1 r)
    | @ref i hi =>
      dsimp only at e
      split at e
      · rename_i ds em
        obtain ⟨ds', e1, rfl⟩ := Option.map_eq_some_iff.mp e
        obtain ⟨vs, h, r⟩ := m.mem i _ em
        exact .bor h (.inr ⟨i, _, em, (fun z => by cases z), rfl⟩) (list e1 r)
      · cases e
theorem fzs_ok {io : Nat → Addr} {M : Mem} {H : Hp} (m : MR g io M H) {n : Nat} : ∀ {vs : List V} {ds ds' : List D}, VRs (rc g io M H) vs ds → ds.mapM (D.fz M n) = some ds' → VRs (rc ⟨g.toG0, fun a => g.F a ∨ OwnOf io M a, none, fun a => g.B a ∨ OwnOf io M a⟩ io [] H) vs ds'
  | _, _, _, .nil, e => by simp at e; subst e; exact .nil
  | _, d :: ds, _, .cons r t, e => by
    rw [List.mapM_cons] at e
    cases e1 : D.fz M n d with
    | none => rw [e1] at e; cases e
    | some d1 =>
      rw [e1] at e
      cases e2 : ds.mapM (D.fz M n) with
      | none => rw [e2] at e; cases e
      | some ds1 =>
        rw [e2] at e
        cases e
        exact .cons (fz_ok m n r e1) (fzs_ok m t e2)
theorem spD.pure {io : Nat → Addr} {env : DEnv} {M : Mem} {s : L2.St} {H : Hp} {vs : List V} {ds : List D} {Q : VK} (S : SR g io env M s H) (rr : VRs (rc g io M H) vs ds) (hn : ds.length = n) (p : PostE g E io env M s H (kPure m ds M) Q) : spD g.toG0 n m vs H Q (fun cls d H' => E cls d s H') := by
  unfold kPure at p
  cases ef : ds.mapM (D.fz M 8) with
  | none => rw [ef] at p; exact p.elim
  | some es =>
    rw [ef] at p
    dsimp only at p
    have frm : ∀ a, (g.F a ∨ OwnOf io M a) → (∃ o, H a = some o ∧ ∀ ps, o ≠ .tbl ps) ∧ ¬ OwnOf io [] a := fun a z => by
      refine ⟨?_, fun ⟨i, o, e, _⟩ => absurd e (by simp)⟩
      rcases z with z | z
      · exact (S.toMR.frm a z).1
      · rcases S.toMR.own_at z with ⟨vs, h⟩ | ⟨vs, h⟩ | ⟨C, dx, vs, h⟩
        · exact ⟨_, h, fun _ z => by cases z⟩
        · exact ⟨_, h, fun _ z => by cases z⟩
        · exact ⟨_, h, fun _ z => by cases z⟩
    have noown : ∀ a, ¬ OwnOf io [] a := fun a ⟨i, o, e, _⟩ => absurd e (by simp)
    have m0 : MR ⟨g.toG0, fun a => g.F a ∨ OwnOf io M a, none, fun a => g.B a ∨ OwnOf io M a⟩ io [] H := ⟨fun i o e => absurd e (by simp), fun i j o o' e => absurd e (by simp), S.toMR.tab, frm, fun a z => z.imp (S.toMR.bor a) id⟩
    have back : ∀ {io' : Nat → Addr} {H' : Hp}, ST io [] H io' [] H' → MR ⟨g.toG0, fun a => g.F a ∨ OwnOf io M a, none, fun a => g.B a ∨ OwnOf io M a⟩ io' [] H' → ST io M H io M H' ∧ MR g io M H' ∧ Sub 0 (rc ⟨g.toG0, fun a => g.F a ∨ OwnOf io M a, none, fun a => g.B a ∨ OwnOf io M a⟩ io' [] H') (rc g io M H') := fun {io' H'} t m' => by
      have t' : ST io M H io M H' := ⟨fun b o h n q => ⟨(t.ext b o h (noown b) q).1, n⟩, fun _ _ => rfl, Nat.le_refl _⟩
      refine ⟨t', ⟨fun i o e => ?_, S.toMR.inj, m'.tab, fun a h => ⟨(m'.frm a (.inl h)).1, (S.toMR.frm a h).2⟩, S.toMR.bor⟩, ⟨rfl, rfl, fun i hi => absurd hi (Nat.not_lt_zero _), Nat.zero_le _, fun a z q => z (.inl q), fun h => absurd h (Nat.lt_irrefl _)⟩⟩
      have q := S.toMR.mem i o e
      cases o with
      | gone => trivial
      | lst ds => obtain ⟨vs, h, r⟩ := q; exact ⟨vs, (t.ext _ _ h (noown _) (fun _ z => by cases z)).1, VRs.mono S.toMR t' r⟩
      | dk ds => obtain ⟨vs, h, r⟩ := q; exact ⟨vs, (t.ext _ _ h (noown _) (fun _ z => by cases z)).1, VRk.mono S.toMR t' r⟩
      | ins C fs => obtain ⟨dx, vs, h, r⟩ := q; exact ⟨dx, vs, (t.ext _ _ h (noown _) (fun _ z => by cases z)).1, VRf.mono S.toMR t' r⟩
    refine ⟨by rw [VRs.length rr, hn], fun a => g.F a ∨ OwnOf io M a, fun a => g.B a ∨ OwnOf io M a, io, [], es, m0, fzs_ok S.toMR rr ef, ?_⟩
    cases e : m es [] with
    | stuck => rw [e] at p; exact p.elim
    | exc C as M' =>
      rw [e] at p
      cases M' with
      | cons u M' => exact p.elim
      | nil =>
        dsimp only at p
        split at p
        · rename_i ha
          intro dd H' io' t m' xr
          obtain ⟨t', m2, sb'⟩ := back t m'
          refine p dd H' io t' (S.ext_mono t' m2) ?_
          rcases xr with xr | ⟨a, vs, e1, e2, q⟩
          · exact .inl xr
          · exact .inr ⟨a, vs, e1, e2, VRf.sub sb' ha q⟩
        · exact p.elim
    | ok d M' =>
      rw [e] at p
      cases M' with
      | cons u M' => exact p.elim
      | nil =>
        dsimp only at p
        split at p
        · rename_i hd
          intro v H' io' t m' r'
          obtain ⟨t', m2, sb'⟩ := back t m'
          exact p v H' io t' (S.ext_mono t' m2) (VR.sub sb' hd r')
        · exact p.elim
end
end DL

-- DlCall
set_option Elab.async false
set_option linter.all false
set_option maxRecDepth 100000
/-! DlCall: calls of defs, methods, classes; properties. -/
namespace DL
open PySem PySem.Spec PyProof.Rows L2
abbrev EN : WX := fun _ _ _ _ => False
abbrev EN0 : XK := fun _ _ _ => False
theorem SR.later {g : G} {io io' : Nat → Addr} {env : DEnv} {M M' : Mem} {s : L2.St} {H H' : Hp} (S : SR g io env M s H) (t : ST io M H io' M' H') (m : MR g io' M' H') : SR g io' env M' s H' :=
  ⟨m, fun i d e => let ⟨v, h, r⟩ := S.ev i d e; ⟨v, h, VR.mono S.toMR t r⟩, S.len, S.xm t⟩
/-! ### arguments, positional and by keyword -/
structure CW (X : Cx) (es : List Expr) (kws : List Keyword) (ks : List Str) (t tk : TA) : Prop where
  run : ∀ (pos : Pos) (f : Value) (first : List Value) (pins : List (Addr × Obj)) (s : Shared) (σ : L2.St) (H : Hp) (C : List V → List V → Hp → Prop) (Q : Value → Shared → Prop), PySem.W.keepIn X.K f = true → Inv X pins σ H s →
    (t σ H fun vs H1 => tk σ H1 fun zs H2 => C vs zs H2) →
    (∀ (us ws : List Value) (vs zs : List V) (H1 : Hp) (s1 : Shared), Inv X pins σ H1 s1 → Vals vs us → Vals zs ws → C vs zs H1 → wpAny (model X.prog X.w) X.A (call f (first ++ us) (ks.zip ws)) Q X.xe s1) →
    wpAny (model X.prog X.w) X.A (callWith pos f first (backTo pos (starEach es X.env)) (backToKw pos (keywordEach kws X.env))) Q X.xe s
section
variable {X : Cx} {e : Expr} {es : List Expr} {kws : List Keyword} {ks : List Str} {t tk : TA}
theorem cw_nil : CW X [] [] [] tNil tNil := ⟨fun pos f first pins s σ H C Q hk I h q => PySem.W.callWith_K0 I.kIn hk (q [] [] [] [] H s I .nil .nil h)⟩
theorem cw_pos (ha : PA X (e :: es) t) (he : starEach (e :: es) X.env = (false, eval e X.env) :: starEach es X.env) (hpl : ∀ pos, (backTo pos (starEach es X.env)).any (·.1) = false) : CW X (e :: es) [] [] t tNil :=
  ⟨fun pos f first pins s σ H C Q hk I h q => PySem.W.callWith_K (h₀ := X.base) I.ok.mod.kin hk (thn (ha.run pos pins s σ H _ I h) fun us s1 ⟨vs, H1, I1, r, q1⟩ => ⟨I1.kIn, q us [] vs [] H1 s1 I1 r .nil q1⟩) he (hpl pos)⟩
theorem cw_kw (hkw : PK X kws tk) (hall : ∀ pos, (backToKw pos (keywordEach kws X.env)).all (·.1.isSome) = true) (hks : ∀ pos, (backToKw pos (keywordEach kws X.env)).filterMap (·.1) = ks)
    (hpl : ∀ pos, ((backTo pos (starEach [] X.env)).any (·.1) || (backToKw pos (keywordEach kws X.env)).any (·.1.isNone)) = false) : CW X [] kws ks tNil tk :=
  ⟨fun pos f first pins s σ H C Q hk I h q => by
    refine PySem.W.callWith_KW0 (h₀ := X.base) I.ok.mod.kin hk (hall pos) ?_ (hpl pos)
    refine thn (hkw.run pos pins s σ H _ I h) fun ws s2 ⟨zs, H2, I2, rz, q2⟩ => ⟨I2.kIn, ?_⟩
    rw [hks pos]
    exact q [] ws [] zs H2 s2 I2 .nil rz q2⟩
theorem cw_both (ha : PA X (e :: es) t) (hkw : PK X kws tk) (hall : ∀ pos, (backToKw pos (keywordEach kws X.env)).all (·.1.isSome) = true) (hks : ∀ pos, (backToKw pos (keywordEach kws X.env)).filterMap (·.1) = ks)
    (he : starEach (e :: es) X.env = (false, eval e X.env) :: starEach es X.env) (hpl : ∀ pos, ((backTo pos (starEach (e :: es) X.env)).any (·.1) || (backToKw pos (keywordEach kws X.env)).any (·.1.isNone)) = false) : CW X (e :: es) kws ks t tk :=
  ⟨fun pos f first pins s σ H C Q hk I h q => by
    refine PySem.W.callWith_KW (h₀ := X.base) I.ok.mod.kin hk (hall pos) (thn (ha.run pos pins s σ H _ I h) fun us s1 ⟨vs, H1, I1, r, q1⟩ => ?_) (hpl pos) he
    refine thn (hkw.run pos pins s1 σ H1 _ I1 q1) fun ws s2 ⟨zs, H2, I2, rz, q2⟩ => ⟨I2.kIn, ?_⟩
    rw [hks pos]
    exact q us ws vs zs H2 s2 I2 r rz q2⟩
theorem CW.weak {t' tk' : TA} (h : CW X es kws ks t tk) (w : ∀ s H Q, t' s H Q → t s H Q) (wk : ∀ s H Q, tk' s H Q → tk s H Q) (hm : ∀ s H (Q Q' : List V → Hp → Prop), (∀ vs H1, Q vs H1 → Q' vs H1) → t' s H Q → t' s H Q') : CW X es kws ks t' tk' :=
  ⟨fun pos f first pins s σ H C Q hk I h' q => h.run pos f first pins s σ H C Q hk I (w σ H _ (hm _ _ _ _ (fun vs H1 z => wk _ _ _ z) h')) q⟩
end
section
variable {g : G} {E : WX} {X : Cx} {k j : Nat} {pos p apos kpos : Pos} {e o : Expr} {es : List Expr} {kws : List Keyword} {ks : List Str} {f fo : FE} {r rk : FA} {nm : Option Str}
abbrev DK (g : G) (E : WX) (X : Cx) (kws : List Keyword) (r : FA) : Prop := PK X kws (trA g E r)
theorem PK.weak {t t' : TA} (h : PK X kws t) (w : ∀ s H Q, t' s H Q → t s H Q) : PK X kws t' := ⟨fun pos pins s σ H Q I k => h.run pos pins s σ H Q I (w σ H Q k)⟩
theorem dk_nil : DK g E X [] aNil := PK.weak pk_nil fun s H Q ⟨env, io, M, S, z⟩ => z [] H io .refl S .nil
theorem tr_cons (s : L2.St) (H : Hp) (Q : List V → Hp → Prop) (h : trA g E (aCons f r) s H Q) : tCons (trE g E f) (trA g E r) s H Q := by
  obtain ⟨env, io, M, S, z⟩ := h
  have z' : PostA g E io env M s H ((f env M).bind fun a M1 => (r env M1).bind fun as M2 => .ok (a :: as) M2) Q := z
  refine ⟨env, io, M, S, ?_⟩
  cases e1 : f env M with
  | stuck => rw [e1] at z'; exact z'.elim
  | exc C as M1 => rw [e1] at z'; exact z'
  | ok d M1 =>
    rw [e1] at z'
    intro v H1 io1 t1 S1 r1
    refine ⟨env, io1, M1, S1, ?_⟩
    have z1 := PostA.step t1 z'
    rw [R.bind_ok] at z1
    cases e2 : r env M1 with
    | stuck => rw [e2] at z1; exact z1.elim
    | exc C as M2 => rw [e2] at z1; exact z1
    | ok ds M2 =>
      rw [e2] at z1
      exact fun vs H2 io2 t2 S2 r2 => z1 (v :: vs) H2 io2 t2 S2 (.cons (VR.mono S1.toMR t2 r1) r2)
theorem dk_cons (ha : DE g E X e f) (hr : DK g E X kws r) : DK g E X (⟨nm, e, kpos⟩ :: kws) (aCons f r) := PK.weak (pk_cons ha hr) fun s H Q h => tr_cons s H Q h
abbrev DC (g : G) (E : WX) (X : Cx) (es : List Expr) (kws : List Keyword) (ks : List Str) (r rk : FA) : Prop := CW X es kws ks (trA g E r) (trA g E rk)
theorem trA.imp (s : L2.St) (H : Hp) (Q Q' : List V → Hp → Prop) (h : ∀ vs H1, Q vs H1 → Q' vs H1) (z : trA g E r s H Q) : trA g E r s H Q' := by
  obtain ⟨env, io, M, S, z⟩ := z
  refine ⟨env, io, M, S, ?_⟩
  cases e : r env M with
  | stuck => rw [e] at z; exact z
  | exc C as M1 => rw [e] at z; exact z
  | ok ds M1 => rw [e] at z; exact fun vs H1 io1 t S1 r1 => h _ _ (z vs H1 io1 t S1 r1)
theorem trNil (s : L2.St) (H : Hp) (Q : List V → Hp → Prop) (h : trA g E aNil s H Q) : tNil s H Q := let ⟨env, io, M, S, z⟩ := h; z [] H io .refl S .nil
theorem dc_nil : DC g E X [] [] [] aNil aNil := cw_nil.weak trNil trNil trA.imp
theorem dc_pos (ha : DA g E X (e :: es) r) (he : starEach (e :: es) X.env = (false, eval e X.env) :: starEach es X.env := by rfl) (hpl : ∀ pos, (backTo pos (starEach es X.env)).any (·.1) = false := by intro _; rfl) : DC g E X (e :: es) [] [] r aNil :=
  (cw_pos ha he hpl).weak (fun _ _ _ z => z) trNil trA.imp
theorem dc_kw (hkw : DK g E X kws rk) (hall : ∀ pos, (backToKw pos (keywordEach kws X.env)).all (·.1.isSome) = true := by intro _; rfl) (hks : ∀ pos, (backToKw pos (keywordEach kws X.env)).filterMap (·.1) = ks := by intro _; rfl)
    (hpl : ∀ pos, ((backTo pos (starEach [] X.env)).any (·.1) || (backToKw pos (keywordEach kws X.env)).any (·.1.isNone)) = false := by intro _; rfl) : DC g E X [] kws ks aNil rk :=
  (cw_kw hkw hall hks hpl).weak trNil (fun _ _ _ z => z) trA.imp
theorem dc_both (ha : DA g E X (e :: es) r) (hkw : DK g E X kws rk) (hall : ∀ pos, (backToKw pos (keywordEach kws X.env)).all (·.1.isSome) = true := by intro _; rfl) (hks : ∀ pos, (backToKw pos (keywordEach kws X.env)).filterMap (·.1) = ks := by intro _; rfl)
    (he : starEach (e :: es) X.env = (false, eval e X.env) :: starEach es X.env := by rfl) (hpl : ∀ pos, ((backTo pos (starEach (e :: es) X.env)).any (·.1) || (backToKw pos (keywordEach kws X.env)).any (·.1.isNone)) = false := by intro _; rfl) : DC g E X (e :: es) kws ks r rk :=
  (cw_both ha hkw hall hks he hpl).weak (fun _ _ _ z => z) (fun _ _ _ z => z) trA.imp
/-- positional arguments, the keywords' values, then k -/
def fCall (k : List D → List D → Mem → R D) (r rk : FA) : FE := fun env M => (r env M).bind fun ds M1 => (rk env M1).bind fun es M2 => k ds es M2
theorem tr_call {kk : List D → List D → Mem → R D} {s : L2.St} {H : Hp} {Q : VK} {C : List V → List V → Hp → Prop} {env : DEnv} {io : Nat → Addr} {M : Mem} (S : SR g io env M s H) (p : PostE g E io env M s H (fCall kk r rk env M) Q)
    (hk : ∀ (ds es : List D) (M1 : Mem) (vs zs : List V) (H1 : Hp) (io1 : Nat → Addr), ST io M H io1 M1 H1 → SR g io1 env M1 s H1 → VRs (rc g io1 M1 H1) vs ds → VRs (rc g io1 M1 H1) zs es → PostE g E io1 env M1 s H1 (kk ds es M1) Q → C vs zs H1) :
    trA g E r s H fun vs H1 => trA g E rk s H1 fun zs H2 => C vs zs H2 := by
  unfold fCall at p
  refine trA_then (kk := fun ds M1 => (rk env M1).bind fun es M2 => kk ds es M2) S p fun ds M1 vs H1 io1 t1 S1 r1 p1 => ?_
  exact trA_then (kk := fun es M2 => kk ds es M2) S1 p1 fun es M2 zs H2 io2 t2 S2 r2 p2 => hk ds es M2 vs zs H2 io2 (t1.trans t2) S2 (VRs.mono S1.toMR t2 r1) r2 p2
/-! ### the callee runs -/
theorem run_fnG {fa : Addr} {sh : List Shp} {m : List D → Mem → R D} (o : Ok g E X k) (F : Fk g.toG0 j fa sh m) (hj : j ≤ k) {q : Shp} (hq : q ∈ sh) {pins : List (Addr × Obj)} {σ : L2.St} {H : Hp} {s : Shared} {Q : VK} {us ws : List Value} {vs zs : List V} {ds es : List D} {io : Nat → Addr} {M : Mem}
    (I : Inv X pins σ H s) (rv : Vals vs us) (rz : Vals zs ws) (r1 : VRs (rc g io M H) vs ds) (r2 : VRs (rc g io M H) zs es) (l1 : ds.length = q.n) (l2 : es.length = q.ks.length)
    (h : ∀ (N : Nat) (xs : List V), VRs (rc g io M H) xs (q.g ds es) → (q.g ds es).length = N → spD g.toG0 N m xs H Q (fun cls d H' => E cls d σ H')) : wpAny (model X.prog X.w) X.A (call (.ref fa) us (q.ks.zip ws)) (EP X pins σ Q) X.xe s := by
  obtain ⟨fd, ps, F, hkp, hb⟩ := F
  obtain ⟨gU, gV, hK, hV, hL⟩ := hb q hq
  have lv : vs.length = q.n := (VRs.length r1).trans l1
  have lz : zs.length = q.ks.length := (VRs.length r2).trans l2
  have R2 := hK.rel rv rz
  have sp := h ps.length (gV vs zs) (hV _ _ _ _ _ r1 r2 lv lz) (hL _ _ l1 l2)
  have hE : Env0 g.P g.w g.K g.mg g.base X.A X.stack s H := by
    have := I.env0
    rw [o.prog, o.w, o.K, o.mg, o.base] at this
    exact this
  have kin : g.K.In s.heap := o.K ▸ I.kIn
  have c := (F.mono hj).run X.A X.stack s H ⟨us, q.ks.zip ws⟩ (gU us ws) (gV vs zs) Q (fun cls d H' => E cls d σ H') o.room o.grd hE (hK.to s us ws kin (rv.length.symm.trans lv) (rz.length.symm.trans lz)) R2 sp
  rw [← o.prog, ← o.w] at c
  refine wpAny_call (codeAny_mono c fun r s' hq => ?_)
  cases r with
  | error e => exact o.tk e s' (XE.of_call I (fun cls d H' h => h) hq)
  | ok fl =>
    cases fl with
    | ret u => exact I.after hq
    | next => exact False.elim hq
    | brk => exact False.elim hq
    | cont => exact False.elim hq
/-- what a call does with data -/
def kImp (q : Shp) (m : List D → Mem → R D) : List D → List D → Mem → R D := fun ds es M => if ds.length = q.n ∧ es.length = q.ks.length then m (q.g ds es) M else .stuck
def kPur (q : Shp) (m : List D → Mem → R D) : List D → List D → Mem → R D := fun ds es M => if ds.length = q.n ∧ es.length = q.ks.length then kPure m (q.g ds es) M else .stuck
/-- f(.., k = v, ..) -/
theorem d_call_gen {fa : Addr} {x : Str} {sh : List Shp} {m : List D → Mem → R D} {kk : List D → List D → Mem → R D} {q : Shp} (o : Ok g E X k) (F : Fk g.toG0 j fa sh m) (hj : j ≤ k) (hq : q ∈ sh) (hg : Gl X x) (hm : g.mg x = some (.ref fa)) (hc : DC g E X es kws q.ks r rk)
    (hk : ∀ (io : Nat → Addr) (env : DEnv) (M : Mem) (s : L2.St) (H : Hp) (N : Nat) (xs : List V) (ds es : List D) (Q : VK), SR g io env M s H → VRs (rc g io M H) xs (q.g ds es) → (q.g ds es).length = N → PostE g E io env M s H (kk ds es M) Q → spD g.toG0 N m xs H Q (fun cls d H' => E cls d s H'))
    (hl : ∀ ds es M, kk ds es M ≠ .stuck → ds.length = q.n ∧ es.length = q.ks.length)
    (hdb : (x == ("__debug__" : Str)) = false := by decide) : DE g E X (.Call (.Name x p) es kws pos) (fCall kk r rk) := by
  refine ⟨fun pins s σ H Q I ⟨env, io, M, S, z⟩ => ?_⟩
  refine wpAny_Call_Name_kw (ld_glob I hg (by rw [o.mg]; exact hm) ?_ hdb)
  have hkp : PySem.W.keepIn X.K (.ref fa) = true := by rw [o.K]; exact F.choose_spec.choose_spec.2.1
  refine hc.run pos (.ref fa) [] pins s σ H (fun vs zs H1 => ∃ (ds es : List D) (io1 : Nat → Addr) (M1 : Mem), SR g io1 env M1 σ H1 ∧ VRs (rc g io1 M1 H1) vs ds ∧ VRs (rc g io1 M1 H1) zs es ∧ PostE g E io1 env M1 σ H1 (kk ds es M1) Q) _ hkp I
    (tr_call S z fun ds es M1 vs zs H1 io1 t S1 r1 r2 p1 => ⟨ds, es, io1, M1, S1, r1, r2, p1⟩) fun us ws vs zs H1 s1 I1 rv rz ⟨ds, es, io1, M1, S1, r1, r2, p1⟩ => ?_
  obtain ⟨l1, l2⟩ := hl ds es M1 fun z => by rw [z] at p1; exact p1
  exact run_fnG o F hj hq I1 rv rz r1 r2 l1 l2 fun N xs rx lx => hk io1 env M1 σ H1 N xs ds es Q S1 rx lx p1
theorem d_callI {fa : Addr} {x : Str} {sh : List Shp} {m : List D → Mem → R D} (o : Ok g E X k) (F : Fk g.toG0 j fa sh m) (hj : j ≤ k) (q : Shp) (hq : q ∈ sh) (hg : Gl X x) (hm : g.mg x = some (.ref fa)) (hc : DC g E X es kws q.ks r rk) (hdb : (x == ("__debug__" : Str)) = false := by decide) (hx : g.xs = none := by rfl) :
    DE g E X (.Call (.Name x p) es kws pos) (fCall (kImp q m) r rk) :=
  d_call_gen o F hj hq hg hm hc (fun io env M s H N xs ds es Q S rr hl z => by
    unfold kImp at z
    split at z
    · exact spD.impure hx S rr hl z
    · exact z.elim) (fun ds es M h => by
    unfold kImp at h
    split at h
    · assumption
    · exact absurd rfl h) hdb
theorem d_callP {fa : Addr} {x : Str} {sh : List Shp} {m : List D → Mem → R D} (o : Ok g E X k) (F : Fk g.toG0 j fa sh m) (hj : j ≤ k) (q : Shp) (hq : q ∈ sh) (hg : Gl X x) (hm : g.mg x = some (.ref fa)) (hc : DC g E X es kws q.ks r rk) (hdb : (x == ("__debug__" : Str)) = false := by decide) :
    DE g E X (.Call (.Name x p) es kws pos) (fCall (kPur q m) r rk) :=
  d_call_gen o F hj hq hg hm hc (fun io env M s H N xs ds es Q S rr hl z => by
    unfold kPur at z
    split at z
    · exact spD.pure S rr hl z
    · exact z.elim) (fun ds es M h => by
    unfold kPur at h
    split at h
    · assumption
    · exact absurd rfl h) hdb
/-! ### methods -/
/-- the object and the class are known when the method is looked up -/
def isIns (M : Mem) (d : D) (C m : Str) : Bool := match d with
  | .ref i => (match M[i]? with
    | some (.ins C' fs) => C' == C && (fs.lookup m).isNone
    | _ => false)
  | _ => false
def fMeth (C m : Str) (k : List D → List D → Mem → R D) (fo : FE) (r rk : FA) : FE := fun env M => (fo env M).bind fun d M1 => if isIns M1 d C m = true then (r env M1).bind fun ds M2 => (rk env M2).bind fun es M3 => k (d :: ds) es M3 else .stuck
theorem lookup_none {c : RC} : ∀ {vs : List (Str × V)} {fs : List (Str × D)} {f : Str}, VRf c vs fs → fs.lookup f = none → vs.lookup f = none
  | _, _, _, .nil, _ => rfl
  | (x, v) :: vs, (_, d) :: fs, f, .cons r s, e => by
    simp only [List.lookup] at e ⊢
    split at e <;> rename_i h
    · cases e
    · exact lookup_none s e
theorem ins_at {io : Nat → Addr} {M : Mem} {H : Hp} {v : V} {d : D} {C m : Str} (mr : MR g io M H) (hd : isIns M d C m = true) (rv : VR (rc g io M H) v d) : ∃ a dx fs, v = .ref a ∧ H a = some (.ins (g.ca C) dx fs) ∧ fs.lookup m = none := by
  unfold isIns at hd
  split at hd
  · rename_i i
    split at hd
    · rename_i C' fs' e
      obtain ⟨h1, h2⟩ := ba hd
      have hC : C' = C := by simpa using h1
      subst hC
      cases rv with
      | ref hi =>
        obtain ⟨dx, vs, h, rf⟩ := mr.mem i _ e
        exact ⟨_, dx, vs, rfl, h, lookup_none rf (by simpa using h2)⟩
    · cases hd
  · cases hd
/-- o.m(..) -/
theorem d_meth_gen {fa : Addr} {C mt : Str} {sh : List Shp} {m : List D → Mem → R D} {kk : List D → List D → Mem → R D} {q : Shp} {pl : Sem Bool} (ok : Ok g E X k) (ho : DE g E X o fo) (cl : Cls g.K (g.ca C)) (hm : Meth g.K (g.ca C) mt fa) (F : Fk g.toG0 j fa sh m) (hj : j ≤ k) (hq : q ∈ sh) (hc : DC g E X es kws q.ks r rk)
    (hk : ∀ (io : Nat → Addr) (env : DEnv) (M : Mem) (s : L2.St) (H : Hp) (N : Nat) (xs : List V) (ds es : List D) (Q : VK), SR g io env M s H → VRs (rc g io M H) xs (q.g ds es) → (q.g ds es).length = N → PostE g E io env M s H (kk ds es M) Q → spD g.toG0 N m xs H Q (fun cls d H' => E cls d s H'))
    (hl : ∀ ds es M, kk ds es M ≠ .stuck → ds.length = q.n ∧ es.length = q.ks.length)
    (ht : eval (.Call (.Attribute o mt apos) es kws pos) X.env = (do
      let ov ← eval o X.env
      standAt apos.atName
      let (f, first) ← holding [ov] (getMethod ov mt pl)
      callWith pos f first (backTo pos (starEach es X.env)) (backToKw pos (keywordEach kws X.env))) := by rfl) : DE g E X (.Call (.Attribute o mt apos) es kws pos) (fMeth C mt kk fo r rk) := by
  refine ⟨fun pins s σ H Q I ⟨env, io, M, S, z⟩ => ?_⟩
  unfold fMeth at z
  have tt := trE_then (C := fun v H1 => ∃ (d : D) (io1 : Nat → Addr) (M1 : Mem), SR g io1 env M1 σ H1 ∧ VR (rc g io1 M1 H1) v d ∧ isIns M1 d C mt = true ∧ PostE g E io1 env M1 σ H1 (fCall (fun ds es M => kk (d :: ds) es M) r rk env M1) Q) S z fun d M1 v H1 io1 t1 S1 r1 p1 => by
    split at p1
    · rename_i hi
      exact ⟨d, io1, M1, S1, r1, hi, p1⟩
    · exact p1.elim
  refine PySem.W.methodCall_KW (pl := pl) (thn (ho.run pins s σ H _ I tt) fun u s1 ⟨x, H1, I1, rx, d, io1, M1, S1, r1, hi, p1⟩ => ?_) ht
  obtain ⟨a, dx, fs, ex, ea, l⟩ := ins_at S1.toMR hi r1
  subst ex
  obtain rfl : u = Value.ref a := rx
  refine getmeth_ok (C := g.ca C) I1 ea (by rw [ok.K]; exact cl) (by rw [ok.K]; exact hm) l ?_
  refine hc.run pos (.ref fa) [.ref a] pins s1 σ H1 (fun vs zs H2 => ∃ (ds es : List D) (io2 : Nat → Addr) (M2 : Mem), ST io1 M1 H1 io2 M2 H2 ∧ SR g io2 env M2 σ H2 ∧ VRs (rc g io2 M2 H2) vs ds ∧ VRs (rc g io2 M2 H2) zs es ∧ PostE g E io2 env M2 σ H2 (kk (d :: ds) es M2) Q) _ (by rw [ok.K]; exact hm.kp) I1
    (tr_call S1 p1 fun ds es M2 vs zs H2 io2 t S2 r2 r3 p2 => ⟨ds, es, io2, M2, t, S2, r2, r3, p2⟩) fun us ws vs zs H2 s2 I2 rv rz ⟨ds, es, io2, M2, t2, S2, r2, r3, p2⟩ => ?_
  obtain ⟨l1, l2⟩ := hl (d :: ds) es M2 fun z => by rw [z] at p2; exact p2
  exact run_fnG (us := .ref a :: us) (vs := .ref a :: vs) ok F hj hq I2 (.cons rfl rv) rz (.cons (VR.mono S1.toMR t2 r1) r2) r3 l1 l2 fun N xs rx lx => hk io2 env M2 σ H2 N xs (d :: ds) es Q S2 rx lx p2
theorem d_meth {fa : Addr} {C mt : Str} {sh : List Shp} {m : List D → Mem → R D} {pl : Sem Bool} (ok : Ok g E X k) (ho : DE g E X o fo) (cl : Cls g.K (g.ca C)) (hm : Meth g.K (g.ca C) mt fa) (F : Fk g.toG0 j fa sh m) (hj : j ≤ k) (q : Shp) (hq : q ∈ sh) (hc : DC g E X es kws q.ks r rk)
    (ht : eval (.Call (.Attribute o mt apos) es kws pos) X.env = (do
      let ov ← eval o X.env
      standAt apos.atName
      let (f, first) ← holding [ov] (getMethod ov mt pl)
      callWith pos f first (backTo pos (starEach es X.env)) (backToKw pos (keywordEach kws X.env))) := by rfl) (hx : g.xs = none := by rfl) : DE g E X (.Call (.Attribute o mt apos) es kws pos) (fMeth C mt (kImp q m) fo r rk) :=
  d_meth_gen ok ho cl hm F hj hq hc (fun io env M s H N xs ds es Q S rr hl z => by
    unfold kImp at z
    split at z
    · exact spD.impure hx S rr hl z
    · exact z.elim) (fun ds es M h => by
    unfold kImp at h
    split at h
    · assumption
    · exact absurd rfl h) ht
/-! ### classes -/
/-- a new instance, then its __init__ -/
def kMake (C : Str) (q : Shp) (m : List D → Mem → R D) : List D → List D → Mem → R D := fun ds es M => if ds.length + 1 = q.n ∧ es.length = q.ks.length then (match m (q.g (.ref M.length :: ds) es) (M ++ [.ins C []]) with
    | .ok .non M' => .ok (.ref M.length) M'
    | .exc C as M' => .exc C as M'
    | _ => .stuck) else .stuck
theorem grd_make {A : Around} {C : Addr} {us : List Value} {kw : List (Str × Value)} (h : A.guards = some []) : (A.under (.builtin "type.__call__" ⟨.ref C :: us, kw⟩)).guards = some [] := by
  simp [Around.under, Code.guards, Code.isGuard, guardIds, pushGuards, h]
theorem run_makeG (hx : g.xs = none) {Ca fa : Addr} {C : Str} {sh : List Shp} {m : List D → Mem → R D} (hC : g.ca C = Ca) (Mk' : Mk g.K Ca fa) (o : Ok g E X k) (F : Fk g.toG0 j fa sh m) (hj : j + 1 ≤ k) {q : Shp} (hq : q ∈ sh) {pins : List (Addr × Obj)} {σ : L2.St} {H : Hp} {s : Shared} {Q : VK} {us ws : List Value} {vs zs : List V} {ds es : List D} {io : Nat → Addr} {env : DEnv} {M : Mem}
    (S : SR g io env M σ H) (I : Inv X pins σ H s) (rv : Vals vs us) (rz : Vals zs ws) (r1 : VRs (rc g io M H) vs ds) (r2 : VRs (rc g io M H) zs es) (p : PostE g E io env M σ H (kMake C q m ds es M) Q) : wpAny (model X.prog X.w) X.A (call (.ref Ca) us (q.ks.zip ws)) (EP X pins σ Q) X.xe s := by
  have hgx := hx
  obtain ⟨gb, gF, gx, gB⟩ := g
  dsimp only at hgx
  subst hgx
  obtain ⟨fd, ps, F, hkp, hb⟩ := F
  obtain ⟨gU, gV, hK, hV, hL⟩ := hb q hq
  unfold kMake at p
  split at p
  · rename_i hl
    obtain ⟨l1, l2⟩ := hl
    have nx : H (s.heap.objs.size + 1) = none := I.hok.fresh (Nat.le_succ _)
    have nd : H s.heap.objs.size = none := I.hok.fresh (Nat.le_refl _)
    have I2 := Inv.made (C := Ca) I
    have S1 := S.fresh (o := .own (s.heap.objs.size + 1)) nd
    have t1 : ST io M H io M (upd H s.heap.objs.size (.own (s.heap.objs.size + 1))) := .fresh nd
    have nx1 : (upd H s.heap.objs.size (.own (s.heap.objs.size + 1))) (s.heap.objs.size + 1) = none := by rw [upd_ne (Nat.succ_ne_self _)]; exact nx
    have t2 : ST io M (upd H s.heap.objs.size (.own (s.heap.objs.size + 1))) (ioN io M.length (s.heap.objs.size + 1)) (M ++ [.ins C []]) (upd (upd H s.heap.objs.size (.own (s.heap.objs.size + 1))) (s.heap.objs.size + 1) (.ins Ca s.heap.objs.size [])) := .newOwn nx1
    have S2 := S1.newOwn (u := .ins C []) (o := .ins Ca s.heap.objs.size []) nx1 ⟨s.heap.objs.size, [], by rw [hC]; exact upd_same, .nil⟩
    have rr1 := VRs.mono S1.toMR t2 (VRs.mono S.toMR t1 r1)
    have rr2 := VRs.mono S1.toMR t2 (VRs.mono S.toMR t1 r2)
    have rself : VR (rc ⟨gb, gF, none, gB⟩ (ioN io M.length (s.heap.objs.size + 1)) (M ++ [.ins C []]) (upd (upd H s.heap.objs.size (.own (s.heap.objs.size + 1))) (s.heap.objs.size + 1) (.ins Ca s.heap.objs.size []))) (.ref (s.heap.objs.size + 1)) (.ref M.length) := by
      have w : VR (rc ⟨gb, gF, none, gB⟩ (ioN io M.length (s.heap.objs.size + 1)) (M ++ [.ins C []]) (upd (upd H s.heap.objs.size (.own (s.heap.objs.size + 1))) (s.heap.objs.size + 1) (.ins Ca s.heap.objs.size []))) (.ref (ioN io M.length (s.heap.objs.size + 1) M.length)) (.ref M.length) := .ref (by simp)
      rw [ioN_same] at w
      exact w
    have lv : (V.ref (s.heap.objs.size + 1) :: vs).length = q.n := by rw [List.length_cons, VRs.length r1]; exact l1
    have lz : zs.length = q.ks.length := (VRs.length r2).trans l2
    have rV : Vals (V.ref (s.heap.objs.size + 1) :: vs) (Value.ref (s.heap.objs.size + 1) :: us) := .cons rfl rv
    have R2 := hK.rel rV rz
    have sp : spD gb ps.length m (gV (V.ref (s.heap.objs.size + 1) :: vs) zs) (upd (upd H s.heap.objs.size (.own (s.heap.objs.size + 1))) (s.heap.objs.size + 1) (.ins Ca s.heap.objs.size [])) (fun v H2 => v = .non ∧ Q (.ref (s.heap.objs.size + 1)) H2) (fun cls d H' => E cls d σ H') := by
      refine ⟨?_, gF, gB, _, _, q.g (.ref M.length :: ds) es, ⟨S2.toMR.mem, S2.toMR.inj, S2.toMR.tab, S2.toMR.frm, S2.toMR.bor⟩, hV _ _ _ _ _ (.cons rself rr1) rr2 lv lz, ?_⟩
      · rw [VRs.length (hV _ _ _ _ _ (.cons rself rr1) rr2 lv lz), hL _ _ (by rw [List.length_cons]; exact l1) l2]
      · cases e : m (q.g (.ref M.length :: ds) es) (M ++ [.ins C []]) with
        | stuck => rw [e] at p; exact p.elim
        | exc C' as M' => rw [e] at p; exact fun dd H' io' t m' x => p dd H' io' ((t1.trans t2).trans t) (S2.later t ⟨m'.mem, m'.inj, m'.tab, m'.frm, m'.bor⟩) x
        | ok d M' =>
          rw [e] at p
          cases d with
          | non =>
            intro v H' io' t m' r'
            cases r'
            have S3 := S2.later t ⟨m'.mem, m'.inj, m'.tab, m'.frm, m'.bor⟩
            refine ⟨rfl, p _ H' io' ((t1.trans t2).trans t) S3 ?_⟩
            exact VR.mono S2.toMR t rself
          | _ => exact p.elim
    have hE := I2.env0.make Ca us (q.ks.zip ws)
    rw [o.prog, o.w, o.K, o.mg, o.base] at hE
    have kin : gb.K.In _ := o.K ▸ I2.kIn
    have c := F.run _ X.stack _ _ ⟨Value.ref (s.heap.objs.size + 1) :: us, q.ks.zip ws⟩ (gU (Value.ref (s.heap.objs.size + 1) :: us) ws) _ _ (fun cls d H' => E cls d σ H') ((o.room.mono hj).make Ca us (q.ks.zip ws)) (grd_make o.grd) hE
      (hK.to _ (Value.ref (s.heap.objs.size + 1) :: us) ws kin (rV.length.symm.trans lv) (rz.length.symm.trans lz)) R2 sp
    rw [← o.prog, ← o.w] at c
    refine wpAny_call (make_map (K := gb.K) (f := fa) (o.K ▸ I.kIn) Mk'.makes Mk'.init (beq_iff_eq.mp Mk'.fn) (codeAny_mono c fun r s' hq' => ?_))
    cases r with
    | error e => exact o.tk e s' (XE.of_call I2 (fun cls d H' h => h) hq')
    | ok fl =>
      cases fl with
      | ret u =>
        obtain ⟨v, H', I3, rv, ev, q3⟩ := I2.after hq'
        subst ev
        exact ⟨rv, ⟨V.ref (s.heap.objs.size + 1), H', I3, rfl, q3⟩⟩
      | next => exact False.elim hq'
      | brk => exact False.elim hq'
      | cont => exact False.elim hq'
  · exact p.elim
/-- C(..) -/
theorem d_make {Ca fa : Addr} {C x : Str} {sh : List Shp} {m : List D → Mem → R D} (q : Shp) (o : Ok g E X k) (hC : g.ca C = Ca) (Mk' : Mk g.K Ca fa) (F : Fk g.toG0 j fa sh m) (hj : j + 1 ≤ k) (hq : q ∈ sh) (hg : Gl X x) (hm : g.mg x = some (.ref Ca)) (hc : DC g E X es kws q.ks r rk)
    (hdb : (x == ("__debug__" : Str)) = false := by decide) (hx : g.xs = none := by rfl) : DE g E X (.Call (.Name x p) es kws pos) (fCall (kMake C q m) r rk) := by
  refine ⟨fun pins s σ H Q I ⟨env, io, M, S, z⟩ => ?_⟩
  refine wpAny_Call_Name_kw (ld_glob I hg (by rw [o.mg]; exact hm) ?_ hdb)
  refine hc.run pos (.ref Ca) [] pins s σ H (fun vs zs H1 => ∃ (ds es : List D) (io1 : Nat → Addr) (M1 : Mem), SR g io1 env M1 σ H1 ∧ VRs (rc g io1 M1 H1) vs ds ∧ VRs (rc g io1 M1 H1) zs es ∧ PostE g E io1 env M1 σ H1 (kMake C q m ds es M1) Q) _ (by rw [o.K]; exact Mk'.kp) I
    (tr_call S z fun ds es M1 vs zs H1 io1 t S1 r1 r2 p1 => ⟨ds, es, io1, M1, S1, r1, r2, p1⟩) fun us ws vs zs H1 s1 I1 rv rz ⟨ds, es, io1, M1, S1, r1, r2, p1⟩ => ?_
  exact run_makeG hx hC Mk' o F hj hq S1 I1 rv rz r1 r2 p1
/-! ### fields, properties -/
def fldOf (M : Mem) (d : D) (C f : Str) : Option D := match d with
  | .ref i => (match M[i]? with
    | some (.ins C' fs) => if C' = C then fs.lookup f else none
    | _ => none)
  | _ => none
theorem VRf.lookup {c : RC} : ∀ {vs : List (Str × V)} {fs : List (Str × D)} {f : Str} {d : D}, VRf c vs fs → fs.lookup f = some d → ∃ v, vs.lookup f = some v ∧ VR c v d
  | _, _, _, _, .nil, e => by cases e
  | (x, v) :: vs, (_, d) :: fs, f, d', .cons r s, e => by
    simp only [List.lookup] at e ⊢
    split at e <;> rename_i h
    · cases e
      exact ⟨v, rfl, r⟩
    · exact VRf.lookup s e
/-- o.f, a field of an instance of the class -/
def fFld (C f : Str) (fo : FE) : FE := f1 (fun d M => R.of (fldOf M d C f) M) fo
theorem d_fld {C f : Str} (ok : Ok g E X k) (ho : DE g E X o fo) (cl : Cls g.K (g.ca C)) (na : NoAttr g.K (g.ca C) f) (hab : attributeBase o f X.env (eval o X.env) = eval o X.env := by rfl) : DE g E X (.Attribute o f pos) (fFld C f fo) :=
  PE.weak (pe_fld ho hab) fun s H Q ⟨env, io, M, S, z⟩ => trE_then S z fun d M1 v H1 io1 t1 S1 r1 p1 => by
    cases e : fldOf M1 d C f with
    | none => rw [e] at p1; exact p1.elim
    | some d' =>
      rw [e] at p1
      unfold fldOf at e
      split at e
      · rename_i i
        split at e
        · rename_i C' fs' em
          split at e
          · rename_i hC
            subst hC
            cases r1 with
            | ref hi =>
              obtain ⟨dx, vs, h, rf⟩ := S1.toMR.mem i _ em
              obtain ⟨v', l, rv⟩ := VRf.lookup rf e
              exact ⟨_, g.ca C', dx, vs, v', rfl, h, by rw [ok.K]; exact cl, by rw [ok.K]; exact na, l, PostE.here p1 S1 rv⟩
          · cases e
        · cases e
      · cases e
/-- o.f, a property -/
def kProp (C f : Str) (m : List D → Mem → R D) : D → Mem → R D := fun d M => if isIns M d C "" = true then (match m [d] M with
    | .ok v M' => .ok v M'
    | _ => .stuck) else .stuck
theorem d_prop {C f : Str} {pa fa : Addr} {sh : List Shp} {m : List D → Mem → R D} (ok : Ok g E X k) (ho : DE g E X o fo) (cl : Cls g.K (g.ca C)) (hp : PropOf g.K (g.ca C) f pa fa) (F : Fk g.toG0 j fa sh m) (hj : j + 1 ≤ k) (hq : shN 1 ∈ sh)
    (hab : attributeBase o f X.env (eval o X.env) = eval o X.env := by rfl) (hx : g.xs = none := by rfl) : DE g E X (.Attribute o f pos) (f1 (kProp C f m) fo) := by
  have hgx := hx
  obtain ⟨gb, gF, gx, gB⟩ := g
  dsimp only at hgx
  subst hgx
  refine ⟨fun pins s σ H Q I ⟨env, io, M, S, z⟩ => ?_⟩
  have tt := trE_then (C := fun v H1 => ∃ (d : D) (io1 : Nat → Addr) (M1 : Mem), SR ⟨gb, gF, none, gB⟩ io1 env M1 σ H1 ∧ VR (rc ⟨gb, gF, none, gB⟩ io1 M1 H1) v d ∧ PostE ⟨gb, gF, none, gB⟩ E io1 env M1 σ H1 (kProp C f m d M1) Q) S z fun d M1 v H1 io1 t1 S1 r1 p1 => ⟨d, io1, M1, S1, r1, p1⟩
  refine attr_of hab (thn (ho.run pins s σ H _ I tt) fun u s1 ⟨x, H1, I1, rx, d, io1, M1, S1, r1, p1⟩ => ?_)
  unfold kProp at p1
  split at p1
  · rename_i hi
    obtain ⟨a, dx, fs, ex, ea, _⟩ := ins_at S1.toMR hi r1
    subst ex
    obtain rfl : u = Value.ref a := rx
    obtain ⟨mA, O, _, _, _, _⟩ := ins_get I1.hok ea
    obtain ⟨od, J, _⟩ := O.look
    obtain ⟨rest, hrec⟩ := hp.rec_
    obtain ⟨fd, ps, F, hkp, hb⟩ := F
    obtain ⟨gU, gV, hK, hV, hL⟩ := hb _ hq
    have I1' := I1.tok (s1.toks + 1)
    have hc : (PySem.W.clsIn gb.K (gb.ca C)).isSome = true := by
      obtain ⟨cd, hc, _⟩ := PySem.W.any_some cl.hd
      rw [hc]
      rfl
    have kin : gb.K.In s1.heap := ok.K ▸ I1.kIn
    have rV : Vals [V.ref a] [Value.ref a] := .cons rfl .nil
    have sp : spD gb ps.length m (gV [V.ref a] []) H1 Q EN0 := by
      have rr := hV _ _ _ _ _ (.cons r1 .nil) .nil rfl rfl
      refine ⟨by rw [VRs.length rr, hL _ _ rfl rfl], gF, gB, io1, M1, _, ⟨S1.toMR.mem, S1.toMR.inj, S1.toMR.tab, S1.toMR.frm, S1.toMR.bor⟩, rr, ?_⟩
      show PostC ⟨gb, gF, none, gB⟩ EN0 io1 M1 H1 (m [d] M1) Q
      cases e : m [d] M1 with
      | stuck => rw [e] at p1; exact p1.elim
      | exc C' as M' => rw [e] at p1; exact p1.elim
      | ok v M' =>
        rw [e] at p1
        exact fun v H' io' t m' r' => p1 v H' io' t (S1.later t ⟨m'.mem, m'.inj, m'.tab, m'.frm, m'.bor⟩) r'
    have hE := I1'.env0.in1
    rw [ok.prog, ok.w, ok.K, ok.mg, ok.base] at hE
    refine PySem.W.get_bind kin J (PySem.W.plainGet_of (cl.get f)).1 (PySem.W.findObj_data hc hp.at_ hp.get hp.tak) (PySem.W.plainGet_of (cl.get f)).2 (wpAny_call (PySem.W.prop_get (s := { s1 with toks := s1.toks + 1 }) kin hrec ?_))
    have c := F.run X.A.in1 X.stack { s1 with toks := s1.toks + 1 } H1 ⟨[.ref a], []⟩ (gU [.ref a] []) (gV [V.ref a] []) Q EN0 ((ok.room.mono hj).in1) ok.grd hE (hK.to _ [.ref a] [] (ok.K ▸ I1'.kIn) rfl rfl) (hK.rel rV .nil) sp
    rw [← ok.prog, ← ok.w] at c
    refine codeAny_mono c fun r s' hq' => ?_
    cases r with
    | error er =>
      obtain ⟨_, _, _, _, _, _, _, _, _, _, _, _, z⟩ := hq'
      exact z.elim
    | ok fl =>
      cases fl with
      | ret u =>
        obtain ⟨v, H', I3, rv, q3⟩ := I1'.after hq'
        show wpAny _ _ (handedOut u) _ _ _
        rw [PySem.W.handedOut_of (handed_of rv)]
        exact wpAny_pure ⟨v, H', I3, rv, q3⟩
      | next => exact False.elim hq'
      | brk => exact False.elim hq'
      | cont => exact False.elim hq'
  · exact p1.elim
end
end DL

-- DlComp
set_option Elab.async false
set_option linter.all false
set_option maxRecDepth 100000
/-! DlComp: list comprehensions over data. -/
namespace DL
open PySem PySem.Spec PyProof.Rows L2
def wipeD (env : DEnv) : List Nat → DEnv
  | [] => env
  | v :: vs => (wipeD env vs).set v none
theorem wipeD_some {env : DEnv} {i : Nat} {d : D} : ∀ {vs : List Nat}, (wipeD env vs)[i]? = some (some d) → env[i]? = some (some d) ∧ i ∉ vs
  | [], h => ⟨h, by simp⟩
  | v :: vs, h => by
    unfold wipeD at h
    by_cases hi : v = i
    · subst hi
      by_cases hv : v < (wipeD env vs).length
      · rw [List.getElem?_set_self hv] at h; cases h
      · rw [List.getElem?_eq_none (by simpa using hv)] at h; cases h
    · rw [List.getElem?_set_ne hi] at h
      obtain ⟨h1, h2⟩ := wipeD_some h
      exact ⟨h1, by simp only [List.mem_cons, not_or]; exact ⟨fun e => hi e.symm, h2⟩⟩
theorem wipeD_length (env : DEnv) : ∀ vs : List Nat, (wipeD env vs).length = env.length
  | [] => rfl
  | v :: vs => by unfold wipeD; rw [List.length_set, wipeD_length env vs]
theorem wipe_out {s : L2.St} {i : Nat} : ∀ {vs : List Nat}, i ∉ vs → (wipe s vs)[i]? = s[i]?
  | [], _ => rfl
  | v :: vs, h => by
    simp only [List.mem_cons, not_or] at h
    unfold wipe
    rw [List.getElem?_set_ne (fun e => h.1 e.symm), wipe_out h.2]
theorem wipe_in {s : L2.St} {i : Nat} : ∀ {vs : List Nat}, i ∈ vs → i < s.length → (wipe s vs)[i]? = some none
  | v :: vs, h, hl => by
    unfold wipe
    by_cases e : v = i
    · subst e
      exact List.getElem?_set_self (by rw [wipe_length]; exact hl)
    · rw [List.getElem?_set_ne e]
      rcases List.mem_cons.mp h with z | z
      · exact absurd z.symm e
      · exact wipe_in z hl
theorem wipe_idem (s : L2.St) (vs : List Nat) : wipe (wipe s vs) vs = wipe s vs := by
  apply List.ext_getElem?
  intro i
  by_cases hi : i ∈ vs
  · by_cases hl : i < s.length
    · rw [wipe_in hi (by rw [wipe_length]; exact hl), wipe_in hi hl]
    · rw [List.getElem?_eq_none (by rw [wipe_length, wipe_length]; omega), List.getElem?_eq_none (by rw [wipe_length]; omega)]
  · rw [wipe_out hi]
theorem SR.wipe {g : G} {io : Nat → Addr} {env : DEnv} {M : Mem} {s : L2.St} {H : Hp} (S : SR g io env M s H) (vs : List Nat) : SR g io (wipeD env vs) M (L2.wipe s vs) H :=
  ⟨S.toMR, fun i d e => by
    obtain ⟨h1, h2⟩ := wipeD_some e
    obtain ⟨v, h3, h4⟩ := S.ev i d h1
    exact ⟨v, by rw [wipe_out h2]; exact h3, h4⟩, by rw [wipeD_length, wipe_length]; exact S.len, S.xd⟩
/-- no other than at D -/
structure STx (D : Addr) (io : Nat → Addr) (M : Mem) (H : Hp) (io' : Nat → Addr) (M' : Mem) (H' : Hp) : Prop where
  ext : ∀ b o, b ≠ D → H b = some o → ¬ OwnOf io M b → (∀ ps, o ≠ .tbl ps) → H' b = some o ∧ ¬ OwnOf io' M' b
  keep : ∀ i, i < M.length → io' i = io i
  len : M.length ≤ M'.length
theorem STx.of {D : Addr} {io io' : Nat → Addr} {M M' : Mem} {H H' : Hp} (t : STx D io M H io' M' H') (h : H D = none) : ST io M H io' M' H' :=
  ⟨fun b o e n q => t.ext b o (fun z => by rw [z, h] at e; cases e) e n q, t.keep, t.len⟩
theorem STx.st {D : Addr} {io io1 io2 : Nat → Addr} {M M1 M2 : Mem} {H H1 H2 : Hp} (a : STx D io M H io1 M1 H1) (b : ST io1 M1 H1 io2 M2 H2) : STx D io M H io2 M2 H2 :=
  ⟨fun c o hc h n t => let ⟨h1, n1⟩ := a.ext c o hc h n t; b.ext c o h1 n1 t, fun i hi => (b.keep i (Nat.lt_of_lt_of_le hi a.len)).trans (a.keep i hi), Nat.le_trans a.len b.len⟩
theorem STx.upd {D : Addr} {io io1 : Nat → Addr} {M M1 : Mem} {H H1 : Hp} {o : HO} (a : STx D io M H io1 M1 H1) : STx D io M H io1 M1 (upd H1 D o) :=
  ⟨fun c u hc h n t => let ⟨h1, n1⟩ := a.ext c u hc h n t; ⟨(upd_ne hc).trans h1, n1⟩, a.keep, a.len⟩
section
variable {g : G} {io : Nat → Addr} {M : Mem} {H : Hp} {D : Addr} {vs0 vs1 : List V}
mutual
theorem VR.updD (hF : g.F D) (nB : ¬ g.B D) (hD : H D = some (.lst vs0)) : ∀ {v : V} {d : DL.D}, VR (rc g io M H) v d → VR (rc g io M (upd H D (.lst vs1))) v d
  | _, _, .non => .non
  | _, _, .bl b => .bl b
  | _, _, .int i => .int i
  | _, _, .str x => .str x
  | _, _, .ty x => .ty x
  | _, _, .tup ht r => .tup (by
      rcases ht with (ht | ⟨o, ht⟩) | ht
      · exact .inl (.inl ((upd_ne (ne_of ht hD (fun z => by cases z))).trans ht))
      · exact .inl (.inr ⟨o, (upd_ne (ne_of ht hD (fun z => by cases z))).trans ht⟩)
      · exact .inr ht) (VRs.updD hF nB hD r)
  | _, _, .lst (a := a) ht n r => .lst (by
      have ne : a ≠ D := fun z => n (.inl (z ▸ hF))
      exact (upd_ne ne).trans ht) n (VRs.updD hF nB hD r)
  | _, _, .scr (a := a) ht => .scr (by
      rcases ht with ⟨ht, n⟩ | ht
      · have ne : a ≠ D := fun z => n (.inl (z ▸ hF))
        rcases ht with ht | ⟨o, ht⟩
        · exact .inl ⟨.inl ((upd_ne ne).trans ht), n⟩
        · exact .inl ⟨.inr ⟨o, (upd_ne ne).trans ht⟩, n⟩
      · exact .inr ht)
  | _, _, .dk (a := a) ht n r => .dk (by
      have ne : a ≠ D := fun z => n (.inl (z ▸ hF))
      rcases ht with ht | ⟨o, ht⟩
      · exact .inl ((upd_ne ne).trans ht)
      · exact .inr ⟨o, (upd_ne ne).trans ht⟩) n (VRk.updD hF nB hD r)
  | _, _, .ref h => .ref h
  | _, _, .fdk ht r => .fdk ((upd_ne (ne_of ht hD (fun z => by cases z))).trans ht) (VRk.updD hF nB hD r)
  | _, _, .bor (a := a) ht hb r => .bor (by
      have ne : a ≠ D := fun z => nB (z ▸ hb)
      exact (upd_ne ne).trans ht) hb (VRs.updD hF nB hD r)
theorem VRs.updD (hF : g.F D) (nB : ¬ g.B D) (hD : H D = some (.lst vs0)) : ∀ {v : List V} {d : List DL.D}, VRs (rc g io M H) v d → VRs (rc g io M (upd H D (.lst vs1))) v d
  | _, _, .nil => .nil
  | _, _, .cons r s => .cons (VR.updD hF nB hD r) (VRs.updD hF nB hD s)
theorem VRk.updD (hF : g.F D) (nB : ¬ g.B D) (hD : H D = some (.lst vs0)) : ∀ {v : List (Key × V)} {d : List (Key × DL.D)}, VRk (rc g io M H) v d → VRk (rc g io M (upd H D (.lst vs1))) v d
  | _, _, .nil => .nil
  | _, _, .cons r s => .cons (VR.updD hF nB hD r) (VRk.updD hF nB hD s)
end
theorem VRf.updD (hF : g.F D) (nB : ¬ g.B D) (hD : H D = some (.lst vs0)) : ∀ {v : List (Str × V)} {d : List (Str × DL.D)}, VRf (rc g io M H) v d → VRf (rc g io M (upd H D (.lst vs1))) v d
  | _, _, .nil => .nil
  | _, _, .cons r s => .cons (VR.updD hF nB hD r) (VRf.updD hF nB hD s)
theorem MR.updD (m : MR g io M H) (hF : g.F D) (nB : ¬ g.B D) (hD : H D = some (.lst vs0)) : MR g io M (upd H D (.lst vs1)) := by
  have ne : ∀ i o, M[i]? = some o → o ≠ .gone → io i ≠ D := fun i o e n z => (m.frm D hF).2 ⟨i, o, e, n, z⟩
  refine ⟨fun i o e => ?_, m.inj, tabs_keep m.tab fun b o h n1 n2 n3 => (upd_ne (fun z => by rw [z, hD] at h; exact n1 _ (Option.some.inj h).symm)).trans h, fun a h => ⟨?_, (m.frm a h).2⟩, m.bor⟩
  · have q := m.mem i o e
    cases o with
    | gone => trivial
    | lst ds => obtain ⟨vs, h, r⟩ := q; exact ⟨vs, (upd_ne (ne i _ e (fun z => by cases z))).trans h, VRs.updD hF nB hD r⟩
    | dk ds => obtain ⟨vs, h, r⟩ := q; exact ⟨vs, (upd_ne (ne i _ e (fun z => by cases z))).trans h, VRk.updD hF nB hD r⟩
    | ins C fs => obtain ⟨dx, vs, h, r⟩ := q; exact ⟨dx, vs, (upd_ne (ne i _ e (fun z => by cases z))).trans h, VRf.updD hF nB hD r⟩
  · by_cases ha : a = D
    · subst ha
      exact ⟨_, upd_same, fun _ z => by cases z⟩
    · obtain ⟨⟨o, e, n⟩, _⟩ := m.frm a h
      exact ⟨o, (upd_ne ha).trans e, n⟩
theorem XdP.updD {p : Xi} (hF : g.F D) (nB : ¬ g.B D) (hD : H D = some (.lst vs0)) (h : XdP (rc g io M H) p) : XdP (rc g io M (upd H D (.lst vs1))) p := by
  unfold XdP at h ⊢
  split
  · rename_i e
    rw [e] at h
    rcases h with z | ⟨dd, ws, hd, h, r⟩
    · exact .inl z
    exact .inr ⟨dd, ws, hd, (upd_ne (ne_of h hD (fun z => by cases z))).trans h, VRf.updD hF nB hD r⟩
  · rename_i l e
    rw [e] at h
    obtain ⟨h1, h2, h3⟩ := h
    refine ⟨(upd_ne (ne_of h1 hD (fun z => by unfold LamX.CodeO at z; cases z))).trans h1, h2, fun i d e => ?_⟩
    obtain ⟨v, q1, q2⟩ := h3 i d e
    exact ⟨v, q1, VR.updD hF nB hD q2⟩
theorem SR.updD {env : DEnv} {s : L2.St} (S : SR g io env M s H) (hF : g.F D) (nB : ¬ g.B D) (hD : H D = some (.lst vs0)) : SR g io env M s (upd H D (.lst vs1)) :=
  ⟨S.toMR.updD hF nB hD, fun i d e => let ⟨v, h, r⟩ := S.ev i d e; ⟨v, h, VR.updD hF nB hD r⟩, S.len, fun p e => ⟨(S.xd p e).1, (S.xd p e).2.updD hF nB hD⟩⟩
end
/-! less that is foreign -/
section
variable {g : G} {F : Addr → Prop} {io : Nat → Addr} {M : Mem} {H : Hp}
theorem sub_lessF (n : Nat) (hn : n ≤ M.length) (h : ∀ a, g.F a → F a) : Sub n (rc (g.wF F) io M H) (rc g io M H) := ⟨rfl, rfl, fun _ _ => rfl, hn, fun a z q => z (q.elim (fun y => .inl (h a y)) .inr), fun _ _ => id⟩
mutual
theorem VR.lessF (h : ∀ a, g.F a → F a) : ∀ {v : V} {d : D}, VR (rc (g.wF F) io M H) v d → VR (rc g io M H) v d
  | _, _, .non => .non
  | _, _, .bl b => .bl b
  | _, _, .int i => .int i
  | _, _, .str x => .str x
  | _, _, .ty x => .ty x
  | _, _, .tup ht r => .tup ht (VRs.lessF h r)
  | _, _, .lst ht n r => .lst ht (fun q => n (q.elim (fun y => .inl (h _ y)) .inr)) (VRs.lessF h r)
  | _, _, .scr ht => .scr (ht.imp (fun z => ⟨z.1, fun q => z.2 (q.elim (fun y => .inl (h _ y)) .inr)⟩) id)
  | _, _, .bor ht hb r => .bor ht hb (VRs.lessF h r)
  | _, _, .fdk ht r => .fdk ht (VRk.lessF h r)
  | _, _, .dk ht n r => .dk ht (fun q => n (q.elim (fun y => .inl (h _ y)) .inr)) (VRk.lessF h r)
  | _, _, .ref hi => .ref hi
theorem VRs.lessF (h : ∀ a, g.F a → F a) : ∀ {v : List V} {d : List D}, VRs (rc (g.wF F) io M H) v d → VRs (rc g io M H) v d
  | _, _, .nil => .nil
  | _, _, .cons r s => .cons (VR.lessF h r) (VRs.lessF h s)
theorem VRk.lessF (h : ∀ a, g.F a → F a) : ∀ {v : List (Key × V)} {d : List (Key × D)}, VRk (rc (g.wF F) io M H) v d → VRk (rc g io M H) v d
  | _, _, .nil => .nil
  | _, _, .cons r s => .cons (VR.lessF h r) (VRk.lessF h s)
end
theorem VRf.lessF (h : ∀ a, g.F a → F a) : ∀ {v : List (Str × V)} {d : List (Str × D)}, VRf (rc (g.wF F) io M H) v d → VRf (rc g io M H) v d
  | _, _, .nil => .nil
  | _, _, .cons r s => .cons (VR.lessF h r) (VRf.lessF h s)
theorem MR.lessF (m : MR (g.wF F) io M H) (h : ∀ a, g.F a → F a) (hb : ∀ a, g.B a → g.F a) : MR g io M H := by
  refine ⟨fun i o e => ?_, m.inj, m.tab, fun a q => m.frm a (h a q), hb⟩
  have q := m.mem i o e
  cases o with
  | gone => trivial
  | lst ds => obtain ⟨vs, e1, r⟩ := q; exact ⟨vs, e1, VRs.lessF h r⟩
  | dk ds => obtain ⟨vs, e1, r⟩ := q; exact ⟨vs, e1, VRk.lessF h r⟩
  | ins C fs => obtain ⟨dx, vs, e1, r⟩ := q; exact ⟨dx, vs, e1, VRf.lessF h r⟩
end
/-! ### the rule -/
def compL (own : List Nat) (t : Tgt) (tt : FT) (f : FE) (env : DEnv) : List D → Mem → R (List D)
  | [], M => .ok [] M
  | d :: ds, M => match t.bind d (wipeD env own) with
    | none => .stuck
    | some env1 => match tt env1 M with
      | .ok false M1 => compL own t tt f env ds M1
      | .ok true M1 => (match f env1 M1 with
        | .ok y M2 => (compL own t tt f env ds M2).bind fun ys M3 => .ok (y :: ys) M3
        | _ => .stuck)
      | _ => .stuck
def aComp (own : List Nat) (fi : FA) (t : Tgt) (tt : FT) (f : FE) : FA := fun env M => (fi env M).bind fun ds M1 => match compL own t tt f env ds M1 with
  | .ok ys M2 => .ok ys M2
  | _ => .stuck
theorem lst_hk {g : G} {E : WX} (s : L2.St) (Q : VK) (ys : List D) (io1 : Nat → Addr) (env : DEnv) (M1 : Mem) (H1 : Hp) (io2 : Nat → Addr) (M' : Mem) (H2 : Hp) (D : Addr) (vacc : List V) (S1 : SR g io1 env M1 s H1) (p : PostE g E io1 env M1 s H1 (kLst ys M') Q) (hD : H1 D = none)
      (t : ST io1 M1 H1 io2 M' H2) (m : MR (g.wF fun a => g.F a ∨ a = D) io2 M' H2) (hl : H2 D = some (.lst vacc)) (r : VRs (rc (g.wF fun a => g.F a ∨ a = D) io2 M' H2) vacc ys) : Q (.ref D) H2 := by
  unfold kLst at p
  split at p
  · have m2 := m.lessF (g := g) (fun a z => .inl z) S1.toMR.bor
    refine p _ H2 io2 t (S1.later t m2) (.lst hl (fun z => ?_) (VRs.lessF (fun a z => .inl z) r))
    rcases z with z | z
    · exact free_not_own S1.toMR hD (.inl z)
    · exact (m.frm D (.inr rfl)).2 z
  · exact p.elim
/-- its list is data -/
def fComp (own : List Nat) (fi : FA) (t : Tgt) (tt : FT) (f : FE) : FE := fOf kLst (aComp own fi t tt f)
def tYesF : FT := fun _ M => .ok true M
abbrev DTs (g : G) (E : WX) (X : Cx) (es : List Expr) (f : FT) : Prop := PTs X es (trT g E f)
theorem dts_nil {g : G} {E : WX} {X : Cx} : DTs g E X [] tYesF := ⟨fun pins s σ H Q I ⟨env, io, M, S, z⟩ => pts_nil.run pins s σ H Q I (PostT.here z S)⟩
theorem dts_one {g : G} {E : WX} {X : Cx} {c : Expr} {f : FT} (h : DT g E X c f) : DTs g E X [c] f := pts_one h
theorem Ok.blk {g : G} {E : WX} {X : Cx} {k : Nat} (o : Ok g E X k) (F : Addr → Prop) (s : Shared) (H : Hp) (scope : Scope) (cenv : Env) (fp : List Addr) : Ok (g.wF F) EN (X.blk s H scope cenv fp) k :=
  ⟨⟨o.prog, o.w, o.base, o.K, o.mg, o.nd, o.grd, o.un⟩, o.calm, takes_none5, o.room, PassesOwn.never⟩
section
variable {g : G} {E : WX} {X : Cx} {k : Nat} {pos : Pos} {tg iter elt : Expr} {ifs : List Expr} {scope : Scope} {own : List (Str × Nat)} {fi : FA} {t : Tgt} {tt : FT} {f : FE}
theorem tr_comp {s : L2.St} {H : Hp} {Q : VK} {kk : List D → Mem → R D} (vs : List Nat) (hsl : ∀ i ∈ t.slots, i ∈ vs)
    (hk : ∀ (ys : List D) (io1 : Nat → Addr) (env : DEnv) (M1 : Mem) (H1 : Hp) (io2 : Nat → Addr) (M' : Mem) (H2 : Hp) (D : Addr) (vacc : List V), SR g io1 env M1 s H1 → PostE g E io1 env M1 s H1 (kk ys M') Q → H1 D = none →
      ST io1 M1 H1 io2 M' H2 → MR (g.wF fun a => g.F a ∨ a = D) io2 M' H2 → H2 D = some (.lst vacc) → VRs (rc (g.wF fun a => g.F a ∨ a = D) io2 M' H2) vacc ys → Q (.ref D) H2)
    (hlen : ∀ ys M', 16777216 < ys.length → kk ys M' = .stuck)
    (h : trE g E (fOf kk (aComp vs fi t tt f)) s H Q) :
    tLc (trI g E fi) (Tgt.rd g.K t) (fun s H Q => ∃ F, trT (g.wF F) EN tt s H Q) (fun s H Q => ∃ F, trE (g.wF F) EN f s H Q) vs s H Q := by
  obtain ⟨env, io, M, S, z⟩ := h
  show trI g E fi s H _
  refine ⟨env, io, M, S, ?_⟩
  have z' : PostE g E io env M s H ((aComp vs fi t tt f env M).bind kk) Q := z
  unfold aComp at z'
  cases e : fi env M with
  | stuck => rw [e] at z'; exact z'.elim
  | exc C as M1 => rw [e] at z'; exact z'
  | ok ds M1 =>
    rw [e] at z'
    rw [R.bind_ok] at z'
    intro J H1 io1 t1 S1 w D hD
    have z1 := PostE.step t1 z'
    cases e2 : compL vs t tt f env ds M1 with
    | stuck => rw [e2] at z1; exact z1.elim
    | exc C as M2 => rw [e2] at z1; exact z1.elim
    | ok ys M' =>
      rw [e2] at z1
      dsimp only at z1
      rw [R.bind_ok] at z1
      have hys : ys.length ≤ 16777216 := by
        rcases Nat.lt_or_ge 16777216 ys.length with q | q
        · rw [hlen ys M' q] at z1; exact z1.elim
        · exact q
      obtain ⟨g', hg'⟩ : ∃ g', (g.wF fun a => g.F a ∨ a = D) = g' := ⟨_, rfl⟩
      have hFD : g'.F D := by rw [← hg']; exact .inr rfl
      have hK : g'.K = g.K := by rw [← hg']
      have nBD : ¬ g'.B D := by
        rw [← hg']
        intro z
        obtain ⟨⟨o, e, _⟩, _⟩ := S1.toMR.frm D (S1.toMR.bor D z)
        rw [hD] at e
        cases e
      have hFin : ∀ a, (fun a => g.F a ∨ a = D) a → g.F a ∨ H1 a = none := fun a q => q.elim .inl fun y => .inr (by rw [y]; exact hD)
      -- the invariant
      let P : Nat → Hp → Prop := fun i H2 => ∃ (io2 : Nat → Addr) (M2 : Mem) (acc : List DL.D) (vacc : List V) (rest : List DL.D), STx D io1 M1 H1 io2 M2 H2 ∧ SR g' io2 (wipeD env vs) M2 (L2.wipe s vs) H2 ∧ H2 D = some (.lst vacc) ∧
        VRs (rc g' io2 M2 H2) vacc acc ∧ compL vs t tt f env (ds.drop i) M2 = .ok rest M' ∧ acc ++ rest = ys
      have P0 : P 0 (upd H1 D (.lst [])) := by
        have tf : ST io1 M1 H1 io1 M1 (upd H1 D (.lst [])) := .fresh hD
        have m1 : MR g' io1 M1 (upd H1 D (.lst [])) := by
          rw [← hg']
          refine ⟨fun i o e => ?_, S1.toMR.inj, S1.toMR.tab.ext (ext_fresh hD), fun a q => ?_, fun a q => .inl (S1.toMR.bor a q)⟩
          · have q := S1.toMR.mem i o e
            cases o with
            | gone => trivial
            | lst ds => obtain ⟨vs, e1, r⟩ := q; exact ⟨vs, ext_fresh hD _ _ e1, VRs.monoF hFin S1.toMR tf r⟩
            | dk ds => obtain ⟨vs, e1, r⟩ := q; exact ⟨vs, ext_fresh hD _ _ e1, VRk.monoF hFin S1.toMR tf r⟩
            | ins C fs => obtain ⟨dx, vs, e1, r⟩ := q; exact ⟨dx, vs, ext_fresh hD _ _ e1, VRf.monoF hFin S1.toMR tf r⟩
          · rcases q with q | q
            · exact S1.toMR.frm_mono tf a q
            · subst q
              exact ⟨⟨_, upd_same, fun _ z => by cases z⟩, fun z => free_not_own S1.toMR hD (.inr z)⟩
        have s1 : SR g' io1 env M1 s (upd H1 D (.lst [])) := ⟨m1, fun i d e => by
          obtain ⟨v, h, r⟩ := S1.ev i d e
          rw [← hg']
          exact ⟨v, h, VR.monoF hFin S1.toMR tf r⟩, S1.len, fun p e => by
            rw [← hg'] at e
            obtain ⟨y, z⟩ := S1.xd p e
            rw [← hg']
            exact ⟨y, z.monoF hFin S1.toMR tf⟩⟩
        exact ⟨io1, M1, [], [], ys, ⟨fun b o hb h n q => ⟨(upd_ne hb).trans h, n⟩, fun _ _ => rfl, Nat.le_refl _⟩, s1.wipe vs, upd_same, .nil, e2, rfl⟩
      refine ⟨fun i m H2 => m = ds.length - i ∧ i ≤ ds.length ∧ P i H2, ⟨ds.length, rfl, Nat.zero_le _, P0⟩, ?_⟩
      rintro i m H2 ⟨rfl, hi, io2, M2, acc, vacc, rest, tx, S2, hl, ra, ec, ey⟩
      have m2 : MR (g.wF fun a => g.F a ∨ a = D) io2 M2 H2 := by rw [hg']; exact S2.toMR
      by_cases hlt : i < ds.length
      · refine .inr ⟨w.goes _ i io2 M2 H2 hFin (tx.of hD) m2 hlt, fun H3 => i + 1 ≤ ds.length ∧ P (i + 1) H3, fun H3 ⟨h1, h2⟩ => ⟨ds.length - (i + 1), by omega, rfl, h1, h2⟩, fun x H3 y => ?_⟩
        have ed : ds[i]? = some ds[i] := List.getElem?_eq_getElem hlt
        obtain ⟨t3, m3, r3⟩ := w.yields _ i _ io2 M2 H2 H3 x hFin (tx.of hD) m2 ed y
        rw [hg'] at m3 r3
        have S3 := S2.ext_mono t3 m3
        have nD2 : ∀ {io' : Nat → Addr} {M' : Mem} {H' : Hp}, MR g' io' M' H' → ¬ OwnOf io' M' D := fun m => (m.frm D hFD).2
        have hl3 := (t3.ext D _ hl (nD2 S2.toMR) (fun _ z => by cases z)).1
        have ra3 := VRs.mono S2.toMR t3 ra
        have tx3 := tx.st t3
        rw [List.drop_eq_getElem_cons hlt] at ec
        unfold compL at ec
        cases e1 : t.bind ds[i] (wipeD env vs) with
        | none => rw [e1] at ec; cases ec
        | some env1 =>
          rw [e1] at ec
          dsimp only at ec
          rw [← hK]
          refine Tgt.reads e1 r3 S3 fun s4 S4 wp => ⟨by rw [wp vs hsl, wipe_idem], fun a => g.F a ∨ a = D, ?_⟩
          rw [hg']
          refine ⟨env1, io2, M2, S4, ?_⟩
          cases e3 : tt env1 M2 with
          | stuck => rw [e3] at ec; cases ec
          | exc C as M3 => rw [e3] at ec; cases ec
          | ok b M3 =>
            rw [e3] at ec
            intro H4 io4 t4 S4'
            have hl4 := (t4.ext D _ hl3 (nD2 S3.toMR) (fun _ z => by cases z)).1
            have ra4 := VRs.mono S3.toMR t4 ra3
            have tx4 := tx3.st t4
            have Sw4 : SR g' io4 (wipeD env vs) M3 (L2.wipe s vs) H4 := ⟨S4'.toMR, fun i d e => let ⟨v, h, r⟩ := S3.ev i d e; ⟨v, h, VR.mono S3.toMR t4 r⟩, S3.len, S3.xm t4⟩
            cases b with
            | false =>
              dsimp only at ec
              exact ⟨hlt, io4, M3, acc, vacc, rest, tx4, Sw4, hl4, ra4, ec, ey⟩
            | true =>
              dsimp only at ec
              cases e4 : f env1 M3 with
              | stuck => rw [e4] at ec; cases ec
              | exc C as M4 => rw [e4] at ec; cases ec
              | ok yd M4 =>
                rw [e4] at ec
                dsimp only at ec
                cases e5 : compL vs t tt f env (ds.drop (i + 1)) M4 with
                | stuck => rw [e5] at ec; cases ec
                | exc C as M5 => rw [e5] at ec; cases ec
                | ok ys2 M5 =>
                  rw [e5] at ec
                  rw [R.bind_ok] at ec
                  cases ec
                  refine ⟨fun a => g.F a ∨ a = D, ?_⟩
                  rw [hg']
                  refine ⟨env1, io4, M3, S4', ?_⟩
                  rw [e4]
                  intro vy H5 io5 t5 S5 r5
                  have hl5 := (t5.ext D _ hl4 (nD2 Sw4.toMR) (fun _ z => by cases z)).1
                  have ra5 := VRs.mono Sw4.toMR t5 ra4
                  have Sw5 : SR g' io5 (wipeD env vs) M4 (L2.wipe s vs) H5 := ⟨S5.toMR, fun i d e => let ⟨v, h, r⟩ := Sw4.ev i d e; ⟨v, h, VR.mono Sw4.toMR t5 r⟩, Sw4.len, Sw4.xm t5⟩
                  refine ⟨vacc, hl5, ?_, hlt, io5, M4, acc ++ [yd], vacc ++ [vy], ys2, (tx4.st t5).upd, Sw5.updD hFD nBD hl5, upd_same, VRs.updD hFD nBD hl5 (ra5.append (.cons r5 .nil)), e5, by simpa using ey⟩
                  have q1 := VRs.length ra
                  have q2 := congrArg List.length ey
                  rw [List.length_append, List.length_cons] at q2
                  rw [q1, sizeLine_eq]
                  omega
      · have ei : i = ds.length := by omega
        subst ei
        rw [List.drop_length] at ec
        unfold compL at ec
        obtain ⟨er, em⟩ : rest = [] ∧ M' = M2 := by
          cases ec
          exact ⟨rfl, rfl⟩
        subst er em
        rw [List.append_nil] at ey
        subst ey
        rw [← hg'] at ra
        exact .inl ⟨w.stops _ io2 M' H2 hFin (tx.of hD) m2, hk acc io1 env M1 H1 io2 M' H2 D vacc S1 z1 hD (tx.of hD) m2 hl ra⟩
theorem d_comp_gen {kk : List D → Mem → R D} (o : Ok g E X k) (hi : DI g E X tg iter fi) (ok : BlkOk X.N X.env.scope scope own) (hsl : ∀ i ∈ t.slots, i ∈ own.map (·.2))
    (hg : ∀ (s : Shared) (H : Hp) (C : Addr) (cl : List (Str × Addr)) (fp : List Addr), DG g (X.blk s H scope (compEnvC scope cl C X.env) fp) tg t)
    (ht : ∀ (F : Addr → Prop) (s : Shared) (H : Hp) (C : Addr) (cl : List (Str × Addr)) (fp : List Addr), Ok (g.wF F) EN (X.blk s H scope (compEnvC scope cl C X.env) fp) k → DTs (g.wF F) EN (X.blk s H scope (compEnvC scope cl C X.env) fp) ifs tt)
    (he : ∀ (F : Addr → Prop) (s : Shared) (H : Hp) (C : Addr) (cl : List (Str × Addr)) (fp : List Addr), Ok (g.wF F) EN (X.blk s H scope (compEnvC scope cl C X.env) fp) k → DE (g.wF F) EN (X.blk s H scope (compEnvC scope cl C X.env) fp) elt f)
    (hk : ∀ (s : L2.St) (Q : VK) (ys : List D) (io1 : Nat → Addr) (env : DEnv) (M1 : Mem) (H1 : Hp) (io2 : Nat → Addr) (M' : Mem) (H2 : Hp) (D : Addr) (vacc : List V), SR g io1 env M1 s H1 → PostE g E io1 env M1 s H1 (kk ys M') Q → H1 D = none →
      ST io1 M1 H1 io2 M' H2 → MR (g.wF fun a => g.F a ∨ a = D) io2 M' H2 → H2 D = some (.lst vacc) → VRs (rc (g.wF fun a => g.F a ∨ a = D) io2 M' H2) vacc ys → Q (.ref D) H2)
    (hlen : ∀ ys M', 16777216 < ys.length → kk ys M' = .stuck)
    (hs : ∀ x, foldedSetIterable iter X.env x = pure x := by intro _; rfl) : DE g E X (.ListComp elt [⟨tg, iter, ifs, 0⟩] scope pos) (fOf kk (aComp (own.map (·.2)) fi t tt f)) :=
  PE.weak (pe_lc (tt := fun s H Q => ∃ F, trT (g.wF F) EN tt s H Q) (te := fun s H Q => ∃ F, trE (g.wF F) EN f s H Q) o.calm o.nd hi ok hg
    (fun s H C cl fp => ⟨fun pins s2 σ H2 Q I ⟨F, h⟩ => (ht F s H C cl fp (o.blk F s H scope _ fp)).run pins s2 σ H2 Q I h⟩)
    (fun s H C cl fp => ⟨fun pins s2 σ H2 Q I ⟨F, h⟩ => (he F s H C cl fp (o.blk F s H scope _ fp)).run pins s2 σ H2 Q I h⟩) hs)
    fun s H Q h => tr_comp (own.map (·.2)) hsl (fun ys io1 env M1 H1 io2 M' H2 D vacc => hk s Q ys io1 env M1 H1 io2 M' H2 D vacc) hlen h
theorem kLst_len (ys : List D) (M : Mem) (h : 16777216 < ys.length) : kLst ys M = .stuck := if_neg (by omega)
theorem kOwn_len (ys : List D) (M : Mem) (h : 16777216 < ys.length) : kOwn ys M = .stuck := if_neg (by omega)
/-- its list is data -/
theorem d_comp (o : Ok g E X k) (hi : DI g E X tg iter fi) (ok : BlkOk X.N X.env.scope scope own) (hsl : ∀ i ∈ t.slots, i ∈ own.map (·.2))
    (hg : ∀ (s : Shared) (H : Hp) (C : Addr) (cl : List (Str × Addr)) (fp : List Addr), DG g (X.blk s H scope (compEnvC scope cl C X.env) fp) tg t)
    (ht : ∀ (F : Addr → Prop) (s : Shared) (H : Hp) (C : Addr) (cl : List (Str × Addr)) (fp : List Addr), Ok (g.wF F) EN (X.blk s H scope (compEnvC scope cl C X.env) fp) k → DTs (g.wF F) EN (X.blk s H scope (compEnvC scope cl C X.env) fp) ifs tt)
    (he : ∀ (F : Addr → Prop) (s : Shared) (H : Hp) (C : Addr) (cl : List (Str × Addr)) (fp : List Addr), Ok (g.wF F) EN (X.blk s H scope (compEnvC scope cl C X.env) fp) k → DE (g.wF F) EN (X.blk s H scope (compEnvC scope cl C X.env) fp) elt f)
    (hs : ∀ x, foldedSetIterable iter X.env x = pure x := by intro _; rfl) : DE g E X (.ListComp elt [⟨tg, iter, ifs, 0⟩] scope pos) (fComp (own.map (·.2)) fi t tt f) :=
  d_comp_gen o hi ok hsl hg ht he (lst_hk (E := E)) kLst_len hs
end
end DL

-- DlExc
set_option Elab.async false
set_option linter.all false
set_option maxRecDepth 100000
set_option maxHeartbeats 4000000
/-! DlExc: own exceptions made, raised, caught. -/
namespace DL
open PySem PySem.Spec PyProof.Rows L2
/-- what the written part says of an own exception class with an __init__ of its own or above it -/
structure ExC (K : PySem.W.Frag) (C : Addr) : Prop where
  base : ∃ (B newId initId : String) (bmB : List Value), ExcBaseFacts B newId initId bmB ∧ StoreFacts B bmB "object.__setattr__" "object" ∧ PySem.W.excInitIn K C bmB newId = true ∧ PySem.W.excOver K C bmB = true
  sa : PySem.W.findIn K (.ref C) "__setattr__" = some (some (.builtin "object.__setattr__"))
  exC : PySem.W.subIn K (.ref C) (.type "BaseException") = some true
  tyC : PySem.W.typeIn K (.ref C) = some (.type "type")
  kC : PySem.W.keepIn K (.ref C) = true
  hd : PySem.W.hasDictIn K C = true
section
open PySem.Builtin PySem.Builtin.ObjectAttr
variable {X : Cx} {pins : List (Addr × Obj)} {σ : L2.St} {H : Hp} {s : Shared} {a C dx : Addr} {f : Str} {y : V} {u : Value} {fs : List (Str × V)} {Q : Unit → Shared → Prop} {E : Value → Shared → Prop} {A : Around}
/-- self.f = y in an exception's __init__, the first one -/
theorem ost1 (T : ExC X.K C) (I : Inv X pins σ H s) (e : H a = some (exo a C none)) (hno : PySem.W.findIn X.K (.ref C) f = some none) (ry : RelV y u)
    (h : ∀ dx s', H dx = none → dx ≠ a → Inv X pins σ (upd (upd H dx (exd dx [(f, y)])) a (exo a C (some dx))) s' → Q () s') : wpAny (model X.prog X.w) A (setAttr (.ref a) f u) Q E s := by
  obtain ⟨B, newId, initId, bmB, FB, SF, hI, hO⟩ := T.base
  obtain ⟨cd, hcl, hhd⟩ := PySem.W.any_some T.hd
  obtain ⟨t1, ho⟩ := exo_at I.hok e
  obtain ⟨hp, g, d, t, os⟩ := s
  have inst : PySem.W.InstAt hp a ({ cls := .ref C, dict := none, data := .fields #[.ref t1, .none, .none, .none, .bool false, .none] } : Obj) C none := ⟨ho, rfl, rfl, trivial⟩
  refine PySem.W.set_plain I.kIn inst T.sa ?_
  refine PySem.W.osa_openX SF I.kIn inst hO (r := none) (by unfold PySem.W.takerIn; rw [hno]; rfl) fun b => ?_
  have hxs : a ≠ hp.objs.size := Nat.ne_of_lt (Heap.lt_size ho)
  have hcls : PySem.W.Looks (model X.prog X.w) hp (classData C) cd := PySem.W.looks_clsIn I.kIn hcl
  have fin : ∀ h' tk', h'.Ns1 hp.objs.size (fun y => if y = f then some u else none) → (∀ b o, b ≠ a → hp.get? b = some o → h'.get? b = some o) → h'.get? a = some ({ cls := .ref C, dict := some hp.objs.size, data := .fields #[.ref t1, .none, .none, .none, .bool false, .none] } : Obj) → Q () ⟨h', g, d, tk', os⟩ := fun h' tk' hn k hx => by
    have hnd : H hp.objs.size = none := I.hok.fresh (Nat.le_refl _)
    have nd : ∀ {b : Addr} {o : Obj}, hp.get? b = some o → b ≠ hp.objs.size := fun {b o} q => Nat.ne_of_lt (Heap.lt_size q)
    have na : ∀ {b : Addr}, H b = none → b ≠ a := fun {b} n z => by
      rw [z, e] at n
      cases n
    have Un1 : Un X.fs [] H (upd (upd H hp.objs.size (exd hp.objs.size [(f, y)])) a (exo a C (some hp.objs.size))) hp h' := {
      keep := fun b o q n _ _ => k b o (na n) q
      slot := fun b o q n _ _ => ⟨o.slots, k b o (na n) q⟩
      free := fun b o q n _ => by rw [upd_ne (na n), upd_ne (nd q)]; exact n
      there := fun b o q _ => by
        by_cases hb : b = a
        · exact ⟨_, by rw [hb]; exact hx⟩
        · exact ⟨o, k b o hb q⟩
      tups := fun b xs q => by rw [upd_ne (at_ne e q exo_tup), upd_ne (ne_of_none q hnd)]; exact q
      frzs := fun b o v q => by rw [upd_ne (at_ne e q exo_frz), upd_ne (ne_of_none q hnd)]; exact q
      tbls := fun b ps q => ⟨#[], by rw [upd_ne (at_ne e q exo_tbl), upd_ne (ne_of_none q hnd), q]; simp⟩ }
    refine h _ _ hnd hxs.symm (I.un (t' := tk') Un1 fun b o q => ?_)
    by_cases hb : b = a
    · subst hb
      rw [upd_same] at q
      cases q
      exact exo_ok hx
    · rw [upd_ne hb] at q
      by_cases hd : b = hp.objs.size
      · subst hd
        rw [upd_same] at q
        cases q
        exact exd_ok hn (relO_put (fs := []) ry fun g => True.intro)
      · rw [upd_ne hd] at q
        exact (I.hok b o q).stay (fun c v hc z => k c v (by
            rcases hc with hc | hc
            · rw [hc]
              exact hb
            · exact at_ne e hc exo_own) z)
          (fun c hc => by rw [upd_ne (at_ne e hc exo_own), upd_ne (ne_of_none hc hnd)]; exact hc) (fun c xs hc => by rw [upd_ne (at_ne e hc exo_tup), upd_ne (ne_of_none hc hnd)]; exact hc)
  obtain ⟨nm, bs, mro, ns, qn, hdd, sn, sb, ab, col, del⟩ := cd
  dsimp only at hhd
  subst hhd
  unfold storeInOwnDict ownDictForStores
  repeat (first | with_reducible refine PySem.HandSPX.store_in_new ?_ ?_ | with_reducible refine wpAny_loadPart_at ho ?_ | with_reducible refine hcls.here ?_ | wp_step)
  · exact ⟨_, #[], _, (Heap.get?_update_ne _ _ _ _ hxs.symm).trans (Heap.get?_push_at rfl rfl), rfl, fun e he => absurd he (by simp), fun _ => rfl⟩
  · intro h' tk' hn' hs
    have hx₁ : (hp.push { cls := .type "dict", data := .dict #[] }).get? a = some ({ cls := .ref C, dict := none, data := .fields #[.ref t1, .none, .none, .none, .bool false, .none] } : Obj) := Heap.get?_push_of_some _ ho
    refine fin h' tk' hn' (fun b o hb ho => ?_) ?_
    · exact (hs.2 b (Nat.ne_of_lt (Heap.lt_size ho))).trans ((Heap.get?_update_ne _ _ _ _ hb).trans (Heap.get?_push_of_some _ ho))
    · exact (hs.2 a hxs).trans (Heap.get?_update_self _ hx₁ rfl)
end
section
open PySem.Builtin PySem.Builtin.ObjectAttr
variable {X : Cx} {pins : List (Addr × Obj)} {σ : L2.St} {H : Hp} {s : Shared} {a C dx : Addr} {f : Str} {y : V} {u : Value} {fs : List (Str × V)} {Q : Unit → Shared → Prop} {E : Value → Shared → Prop} {A : Around}
/-- a further one -/
theorem ost2 (T : ExC X.K C) (I : Inv X pins σ H s) (e : H a = some (exo a C (some dx))) (ed : H dx = some (exd dx fs)) (hl : fs.length ≤ 900) (hno : PySem.W.findIn X.K (.ref C) f = some none) (ry : RelV y u)
    (h : ∀ s', Inv X pins σ (upd H dx (exd dx ((f, y) :: fs))) s' → Q () s') : wpAny (model X.prog X.w) A (setAttr (.ref a) f u) Q E s := by
  obtain ⟨B, newId, initId, bmB, FB, SF, hI, hO⟩ := T.base
  obtain ⟨cd, hcl, hhd⟩ := PySem.W.any_some T.hd
  obtain ⟨t1, ho⟩ := exo_at I.hok e
  obtain ⟨mA, hns, rel⟩ := exd_at I.hok ed
  have hw := within_of rel
  obtain ⟨hp, g, d, t, os⟩ := s
  obtain ⟨oD, _, _, hoD, _, _⟩ := hns.count hw
  have inst : PySem.W.InstAt hp a ({ cls := .ref C, dict := some dx, data := .fields #[.ref t1, .none, .none, .none, .bool false, .none] } : Obj) C (some oD) := ⟨ho, rfl, rfl, hoD⟩
  refine PySem.W.set_plain I.kIn inst T.sa ?_
  refine PySem.W.osa_openX SF I.kIn inst hO (r := none) (by unfold PySem.W.takerIn; rw [hno]; rfl) fun b => ?_
  have hcls : PySem.W.Looks (model X.prog X.w) hp (classData C) cd := PySem.W.looks_clsIn I.kIn hcl
  have fin : ∀ h' tk', (∀ b o, b ≠ dx → hp.get? b = some o → h'.get? b = some o) → h'.Ns1 dx (fun y => if y = f then some u else mA y) → Q () ⟨h', g, d, tk', os⟩ := fun h' tk' k hn => by
    have hd : ∃ o, h'.get? dx = some o := by
      obtain ⟨o, _, _, e', _⟩ := hn
      exact ⟨o, e'⟩
    exact h _ (I.write (t' := tk') (x := dx) (e := dx) (o := exd dx ((f, y) :: fs)) (by rw [ed]; exact True.intro) (.inl rfl) k hd (exd_ok hn (relO_put ry rel)))
  obtain ⟨nm, bs, mro, ns, qn, hdd, sn, sb, ab, col, del⟩ := cd
  dsimp only at hhd
  subst hhd
  unfold storeInOwnDict ownDictForStores
  repeat (first | with_reducible refine PySem.OEX.store_in_old hns hw (by rw [List.length_map]; omega) ?_ | with_reducible refine wpAny_loadPart_at ho ?_ | with_reducible refine hcls.here ?_ | wp_step)
  intro h' tk' hn' hs
  exact fin h' tk' (fun b o hb ho => (hs.2 b hb).trans ho) hn'
end
/-- self.f = e in such an __init__ -/
def tOs (K : PySem.W.Frag) (f : Str) (to te : TE) : TS := fun D σ H => te σ H fun y H1 => to σ H1 fun x H2 => ∃ a C : Addr, x = .ref a ∧ ExC K C ∧ PySem.W.findIn K (.ref C) f = some none ∧
  ((H2 a = some (exo a C none) ∧ ∀ dx, H2 dx = none → dx ≠ a → D.nx σ (upd (upd H2 dx (exd dx [(f, y)])) a (exo a C (some dx)))) ∨
    ∃ (dx : Addr) (fs : List (Str × V)), H2 a = some (exo a C (some dx)) ∧ H2 dx = some (exd dx fs) ∧ fs.length ≤ 900 ∧ D.nx σ (upd H2 dx (exd dx ((f, y) :: fs))))
theorem ps_os {X : Cx} {o e : Expr} {f : Str} {to te : TE} {p' pos : Pos} (ho : PE X o to) (he : PE X e te) (hs : swapsWith e (some (.Attribute o f p')) pos.line X.env = pure false := by rfl) : PS X (.Assign [.Attribute o f p'] e pos) (tOs X.K f to te) := by
  refine ⟨fun pins s σ H D I h => ?_⟩
  refine plainObj_wpAny_Assign_Attribute (thn (he.run pins s σ H _ I h) fun v s1 ⟨y, H1, I1, r1, q1⟩ => thn (ho.run pins s1 σ H1 _ I1 q1) fun u s2 ⟨x, H2, I2, r2, a, C, ex, T, hno, q⟩ => ?_) hs
  subst ex
  obtain rfl : u = Value.ref a := r2
  rcases q with ⟨ea, q⟩ | ⟨dx, fs, ea, ed, hl, q⟩
  · exact ost1 T I2 ea hno r1 fun dx s' n ne J => ⟨σ, _, J, q dx n ne⟩
  · exact ost2 T I2 ea ed hl hno r1 fun s' J => ⟨σ, _, J, q⟩
/-- what such an __init__ does: it stores its parameters -/
def spI (C : Addr) (fs : List Str) : Sp := fun vs H Q _ => ∃ (a : Addr) (ws : List V), vs = .ref a :: ws ∧ ws.length = fs.length ∧ H a = some (exo a C none) ∧ ∀ d, H d = none → d ≠ a → Q .non (upd (upd H d (exd d (fs.zip ws).reverse)) a (exo a C (some d)))
/-- the class may be raised: its __init__, the fields that it stores -/
def Rk (b : G0) (j : Nat) (C : Addr) (fs : List Str) : Prop := ExC b.K C ∧ ∃ (fI : Addr) (fd : FuncData) (ps : List Str), PySem.W.findIn b.K (.ref C) "__init__" = some (some (.ref fI)) ∧ PySem.W.typeIn b.K (.ref fI) = some (.type "function") ∧ ps.length = fs.length + 1 ∧
  FnOk b.P b.w b.K b.mg b.base (L2.CX b.P b.w) j fI fd ps (spI C fs) ∧ Binds b.K fd ps []
section
variable {X : Cx} {e : Expr} {es : List Expr} {ta : TA} {p pos : Pos}
theorem pmk_ex {b : G0} {x : Str} {C fI : Addr} {j : Nat} {fd : FuncData} {ps fs : List Str} (T : ExC X.K C) (iC : PySem.W.findIn X.K (.ref C) "__init__" = some (some (.ref fI))) (tI : PySem.W.typeIn X.K (.ref fI) = some (.type "function")) (hps : ps.length = fs.length + 1)
    (F1 : FnOk X.prog X.w X.K X.mg X.base (L2.CX X.prog X.w) j fI fd ps (spI C fs)) (hr : Room (j + 1) X.A) (hb : Binds X.K fd ps []) (hx : Passes (L2.CX X.prog X.w) X (fun _ _ _ => False)) (hg : Gl X x) (hm : X.mg x = some (.ref C)) (ha : PA X (e :: es) ta)
    (hdb : (x == ("__debug__" : Str)) = false := by decide) (he : starEach (e :: es) X.env = (false, eval e X.env) :: starEach es X.env := by rfl) (hpl : (backTo pos (starEach es X.env)).any (·.1) = false := by rfl) :
    PMk X (.Call (.Name x p) (e :: es) [] pos) (fun σ H Q => ta σ H fun vs H1 => vs.length = fs.length ∧ vs.length ≤ 1000 ∧ ∀ d, H1 d = none → Q (.ref C) (some d) (upd H1 d (.xd (fs.zip vs).reverse))) := by
  intro pins s σ H Q I h
  obtain ⟨B, newId, initId, bmB, FB, SF, hI, hO⟩ := T.base
  refine wpAny_Call_Name_kw (ld_glob I hg hm ?_ hdb)
  refine PySem.W.callWith_K (h₀ := X.base) I.ok.mod.kin T.kC (thn (ha.run pos pins s σ H _ I h) fun us s1 ⟨vs, H1, I1, r1, hlv, hz, q1⟩ => ⟨I1.kIn, ?_⟩) he hpl
  show wpAny _ _ (call (.ref C) us) _ _ _
  obtain ⟨nm, N, q, bs, bm, hdct, sn, sub, ab, col, dd, k0, k1, k2, k3, k5, hC, hT⟩ := PySem.W.excInit_of I1.kIn hI
  obtain ⟨hp, g, dr, tk, os⟩ := s1
  have hsz : hp.objs.size ≤ hp.objs.size + 1 := Nat.le_succ _
  have hn : H1 (hp.objs.size + 1) = none := I1.hok.fresh hsz
  have kk : ∀ b o, hp.get? b = some o → ((hp.push (PySem.W.kdv_tup us)).push (PySem.HandSPX.excO C hp.objs.size)).get? b = some o := fun b o e => Heap.get?_push_of_some _ (Heap.get?_push_of_some _ e)
  have hget : ((hp.push (PySem.W.kdv_tup us)).push (PySem.HandSPX.excO C hp.objs.size)).get? (hp.objs.size + 1) = some (PySem.HandSPX.excO C hp.objs.size) := by heap_get
  have I2 : Inv X pins σ (upd H1 (hp.objs.size + 1) (exo (hp.objs.size + 1) C none)) ⟨(hp.push (PySem.W.kdv_tup us)).push (PySem.HandSPX.excO C hp.objs.size), g, dr, tk, os⟩ :=
    I1.laid (t' := tk) (a := hp.objs.size + 1) (o := exo (hp.objs.size + 1) C none) (h' := (hp.push (PySem.W.kdv_tup us)).push (PySem.HandSPX.excO C hp.objs.size)) kk hsz (exo_ok hget)
  have r2 : Vals (V.ref (hp.objs.size + 1) :: vs) (Value.ref (hp.objs.size + 1) :: us) := .cons rfl r1
  have hus : us.length ≤ sizeLine := by
    rw [← Paired.length r1, sizeLine_eq]
    omega
  have hl : (Value.ref (hp.objs.size + 1) :: us ++ []).length = ps.length := by
    rw [List.append_nil, List.length_cons, ← r1.length, hlv, hps]
  have bt := hb ⟨(hp.push (PySem.W.kdv_tup us)).push (PySem.HandSPX.excO C hp.objs.size), g, dr, tk, os⟩ (Value.ref (hp.objs.size + 1) :: us) I2.kIn hl
  rw [List.append_nil] at bt
  refine wpAny_call (PySem.HandSPX.call_own FB hT hC (PySem.W.looks_findIn I1.kIn iC) (fun self => PySem.W.bind_fn I1.kIn self tI) hus
    (codeAny_mono (F1.run _ X.stack _ _ ⟨Value.ref (hp.objs.size + 1) :: us, []⟩ (Value.ref (hp.objs.size + 1) :: us) _
      (fun v H2 => v = .non ∧ ∃ d : Addr, H1 d = none ∧ d ≠ hp.objs.size + 1 ∧ H2 = upd (upd (upd H1 (hp.objs.size + 1) (exo (hp.objs.size + 1) C none)) d (exd d (fs.zip vs).reverse)) (hp.objs.size + 1) (exo (hp.objs.size + 1) C (some d))) (fun _ _ _ => False) (hr.make C us []) (I2.env0.make C us [])
      bt r2 ⟨_, vs, rfl, hlv, upd_same, fun d hd hne => ⟨rfl, d, by rw [upd_ne hne] at hd; exact hd, hne, rfl⟩⟩) fun r s' hq' => ?_))
  cases r with
  | error er => exact hx pins σ _ _ er s' I2 hq'
  | ok fl =>
    cases fl with
    | ret u =>
      obtain ⟨v, H2, os2, bare2, un2, hok2, rv, ev, d, hd1, hne, eH⟩ := hq'
      subst ev
      obtain ⟨h2, g2, d2, t2, os'⟩ := s'
      have ea : H2 (hp.objs.size + 1) = some (exo (hp.objs.size + 1) C (some d)) := by rw [eH, upd_same]
      have ed : H2 d = some (exd d (fs.zip vs).reverse) := by rw [eH, upd_ne hne, upd_same]
      have eF : upd (del H2 (hp.objs.size + 1)) d (.xd (fs.zip vs).reverse) = upd H1 d (.xd (fs.zip vs).reverse) := by
        funext b
        by_cases hb : b = d
        · rw [hb, upd_same, upd_same]
        · rw [upd_ne hb, upd_ne hb]
          by_cases hba : b = hp.objs.size + 1
          · rw [hba, del_same, hn]
          · rw [del_ne hba, eH, upd_ne hba, upd_ne hb, upd_ne hba]
      have q3 := q1 d hd1
      rw [← eF] at q3
      exact ⟨rv, mk_end (raises_own T.exC T.tyC) I1 hsz kk un2 hok2 os2 bare2 ea ed hd1 q3⟩
    | next => exact False.elim hq'
    | brk => exact False.elim hq'
    | cont => exact False.elim hq'
/-- X(), X an own exception class without an __init__ of its own -/
theorem pmk_ex0 {C : Addr} {bmB : List Value} {B newId initId : String} {x : Str} (F : ExcBaseFacts B newId initId bmB) (q : PySem.W.excIn X.K C bmB newId = true) (gC : X.mg x = some (.ref C)) (kC : PySem.W.keepIn X.K (.ref C) = true) (r : Raises X (.ref C)) (hg : Gl X x)
    (hdb : (x == ("__debug__" : Str)) = false := by decide) : PMk X (.Call (.Name x p) [] [] pos) (fun σ H Q => Q (.ref C) none H) := by
  intro pins s σ H Q I h
  refine wpAny_Call_Name_kw (ld_glob I hg gC ?_ hdb)
  refine PySem.W.callWith_K0 I.kIn kC ?_
  show wpAny _ _ (call (.ref C) []) _ _ _
  obtain ⟨bm, N, nm, qn, bs, hdct, sn, sub, ab, col, dd, k0, k1, k2, k3, k5, mN, hC, hN, hni, T⟩ := exc_obj I.kIn q
  refine wpAny_call_exc_subT F T hC hN hni (fun h' e hm => ?_) (by show 0 ≤ sizeLine; exact Nat.zero_le _)
  exact mk_of I hm r h (I.hok.gone hm.new)
end
/-! ### raise, over data -/
def sRaise (C : Str) (fs : List Str) (r : FA) : FS := fun env M => RS.then env (r env M) fun ds M1 => if ds.length = fs.length ∧ ds.length ≤ 1000 then .exc env C (fs.zip ds).reverse M1 else .stuck
def sRaise0 (C : Str) : FS := fun env M => .exc env C [] M
section
variable {g : G} {E : WX} {X : Cx} {k j : Nat} {e : Expr} {es : List Expr} {p pos pos' : Pos} {r : FA}
theorem VRf.zip {c : RC} : ∀ {fs : List Str} {vs : List V} {ds : List D}, VRs c vs ds → VRf c (fs.zip vs) (fs.zip ds)
  | [], _, _, _ => by simpa using VRf.nil
  | _ :: _, _, _, .nil => by simpa using VRf.nil
  | f :: fs, _, _, .cons r s => by simpa using VRf.cons r (VRf.zip s)
theorem VRf.append {c : RC} : ∀ {vs ws : List (Str × V)} {ds es : List (Str × D)}, VRf c vs ds → VRf c ws es → VRf c (vs ++ ws) (ds ++ es)
  | _, _, _, _, .nil, s => s
  | _, _, _, _, .cons r t, s => .cons r (VRf.append t s)
theorem VRf.reverse {c : RC} : ∀ {vs : List (Str × V)} {ds : List (Str × D)}, VRf c vs ds → VRf c vs.reverse ds.reverse
  | _, _, .nil => by simpa using VRf.nil
  | _, _, .cons r t => by
    rw [List.reverse_cons, List.reverse_cons]
    exact (VRf.reverse t).append (.cons r .nil)
theorem trA_thenS {f : FA} {kk : List D → Mem → RS} {s : L2.St} {H : Hp} {D' : Ends} {C : List V → Hp → Prop} {env : DEnv} {io : Nat → Addr} {M : Mem} (S : SR g io env M s H) (p : PostS g E io M H (RS.then env (f env M) kk) D')
    (hk : ∀ (d : List D) (M1 : Mem) (v : List V) (H1 : Hp) (io1 : Nat → Addr), ST io M H io1 M1 H1 → SR g io1 env M1 s H1 → VRs (rc g io1 M1 H1) v d → PostS g E io1 M1 H1 (kk d M1) D' → C v H1) : trA g E f s H C := by
  refine ⟨env, io, M, S, ?_⟩
  cases e : f env M with
  | ok d M1 =>
    rw [e] at p
    exact fun v H1 io1 t S1 r => hk d M1 v H1 io1 t S1 r (PostS.step t p)
  | exc C as M1 => rw [e] at p; exact fun dd H' io' t S' x => p s dd H' io' t S' x
  | stuck => rw [e] at p; exact p.elim
theorem noX (o : Ok g E X k) : Passes (L2.CX X.prog X.w) X (fun _ _ _ => False) := fun _ _ _ _ _ _ _ h => by
  obtain ⟨_, _, _, _, _, _, _, _, _, _, _, _, z⟩ := h
  exact z.elim
theorem ds_raise {x C : Str} {fs : List Str} {Ca : Addr} (o : Ok g E X k) (hC : g.ca C = Ca) (R : Rk g.toG0 j Ca fs) (hj : j + 1 ≤ k) (hg : Gl X x) (hm : g.mg x = some (.ref Ca)) (ha : DA g E X (e :: es) r)
    (hdb : (x == ("__debug__" : Str)) = false := by decide) (he : starEach (e :: es) X.env = (false, eval e X.env) :: starEach es X.env := by rfl) (hpl : (backTo pos (starEach es X.env)).any (·.1) = false := by rfl) :
    DS g E X (.Raise (some (.Call (.Name x p) (e :: es) [] pos)) none pos') (sRaise C fs r) := by
  obtain ⟨T, fI, fd, ps, iC, tI, hps, F1, hb⟩ := R
  have T' : ExC X.K Ca := by rw [o.K]; exact T
  have F1' : FnOk X.prog X.w X.K X.mg X.base (L2.CX X.prog X.w) j fI fd ps (spI Ca fs) := by rw [o.prog, o.w, o.K, o.mg, o.base]; exact F1
  refine PS.weak (ps_raise o.calm o.tk (pmk_ex (b := g.toG0) T' (by rw [o.K]; exact iC) (by rw [o.K]; exact tI) hps F1' (o.room.mono hj) (by rw [o.K]; exact hb) (noX o) hg (by rw [o.mg]; exact hm) ha hdb he hpl)) fun D s H ⟨env, io, M, S, z⟩ => ?_
  unfold sRaise at z
  refine trA_thenS S z fun ds M1 vs H1 io1 t S1 r1 p1 => ?_
  split at p1
  · rename_i hl
    refine ⟨(VRs.length r1).trans hl.1, by rw [VRs.length r1]; exact hl.2, fun d hd => ?_⟩
    have q := p1 s (some d) (upd H1 d (.xd (fs.zip vs).reverse)) io1 (.fresh hd) (S1.fresh hd) (.inr ⟨d, _, rfl, upd_same, (VRf.zip (VRs.mono S1.toMR (.fresh hd) r1)).reverse⟩)
    rw [hC] at q
    exact q
  · exact p1.elim
/-- an own exception class without an __init__ of its own -/
structure Rk0 (b : G0) (C : Addr) : Prop where
  base : ∃ (B newId initId : String) (bmB : List Value), ExcBaseFacts B newId initId bmB ∧ PySem.W.excIn b.K C bmB newId = true
  exC : PySem.W.subIn b.K (.ref C) (.type "BaseException") = some true
  tyC : PySem.W.typeIn b.K (.ref C) = some (.type "type")
  kC : PySem.W.keepIn b.K (.ref C) = true
theorem ds_raise0 {x C : Str} {Ca : Addr} (o : Ok g E X k) (hC : g.ca C = Ca) (R : Rk0 g.toG0 Ca) (hg : Gl X x) (hm : g.mg x = some (.ref Ca)) (hdb : (x == ("__debug__" : Str)) = false := by decide) :
    DS g E X (.Raise (some (.Call (.Name x p) [] [] pos)) none pos') (sRaise0 C) := by
  obtain ⟨B, newId, initId, bmB, F, q⟩ := R.base
  refine PS.weak (ps_raise o.calm o.tk (pmk_ex0 F (by rw [o.K]; exact q) (by rw [o.mg]; exact hm) (by rw [o.K]; exact R.kC) (raises_own (by rw [o.K]; exact R.exC) (by rw [o.K]; exact R.tyC)) hg hdb)) fun D s H ⟨env, io, M, S, z⟩ => ?_
  have q := z s none H io .refl S (.inl rfl)
  rw [hC] at q
  exact q
end
end DL

-- DlTry
set_option Elab.async false
set_option linter.all false
set_option maxRecDepth 100000
/-! DlTry: try with several clauses, each with a name for the exception or without. -/
namespace DL
open PySem PySem.Spec PyProof.Rows L2
/-- a clause: the class, the slot of its name, what its suite does with the exception at a -/
structure Cl where
  c : Value
  slot : Option Nat
  ts : Addr → Value → Option Addr → TS
def Cl.D (cl : Cl) (D : Ends) : Ends := match cl.slot with
  | none => D
  | some i => { nx := fun σ' H' => D.nx (σ'.set i none) H', rt := D.rt, bk := fun σ' H' => D.bk (σ'.set i none) H', ct := fun σ' H' => D.ct (σ'.set i none) H' }
def Cl.σ (cl : Cl) (a : Addr) (σ : L2.St) : L2.St := match cl.slot with
  | none => σ
  | some i => σ.set i (some (.ref a))
def wCl (K : PySem.W.Frag) (Wout : WX) (D : Ends) : List Cl → WX
  | [] => Wout
  | cl :: r => fun cls d σ H => ∃ b, PySem.W.exmOne K cls cl.c = some b ∧ (b = true → ∀ a, H a = none → cl.ts a cls d (cl.D D) (cl.σ a σ) H) ∧ (b = false → wCl K Wout D r cls d σ H)
inductive ClsOk (X : Cx) : List ExceptHandler → List Cl → Prop
  | nil : ClsOk X [] []
  | plain {x : Str} {c : Value} {ts : Addr → Value → Option Addr → TS} {b₀ : Stmt} {suite : List Stmt} {np pos' : Pos} {hds : List ExceptHandler} {l : List Cl} (hc : Names X x c)
      (hsu : ∀ (a : Addr) (oe : Obj) (cls : Value) (d : Option Addr) (pn : List (Addr × Obj)), Zc cls d oe → (∃ vs, oe.data = .fields vs) → PSs (X.suite a ((a, oe) :: pn)) (b₀ :: suite) (ts a cls d)) (r : ClsOk X hds l) :
      ClsOk X (.ExceptHandler (some (.Name x np)) none (b₀ :: suite) pos' :: hds) (⟨c, none, ts⟩ :: l)
  | named {x n : Str} {i : Nat} {c : Value} {ts : Addr → Value → Option Addr → TS} {b₀ : Stmt} {suite : List Stmt} {np pos' : Pos} {hds : List ExceptHandler} {l : List Cl} (hi : X.N[i]? = some n) (hln : X.env.kindOf n = some .local) (hc : Names X x c)
      (hsu : ∀ (a : Addr) (oe : Obj) (cls : Value) (d : Option Addr) (pn : List (Addr × Obj)), Zc cls d oe → (∃ vs, oe.data = .fields vs) → PSs (X.suite a ((a, oe) :: pn)) (b₀ :: suite) (ts a cls d)) (r : ClsOk X hds l) :
      ClsOk X (.ExceptHandler (some (.Name x np)) (some n) (b₀ :: suite) pos' :: hds) (⟨c, some i, ts⟩ :: l)
section
variable {X : Cx} {body : List Stmt} {h₀ : ExceptHandler} {hds : List ExceptHandler} {l : List Cl} {pos : Pos} {tb : WX → TS} {Wout : WX}
/-- the clauses, looked at from the left, with the exception on the ground -/
theorem clauses (hs : X.stack = X.env :: X.outer) (hf : X.env.frame = some X.env.locals) (hN : X.N.Nodup) (tk : Takes X Wout) {pins pins' : List (Addr × Obj)} {σ' : L2.St} {H' : Hp} {sI s3 : Shared} {B : Heap} {a : Addr} {cls : Value} {d : Option Addr} {D : Ends} (ok : X.Ok)
    (J : Inv X pins σ' H' sI) (nb : ∀ b o, sI.heap.get? b = some o → b ∉ frs X.stack → B.get? b = some o) (na : H' a = none) (os : s3.os = sI.os) (ag : AllBare s3.gens) (up3 : sI.heap.UpToSlots s3.heap) (fl3 : PySem.HandSPX.FlyingZ B (X.env :: X.outer) a (Zc cls d) s3.heap) :
    ∀ {hds : List ExceptHandler} {l : List Cl}, ClsOk X hds l → wCl X.K Wout D l cls d σ' H' → wpAny (model X.prog X.w) X.A (handleBy (.ref a) X.env hds) (SP X pins D) X.xe s3 := by
  have J3 : Inv X pins σ' H' s3 := J.landed nb fl3.1 up3 os ag
  obtain ⟨oe3, vs3, he3, hz3, hd3⟩ := fl3.there
  have nfr : a ∉ frs (X.env :: X.outer) := fun hm => by
    obtain ⟨_, o', e', hnf⟩ := fl3.2.2.1.mem hm
    rw [he3] at e'
    cases e'
    exact hnf _ hd3
  have nL : a ≠ X.env.locals := fun z => nfr (List.mem_filterMap.mpr ⟨X.env, List.mem_cons_self, by rw [hf, z]⟩)
  have nF : a ∉ X.fs := fun hm => by
    obtain ⟨e, he, q⟩ := List.mem_filterMap.mp hm
    exact nfr (List.mem_filterMap.mpr ⟨e, List.mem_cons_of_mem _ he, q⟩)
  have S3 := J3.suite he3 hd3 na nL nF
  have LM : ∀ {c : Value} {b : Bool}, PySem.W.exmOne X.K cls c = some b → PySem.W.Looks (model X.prog X.w) s3.heap _ b := fun {c b} hb => PySem.W.exm_one (M := model X.prog X.w) J3.kIn (fun A Q E s k q => wpAny_typeOf_ref (k _ _ he3) (by rw [hz3.1]; exact q)) hb
  have test : ∀ {x : Str} {c : Value} {np : Pos}, Names X x c → ∀ {Q : Value → Shared → Prop} {E : Value → Shared → Prop}, Q c s3 → wpAny (model X.prog X.w) (X.A.mark (some (.ref a))) (eval (.Name x np) X.env) Q E s3 := fun {x c np} hc {Q E} q => by
    obtain ⟨hg, hdbg, hm | ⟨hm, hv, hnn⟩⟩ := hc
    · exact ld_glob (X := X.suite a ((a, oe3) :: (X.pn ++ pins))) S3 hg hm q hdbg
    · exact ld_blt (X := X.suite a ((a, oe3) :: (X.pn ++ pins))) S3 hg hm hv q hnn hdbg
  intro hds l hk
  induction hk with
  | nil =>
    intro w
    refine wpAny_handleBy_nil ?_
    obtain ⟨k1, k2, k3, oe, vs, T, oT, ts', he, hz, hd, h1, hr⟩ := id fl3
    unfold PySem.passOn
    refine wpAny_bind (wpAny_field he hd h1 ?_)
    rw [if_neg (show ¬ ((Value.ref T == Value.none) = true) from by simp)]
    have fin : wpAny (model X.prog X.w) X.A (setFlight (.ref a) X.env.frame) (fun _ s4 => wpAny (model X.prog X.w) X.A (throw (.ref a) : Sem Flow) (SP X pins D) X.xe s4) X.xe s3 := by
      rw [hf]
      refine HandSPX.setFlight_upZ fl3 fun h4 hh4 up4 => wpAny_throw (tk _ _ ?_)
      exact ⟨a, B, sI, pins, σ', H', cls, d, rfl, J, nb, up3.trans up4, .inr (.inr (by rw [hs]; exact hh4)), na, os, ag, w⟩
    first
      | exact wpAny_bind (wpAny_pure (wpAny_bind fin))
      | exact wpAny_bind fin
  | @plain x c ts b₀ suite np pos' hds2 l2 hc hsu r ih =>
    intro ⟨b, hb1, hyes, hno⟩
    refine wpAny_handleBy_cons (codeAny_handlers_test ?_) (by intro q; cases q)
    refine test hc ((LM hb1).here ?_)
    cases b with
    | false => exact ih (hno rfl)
    | true =>
      refine codeAny_handlers_suite ?_
      refine HandSPX.lands_againZ fl3 fun h4 fl4 up4 => ?_
      have J4 : Inv X pins σ' H' { s3 with heap := h4 } := J.landed nb fl4.1 (up3.trans up4) os ag
      obtain ⟨oe4, vs4, he4, hz4, hd4⟩ := fl4.there
      refine wpAny_mono ((hsu a oe4 cls d (X.pn ++ pins) hz4 ⟨_, hd4⟩).run [] _ _ H' _ (J4.suite he4 hd4 na nL nF) (hyes rfl a na)) (fun f s6 hsp => ?_) (fun _ _ z => False.elim z)
      cases f with
      | next =>
        obtain ⟨σ6, H6, S6, q6⟩ := hsp
        exact ⟨_, _, S6.unsuite ok, q6⟩
      | brk =>
        obtain ⟨σ6, H6, S6, q6⟩ := hsp
        exact ⟨_, _, S6.unsuite ok, q6⟩
      | cont =>
        obtain ⟨σ6, H6, S6, q6⟩ := hsp
        exact ⟨_, _, S6.unsuite ok, q6⟩
      | ret u =>
        obtain ⟨v6, σ6, H6, S6, r6, q6⟩ := hsp
        exact ⟨_, _, _, S6.unsuite ok, r6, q6⟩
  | @named x n i c ts b₀ suite np pos' hds2 l2 hi hln hc hsu r ih =>
    intro ⟨b, hb1, hyes, hno⟩
    refine wpAny_handleBy_cons (codeAny_handlers_test ?_) (by intro q; cases q)
    refine test hc ((LM hb1).here ?_)
    cases b with
    | false => exact ih (hno rfl)
    | true =>
      refine codeAny_handlers_suite_as ?_
      refine HandSPX.lands_againZ fl3 fun h4 fl4 up4 => ?_
      have J4 : Inv X pins σ' H' { s3 with heap := h4 } := J.landed nb fl4.1 (up3.trans up4) os ag
      obtain ⟨oe4, vs4, he4, hz4, hd4⟩ := fl4.there
      refine store_ok (X := X.suite a ((a, oe4) :: (X.pn ++ pins))) (v := .ref a) (J4.suite he4 hd4 na nL nF) hN hi (.inl hln) rfl (fun s5 S5 => ?_) (.inr hln)
      refine wpAny_mono ((hsu a oe4 cls d (X.pn ++ pins) hz4 ⟨_, hd4⟩).run [] s5 _ H' _ S5 (hyes rfl a na)) (fun f s6 hsp => ?_) (fun _ _ z => False.elim z)
      have end_ : ∀ {σ6 : L2.St} {H6 : Hp} {Q : Shared → Prop}, Inv (X.suite a ((a, oe4) :: (X.pn ++ pins))) [] σ6 H6 s6 → (∀ s7, Inv X pins (σ6.set i none) H6 s7 → Q s7) →
          wpAny (model X.prog X.w) X.A (do bindName X.env n .none; unbindBehindTheSuite X.env n pos') (fun _ s7 => Q s7) X.xe s6 := fun {σ6 H6 Q} S6 hq => gone_ok (S6.unsuite ok) hN hi hln hq
      cases f with
      | next =>
        obtain ⟨σ6, H6, S6, q6⟩ := hsp
        exact end_ S6 fun s7 J7 => ⟨_, _, J7, q6⟩
      | brk =>
        obtain ⟨σ6, H6, S6, q6⟩ := hsp
        exact end_ S6 fun s7 J7 => ⟨_, _, J7, q6⟩
      | cont =>
        obtain ⟨σ6, H6, S6, q6⟩ := hsp
        exact end_ S6 fun s7 J7 => ⟨_, _, J7, q6⟩
      | ret u =>
        obtain ⟨v6, σ6, H6, S6, r6, q6⟩ := hsp
        exact end_ S6 fun s7 J7 => ⟨_, _, _, J7, r6, q6⟩
/-- try: body, then the clauses -/
theorem ps_tryN (hs : X.stack = X.env :: X.outer) (hf : X.env.frame = some X.env.locals) (hN : X.N.Nodup) (tk : Takes X Wout)
    (hb : ∀ (W : WX) (pn : List (Addr × Obj)) (xe : Value → Shared → Prop), Takes (X.tr pn xe) W → PassesOwn (model X.prog X.w) X.A X.env xe → PSs (X.tr pn xe) body (tb W))
    (hh : ClsOk X (h₀ :: hds) l) : PS X (.Try body (h₀ :: hds) [] [] pos) (fun D σ H => tb (wCl X.K Wout D l) D σ H) := by
  refine ⟨fun pins s σ H D I h => ?_⟩
  have ok := I.ok
  have hfr : X.A.frames = some (X.env :: X.outer) := by rw [ok.frames, hs]
  refine wpAny_Try_except (wpAny_mono ((hb (wCl X.K Wout D l) (X.pn ++ pins) (fun e s₁ => wpAny (model X.prog X.w) X.A (noteFrame e X.env) (fun _ s₂ => wpAny (model X.prog X.w) X.A (setFlight e none) (fun _ s₃ =>
    wpAny (model X.prog X.w) X.A (handleBy e X.env (h₀ :: hds)) (SP X pins D) X.xe s₃) X.xe s₂) X.xe s₁) (fun u s' xx => ?_) PassesOwn.looking).run [] s σ H D (I.toTry _) h) (fun f s1 hsp => ?_) (fun e s1 he => he))
  · obtain ⟨a, B, sI, pins', σ', H', cls, d, rfl, J', nb, up, sky, na, os, ag, w⟩ := xx
    have sky' : Sky B (X.env :: X.outer) a (Zc cls d) X.env.locals s'.heap := by rw [← hs]; exact sky
    show wpAny (model X.prog X.w) X.A (noteFrame (.ref a) X.env) _ _ _
    exact Sky.land Zc.steady hfr hf sky' fun h3 fl3 up3 => clauses (pins' := pins') (s3 := { s' with heap := h3 }) hs hf hN tk ok (J'.ofTry ok) nb na os ag (up.trans up3) fl3 hh w
  · cases f with
    | next =>
      obtain ⟨σ', H', J', q⟩ := hsp
      exact wpAny_execs_nil ⟨σ', H', J'.ofTry ok, q⟩
    | brk =>
      obtain ⟨σ', H', J', q⟩ := hsp
      exact ⟨σ', H', J'.ofTry ok, q⟩
    | cont =>
      obtain ⟨σ', H', J', q⟩ := hsp
      exact ⟨σ', H', J'.ofTry ok, q⟩
    | ret u =>
      obtain ⟨v, σ', H', J', r, q⟩ := hsp
      exact ⟨v, σ', H', J'.ofTry ok, r, q⟩
end
/-! ### over data -/
/-- which own exception class lies under which -/
abbrev STab := List ((Str × Str) × Bool)
def STab.Ok (g : G0) (t : STab) : Prop := ∀ C C' b, t.lookup (C, C') = some b → PySem.W.exmOne g.K (.ref (g.ca C)) (.ref (g.ca C')) = some b
structure ClD where
  C : Str
  slot : Option Nat
  f : Nat → Str → List (Str × D) → FS
def slotX (o : Option D) (slot : Option Nat) (env : DEnv) : DEnv := match slot with
  | none => env
  | some i => env.set i o
def RS.outX (slot : Option Nat) (r : RS) : RS := match r with
  | .next env M => .next (slotX none slot env) M
  | .ret d M => .ret d M
  | .brk env M => .brk (slotX none slot env) M
  | .cont env M => .cont (slotX none slot env) M
  | _ => .stuck
def handle (t : STab) : List ClD → DEnv → Str → List (Str × D) → Mem → RS
  | [], env, C, as, M => .exc env C as M
  | cl :: r, env, C, as, M => match t.lookup (C, cl.C) with
    | some true => (cl.f M.length C as (slotX (some (.ref M.length)) cl.slot env) (M ++ [.gone])).outX cl.slot
    | some false => handle t r env C as M
    | none => .stuck
def sTry (t : STab) (b : FS) (cls : List ClD) : FS := fun env M => match b env M with
  | .exc env1 C as M1 => handle t cls env1 C as M1
  | r => r
/-- the context of a suite -/
abbrev G.ex (g : G) (xi : Xi) : G := ⟨g.toG0, g.F, some xi, g.B⟩
inductive ClsD (g : G) (X : Cx) : List ExceptHandler → List ClD → Prop
  | nil : ClsD g X [] []
  | plain {x C : Str} {f : Nat → Str → List (Str × D) → FS} {b₀ : Stmt} {suite : List Stmt} {np pos' : Pos} {hds : List ExceptHandler} {l : List ClD} (hc : Names X x (.ref (g.ca C)))
      (hsu : ∀ (xi : Xi) (oe : Obj) (pn : List (Addr × Obj)), xi.lam = none → Zc (.ref (g.ca xi.C)) xi.d oe → (∃ vs, oe.data = .fields vs) → OkB (g.ex xi) (X.suite xi.a ((xi.a, oe) :: pn)) → DSs (g.ex xi) EN (X.suite xi.a ((xi.a, oe) :: pn)) (b₀ :: suite) (f xi.n xi.C xi.as)) (r : ClsD g X hds l) :
      ClsD g X (.ExceptHandler (some (.Name x np)) none (b₀ :: suite) pos' :: hds) (⟨C, none, f⟩ :: l)
  | named {x n C : Str} {i : Nat} {f : Nat → Str → List (Str × D) → FS} {b₀ : Stmt} {suite : List Stmt} {np pos' : Pos} {hds : List ExceptHandler} {l : List ClD} (hi : X.N[i]? = some n) (hln : X.env.kindOf n = some .local) (hc : Names X x (.ref (g.ca C)))
      (hsu : ∀ (xi : Xi) (oe : Obj) (pn : List (Addr × Obj)), xi.lam = none → Zc (.ref (g.ca xi.C)) xi.d oe → (∃ vs, oe.data = .fields vs) → OkB (g.ex xi) (X.suite xi.a ((xi.a, oe) :: pn)) → DSs (g.ex xi) EN (X.suite xi.a ((xi.a, oe) :: pn)) (b₀ :: suite) (f xi.n xi.C xi.as)) (r : ClsD g X hds l) :
      ClsD g X (.ExceptHandler (some (.Name x np)) (some n) (b₀ :: suite) pos' :: hds) (⟨C, some i, f⟩ :: l)
section
variable {g : G} {E : WX} {X : Cx} {k : Nat} {pos : Pos} {body : List Stmt} {h₀ : ExceptHandler} {hds : List ExceptHandler} {b : FS} {cls : List ClD} {t : STab}
/-- the reading of a suite -/
def tsD (g : G) (C0 : Str) (f : Nat → Str → List (Str × D) → FS) : Addr → Value → Option Addr → TS := fun a cls d D σ H => ∃ (n : Nat) (C : Str) (as : List (Str × DL.D)), cls = .ref (g.ca C) ∧ trS (g.ex ⟨n, a, d, C, as, none⟩) EN (f n C as) D σ H
theorem ClsD.ok (o : OkB g X) : ∀ {hds : List ExceptHandler} {cls : List ClD}, ClsD g X hds cls → ClsOk X hds (cls.map fun cl => ⟨.ref (g.ca cl.C), cl.slot, tsD g cl.C cl.f⟩)
  | _, _, .nil => .nil
  | _, _, .plain hc hsu r => .plain hc (fun a oe cls d pn hz hf => ⟨fun pins s σ H D I ⟨n, C, as, e, z⟩ => (hsu ⟨n, a, d, C, as, none⟩ oe pn rfl (e ▸ hz) hf ⟨o.prog, o.w, o.base, o.K, o.mg, o.nd, o.grd, o.un⟩).run pins s σ H D I z⟩) (r.ok o)
  | _, _, .named hi hln hc hsu r => .named hi hln hc (fun a oe cls d pn hz hf => ⟨fun pins s σ H D I ⟨n, C, as, e, z⟩ => (hsu ⟨n, a, d, C, as, none⟩ oe pn rfl (e ▸ hz) hf ⟨o.prog, o.w, o.base, o.K, o.mg, o.nd, o.grd, o.un⟩).run pins s σ H D I z⟩) (r.ok o)
theorem own_gone {io : Nat → Addr} {M : Mem} {a p : Addr} (h : OwnOf (ioN io M.length p) (M ++ [.gone]) a) : OwnOf io M a := by
  obtain ⟨i, u, e, ng, q⟩ := h
  rcases Nat.lt_or_ge i M.length with hi | hi
  · rw [List.getElem?_append_left hi] at e
    rw [ioN_ne (Nat.ne_of_lt hi)] at q
    exact ⟨i, u, e, ng, q⟩
  · rw [List.getElem?_append_right hi] at e
    cases hk : i - M.length with
    | zero => rw [hk] at e; simp at e; exact absurd e.symm ng
    | succ k => rw [hk] at e; simp at e
theorem ST.gone {io : Nat → Addr} {M : Mem} {H : Hp} {p : Addr} : ST io M H (ioN io M.length p) (M ++ [.gone]) H :=
  ⟨fun b o h n _ => ⟨h, fun z => n (own_gone z)⟩, fun i hi => ioN_ne (Nat.ne_of_lt hi), by simp⟩
theorem MR.gone {io : Nat → Addr} {M : Mem} {H : Hp} {p : Addr} (m : MR g io M H) : MR g (ioN io M.length p) (M ++ [.gone]) H := by
  have t : ST io M H (ioN io M.length p) (M ++ [.gone]) H := .gone
  have key : ∀ i w, (M ++ [MO.gone])[i]? = some w → w ≠ .gone → i < M.length ∧ M[i]? = some w := fun i w e n => by
    rcases Nat.lt_or_ge i M.length with hi | hi
    · rw [List.getElem?_append_left hi] at e; exact ⟨hi, e⟩
    · rw [List.getElem?_append_right hi] at e
      cases hk : i - M.length with
      | zero => rw [hk] at e; simp at e; exact absurd e.symm n
      | succ k => rw [hk] at e; simp at e
  refine ⟨fun i w e => ?_, fun i j w w' e e' n n' h => ?_, m.tab, m.frm_mono t, m.bor⟩
  · by_cases hg : w = .gone
    · subst hg; trivial
    obtain ⟨hi, e⟩ := key i w e hg
    have q := m.mem i w e
    rw [ioN_ne (Nat.ne_of_lt hi)]
    cases w with
    | gone => trivial
    | lst ds => obtain ⟨vs, h, r⟩ := q; exact ⟨vs, h, VRs.mono m t r⟩
    | dk ds => obtain ⟨vs, h, r⟩ := q; exact ⟨vs, h, VRk.mono m t r⟩
    | ins C fs => obtain ⟨dx, vs, h, r⟩ := q; exact ⟨dx, vs, h, VRf.mono m t r⟩
  · obtain ⟨hi, e⟩ := key i w e n
    obtain ⟨hj, e'⟩ := key j w' e' n'
    rw [ioN_ne (Nat.ne_of_lt hi), ioN_ne (Nat.ne_of_lt hj)] at h
    exact m.inj i j w w' e e' n n' h
theorem STab.at {C C' : Str} {b : Bool} (ht : t.Ok g.toG0) (e : t.lookup (C, C') = some b) : PySem.W.exmOne g.K (.ref (g.ca C)) (.ref (g.ca C')) = some b := ht C C' b e
theorem SR.toX {io : Nat → Addr} {env : DEnv} {M : Mem} {s : L2.St} {H : Hp} {xi : Xi} (S : SR g io env M s H) (h : (io xi.n = xi.a ∧ xi.n < M.length) ∧ XdP (rc g io M H) xi) : SR (g.ex xi) io env M s H :=
  ⟨⟨S.toMR.mem, S.toMR.inj, S.toMR.tab, S.toMR.frm, S.toMR.bor⟩, S.ev, S.len, fun p e => by cases e; exact h⟩
theorem SR.ofX {io : Nat → Addr} {env : DEnv} {M : Mem} {s : L2.St} {H : Hp} {xi : Xi} (S : SR (g.ex xi) io env M s H) (hx : ∀ p, g.xs = some p → (io p.n = p.a ∧ p.n < M.length) ∧ XdP (rc g io M H) p) : SR g io env M s H :=
  ⟨⟨S.toMR.mem, S.toMR.inj, S.toMR.tab, S.toMR.frm, S.toMR.bor⟩, S.ev, S.len, hx⟩
theorem SR.unslot {io : Nat → Addr} {env : DEnv} {M : Mem} {s : L2.St} {H : Hp} {i : Nat} (S : SR g io env M s H) : SR g io (env.set i none) M (s.set i none) H :=
  ⟨S.toMR, fun j d e => by
    by_cases hj : i = j
    · subst hj
      rw [List.getElem?_set] at e
      simp at e
    · rw [List.getElem?_set_ne hj] at e
      rw [List.getElem?_set_ne hj]
      exact S.ev j d e, by simpa using S.len, S.xd⟩
theorem hnd_ok (ht : t.Ok g.toG0) {D : Ends} {Wout : WX} (hW : Wout = E) : ∀ {cls : List ClD} {env : DEnv} {C : Str} {as : List (Str × DL.D)} {io : Nat → Addr} {M : Mem} {s : L2.St} {H : Hp} {dd : Option Addr}, SR g io env M s H → XR (rc g io M H) as dd →
    PostS g E io M H (handle t cls env C as M) D → wCl g.K Wout D (cls.map fun cl => ⟨.ref (g.ca cl.C), cl.slot, tsD g cl.C cl.f⟩) (.ref (g.ca C)) dd s H
  | [], env, C, as, io, M, s, H, dd, S, x, p => by
    rw [hW]
    exact p s dd H io .refl S x
  | cl :: r, env, C, as, io, M, s, H, dd, S, x, p => by
    unfold handle at p
    cases e : t.lookup (C, cl.C) with
    | none => rw [e] at p; exact p.elim
    | some b =>
      rw [e] at p
      refine ⟨b, ht _ _ _ e, fun hb a na => ?_, fun hb => ?_⟩
      · subst hb
        dsimp only at p
        refine ⟨M.length, C, as, rfl, ?_⟩
        have t0 : ST io M H (ioN io M.length a) (M ++ [.gone]) H := .gone
        have S1 : SR g (ioN io M.length a) env (M ++ [.gone]) s H := S.later t0 S.toMR.gone
        have rv : VR (rc g (ioN io M.length a) (M ++ [.gone]) H) (.ref a) (.ref M.length) := by
          have w : VR (rc g (ioN io M.length a) (M ++ [.gone]) H) (.ref (ioN io M.length a M.length)) (.ref M.length) := .ref (by simp)
          rw [ioN_same] at w
          exact w
        have S2 : SR g (ioN io M.length a) (slotX (some (.ref M.length)) cl.slot env) (M ++ [.gone]) (Cl.σ ⟨.ref (g.ca cl.C), cl.slot, tsD g cl.C cl.f⟩ a s) H := by
          unfold slotX Cl.σ
          cases cl.slot with
          | none => exact S1
          | some i => exact S1.set rv
        have S3 : SR (g.ex ⟨M.length, a, dd, C, as, none⟩) (ioN io M.length a) (slotX (some (.ref M.length)) cl.slot env) (M ++ [.gone]) (Cl.σ ⟨.ref (g.ca cl.C), cl.slot, tsD g cl.C cl.f⟩ a s) H := S2.toX ⟨⟨ioN_same, by simp⟩, by
          rcases x with x | ⟨d, vs, e1, e2, r2⟩
          · exact .inl x
          · exact .inr ⟨d, vs, e1, e2, VRf.mono S.toMR t0 r2⟩⟩
        refine ⟨_, _, _, S3, ?_⟩
        cases e2 : cl.f M.length C as (slotX (some (.ref M.length)) cl.slot env) (M ++ [.gone]) with
        | stuck => rw [e2] at p; exact p.elim
        | exc env' C' as' M' => rw [e2] at p; exact p.elim
        | ret d M' =>
          rw [e2] at p
          have q : (Cl.D ⟨.ref (g.ca cl.C), cl.slot, tsD g cl.C cl.f⟩ D).rt = D.rt := by unfold Cl.D; cases cl.slot <;> rfl
          show ∀ v H' io', _ → _ → _ → (Cl.D ⟨.ref (g.ca cl.C), cl.slot, tsD g cl.C cl.f⟩ D).rt v H'
          rw [q]
          exact fun v H' io' t' m' r' => p v H' io' (t0.trans t') ⟨m'.mem, m'.inj, m'.tab, m'.frm, m'.bor⟩ r'
        | next env' M' =>
          rw [e2] at p
          intro s' H' io' t' S'
          obtain ⟨C2, slot, f⟩ := cl
          cases slot with
          | none => exact p s' H' io' (t0.trans t') (SR.ofX S' (S.xm (t0.trans t')))
          | some i => exact p (s'.set i none) H' io' (t0.trans t') (SR.unslot (SR.ofX S' (S.xm (t0.trans t'))))
        | brk env' M' =>
          rw [e2] at p
          intro s' H' io' t' S'
          obtain ⟨C2, slot, f⟩ := cl
          cases slot with
          | none => exact p s' H' io' (t0.trans t') (SR.ofX S' (S.xm (t0.trans t')))
          | some i => exact p (s'.set i none) H' io' (t0.trans t') (SR.unslot (SR.ofX S' (S.xm (t0.trans t'))))
        | cont env' M' =>
          rw [e2] at p
          intro s' H' io' t' S'
          obtain ⟨C2, slot, f⟩ := cl
          cases slot with
          | none => exact p s' H' io' (t0.trans t') (SR.ofX S' (S.xm (t0.trans t')))
          | some i => exact p (s'.set i none) H' io' (t0.trans t') (SR.unslot (SR.ofX S' (S.xm (t0.trans t'))))
      · subst hb
        exact hnd_ok ht hW S x p
/-- try: body, clauses -/
theorem ds_try (o : Ok g E X k) (hs : X.stack = X.env :: X.outer) (hf : X.env.frame = some X.env.locals) (ht : t.Ok g.toG0)
    (hb : ∀ (E' : WX) (pn : List (Addr × Obj)) (xe : Value → Shared → Prop), Ok g E' (X.tr pn xe) k → DSs g E' (X.tr pn xe) body b) (hh : ClsD g X (h₀ :: hds) cls) : DS g E X (.Try body (h₀ :: hds) [] [] pos) (sTry t b cls) := by
  refine PS.weak (ps_tryN (tb := fun W => trS g W b) hs hf o.nd o.tk (fun W pn xe tk ow => hb W pn xe ⟨⟨o.prog, o.w, o.base, o.K, o.mg, o.nd, o.grd, o.un⟩, o.calm, tk, o.room, ow⟩) (hh.ok o.toOkB)) fun D s H ⟨env, io, M, S, z⟩ => ?_
  refine ⟨env, io, M, S, ?_⟩
  unfold sTry at z
  cases e : b env M with
  | stuck => rw [e] at z; exact z.elim
  | next env' M' => rw [e] at z; exact z
  | brk env' M' => rw [e] at z; exact z
  | cont env' M' => rw [e] at z; exact z
  | ret d M' => rw [e] at z; exact z
  | exc env' C as M' =>
    rw [e] at z
    dsimp only at z
    intro s' dd H' io' t' S' x
    rw [o.K]
    exact hnd_ok ht rfl S' x (PostS.step t' z)
end
end DL

-- DlOps
set_option Elab.async false
set_option linter.all false
set_option maxRecDepth 100000
set_option maxHeartbeats 2000000
/-! DlOps: operators, comparisons, subscripts, slices, built-ins over data. -/
namespace DL
open PySem PySem.Spec PyProof.Rows L2
/-! ### sequences -/
/-- a list that may be written at, or that is data -/
def lx (M : Mem) : D → Option (List D)
  | .lst ds => some ds
  | .bor ds => some ds
  | .ref i => (match M[i]? with
    | some (.lst ds) => some ds
    | _ => none)
  | _ => none
/-- any list -/
def lsD (M : Mem) : D → Option (List D)
  | .scr ns => some (ns.map D.int)
  | d => lx M d
def tpD : D → Option (List D)
  | .tup ds => some ds
  | _ => none
section
variable {g : G} {io : Nat → Addr} {M : Mem} {H : Hp} {v : V} {d : D} {ds : List D}
theorem lx_at (m : MR g io M H) (r : VR (rc g io M H) v d) (e : lx M d = some ds) : ∃ a vs, v = .ref a ∧ H a = some (.lst vs) ∧ VRs (rc g io M H) vs ds := by
  unfold lx at e
  split at e
  · cases e
    cases r with
    | lst h n r => exact ⟨_, _, rfl, h, r⟩
  · cases e
    cases r with
    | bor h n r => exact ⟨_, _, rfl, h, r⟩
  · rename_i i
    split at e
    · rename_i ds' e'
      cases e
      cases r with
      | ref hi =>
        obtain ⟨vs, h, r⟩ := m.mem i _ e'
        exact ⟨_, vs, rfl, h, r⟩
    · cases e
  · cases e
theorem lsD_at (m : MR g io M H) (r : VR (rc g io M H) v d) (e : lsD M d = some ds) : ∃ a vs, v = .ref a ∧ SqL g.K H a vs ∧ VRs (rc g io M H) vs ds := by
  unfold lsD at e
  split at e
  · cases e
    cases r with
    | scr h => exact ⟨_, _, rfl, h.sq, VRs.ofInts _⟩
  · obtain ⟨a, vs, e1, h, r'⟩ := lx_at m r e
    exact ⟨a, vs, e1, .inl (.of h), r'⟩
theorem tpD_at (r : VR (rc g io M H) v d) (e : tpD d = some ds) : ∃ a vs, v = .ref a ∧ SqT g.K H a vs ∧ VRs (rc g io M H) vs ds := by
  unfold tpD at e
  split at e
  · cases e
    cases r with
    | tup h r => exact ⟨_, _, rfl, h, r⟩
  · cases e
end
theorem OpR.or {X : Cx} {f : Value → Value → Sem Value} {r r' : R2} (h : OpR X f r) (h' : OpR X f r') : OpR X f (fun x y H Q => r x y H Q ∨ r' x y H Q) := by
  intro pins s σ H x y v u Q I rx ry q
  rcases q with q | q
  · exact h pins s σ H x y v u Q I rx ry q
  · exact h' pins s σ H x y v u Q I rx ry q
theorem CallR.or {X : Cx} {f : Value} {r r' : List V → Hp → VK → Prop} (h : CallR X f r) (h' : CallR X f r') : CallR X f (fun xs H Q => r xs H Q ∨ r' xs H Q) := by
  intro pins s σ H xs us Q I rx q
  rcases q with q | q
  · exact h pins s σ H xs us Q I rx q
  · exact h' pins s σ H xs us Q I rx q
/-! ### + -/
def kCat (M : Mem) (xs ys : Option (List D)) : R D := match xs, ys with
  | some xs, some ys => if xs.length + ys.length ≤ 16777216 then .ok (.lst (xs ++ ys)) M else .stuck
  | _, _ => .stuck
def kAdd (a b : D) (M : Mem) : R D := match a, b with
  | .int i, .int j => .ok (.int (i + j)) M
  | .str x, .str y => if x.length + y.length ≤ 16777216 then .ok (.str (x ++ y)) M else .stuck
  | .tup xs, .tup ys => if xs.length + ys.length ≤ 16777216 then .ok (.tup (xs ++ ys)) M else .stuck
  | a, b => kCat M (lx M a) (lx M b)
def rAddD (K : PySem.W.Frag) : R2 := fun x y H Q => (∃ i j, x = .int i ∧ y = .int j ∧ Q (.int (i + j)) H) ∨ (∃ i j, x = .str i ∧ y = .str j ∧ i.length + j.length ≤ sizeLine ∧ Q (.str (i ++ j)) H) ∨ rCatA K x y H Q ∨ rCat x y H Q
theorem op_addD {X : Cx} : OpR X (binaryOp .Add) (rAddD X.K) := OpR.or op_add (OpR.or op_add_str (OpR.or op_catA op_cat))
section
variable {g : G}
theorem two_add : Two g (rAddD g.K) kAdd := by
  intro E io env M s H v w a b Q S r1 r2 p
  unfold kAdd at p
  split at p
  · cases r1; cases r2
    exact .inl ⟨_, _, rfl, rfl, PostE.here p S (.int _)⟩
  · cases r1; cases r2
    split at p
    · rename_i hl
      exact .inr (.inl ⟨_, _, rfl, rfl, line_eq hl, PostE.here p S (.str _)⟩)
    · exact p.elim
  · cases r1 with
    | tup h1 r1 =>
      cases r2 with
      | tup h2 r2 =>
        split at p
        · rename_i hl
          refine .inr (.inr (.inl ⟨_, _, _, _, rfl, rfl, h1, h2, by rw [VRs.length r1, VRs.length r2]; exact line_eq hl, fun e => ?_, fun e1 e2 => ?_, fun _ _ q hq => PostE.newTup p S (r1.append r2) q hq⟩))
          · subst e
            cases r1
            exact PostE.here p S (.tup h2 r2)
          · subst e2
            cases r2
            rw [List.append_nil] at p
            exact PostE.here p S (.tup h1 r1)
        · exact p.elim
  · unfold kCat at p
    split at p
    · rename_i xs ys e1 e2
      split at p
      · rename_i hl
        obtain ⟨a1, vs, rfl, h1, q1⟩ := lx_at S.toMR r1 e1
        obtain ⟨a2, ws, rfl, h2, q2⟩ := lx_at S.toMR r2 e2
        exact .inr (.inr (.inr ⟨a1, a2, vs, ws, rfl, rfl, h1, h2, by rw [VRs.length q1, VRs.length q2]; exact line_eq hl, fun q hq => PostE.newLst p S (q1.append q2) q hq⟩))
      · exact p.elim
    · exact p.elim
end
/-! ### ints -/
def kI (f : Int → Int → Option D) (a b : D) (M : Mem) : R D := match a, b with
  | .int i, .int j => R.of (f i j) M
  | _, _ => .stuck
def kSub := kI fun i j => some (.int (i - j))
def kMulI := kI fun i j => if (-(2 ^ 64) < i ∧ i < 2 ^ 64) ∨ (-(2 ^ 64) < j ∧ j < 2 ^ 64) then some (.int (i * j)) else none
def kFdiv := kI fun i j => if 0 < j ∧ j < 2 ^ 200 then some (.int (i / j)) else none
def kMod := kI fun i j => if 0 < j then some (.int (i % j)) else none
def kPow := kI fun i j => if 0 ≤ j ∧ j ≤ 1000 ∧ i.natAbs < 2 ^ 64 then some (.int (i ^ j.toNat)) else none
def kLt := kI fun i j => some (.bl (decide (i < j)))
def kLe := kI fun i j => some (.bl (decide (i ≤ j)))
def kGt := kI fun i j => some (.bl (decide (j < i)))
def kGe := kI fun i j => some (.bl (decide (j ≤ i)))
section
variable {g : G}
theorem two_I {C : Int → Int → Prop} {h : Int → Int → V} {f : Int → Int → Option D} (hf : ∀ i j d, f i j = some d → C i j ∧ ∀ c, VR c (h i j) d) : Two g (rI C h) (kI f) := by
  intro E io env M s H v w a b Q S r1 r2 p
  unfold kI at p
  split at p
  · rename_i i j
    cases r1; cases r2
    cases e : f i j with
    | none => rw [e] at p; exact p.elim
    | some d =>
      rw [e] at p
      exact ⟨i, j, rfl, rfl, (hf i j d e).1, PostE.here p S ((hf i j d e).2 _)⟩
  · exact p.elim
theorem two_I0 {h : Int → Int → V} {f : Int → Int → Option D} (hf : ∀ i j d, f i j = some d → ∀ c, VR c (h i j) d) : Two g (rI0 h) (kI f) := by
  intro E io env M s H v w a b Q S r1 r2 p
  unfold kI at p
  split at p
  · rename_i i j
    cases r1; cases r2
    cases e : f i j with
    | none => rw [e] at p; exact p.elim
    | some d =>
      rw [e] at p
      exact ⟨i, j, rfl, rfl, PostE.here p S (hf i j d e _)⟩
  · exact p.elim
theorem two_sub : Two g (rI0 fun i j => .int (i - j)) kSub := two_I0 fun i j d e c => by cases e; exact .int _
theorem two_mulI : Two g (rI CMul fun i j => .int (i * j)) kMulI := two_I fun i j d e => by
  split at e
  · rename_i h
    cases e
    exact ⟨h, fun c => .int _⟩
  · cases e
theorem log2_small {j : Int} (h : 0 < j ∧ j < 2 ^ 200) : CDivW i j := by
  refine ⟨h.1, ?_⟩
  have h2 : j.natAbs < 2 ^ 200 := by
    have h3 : (j.natAbs : Int) = j := Int.natAbs_of_nonneg (by omega)
    have h4 : ((2 ^ 200 : Nat) : Int) = (2 : Int) ^ 200 := by norm_cast
    have := h.2
    omega
  exact Nat.lt_of_lt_of_le (PySem.Flt.log2_lt_of (k := 200) (by decide) h2) (by decide)
theorem two_fdiv : Two g (rI CDivW fun i j => .int (i / j)) kFdiv := two_I fun i j d e => by
  split at e
  · rename_i h
    cases e
    exact ⟨log2_small h, fun c => .int _⟩
  · cases e
theorem two_mod : Two g (rI (fun _ j => 0 < j) fun i j => .int (i % j)) kMod := two_I fun i j d e => by
  split at e
  · rename_i h
    cases e
    exact ⟨h, fun c => .int _⟩
  · cases e
theorem two_pow : Two g (rI CPow fun i j => .int (i ^ j.toNat)) kPow := two_I fun i j d e => by
  split at e
  · rename_i h
    cases e
    exact ⟨⟨h.1, by omega, h.2.2⟩, fun c => .int _⟩
  · cases e
theorem two_lt : Two g (rI0 fun i j => .bl (decide (i < j))) kLt := two_I0 fun i j d e c => by cases e; exact .bl _
theorem two_le : Two g (rI0 fun i j => .bl (decide (i ≤ j))) kLe := two_I0 fun i j d e c => by cases e; exact .bl _
theorem two_gt : Two g (rI0 fun i j => .bl (decide (j < i))) kGt := two_I0 fun i j d e c => by cases e; exact .bl _
theorem two_ge : Two g (rI0 fun i j => .bl (decide (j ≤ i))) kGe := two_I0 fun i j d e c => by cases e; exact .bl _
end
def kNeg (a : D) (M : Mem) : R D := match a with
  | .int i => .ok (.int (-i)) M
  | _ => .stuck
theorem one_neg {g : G} : One g (rU fun i => .int (-i)) kNeg := by
  intro E io env M s H v a Q S r p
  unfold kNeg at p
  split at p
  · cases r
    exact ⟨_, rfl, PostE.here p S (.int _)⟩
  · exact p.elim
/-- a list or a tuple or an int times an int -/
def kRep (a b : D) (M : Mem) : R D := match lx M a, b with
  | some xs, .int k => if k ≤ 1000000 ∧ -1000000 ≤ k ∧ xs.length * k.toNat ≤ 16777216 then .ok (.lst (List.replicate k.toNat xs).flatten) M else .stuck
  | _, _ => .stuck
/-! ### == -/
def D.py (M : Mem) : Nat → D → Option PyData
  | 0, _ => none
  | _ + 1, .non => some .none
  | _ + 1, .bl b => some (.bool b)
  | _ + 1, .int i => some (.int i)
  | _ + 1, .str x => some (.str x)
  | n + 1, .tup ds => (ds.mapM (D.py M n)).map .tuple
  | n + 1, d => match lsD M d with
    | some ds => (ds.mapM (D.py M n)).map .list
    | none => none
section
variable {g : G} {io : Nat → Addr} {M : Mem} {H : Hp}
theorem pys_dp {n : Nat} (ih : ∀ {v : V} {d : D} {p : PyData}, VR (rc g io M H) v d → D.py M n d = some p → Dp g.K H v p) : ∀ {vs : List V} {ds : List D} {ps : List PyData}, VRs (rc g io M H) vs ds → ds.mapM (D.py M n) = some ps → DpAll g.K H vs ps
  | _, _, ps, .nil, e => by simp at e; subst e; exact .nil
  | _, d :: ds, ps, .cons r t, e => by
    rw [List.mapM_cons] at e
    cases e1 : D.py M n d with
    | none => rw [e1] at e; cases e
    | some p =>
      rw [e1] at e
      cases e2 : ds.mapM (D.py M n) with
      | none => rw [e2] at e; cases e
      | some qs =>
        rw [e2] at e
        cases e
        exact .cons (ih r e1) (pys_dp ih t e2)
theorem py_dp (m : MR g io M H) : ∀ (n : Nat) {v : V} {d : D} {p : PyData}, VR (rc g io M H) v d → D.py M n d = some p → Dp g.K H v p
  | 0, _, _, _, _, e => by cases e
  | n + 1, v, d, p, r, e => by
    have lst : ∀ {d : D}, VR (rc g io M H) v d → (match lsD M d with | some ds => (ds.mapM (D.py M n)).map PyData.list | none => none) = some p → Dp g.K H v p := fun {d} r e => by
      cases e1 : lsD M d with
      | none => rw [e1] at e; cases e
      | some ds =>
        rw [e1] at e
        dsimp only at e
        obtain ⟨ps, e2, rfl⟩ := Option.map_eq_some_iff.mp e
        obtain ⟨a, vs, rfl, hs, rs⟩ := lsD_at m r e1
        exact .lst hs (pys_dp (fun r e => py_dp m n r e) rs e2)
    cases d with
    | non => cases e; cases r; exact .non
    | bl b => cases e; cases r; exact .bl b
    | int i => cases e; cases r; exact .int i
    | str x => cases e; cases r; exact .str x
    | tup ds =>
      obtain ⟨ps, e2, rfl⟩ := Option.map_eq_some_iff.mp (show (ds.mapM (D.py M n)).map PyData.tuple = some p from e)
      cases r with
      | tup h r => exact .tup h (pys_dp (fun r e => py_dp m n r e) r e2)
    | lst ds => exact lst r e
    | dk kvs => exact lst r e
    | ref i => exact lst r e
    | ty x => exact lst r e
    | scr ns => exact lst r e
    | bor ds => exact lst r e
    | fdk ds => exact lst r e
end
def pyDeep (M : Mem) (a b : D) : Option (PyData × PyData) := (D.py M 12 a).bind fun p => (D.py M 12 b).bind fun q => if (SeqAt.shaped p && SeqAt.shaped q) = true then some (p, q) else none
/-- == of two values, both told as data -/
def eqD (M : Mem) (a b : D) : Option Bool := match a, b with
  | .int i, .int j => some (decide (i = j))
  | .str i, .str j => some (decide (i = j))
  | .bl i, .bl j => some (decide (i = j))
  | .non, .non => some true
  | .non, .int _ => some false
  | .int _, .non => some false
  | .non, .str _ => some false
  | .str _, .non => some false
  | .non, .bl _ => some false
  | .bl _, .non => some false
  | .int _, .str _ => some false
  | .str _, .int _ => some false
  | .bl _, .str _ => some false
  | .str _, .bl _ => some false
  | a, b => (pyDeep M a b).map fun p => PyData.eqv p.1 p.2
def kEq (a b : D) (M : Mem) : R D := R.of ((eqD M a b).map D.bl) M
def kNe (a b : D) (M : Mem) : R D := R.of ((eqD M a b).map fun k => D.bl !k) M
def rEqA (K : PySem.W.Frag) : R2 := fun x y H Q => rEq x y H Q ∨ rEqD K x y H Q
def rNeA (K : PySem.W.Frag) : R2 := fun x y H Q => rNe x y H Q ∨ rNeD K x y H Q
theorem op_eqA {X : Cx} {k : Nat} (hr : Room k X.A) : OpR X (compareOp .Eq) (rEqA X.K) := OpR.or op_eq (op_eqD hr.units)
theorem op_neA {X : Cx} {k : Nat} (hr : Room k X.A) : OpR X (compareOp .NotEq) (rNeA X.K) := OpR.or op_ne (op_neD hr.units)
section
variable {g : G} {io : Nat → Addr} {M : Mem} {H : Hp}
theorem eqD_at (m : MR g io M H) {v w : V} {a b : D} {k : Bool} (r1 : VR (rc g io M H) v a) (r2 : VR (rc g io M H) w b) (e : eqD M a b = some k) :
    (scal v w = true ∧ decide (v = w) = k) ∨ ∃ d e, Dp g.K H v d ∧ Dp g.K H w e ∧ SeqAt.shaped d = true ∧ SeqAt.shaped e = true ∧ PyData.eqv d e = k := by
  unfold eqD at e
  split at e <;> first
    | (cases e; cases r1; cases r2; exact .inl ⟨rfl, by simp⟩)
    | skip
  obtain ⟨⟨p, q⟩, e1, e2⟩ := Option.map_eq_some_iff.mp e
  unfold pyDeep at e1
  obtain ⟨p', ep, e1⟩ := Option.bind_eq_some_iff.mp e1
  obtain ⟨q', eq, e1⟩ := Option.bind_eq_some_iff.mp e1
  split at e1
  · rename_i hs
    cases e1
    obtain ⟨h1, h2⟩ := ba hs
    exact .inr ⟨p, q, py_dp m 12 r1 ep, py_dp m 12 r2 eq, h1, h2, e2⟩
  · cases e1
theorem two_eq : Two g (rEqA g.K) kEq := by
  intro E io env M s H v w a b Q S r1 r2 p
  unfold kEq at p
  cases e : eqD M a b with
  | none => rw [e] at p; exact p.elim
  | some k =>
    rw [e] at p
    have q : Q (.bl k) H := PostE.here p S (.bl k)
    rcases eqD_at S.toMR r1 r2 e with ⟨h1, h2⟩ | ⟨d, e, h1, h2, h3, h4, h5⟩
    · exact .inl ⟨h1, by rw [h2]; exact q⟩
    · exact .inr ⟨d, e, h1, h2, h3, h4, by rw [h5]; exact q⟩
theorem two_ne : Two g (rNeA g.K) kNe := by
  intro E io env M s H v w a b Q S r1 r2 p
  unfold kNe at p
  cases e : eqD M a b with
  | none => rw [e] at p; exact p.elim
  | some k =>
    rw [e] at p
    have q : Q (.bl !k) H := PostE.here p S (.bl _)
    rcases eqD_at S.toMR r1 r2 e with ⟨h1, h2⟩ | ⟨d, e, h1, h2, h3, h4, h5⟩
    · exact .inl ⟨h1, by rw [h2]; exact q⟩
    · exact .inr ⟨d, e, h1, h2, h3, h4, by rw [h5]; exact q⟩
end
/-! ### is None -/
def D.isNon : D → Bool
  | .non => true
  | _ => false
def kIsN (a b : D) (M : Mem) : R D := if b.isNon = true then .ok (.bl a.isNon) M else .stuck
def kNotN (a b : D) (M : Mem) : R D := if b.isNon = true then .ok (.bl !a.isNon) M else .stuck
theorem VR.isNon {c : RC} {v : V} {d : D} (r : VR c v d) : decide (v = .non) = d.isNon := by cases r <;> simp [D.isNon]
theorem VR.non' {c : RC} {v : V} {d : D} (r : VR c v d) (h : d.isNon = true) : v = .non := by cases r <;> first | rfl | cases h
theorem two_isN {g : G} : Two g (fun x y H Q => y = .non ∧ Q (.bl (decide (x = .non))) H) kIsN := by
  intro E io env M s H v w a b Q S r1 r2 p
  unfold kIsN at p
  split at p
  · rename_i h
    exact ⟨r2.non' h, by rw [r1.isNon]; exact PostE.here p S (.bl _)⟩
  · exact p.elim
theorem two_notN {g : G} : Two g (fun x y H Q => y = .non ∧ Q (.bl (!decide (x = .non))) H) kNotN := by
  intro E io env M s H v w a b Q S r1 r2 p
  unfold kNotN at p
  split at p
  · rename_i h
    exact ⟨r2.non' h, by rw [r1.isNon]; exact PostE.here p S (.bl _)⟩
  · exact p.elim
end DL

-- DlOps2
set_option Elab.async false
set_option linter.all false
set_option maxRecDepth 100000
set_option maxHeartbeats 2000000
/-! DlOps2: in, subscripts, slices, built-ins over data. -/
namespace DL
open PySem PySem.Spec PyProof.Rows L2
/-! ### flat values -/
def D.flat : D → Bool
  | .non => true
  | .bl _ => true
  | .int _ => true
  | .str _ => true
  | _ => false
/-- == of flat values -/
def eqF : D → D → Bool
  | .non, .non => true
  | .bl a, .bl b => a == b
  | .bl a, .int b => (if a then 1 else 0) == b
  | .int a, .bl b => a == (if b then 1 else 0)
  | .int a, .int b => a == b
  | .str a, .str b => a == b
  | _, _ => false
def valD (kvs : List (Key × D)) (k : Key) : Option D := (kvs.find? fun kv => decide (kv.1 = k)).map (·.2)
theorem valD_pos {k : Key} {d : D} {ds : List (Key × D)} : valD ((k, d) :: ds) k = some d := by simp [valD, List.find?_cons]
theorem valD_neg {k k' : Key} {d : D} {ds : List (Key × D)} (h : ¬ k' = k) : valD ((k', d) :: ds) k = valD ds k := by simp [valD, List.find?_cons, h]
section
variable {c : RC}
theorem VR.flatV {v : V} {d : D} (r : VR c v d) (h : d.flat = true) : L2.flatV v = true := by cases r <;> first | rfl | cases h
theorem VR.eqF {v w : V} {a b : D} (r1 : VR c v a) (r2 : VR c w b) (h1 : a.flat = true) (h2 : b.flat = true) : eqV v w = DL.eqF a b := by
  cases r1 <;> first | cases h1 | skip
  all_goals (cases r2 <;> first | rfl | cases h2)
theorem VRs.flatV : ∀ {vs : List V} {ds : List D}, VRs c vs ds → ds.all D.flat = true → vs.all L2.flatV = true
  | _, _, .nil, _ => rfl
  | _, _, .cons r t, h => by
    rw [List.all_cons, Bool.and_eq_true] at h
    rw [List.all_cons, r.flatV h.1, VRs.flatV t h.2]
    rfl
theorem VRs.inF {v : V} {a : D} (r1 : VR c v a) (h1 : a.flat = true) : ∀ {vs : List V} {ds : List D}, VRs c vs ds → ds.all D.flat = true → inV v vs = ds.any fun y => DL.eqF y a
  | _, _, .nil, _ => rfl
  | _, _, .cons r t, h => by
    rw [List.all_cons, Bool.and_eq_true] at h
    have ih := VRs.inF r1 h1 t h.2
    unfold inV at ih ⊢
    rw [List.any_cons, List.any_cons, VR.eqF r r1 h.1 h1, ih]
theorem VRk.find {k : Key} : ∀ {vs : List (Key × V)} {ds : List (Key × D)}, VRk c vs ds → (∀ d, valD ds k = some d → ∃ v, valV vs k = some v ∧ VR c v d) ∧ (valD ds k = none → valV vs k = none)
  | _, _, .nil => ⟨fun d e => by simp [valD] at e, fun _ => rfl⟩
  | (k', v) :: vs, (_, d') :: ds, .cons r t => by
    obtain ⟨h1, h2⟩ := VRk.find (k := k) t
    by_cases hk : k' = k
    · subst hk
      rw [valD_pos]
      refine ⟨fun d e => ?_, fun e => by cases e⟩
      cases e
      exact ⟨v, valV_pos rfl, r⟩
    · rw [valD_neg hk, valV_neg hk]
      exact ⟨h1, h2⟩
end
def keyD : D → Option Key
  | .int i => some (.inl i)
  | .str x => some (.inr x)
  | _ => none
theorem keyD_at {c : RC} {v : V} {d : D} {k : Key} (r : VR c v d) (e : keyD d = some k) : v = kV k := by
  cases r <;> simp [keyD] at e <;> subst e <;> rfl
/-- a dict that may be written at, or that is data -/
def dkD (M : Mem) : D → Option (List (Key × D))
  | .dk kvs => some kvs
  | .fdk kvs => some kvs
  | .ref i => (match M[i]? with
    | some (.dk kvs) => some kvs
    | _ => none)
  | _ => none
section
variable {g : G} {io : Nat → Addr} {M : Mem} {H : Hp} {v : V} {d : D} {kvs : List (Key × D)}
theorem dkD_at (m : MR g io M H) (r : VR (rc g io M H) v d) (e : dkD M d = some kvs) : ∃ a vs, v = .ref a ∧ Rd H a (.dK vs) ∧ VRk (rc g io M H) vs kvs := by
  unfold dkD at e
  split at e
  · cases e
    cases r with
    | dk h n r => exact ⟨_, _, rfl, h, r⟩
  · cases e
    cases r with
    | fdk h r => exact ⟨_, _, rfl, .inr ⟨_, h⟩, r⟩
  · rename_i i
    split at e
    · rename_i kvs' e'
      cases e
      cases r with
      | ref hi =>
        obtain ⟨vs, h, r⟩ := m.mem i _ e'
        exact ⟨_, vs, rfl, .of h, r⟩
    · cases e
  · cases e
end
/-! ### in -/
def inD (M : Mem) (x y : D) : Option Bool := match dkD M y with
  | some kvs => (keyD x).map fun k => (valD kvs k).isSome
  | none => (match lsD M y with
    | some ds => if (x.flat && ds.all D.flat) = true then some (ds.any fun z => eqF z x) else (pyDeep M x (.lst ds)).bind fun p => (match p.2 with
        | .list qs => some (qs.any fun z => PyData.eqv z p.1)
        | _ => none)
    | none => (match tpD y with
      | some ds => if (x.flat && ds.all D.flat) = true then some (ds.any fun z => eqF z x) else none
      | none => none))
def kIn (x y : D) (M : Mem) : R D := R.of ((inD M x y).map D.bl) M
def kNotIn (x y : D) (M : Mem) : R D := R.of ((inD M x y).map fun k => D.bl !k) M
def rInA (K : PySem.W.Frag) : R2 := fun x y H Q => (∃ a o, y = .ref a ∧ DGet H a x o ∧ Q (.bl o.isSome) H) ∨ rIn K false x y H Q ∨ rInD K x y H Q
def rNotInA (K : PySem.W.Frag) : R2 := fun x y H Q => (∃ a o, y = .ref a ∧ DGet H a x o ∧ Q (.bl (!o.isSome)) H) ∨ rIn K true x y H Q ∨ rNotInD K x y H Q
theorem op_inA {X : Cx} {k : Nat} (hr : Room k X.A) : OpR X (compareOp .In) (rInA X.K) := OpR.or (fun pins s σ H x y v u Q I rx ry ⟨a, o, e, g, q⟩ => by
    subst e
    obtain rfl : u = Value.ref a := ry
    have h1 := hr.units
    exact d_in (by omega) I g rx fun s3 I3 => ⟨.bl o.isSome, H, I3, rfl, q⟩) (OpR.or op_in_seq (op_inD (by have h1 := hr.un; omega)))
theorem op_notInA {X : Cx} {k : Nat} (hr : Room k X.A) : OpR X (compareOp .NotIn) (rNotInA X.K) := OpR.or (fun pins s σ H x y v u Q I rx ry ⟨a, o, e, g, q⟩ => by
    subst e
    obtain rfl : u = Value.ref a := ry
    have h1 := hr.units
    exact d_notIn (by omega) I g rx fun s3 I3 => ⟨.bl (!o.isSome), H, I3, rfl, q⟩) (OpR.or op_notIn_seq (op_notInD (by have h1 := hr.un; omega)))
section
variable {g : G} {io : Nat → Addr} {M : Mem} {H : Hp}
theorem inD_at (m : MR g io M H) {v w : V} {a b : D} {k : Bool} (r1 : VR (rc g io M H) v a) (r2 : VR (rc g io M H) w b) (e : inD M a b = some k) :
    (∃ p o, w = .ref p ∧ DGet H p v o ∧ o.isSome = k) ∨ (∃ p xs, w = .ref p ∧ (SqL g.K H p xs ∨ SqT g.K H p xs) ∧ L2.flatV v = true ∧ xs.all L2.flatV = true ∧ inV v xs = k) ∨
      ∃ d ds, Dp g.K H v d ∧ Dp g.K H w (.list ds) ∧ SeqAt.shaped d = true ∧ SeqAt.shaped (.list ds) = true ∧ (ds.any fun z => PyData.eqv z d) = k := by
  unfold inD at e
  split at e
  · rename_i kvs ek
    obtain ⟨k', e1, e2⟩ := Option.map_eq_some_iff.mp e
    obtain ⟨p, vs, rfl, h, rk⟩ := dkD_at m r2 ek
    obtain rfl := keyD_at r1 e1
    refine .inl ⟨p, valV vs k', rfl, .inl ⟨vs, k', h, rfl, rfl⟩, ?_⟩
    rw [← e2]
    obtain ⟨h1, h2⟩ := rk.find (k := k')
    cases el : valD kvs k' with
    | none => rw [h2 el]; rfl
    | some d => obtain ⟨v, h3, _⟩ := h1 d el; rw [h3]; rfl
  · split at e
    · rename_i ds el
      split at e
      · rename_i hf
        cases e
        obtain ⟨h1, h2⟩ := ba hf
        obtain ⟨p, vs, rfl, h, rs⟩ := lsD_at m r2 el
        exact .inr (.inl ⟨p, vs, rfl, .inl h, r1.flatV h1, rs.flatV h2, VRs.inF r1 h1 rs h2⟩)
      · obtain ⟨⟨p, q⟩, e1, e2⟩ := Option.bind_eq_some_iff.mp e
        split at e2
        · rename_i qs eq
          cases e2
          dsimp only at eq
          subst eq
          unfold pyDeep at e1
          obtain ⟨p', ep, e1⟩ := Option.bind_eq_some_iff.mp e1
          obtain ⟨q', eq, e1⟩ := Option.bind_eq_some_iff.mp e1
          split at e1
          · rename_i hs
            cases e1
            obtain ⟨h1, h2⟩ := ba hs
            obtain ⟨a, vs, rfl, h, rs⟩ := lsD_at m r2 el
            have hq : (ds.mapM (D.py M 11)).map PyData.list = some (.list qs) := eq
            obtain ⟨qs', e3, e4⟩ := Option.map_eq_some_iff.mp hq
            cases e4
            exact .inr (.inr ⟨p, qs, py_dp m 12 r1 ep, .lst h (pys_dp (fun r e => py_dp m 11 r e) rs e3), h1, h2, rfl⟩)
          · cases e1
        · cases e2
    · split at e
      · rename_i ds et
        split at e
        · rename_i hf
          cases e
          obtain ⟨h1, h2⟩ := ba hf
          obtain ⟨p, vs, rfl, h, rs⟩ := tpD_at r2 et
          exact .inr (.inl ⟨p, vs, rfl, .inr h, r1.flatV h1, rs.flatV h2, VRs.inF r1 h1 rs h2⟩)
        · cases e
      · cases e
theorem two_in : Two g (rInA g.K) kIn := by
  intro E io env M s H v w a b Q S r1 r2 p
  unfold kIn at p
  cases e : inD M a b with
  | none => rw [e] at p; exact p.elim
  | some k =>
    rw [e] at p
    have q : Q (.bl k) H := PostE.here p S (.bl k)
    rcases inD_at S.toMR r1 r2 e with ⟨p, o, h1, h2, h3⟩ | ⟨p, xs, h1, h2, h3, h4, h5⟩ | ⟨d, ds, h1, h2, h3, h4, h5⟩
    · exact .inl ⟨p, o, h1, h2, by rw [h3]; exact q⟩
    · exact .inr (.inl ⟨p, xs, h1, h2, h3, h4, by rw [h5]; exact q⟩)
    · exact .inr (.inr ⟨d, ds, h1, h2, h3, h4, by rw [h5]; exact q⟩)
theorem two_notIn : Two g (rNotInA g.K) kNotIn := by
  intro E io env M s H v w a b Q S r1 r2 p
  unfold kNotIn at p
  cases e : inD M a b with
  | none => rw [e] at p; exact p.elim
  | some k =>
    rw [e] at p
    have q : Q (.bl !k) H := PostE.here p S (.bl _)
    rcases inD_at S.toMR r1 r2 e with ⟨p, o, h1, h2, h3⟩ | ⟨p, xs, h1, h2, h3, h4, h5⟩ | ⟨d, ds, h1, h2, h3, h4, h5⟩
    · exact .inl ⟨p, o, h1, h2, by rw [h3]; exact q⟩
    · exact .inr (.inl ⟨p, xs, h1, h2, h3, h4, by rw [h5]; exact q⟩)
    · exact .inr (.inr ⟨d, ds, h1, h2, h3, h4, by rw [h5]; exact q⟩)
end
/-! ### subscripts -/
def sqD (M : Mem) (d : D) : Option (List D) := match lsD M d with
  | some ds => some ds
  | none => tpD d
def ixD (M : Mem) (x y : D) : Option D := match sqD M x with
  | some ds => (match y with
    | .int i => atI ds i
    | _ => none)
  | none => (match dkD M x with
    | some kvs => (keyD y).bind fun k => valD kvs k
    | none => (match x, y with
      | .str z, .int i => if z.length ≤ 16777216 then (atI z.cps.toList i).map fun c => .str ⟨#[c]⟩ else none
      | _, _ => none))
def kIx (x y : D) (M : Mem) : R D := R.of (ixD M x y) M
def rIxA (K : PySem.W.Frag) : R2 := fun x y H Q => rIx K x y H Q ∨ ∃ a v, x = .ref a ∧ DGet H a y (some v) ∧ Q v H
theorem ix_dict {X : Cx} (hu : X.A.units + 1 < cLine) : IxR X (fun x y H Q => ∃ a v, x = .ref a ∧ DGet H a y (some v) ∧ Q v H) := by
  intro value slice pins s σ H x y v u Q I rx ry h hs
  obtain ⟨a, w, rfl, g, q⟩ := h
  obtain rfl : v = Value.ref a := rx
  exact tail_any (ops := [.ref a, u]) (dict_typeIs I g) PySem.F.slot_dict_getitem.lookup (d_getItem hu I g ry fun w' s3 I3 rw' => ⟨w, H, I3, rw', q⟩) hs
theorem ix_A {X : Cx} {k : Nat} (hr : Room k X.A) : IxR X (rIxA X.K) := IxR.or ix_seq (ix_dict (by have := hr.units; omega))
section
variable {g : G} {io : Nat → Addr} {M : Mem} {H : Hp}
theorem VRs.atI {c : RC} {vs : List V} {ds : List D} {i : Int} {d : D} (r : VRs c vs ds) (e : L2.atI ds i = some d) : ∃ v, L2.atI vs i = some v ∧ VR c v d := by
  unfold L2.atI at e ⊢
  rw [VRs.length r]
  obtain ⟨j, e1, e2⟩ := Option.bind_eq_some_iff.mp e
  obtain ⟨v, h1, h2⟩ := r.get e2
  exact ⟨v, by rw [e1]; exact h1, h2⟩
theorem two_ix : Two g (rIxA g.K) kIx := by
  intro E io env M s H v w a b Q S r1 r2 p
  unfold kIx at p
  cases e : ixD M a b with
  | none => rw [e] at p; exact p.elim
  | some d =>
    rw [e] at p
    unfold ixD at e
    split at e
    · rename_i ds es
      split at e
      · rename_i i
        cases r2
        unfold sqD at es
        split at es
        · rename_i ds' el
          cases es
          obtain ⟨q, vs, rfl, h, rs⟩ := lsD_at S.toMR r1 el
          obtain ⟨v', h1, h2⟩ := rs.atI e
          exact .inl (.inl ⟨q, vs, i, v', rfl, rfl, h, h1, PostE.here p S h2⟩)
        · obtain ⟨q, vs, rfl, h, rs⟩ := tpD_at r1 es
          obtain ⟨v', h1, h2⟩ := rs.atI e
          exact .inl (.inr (.inl ⟨q, vs, i, v', rfl, rfl, h, h1, PostE.here p S h2⟩))
      · cases e
    · split at e
      · rename_i kvs ek
        obtain ⟨k, e1, e2⟩ := Option.bind_eq_some_iff.mp e
        obtain ⟨q, vs, rfl, h, rk⟩ := dkD_at S.toMR r1 ek
        obtain rfl := keyD_at r2 e1
        obtain ⟨v', h3, h4⟩ := (rk.find (k := k)).1 d e2
        exact .inr ⟨q, v', rfl, .inl ⟨vs, k, h, rfl, h3.symm⟩, PostE.here p S h4⟩
      · split at e
        · split at e
          · rename_i hl
            obtain ⟨c, e1, rfl⟩ := Option.map_eq_some_iff.mp e
            cases r1; cases r2
            exact .inl (.inr (.inr ⟨_, _, c, rfl, rfl, line_eq hl, e1, PostE.here p S (.str _)⟩))
          · cases e
        · cases e
end
/-! ### slices -/
def cutD' (xs : List D) (lo hi : Option Int) : List D := (xs.drop (HT.sIx xs.length 0 lo)).take (HT.sIx xs.length xs.length hi - HT.sIx xs.length 0 lo)
theorem VRs.cut {c : RC} {vs : List V} {ds : List D} (r : VRs c vs ds) (lo hi : Option Int) : VRs c (cutV vs lo hi) (cutD' ds lo hi) := by
  unfold cutV cutD'
  rw [VRs.length r]
  exact (r.drop _).take _
def kSl (x : D) (lo hi : Option Int) (M : Mem) : R D := match lsD M x with
  | some ds => .ok (.lst (cutD' ds lo hi)) M
  | none => (match tpD x with
    | some ds => .ok (.tup (cutD' ds lo hi)) M
    | none => .stuck)
abbrev FO := DEnv → Mem → R (Option Int)
def oNone : FO := fun _ M => .ok none M
def oSome (f : FE) : FO := fun env M => (f env M).bind fun d M1 => match d with
  | .int i => .ok (some i) M1
  | _ => .stuck
def fSl (f : FE) (lo hi : FO) : FE := fun env M => (f env M).bind fun d M1 => (lo env M1).bind fun l M2 => (hi env M2).bind fun u M3 => kSl d l u M3
section
variable {g : G} {E : WX} {X : Cx} {k : Nat} {pos p2 : Pos} {e : Expr} {lo hi : Option Expr} {f : FE} {fl fh : FO}
/-- a slice's part -/
def trO (g : G) (E : WX) (f : FO) : TO := fun s H Q => ∃ (env : DEnv) (io : Nat → Addr) (M : Mem), SR g io env M s H ∧ (match f env M with
  | .ok o M' => ∀ (H' : Hp) (io' : Nat → Addr), ST io M H io' M' H' → SR g io' env M' s H' → Q o H'
  | .exc C as M' => PX g E io env M s H C as M'
  | .stuck => False)
theorem trO_then {f : FO} {kk : Option Int → Mem → R D} {s : L2.St} {H : Hp} {Q : VK} {C : Option Int → Hp → Prop} {env : DEnv} {io : Nat → Addr} {M : Mem} (S : SR g io env M s H) (p : PostE g E io env M s H ((f env M).bind kk) Q)
    (hk : ∀ (o : Option Int) (M1 : Mem) (H1 : Hp) (io1 : Nat → Addr), ST io M H io1 M1 H1 → SR g io1 env M1 s H1 → PostE g E io1 env M1 s H1 (kk o M1) Q → C o H1) : trO g E f s H C := by
  refine ⟨env, io, M, S, ?_⟩
  cases e : f env M with
  | ok d M1 =>
    rw [e] at p
    exact fun H1 io1 t S1 => hk d M1 H1 io1 t S1 (PostE.step t p)
  | exc C as M1 => rw [e] at p; exact p
  | stuck => rw [e] at p; exact p.elim
abbrev DO (g : G) (E : WX) (X : Cx) (e : Option Expr) (f : FO) : Prop := PO X e (trO g E f)
theorem do_none : DO g E X none oNone := ⟨fun pins s σ H Q I ⟨env, io, M, S, z⟩ => po_none.run pins s σ H Q I (z H io .refl S)⟩
theorem do_some (h : DE g E X e f) : DO g E X (some e) (oSome f) := ⟨fun pins s σ H Q I ⟨env, io, M, S, z⟩ => (po_some h).run pins s σ H Q I (by
  refine ⟨env, io, M, S, ?_⟩
  unfold oSome at z
  cases e1 : f env M with
  | stuck => rw [e1] at z; exact z.elim
  | exc C as M1 => rw [e1] at z; exact z
  | ok d M1 =>
    rw [e1] at z
    rw [R.bind_ok] at z
    intro v H1 io1 t1 S1 r1
    cases d with
    | int i => cases r1; exact ⟨i, rfl, z H1 io1 t1 S1⟩
    | _ => exact z.elim)⟩
theorem d_sl (he : DE g E X e f) (hl : DO g E X lo fl) (hu : DO g E X hi fh) (hK : X.K = g.K) : DE g E X (.Subscript e (.Slice lo hi none p2) pos) (fSl f fl fh) :=
  PE.weak (pe_slice (SlR.or sl_list sl_tupA) he hl hu) fun s H Q ⟨env, io, M, S, z⟩ => by
    rw [hK]
    refine trE_then (kk := fun d M1 => (fl env M1).bind fun l M2 => (fh env M2).bind fun u M3 => kSl d l u M3) S z fun d M1 v H1 io1 t1 S1 r1 p1 => ?_
    refine trO_then (kk := fun l M2 => (fh env M2).bind fun u M3 => kSl d l u M3) S1 p1 fun l M2 H2 io2 t2 S2 p2 => ?_
    refine trO_then (kk := fun u M3 => kSl d l u M3) S2 p2 fun u M3 H3 io3 t3 S3 p3 => ?_
    have r3 := VR.mono S2.toMR t3 (VR.mono S1.toMR t2 r1)
    unfold kSl at p3
    split at p3
    · rename_i ds el
      obtain ⟨q, vs, rfl, h, rs⟩ := lsD_at S3.toMR r3 el
      exact .inl ⟨q, vs, rfl, h, fun a ha => PostE.newLst p3 S3 (rs.cut l u) a ha⟩
    · split at p3
      · rename_i ds et
        obtain ⟨q, vs, rfl, h, rs⟩ := tpD_at r3 et
        refine .inr ⟨q, vs, rfl, h, fun ⟨w1, w2⟩ => ?_, fun _ a ha => PostE.newTup p3 S3 (rs.cut l u) a ha⟩
        refine PostE.here p3 S3 (.tup h ?_)
        have := rs.cut l u
        have e0 : cutV vs l u = vs := by
          unfold cutV
          rw [w1, w2]
          simp
        rw [e0] at this
        exact this
      · exact p3.elim
/-- xs[::-1] -/
def kRev (x : D) (M : Mem) : R D := match lsD M x with
  | some ds => .ok (.lst ds.reverse) M
  | none => .stuck
theorem d_rev {j : Nat} {q1 q2 q3 : Pos} (he : DE g E X e f) (hK : X.K = g.K) : DE g E X (.Subscript e (.Slice none none (some (.UnaryOp .USub (.Constant (.int 1) j q1) q2)) q3) pos) (f1 kRev f) :=
  PE.weak (pe_revL he) fun s H Q ⟨env, io, M, S, z⟩ => by
    rw [hK]
    refine trE_then S z fun d M1 v H1 io1 t1 S1 r1 p1 => ?_
    unfold kRev at p1
    split at p1
    · rename_i ds el
      obtain ⟨q, vs, rfl, h, rs⟩ := lsD_at S1.toMR r1 el
      exact ⟨q, vs, rfl, h, fun a ha => PostE.newLst p1 S1 rs.reverse a ha⟩
    · exact p1.elim
end
end DL

-- DlBi
set_option Elab.async false
set_option linter.all false
set_option maxRecDepth 100000
set_option maxHeartbeats 2000000
/-! DlBi: built-in functions and types over data. -/
namespace DL
open PySem PySem.Spec PyProof.Rows L2
def k1 (f : D → Mem → R D) (ds : List D) (M : Mem) : R D := match ds with
  | [d] => f d M
  | _ => .stuck
def k2 (f : D → D → Mem → R D) (ds : List D) (M : Mem) : R D := match ds with
  | [a, b] => f a b M
  | _ => .stuck
section
variable {g : G} {r : List V → Hp → VK → Prop}
theorem args1 {f : D → Mem → R D} (h : One g (fun x H Q => r [x] H Q) f) : ArgsK g r (k1 f) := by
  intro E io env M s H vs ds Q S rs p
  unfold k1 at p
  split at p
  · cases rs with
    | cons r1 rs => cases rs; exact h E io env M s H _ _ Q S r1 p
  · exact p.elim
theorem args2 {f : D → D → Mem → R D} (h : Two g (fun x y H Q => r [x, y] H Q) f) : ArgsK g r (k2 f) := by
  intro E io env M s H vs ds Q S rs p
  unfold k2 at p
  split at p
  · cases rs with
    | cons r1 rs => cases rs with | cons r2 rs => cases rs; exact h E io env M s H _ _ _ _ Q S r1 r2 p
  · exact p.elim
end
/-! ### ints, bools of a list -/
def intsD : List D → Option (List Int)
  | [] => some []
  | .int i :: ds => (intsD ds).map (i :: ·)
  | _ => none
def blsD : List D → Option (List Bool)
  | [] => some []
  | .bl i :: ds => (blsD ds).map (i :: ·)
  | _ => none
theorem intsD_at {c : RC} : ∀ {vs : List V} {ds : List D} {ns : List Int}, VRs c vs ds → intsD ds = some ns → vs = ns.map V.int
  | _, _, ns, .nil, e => by simp [intsD] at e; subst e; rfl
  | _, d :: ds, ns, .cons r t, e => by
    cases d <;> simp [intsD] at e
    obtain ⟨ns', e1, rfl⟩ := e
    cases r
    rw [intsD_at t e1]
    rfl
theorem blsD_at {c : RC} : ∀ {vs : List V} {ds : List D} {ns : List Bool}, VRs c vs ds → blsD ds = some ns → vs = ns.map V.bl
  | _, _, ns, .nil, e => by simp [blsD] at e; subst e; rfl
  | _, d :: ds, ns, .cons r t, e => by
    cases d <;> simp [blsD] at e
    obtain ⟨ns', e1, rfl⟩ := e
    cases r
    rw [blsD_at t e1]
    rfl
@[simp] theorem intsD_map (ns : List Int) : intsD (ns.map D.int) = some ns := by
  induction ns with
  | nil => rfl
  | cons n ns ih => simp [intsD, ih]
@[simp] theorem blsD_map (ns : List Bool) : blsD (ns.map D.bl) = some ns := by
  induction ns with
  | nil => rfl
  | cons n ns ih => simp [blsD, ih]
/-! ### len -/
def kLen (d : D) (M : Mem) : R D := match sqD M d with
  | some ds => .ok (.int ds.length) M
  | none => (match d with
    | .str x => if x.length ≤ 16777216 then .ok (.int x.length) M else .stuck
    | _ => .stuck)
theorem sqD_at {g : G} {io : Nat → Addr} {M : Mem} {H : Hp} {v : V} {d : D} {ds : List D} (m : MR g io M H) (r : VR (rc g io M H) v d) (e : sqD M d = some ds) : ∃ a vs, v = .ref a ∧ (SqL g.K H a vs ∨ SqT g.K H a vs) ∧ VRs (rc g io M H) vs ds := by
  unfold sqD at e
  split at e
  · rename_i ds' el
    cases e
    obtain ⟨a, vs, e1, h, rs⟩ := lsD_at m r el
    exact ⟨a, vs, e1, .inl h, rs⟩
  · obtain ⟨a, vs, e1, h, rs⟩ := tpD_at r e
    exact ⟨a, vs, e1, .inr h, rs⟩
def rLenA (K : PySem.W.Frag) : List V → Hp → VK → Prop := fun xs H Q => ∃ x n, xs = [x] ∧ LenV K x H n ∧ Q (.int n) H
theorem one_len {g : G} : One g (fun x H Q => rLenA g.K [x] H Q) kLen := by
  intro E io env M s H v a Q S r p
  unfold kLen at p
  split at p
  · rename_i ds es
    obtain ⟨q, vs, rfl, h, rs⟩ := sqD_at S.toMR r es
    refine ⟨_, ds.length, rfl, ?_, PostE.here p S (.int _)⟩
    rw [← VRs.length rs]
    exact h.imp (fun h => ⟨vs, h, rfl⟩) (fun h => ⟨vs, h, rfl⟩)
  · split at p
    · split at p
      · rename_i hl
        cases r
        exact ⟨_, _, rfl, ⟨line_eq hl, rfl⟩, PostE.here p S (.int _)⟩
      · exact p.elim
    · exact p.elim
/-! ### isinstance -/
def tyN (M : Mem) : D → Option String
  | .non => some "NoneType"
  | .bl _ => some "bool"
  | .int _ => some "int"
  | .str _ => some "str"
  | .tup _ => some "tuple"
  | .lst _ => some "list"
  | .bor _ => some "list"
  | .scr _ => some "list"
  | .dk _ => some "dict"
  | .fdk _ => some "dict"
  | .ref i => (match M[i]? with
    | some (.lst _) => some "list"
    | some (.dk _) => some "dict"
    | _ => none)
  | .ty _ => none
theorem tyX_sqL {K : PySem.W.Frag} {H : Hp} {a : Addr} {vs : List V} (h : SqL K H a vs) : TyX K H (.ref a) (.type "list") := by
  rcases h with (h | ⟨o, h⟩) | ⟨o, its, n, h, hc, _⟩
  · exact .base (.lst h)
  · exact .base (.frz h)
  · exact .kList h hc
theorem tyX_sqT {K : PySem.W.Frag} {H : Hp} {a : Addr} {vs : List V} (h : SqT K H a vs) : TyX K H (.ref a) (.type "tuple") := by
  rcases h with (h | ⟨o, h⟩) | ⟨o, its, n, h, hc, _⟩
  · exact .base (.tup h)
  · exact .fTuple h
  · exact .kTuple h hc
theorem tyX_dk {K : PySem.W.Frag} {H : Hp} {a : Addr} {vs : List (Key × V)} (h : Rd H a (.dK vs)) : TyX K H (.ref a) (.type "dict") := by
  rcases h with h | ⟨o, h⟩
  · exact .base (.dK h)
  · exact .fDict h
theorem tyN_at {g : G} {io : Nat → Addr} {M : Mem} {H : Hp} {v : V} {d : D} {n : String} (m : MR g io M H) (r : VR (rc g io M H) v d) (e : tyN M d = some n) : TyX g.K H v (.type n) := by
  unfold tyN at e
  cases r with
  | non => cases e; exact .base .non
  | bl b => cases e; exact .base (.bl b)
  | int i => cases e; exact .base (.int i)
  | str x => cases e; exact .base (.str x)
  | tup h r => cases e; exact tyX_sqT h
  | lst h n r => cases e; exact tyX_sqL (.inl (.of h))
  | bor h n r => cases e; exact tyX_sqL (.inl (.of h))
  | scr h => cases e; exact tyX_sqL h.sq
  | dk h n r => cases e; exact tyX_dk h
  | fdk h r => cases e; exact tyX_dk (.inr ⟨_, h⟩)
  | ty x => cases e
  | @ref i hi =>
    dsimp only at e
    split at e
    · rename_i ds em
      cases e
      obtain ⟨vs, h, r⟩ := m.mem i _ em
      exact tyX_sqL (.inl (.of h))
    · rename_i ds em
      cases e
      obtain ⟨vs, h, r⟩ := m.mem i _ em
      exact tyX_dk (.of h)
    · cases e
def kIsi (x c : D) (M : Mem) : R D := match c with
  | .ty n => R.of (((tyN M x).bind fun t => kitB t n).map D.bl) M
  | _ => .stuck
theorem two_isi {g : G} : Two g (fun x y H Q => rIsi g.K [x, y] H Q) kIsi := by
  intro E io env M s H v w a b Q S r1 r2 p
  unfold kIsi at p
  split at p
  · rename_i n
    cases e : (tyN M a).bind fun t => kitB t n with
    | none => rw [e] at p; exact p.elim
    | some k =>
      rw [e] at p
      obtain ⟨t, e1, e2⟩ := Option.bind_eq_some_iff.mp e
      cases r2
      exact ⟨v, _, _, _, k, rfl, .ty n, tyN_at S.toMR r1 e1, kit_ty e2, PostE.here p S (.bl k)⟩
  · exact p.elim
/-! ### all, any, sum, max, min -/
def lsB (M : Mem) (d : D) : Option (List Bool) := (lsD M d).bind blsD
def lsI (M : Mem) (d : D) : Option (List Int) := (lsD M d).bind intsD
section
variable {g : G} {io : Nat → Addr} {M : Mem} {H : Hp} {v : V} {d : D}
theorem lsB_at {bs : List Bool} (m : MR g io M H) (r : VR (rc g io M H) v d) (e : lsB M d = some bs) : ∃ a, v = .ref a ∧ SqL g.K H a (bs.map V.bl) := by
  obtain ⟨ds, e1, e2⟩ := Option.bind_eq_some_iff.mp e
  obtain ⟨a, vs, rfl, h, rs⟩ := lsD_at m r e1
  exact ⟨a, rfl, by rw [← blsD_at rs e2]; exact h⟩
theorem lsI_at {ns : List Int} (m : MR g io M H) (r : VR (rc g io M H) v d) (e : lsI M d = some ns) : ∃ a, v = .ref a ∧ SqL g.K H a (ns.map V.int) := by
  obtain ⟨ds, e1, e2⟩ := Option.bind_eq_some_iff.mp e
  obtain ⟨a, vs, rfl, h, rs⟩ := lsD_at m r e1
  exact ⟨a, rfl, by rw [← intsD_at rs e2]; exact h⟩
end
def kAll (d : D) (M : Mem) : R D := R.of ((lsB M d).map fun bs => D.bl (bs.all id)) M
def kAny (d : D) (M : Mem) : R D := R.of ((lsB M d).map fun bs => D.bl (bs.any id)) M
def kSum (d : D) (M : Mem) : R D := R.of ((lsI M d).map fun ns => D.int ns.sum) M
def kMax1 (d : D) (M : Mem) : R D := R.of ((lsI M d).bind fun ns => ns.max?.map D.int) M
def kMin1 (d : D) (M : Mem) : R D := R.of ((lsI M d).bind fun ns => ns.min?.map D.int) M
section
variable {g : G}
theorem one_all : One g (fun x H Q => rAll g.K [x] H Q) kAll := by
  intro E io env M s H v a Q S r p
  unfold kAll at p
  cases e : lsB M a with
  | none => rw [e] at p; exact p.elim
  | some bs =>
    rw [e] at p
    obtain ⟨q, rfl, h⟩ := lsB_at S.toMR r e
    exact ⟨q, bs, rfl, h, PostE.here p S (.bl _)⟩
theorem one_any : One g (fun x H Q => rAny g.K [x] H Q) kAny := by
  intro E io env M s H v a Q S r p
  unfold kAny at p
  cases e : lsB M a with
  | none => rw [e] at p; exact p.elim
  | some bs =>
    rw [e] at p
    obtain ⟨q, rfl, h⟩ := lsB_at S.toMR r e
    exact ⟨q, bs, rfl, h, PostE.here p S (.bl _)⟩
theorem one_sum : One g (fun x H Q => rSum g.K [x] H Q) kSum := by
  intro E io env M s H v a Q S r p
  unfold kSum at p
  cases e : lsI M a with
  | none => rw [e] at p; exact p.elim
  | some bs =>
    rw [e] at p
    obtain ⟨q, rfl, h⟩ := lsI_at S.toMR r e
    exact ⟨q, bs, rfl, h, PostE.here p S (.int _)⟩
theorem one_max1 : One g (fun x H Q => rMax g.K [x] H Q) kMax1 := by
  intro E io env M s H v a Q S r p
  unfold kMax1 at p
  cases e : lsI M a with
  | none => rw [e] at p; exact p.elim
  | some ns =>
    rw [e] at p
    cases em : ns.max? with
    | none => simp [em] at p; exact p.elim
    | some m =>
      simp [em] at p
      obtain ⟨q, rfl, h⟩ := lsI_at S.toMR r e
      obtain ⟨h1, h2⟩ := List.max?_eq_some_iff.mp em
      refine ⟨q, ns, rfl, h, List.length_pos_of_mem h1, fun m' h3 h4 => ?_⟩
      have e1 := h2 m' h3
      have e2 := h4 m h1
      have : m' = m := by omega
      subst this
      exact PostE.here p S (.int _)
theorem one_min1 : One g (fun x H Q => rMin g.K [x] H Q) kMin1 := by
  intro E io env M s H v a Q S r p
  unfold kMin1 at p
  cases e : lsI M a with
  | none => rw [e] at p; exact p.elim
  | some ns =>
    rw [e] at p
    cases em : ns.min? with
    | none => simp [em] at p; exact p.elim
    | some m =>
      simp [em] at p
      obtain ⟨q, rfl, h⟩ := lsI_at S.toMR r e
      obtain ⟨h1, h2⟩ := List.min?_eq_some_iff.mp em
      refine ⟨q, ns, rfl, h, List.length_pos_of_mem h1, fun m' h3 h4 => ?_⟩
      have e1 := h2 m' h3
      have e2 := h4 m h1
      have : m' = m := by omega
      subst this
      exact PostE.here p S (.int _)
end
def kMax2 := kI fun i j => some (.int (if j > i then j else i))
def kMin2 := kI fun i j => some (.int (if j < i then j else i))
def rI2 (f : Int → Int → Int) : List V → Hp → VK → Prop := fun xs H Q => ∃ i j, xs = [.int i, .int j] ∧ Q (.int (f i j)) H
section
variable {g : G}
theorem two_max2 : Two g (fun x y H Q => rI2 (fun i j => if j > i then j else i) [x, y] H Q) kMax2 := by
  intro E io env M s H v w a b Q S r1 r2 p
  unfold kMax2 kI at p
  split at p
  · cases r1; cases r2
    exact ⟨_, _, rfl, PostE.here p S (.int _)⟩
  · exact p.elim
theorem two_min2 : Two g (fun x y H Q => rI2 (fun i j => if j < i then j else i) [x, y] H Q) kMin2 := by
  intro E io env M s H v w a b Q S r1 r2 p
  unfold kMin2 kI at p
  split at p
  · cases r1; cases r2
    exact ⟨_, _, rfl, PostE.here p S (.int _)⟩
  · exact p.elim
end
/-- max, min of a list or of two ints -/
def kMax (ds : List D) (M : Mem) : R D := match ds with
  | [d] => kMax1 d M
  | [a, b] => kMax2 a b M
  | _ => .stuck
def kMin (ds : List D) (M : Mem) : R D := match ds with
  | [d] => kMin1 d M
  | [a, b] => kMin2 a b M
  | _ => .stuck
def rMaxA (K : PySem.W.Frag) : List V → Hp → VK → Prop := fun xs H Q => rMax K xs H Q ∨ rI2 (fun i j => if j > i then j else i) xs H Q
def rMinA (K : PySem.W.Frag) : List V → Hp → VK → Prop := fun xs H Q => rMin K xs H Q ∨ rI2 (fun i j => if j < i then j else i) xs H Q
theorem cr_maxA {X : Cx} (hc : X.calm = true) : CallR X (.builtin "max") (rMaxA X.K) := CallR.or (cr_max hc) (call_max2 hc)
theorem cr_minA {X : Cx} (hc : X.calm = true) : CallR X (.builtin "min") (rMinA X.K) := CallR.or (cr_min hc) (call_min2 hc)
section
variable {g : G}
theorem args_max : ArgsK g (rMaxA g.K) kMax := by
  intro E io env M s H vs ds Q S rs p
  unfold kMax at p
  split at p
  · cases rs with
    | cons r1 rs => cases rs; exact .inl (one_max1 E io env M s H _ _ Q S r1 p)
  · cases rs with
    | cons r1 rs => cases rs with | cons r2 rs => cases rs; exact .inr (two_max2 E io env M s H _ _ _ _ Q S r1 r2 p)
  · exact p.elim
theorem args_min : ArgsK g (rMinA g.K) kMin := by
  intro E io env M s H vs ds Q S rs p
  unfold kMin at p
  split at p
  · cases rs with
    | cons r1 rs => cases rs; exact .inl (one_min1 E io env M s H _ _ Q S r1 p)
  · cases rs with
    | cons r1 rs => cases rs with | cons r2 rs => cases rs; exact .inr (two_min2 E io env M s H _ _ _ _ Q S r1 r2 p)
  · exact p.elim
end
/-! ### abs, divmod, int, bool -/
def kAbs (d : D) (M : Mem) : R D := match d with
  | .int i => .ok (.int (if i < 0 then -i else i)) M
  | _ => .stuck
theorem one_abs {g : G} : One g (fun x H Q => (fun (xs : List V) (H : Hp) (Q : VK) => ∃ i, xs = [.int i] ∧ Q (.int (if i < 0 then -i else i)) H) [x] H Q) kAbs := by
  intro E io env M s H v a Q S r p
  unfold kAbs at p
  split at p
  · cases r
    exact ⟨_, rfl, PostE.here p S (.int _)⟩
  · exact p.elim
def kDivmod := kI fun i j => if 0 < j ∧ j < 1073741824 then some (.tup [.int (i / j), .int (i % j)]) else none
theorem two_divmod {g : G} : Two g (fun x y H Q => (fun (xs : List V) (H : Hp) (Q : VK) => ∃ i j, xs = [.int i, .int j] ∧ CDiv i j ∧ ∀ p, H p = none → Q (.ref p) (upd H p (.tup [.int (i / j), .int (i % j)]))) [x, y] H Q) kDivmod := by
  intro E io env M s H v w a b Q S r1 r2 p
  unfold kDivmod kI at p
  split at p
  · rename_i i j
    cases r1; cases r2
    dsimp only at p
    by_cases h : 0 < j ∧ j < 1073741824
    · rw [if_pos h] at p
      exact ⟨i, j, rfl, h, fun q hq => PostE.newTup p S (.cons (.int _) (.cons (.int _) .nil)) q hq⟩
    · rw [if_neg h] at p; exact p.elim
  · exact p.elim
def kInt (d : D) (M : Mem) : R D := match d with
  | .int i => .ok (.int i) M
  | .bl b => .ok (.int (if b then 1 else 0)) M
  | _ => .stuck
theorem one_int {g : G} : One g (fun x H Q => (fun (xs : List V) (H : Hp) (Q : VK) => (∃ i, xs = [.int i] ∧ Q (.int i) H) ∨ ∃ k, xs = [.bl k] ∧ Q (.int (if k then 1 else 0)) H) [x] H Q) kInt := by
  intro E io env M s H v a Q S r p
  unfold kInt at p
  split at p
  · cases r
    exact .inl ⟨_, rfl, PostE.here p S (.int _)⟩
  · cases r
    exact .inr ⟨_, rfl, PostE.here p S (.int _)⟩
  · exact p.elim
/-! ### tuple, list, sorted -/
def kTuple (d : D) (M : Mem) : R D := match lsD M d with
  | some ds => .ok (.tup ds) M
  | none => (match tpD d with
    | some ds => .ok (.tup ds) M
    | none => .stuck)
theorem one_tuple {g : G} : One g (fun x H Q => (fun (xs : List V) (H : Hp) (Q : VK) => ∃ p ys, xs = [.ref p] ∧ ((SqL g.K H p ys ∧ ∀ l, H l = none → Q (.ref l) (upd H l (.tup ys))) ∨ (SqT g.K H p ys ∧ Q (.ref p) H))) [x] H Q) kTuple := by
  intro E io env M s H v a Q S r p
  unfold kTuple at p
  split at p
  · rename_i ds el
    obtain ⟨q, vs, rfl, h, rs⟩ := lsD_at S.toMR r el
    exact ⟨q, vs, rfl, .inl ⟨h, fun l hl => PostE.newTup p S rs l hl⟩⟩
  · split at p
    · rename_i ds et
      obtain ⟨q, vs, rfl, h, rs⟩ := tpD_at r et
      exact ⟨q, vs, rfl, .inr ⟨h, PostE.here p S (.tup h rs)⟩⟩
    · exact p.elim
def kList (d : D) (M : Mem) : R D := match sqD M d with
  | some ds => .ok (.lst ds) M
  | none => .stuck
/-- its list is ours -/
def kListO (d : D) (M : Mem) : R D := match sqD M d with
  | some ds => .ok (.ref M.length) (M ++ [.lst ds])
  | none => .stuck
def rListA (K : PySem.W.Frag) : List V → Hp → VK → Prop := fun xs H Q => ∃ p ys, xs = [.ref p] ∧ (SqL K H p ys ∨ SqT K H p ys) ∧ ∀ l, H l = none → Q (.ref l) (upd H l (.lst ys))
section
variable {g : G}
theorem one_list : One g (fun x H Q => rListA g.K [x] H Q) kList := by
  intro E io env M s H v a Q S r p
  unfold kList at p
  split at p
  · rename_i ds es
    obtain ⟨q, vs, rfl, h, rs⟩ := sqD_at S.toMR r es
    exact ⟨q, vs, rfl, h, fun l hl => PostE.newLst p S rs l hl⟩
  · exact p.elim
theorem one_listO : One g (fun x H Q => rListA g.K [x] H Q) kListO := by
  intro E io env M s H v a Q S r p
  unfold kListO at p
  split at p
  · rename_i ds es
    obtain ⟨q, vs, rfl, h, rs⟩ := sqD_at S.toMR r es
    exact ⟨q, vs, rfl, h, fun l hl => PostE.newOwn p S rs l hl⟩
  · exact p.elim
end
/-- ints in order -/
def sortI (ns : List Int) : List Int := ns.mergeSort fun a b => decide (a ≤ b)
theorem sortI_eq {ns ns' : List Int} (h : ns'.Perm ns) (hs : ns'.Pairwise (· ≤ ·)) : ns' = sortI ns := by
  refine List.Perm.eq_of_pairwise (le := fun a b : Int => a ≤ b) (fun a b _ _ h1 h2 => Int.le_antisymm h1 h2) hs ?_ (h.trans (List.mergeSort_perm ns _).symm)
  have := List.pairwise_mergeSort (le := fun a b : Int => decide (a ≤ b)) (fun a b c h1 h2 => by simp at *; omega) (fun a b => by simp; omega) ns
  exact this.imp fun {a b} h => by simpa using h
def kSorted (d : D) (M : Mem) : R D := R.of ((lsI M d).map fun ns => D.lst ((sortI ns).map D.int)) M
theorem one_sorted {g : G} : One g (fun x H Q => rSortedI g.K [x] H Q) kSorted := by
  intro E io env M s H v a Q S r p
  unfold kSorted at p
  cases e : lsI M a with
  | none => rw [e] at p; exact p.elim
  | some ns =>
    rw [e] at p
    obtain ⟨q, rfl, h⟩ := lsI_at S.toMR r e
    refine ⟨q, ns, rfl, h, fun ns' l hp hs hl => ?_⟩
    rw [sortI_eq hp hs]
    exact PostE.newLst p S (VRs.ofInts _) l hl
/-- list(range(a, b)) -/
def rgD (a b : Int) : List D := (List.range (b - a).toNat).map fun i => D.int (a + (i : Nat))
/-! ### repr -/
def shOk (p : PyData) : Bool := p.showable && !p.hasDict && decide (p.depth ≤ 60) && decide (p.shown.length ≤ 16777216)
def kRepr (d : D) (M : Mem) : R D := match D.py M 12 d with
  | some p => if shOk p = true then .ok (.str p.shown) M else .stuck
  | none => .stuck
def rReprA (K : PySem.W.Frag) : List V → Hp → VK → Prop := fun xs H Q => ∃ x p, xs = [x] ∧ Dp K H x p ∧ shOk p = true ∧ Q (.str p.shown) H
theorem cr_repr {X : Cx} (hg : X.A.guards = some []) (hu : X.A.units + 200 < cLine) : CallR X (.builtin "repr") (rReprA X.K) := by
  intro pins s σ H xs us Q I r h
  obtain ⟨x, p, rfl, hd, ho, q⟩ := h
  cases r with
  | cons rx rr =>
    cases rr
    rename_i u
    unfold shOk at ho
    simp only [Bool.and_eq_true, decide_eq_true_eq, Bool.not_eq_true'] at ho
    obtain ⟨⟨⟨h1, h2⟩, h3⟩, h4⟩ := ho
    have fin : ∀ (h' : Heap) (tk : Nat) (t : Tok), (∀ b o, s.heap.get? b = some o → h'.get? b = some o) → EP X pins σ Q (.str p.shown t) { s with heap := h', toks := tk } := fun h' tk t k => ⟨.str p.shown, H, I.kept k, ⟨t, rfl⟩, q⟩
    cases hd with
    | non => cases rx; exact PySem.P.repr_of_none (fin _ _ _ fun _ _ e => e)
    | bl b => cases rx; exact PySem.P.repr_of_bool (fin _ _ _ fun _ _ e => e)
    | int i =>
      obtain ⟨t, rfl⟩ := rx
      exact PySem.P.repr_of_int (by simpa [PyData.showable] using h1) (fin _ _ _ fun _ _ e => e)
    | str y =>
      obtain ⟨t, rfl⟩ := rx
      exact PySem.P.repr_of_str (fin _ _ _ fun _ _ e => e) (line_eq h4)
    | lst hs ha =>
      cases rx
      obtain ⟨as, rd⟩ := Dp.reads I _ _ _ (.lst hs ha) rfl
      exact repr_of_reads' rd h1 (PyData.noDict_hsm h2) hg (by omega) (fun _ _ e => e) (fun h' u tk k => fin h' tk u k) (line_eq h4)
    | tup hs ha =>
      cases rx
      obtain ⟨as, rd⟩ := Dp.reads I _ _ _ (.tup hs ha) rfl
      exact repr_of_reads' rd h1 (PyData.noDict_hsm h2) hg (by omega) (fun _ _ e => e) (fun h' u tk k => fin h' tk u k) (line_eq h4)
theorem one_repr {g : G} : One g (fun x H Q => rReprA g.K [x] H Q) kRepr := by
  intro E io env M s H v a Q S r p
  unfold kRepr at p
  split at p
  · rename_i q e
    split at p
    · rename_i ho
      exact ⟨v, q, rfl, py_dp S.toMR 12 r e, ho, PostE.here p S (.str _)⟩
    · exact p.elim
  · exact p.elim
end DL

-- DlIter
set_option Elab.async false
set_option linter.all false
set_option maxRecDepth 100000
set_option maxHeartbeats 2000000
/-! DlIter: what loops walk. -/
namespace DL
open PySem PySem.Spec PyProof.Rows L2
/-! ### a dict that is locked from now on -/
def kLockO (d : D) (M : Mem) : R D := match d with
  | .ref i => (match M[i]? with
    | some (.dk kvs) => .ok (.fdk kvs) (M.set i .gone)
    | _ => .stuck)
  | _ => .stuck
theorem d_lockO {g : G} {E : WX} {X : Cx} {e : Expr} {f : FE} (h : DE g E X e f) : DE g E X e (f1 kLockO f) := by
  refine ⟨fun pins s σ H Q I ⟨env, io, M, S, z⟩ => ?_⟩
  refine thn (h.run pins s σ H _ I (trE_then (C := fun v H1 => ∃ (d : D) (io1 : Nat → Addr) (M1 : Mem), SR g io1 env M1 σ H1 ∧ VR (rc g io1 M1 H1) v d ∧ PostE g E io1 env M1 σ H1 (kLockO d M1) Q) S z fun d M1 v H1 io1 t1 S1 r1 p1 => ⟨d, io1, M1, S1, r1, p1⟩)) fun u s1 ⟨x, H1, I1, rx, d, io1, M1, S1, r1, p1⟩ => ?_
  unfold kLockO at p1
  split at p1
  · rename_i i
    split at p1
    · rename_i kvs em
      cases r1 with
      | ref hi =>
        obtain ⟨vs, hh, rk⟩ := S1.toMR.mem i _ em
        obtain ⟨od, I2⟩ := I1.lock hh True.intro
        have t : ST io1 M1 H1 io1 (M1.set i .gone) (upd H1 (io1 i) (.frz od (.dK vs))) := .write em (fun z => by cases z)
        have S2 := S1.later t (S1.toMR.write (u := .gone) (o := .frz od (.dK vs)) em (fun z => by cases z) trivial)
        exact ⟨_, _, I2, rx, p1 _ _ io1 t S2 (.fdk upd_same (VRk.mono S1.toMR t rk))⟩
    · exact p1.elim
  · exact p1.elim
/-! ### lists, tuples -/
def lsF : D → Option (List D)
  | .lst ds => some ds
  | .bor ds => some ds
  | .scr ns => some (ns.map D.int)
  | _ => none
/-- what may be walked: it stays as it is -/
def itD : D → Option (List D)
  | .tup ds => some ds
  | d => lsF d
theorem lsF_ls {M : Mem} {d : D} {ds : List D} (e : lsF d = some ds) : lsD M d = some ds := by
  cases d <;> simp [lsF] at e <;> simp [lsD, lx, e]
section
variable {g : G} {io : Nat → Addr} {M : Mem} {H : Hp} {a : Addr} {d : D} {ds : List D}
theorem walk_list (m : MR g io M H) (r : VR (rc g io M H) (.ref a) d) (e : lsF d = some ds) : WalkD g io M H (Itl g.K a) ds := by
  have key : ∀ (F : Addr → Prop) (io2 : Nat → Addr) (M2 : Mem) (H2 : Hp), (∀ a, F a → g.F a ∨ H a = none) → ST io M H io2 M2 H2 → MR (g.wF F) io2 M2 H2 → ∃ vs, SqL g.K H2 a vs ∧ VRs (rc (g.wF F) io2 M2 H2) vs ds := fun F io2 M2 H2 hF t m2 => by
    obtain ⟨b, vs, eb, h, rs⟩ := lsD_at m2 (VR.monoF hF m t r) (lsF_ls e)
    cases eb
    exact ⟨vs, h, rs⟩
  refine ⟨fun F i io2 M2 H2 hF t m2 hi => ?_, fun F io2 M2 H2 hF t m2 => ?_, fun F i x io2 M2 H2 H3 y hF t m2 ex hy => ?_⟩
  · obtain ⟨vs, h, rs⟩ := key F io2 M2 H2 hF t m2
    exact ⟨vs, vs[i]'(by rw [VRs.length rs]; exact hi), h, List.getElem?_eq_getElem _⟩
  · obtain ⟨vs, h, rs⟩ := key F io2 M2 H2 hF t m2
    exact ⟨vs, h, by rw [VRs.length rs]; exact Nat.le_refl _⟩
  · obtain ⟨vs, h, rs⟩ := key F io2 M2 H2 hF t m2
    obtain ⟨eH, hx⟩ := hy
    subst eH
    obtain ⟨v, h1, h2⟩ := rs.get ex
    have h3 := hx vs h
    rw [h1] at h3
    cases h3
    exact ⟨.refl, m2, h2⟩
theorem walk_tup (m : MR g io M H) (r : VR (rc g io M H) (.ref a) (.tup ds)) : WalkD g io M H (Itt g.K a) ds := by
  have key : ∀ (F : Addr → Prop) (io2 : Nat → Addr) (M2 : Mem) (H2 : Hp), (∀ a, F a → g.F a ∨ H a = none) → ST io M H io2 M2 H2 → MR (g.wF F) io2 M2 H2 → ∃ vs, SqT g.K H2 a vs ∧ VRs (rc (g.wF F) io2 M2 H2) vs ds := fun F io2 M2 H2 hF t m2 => by
    obtain ⟨b, vs, eb, h, rs⟩ := tpD_at (VR.monoF hF m t r) rfl
    cases eb
    exact ⟨vs, h, rs⟩
  refine ⟨fun F i io2 M2 H2 hF t m2 hi => ?_, fun F io2 M2 H2 hF t m2 => ?_, fun F i x io2 M2 H2 H3 y hF t m2 ex hy => ?_⟩
  · obtain ⟨vs, h, rs⟩ := key F io2 M2 H2 hF t m2
    exact ⟨vs, vs[i]'(by rw [VRs.length rs]; exact hi), h, List.getElem?_eq_getElem _⟩
  · obtain ⟨vs, h, rs⟩ := key F io2 M2 H2 hF t m2
    exact ⟨vs, h, by rw [VRs.length rs]; exact Nat.le_refl _⟩
  · obtain ⟨vs, h, rs⟩ := key F io2 M2 H2 hF t m2
    obtain ⟨eH, hx⟩ := hy
    subst eH
    obtain ⟨v, h1, h2⟩ := rs.get ex
    have h3 := hx vs h
    rw [h1] at h3
    cases h3
    exact ⟨.refl, m2, h2⟩
/-- lo, lo + 1, .. -/
def rgF (lo : Int) (n : Nat) : List D := (List.range n).map fun i => D.int (lo + (i : Nat))
theorem walk_range (lo : Int) (n : Nat) : WalkD g io M H (Itr lo n) (rgF lo n) := by
  refine ⟨fun F i io2 M2 H2 hF t m2 hi => ?_, fun F io2 M2 H2 hF t m2 => ?_, fun F i x io2 M2 H2 H3 y hF t m2 ex hy => ?_⟩
  · show i < n
    simpa [rgF] using hi
  · show n ≤ (rgF lo n).length
    simp [rgF]
  · obtain ⟨eH, ey⟩ := hy
    subst eH ey
    have hi : i < n := by
      have := (List.getElem?_eq_some_iff.mp ex).1
      simpa [rgF] using this
    unfold rgF at ex
    rw [List.getElem?_map, List.getElem?_range hi] at ex
    cases ex
    exact ⟨.refl, m2, .int _⟩
end
/-- what walks a list or a tuple -/
def iSq (K : PySem.W.Frag) (tl : TE) : TI := fun σ H R => tl σ H fun x H1 => ∃ a, x = .ref a ∧ (((∃ xs, SqL K H1 a xs) ∧ R (Itl K a) H1) ∨ ((∃ xs, SqT K H1 a xs) ∧ R (Itt K a) H1))
theorem pi_sq {X : Cx} {tg l : Expr} {tl : TE} (hl : PE X l tl) : PI X tg l (iSq X.K tl) := by
  refine ⟨fun pins s σ H R I h => thn (hl.run pins s σ H _ I h) fun v s1 ⟨x, H1, I1, r1, a, e, q⟩ => ?_⟩
  subst e
  cases r1
  have hn : ∀ b ∈ [s1.heap.objs.size], FpOk X pins H1 b := fun b hb => by
    rw [List.mem_singleton.mp hb]
    exact I1.fpOk (Nat.le_refl _) (I1.hok.fresh (Nat.le_refl _))
  rcases q with ⟨⟨xs, hq⟩, q⟩ | ⟨⟨xs, hq⟩, q⟩
  · obtain ⟨its, rv, p, hz⟩ := I1.list hq
    exact wpAny_pyIter_list p.isList ⟨_, [s1.heap.objs.size], _, _, H1, rfl, I1.kept (t' := s1.toks) fun b o e => Heap.get?_push_of_some _ e, turn_list a _, ⟨_, Heap.get?_push_size _ rfl, rfl, rfl⟩, hn, q⟩
  · obtain ⟨its, rv, p, hz⟩ := I1.tuple hq
    exact wpAny_pyIter_tuple (show s1.heap.IsTuple a its.toArray from p) ⟨_, [s1.heap.objs.size], _, _, H1, rfl, I1.kept (t' := s1.toks) fun b o e => Heap.get?_push_of_some _ e, turn_tuple a _, ⟨_, Heap.get?_push_size _ rfl, rfl, rfl⟩, hn, q⟩
def kIt (d : D) (M : Mem) : R (List D) := R.of (itD d) M
def iOf (k : D → Mem → R (List D)) (f : FE) : FA := fun env M => (f env M).bind k
def iOfA (k : List D → Mem → R (List D)) (f : FA) : FA := fun env M => (f env M).bind k
section
variable {g : G} {E : WX} {X : Cx} {k : Nat} {pos p : Pos} {tg e e2 : Expr} {f : FE} {r : FA}
theorem trI_then {kk : D → Mem → R (List D)} {s : L2.St} {H : Hp} {Q : It → Hp → Prop} {C : V → Hp → Prop} {env : DEnv} {io : Nat → Addr} {M : Mem} (S : SR g io env M s H) (p : PostI g E io env M s H ((f env M).bind kk) Q)
    (hk : ∀ (d : D) (M1 : Mem) (v : V) (H1 : Hp) (io1 : Nat → Addr), ST io M H io1 M1 H1 → SR g io1 env M1 s H1 → VR (rc g io1 M1 H1) v d → PostI g E io1 env M1 s H1 (kk d M1) Q → C v H1) : trE g E f s H C := by
  refine ⟨env, io, M, S, ?_⟩
  cases e : f env M with
  | ok d M1 =>
    rw [e] at p
    intro v H1 io1 t S1 r
    refine hk d M1 v H1 io1 t S1 r ?_
    rw [R.bind_ok] at p
    cases e2 : kk d M1 with
    | ok ds M2 => rw [e2] at p; exact fun J H' io' t' => p J H' io' (t.trans t')
    | exc C as M2 => rw [e2] at p; exact PX.step t p
    | stuck => rw [e2] at p; exact p
  | exc C as M1 => rw [e] at p; exact p
  | stuck => rw [e] at p; exact p.elim
theorem trAI_then {f : FA} {kk : List D → Mem → R (List D)} {s : L2.St} {H : Hp} {Q : It → Hp → Prop} {C : List V → Hp → Prop} {env : DEnv} {io : Nat → Addr} {M : Mem} (S : SR g io env M s H) (p : PostI g E io env M s H ((f env M).bind kk) Q)
    (hk : ∀ (d : List D) (M1 : Mem) (v : List V) (H1 : Hp) (io1 : Nat → Addr), ST io M H io1 M1 H1 → SR g io1 env M1 s H1 → VRs (rc g io1 M1 H1) v d → PostI g E io1 env M1 s H1 (kk d M1) Q → C v H1) : trA g E f s H C := by
  refine ⟨env, io, M, S, ?_⟩
  cases e : f env M with
  | ok d M1 =>
    rw [e] at p
    intro v H1 io1 t S1 r
    refine hk d M1 v H1 io1 t S1 r ?_
    rw [R.bind_ok] at p
    cases e2 : kk d M1 with
    | ok ds M2 => rw [e2] at p; exact fun J H' io' t' => p J H' io' (t.trans t')
    | exc C as M2 => rw [e2] at p; exact PX.step t p
    | stuck => rw [e2] at p; exact p
  | exc C as M1 => rw [e] at p; exact p
  | stuck => rw [e] at p; exact p.elim
theorem PostI.here {ds : List D} {Q : It → Hp → Prop} {io : Nat → Addr} {env : DEnv} {M : Mem} {s : L2.St} {H : Hp} {J : It} (p : PostI g E io env M s H (.ok ds M) Q) (S : SR g io env M s H) (w : WalkD g io M H J ds) : Q J H := p J H io .refl S w
/-- a list or a tuple -/
theorem di_sq (hK : X.K = g.K) (he : DE g E X e f) : DI g E X tg e (iOf kIt f) :=
  PI.weak (pi_sq he) fun s H R ⟨env, io, M, S, z⟩ => trI_then S z fun d M1 v H1 io1 t1 S1 r1 p1 => by
    rw [hK]
    unfold kIt at p1
    cases e : itD d with
    | none => rw [e] at p1; exact p1.elim
    | some ds =>
      rw [e] at p1
      unfold itD at e
      split at e
      · cases e
        obtain ⟨a, vs, rfl, h, rs⟩ := tpD_at r1 rfl
        exact ⟨a, rfl, .inr ⟨⟨vs, h⟩, PostI.here p1 S1 (walk_tup S1.toMR r1)⟩⟩
      · obtain ⟨a, vs, rfl, h, rs⟩ := lsD_at S1.toMR r1 (lsF_ls e)
        exact ⟨a, rfl, .inl ⟨⟨vs, h⟩, PostI.here p1 S1 (walk_list S1.toMR r1 e)⟩⟩
/-- range(n), range(a, b) -/
def kRg1 (ds : List D) (M : Mem) : R (List D) := match ds with
  | [.int j] => if -(2 ^ 62) ≤ j ∧ j < 2 ^ 62 then .ok (rgF 0 j.toNat) M else .stuck
  | _ => .stuck
def kRg2 (ds : List D) (M : Mem) : R (List D) := match ds with
  | [.int i, .int j] => if -(2 ^ 62) ≤ i ∧ i < 2 ^ 62 ∧ -(2 ^ 62) ≤ j ∧ j < 2 ^ 62 then .ok (rgF i (j - i).toNat) M else .stuck
  | _ => .stuck
theorem di_range1 (o : OkB g X) (hg : Gl X "range") (hm : g.mg "range" = none) (ha : DA g E X [e] r) (hs : starEach [e] X.env = [(false, eval e X.env)] := by rfl) : DI g E X tg (.Call (.Name "range" p) [e] [] pos) (iOfA kRg1 r) :=
  PI.weak (pi_range1 hg (by rw [o.mg]; exact hm) ha hs) fun s H R ⟨env, io, M, S, z⟩ => trAI_then S z fun d M1 v H1 io1 t1 S1 r1 p1 => by
    unfold kRg1 at p1
    split at p1
    · cases r1 with
      | cons r1 rr =>
        cases rr
        cases r1
        split at p1
        · rename_i h
          exact ⟨_, rfl, h.1, h.2, PostI.here p1 S1 (walk_range _ _)⟩
        · exact p1.elim
    · exact p1.elim
theorem di_range2 (o : OkB g X) (hg : Gl X "range") (hm : g.mg "range" = none) (ha : DA g E X [e, e2] r) (hs : starEach [e, e2] X.env = [(false, eval e X.env), (false, eval e2 X.env)] := by rfl) (hs2 : starEach [e2] X.env = [(false, eval e2 X.env)] := by rfl) : DI g E X tg (.Call (.Name "range" p) [e, e2] [] pos) (iOfA kRg2 r) :=
  PI.weak (pi_range2 hg (by rw [o.mg]; exact hm) ha hs hs2) fun s H R ⟨env, io, M, S, z⟩ => trAI_then S z fun d M1 v H1 io1 t1 S1 r1 p1 => by
    unfold kRg2 at p1
    split at p1
    · cases r1 with
      | cons r1 rr =>
        cases rr with
        | cons r2 rr =>
          cases rr
          cases r1; cases r2
          split at p1
          · rename_i h
            exact ⟨_, _, rfl, h, PostI.here p1 S1 (walk_range _ _)⟩
          · exact p1.elim
    · exact p1.elim
end
/-! ### enumerate -/
/-- the items of the tuple at a, each in a new pair with its number -/
def IteT (K : PySem.W.Frag) (a : Addr) : It :=
  ⟨fun i H => ∃ (xs : List V) (x : V), SqT K H a xs ∧ xs[i]? = some x, fun i H v H' => ∃ T x, v = .ref T ∧ H T = none ∧ H' = upd H T (.tup [.int (i : Nat), x]) ∧ ∀ xs, SqT K H a xs → xs[i]? = some x, fun i H => ∃ xs : List V, SqT K H a xs ∧ xs.length ≤ i⟩
section
variable {prog : Program} {w : World} {A : Around} {E : Value → Shared → Prop} {s : Shared}
/-- enumerate(v), v told by how its iterator begins -/
theorem meets_enum1 {v : Value} {o : Obj} {H : Heap → Prop} (B : Begins v o H) :
    Meets (Builtin.«enumerate.__new__» ⟨[.type "enumerate", v], []⟩) (fun _ R s => H s.heap ∧
      R (.ok (.ret (.ref (s.heap.push o).objs.size))) { s with heap := (s.heap.push o).push { cls := .type "enumerate", data := .fields #[.none, .bool false, .ref s.heap.objs.size, rawInt 0, .none, .none] } }) :=
  .of_wp fun prog w A R s h => by
    obtain ⟨hp, g, d, tk, os⟩ := s
    obtain ⟨h1, h⟩ := h
    have hsub := sub_enumerate
    have go : ∀ {A' : Around} {E : Value → Shared → Prop} {Q : Value → Shared → Prop}, Q (.ref hp.objs.size) ⟨hp.push o, g, d, tk, os⟩ → wpAny (model prog w) A' (pyIter v) Q E ⟨hp, g, d, tk, os⟩ := fun q => B.iter prog w _ _ ⟨hp, g, d, tk, os⟩ _ h1 q
    wp_walk using go
    refine wpAny_stack_any fun st => wpAny_pure ?_
    split
    · rename_i c _ _ _ _ _
      cases (c == Value.type "enumerate") <;> (wp_walk using go; exact ⟨_, rfl, h⟩)
    · wp_walk using go
      exact ⟨_, rfl, h⟩
theorem enum_call1 {v : Value} {o : Obj} {H : Heap → Prop} {Q : Value → Shared → Prop} (B : Begins v o H) (h1 : H s.heap)
    (h : ∀ h', IsEnum h' (s.heap.objs.size + 1) s.heap.objs.size 0 .none → h'.get? s.heap.objs.size = some o → h'.objs.size = s.heap.objs.size + 2 →
      (∀ b o, s.heap.get? b = some o → h'.get? b = some o) → Q (.ref (s.heap.objs.size + 1)) { s with heap := h' }) : wpAny (model prog w) A (call (.type "enumerate") [v]) Q E s := by
  refine callType_new F.called_enumerate (by decide) (F.typeCall_enumerate_1 _) (F.newCall_enumerate_1 _) (fun obj => F.args_object_init_2 obj _) F.entry_enumerate_new (meets_enum1 B) ⟨h1, ?_⟩
  have hz : (s.heap.push o).objs.size = s.heap.objs.size + 1 := Heap.size_push ..
  show _ ∧ _
  rw [hz]
  have he : IsEnum ((s.heap.push o).push { cls := .type "enumerate", data := .fields #[.none, .bool false, .ref s.heap.objs.size, rawInt 0, .none, .none] }) (s.heap.objs.size + 1) s.heap.objs.size 0 .none := by
    have := Heap.get?_push_size (s.heap.push o) (o := { cls := .type "enumerate", data := .fields #[.none, .bool false, .ref s.heap.objs.size, rawInt 0, .none, .none] }) rfl
    rw [hz] at this
    exact this
  exact ⟨⟨_, he, rfl⟩, h _ he (Heap.get?_push_of_some _ (Heap.get?_push_size _ B.free)) (by rw [Heap.size_push, hz]) fun b o x => Heap.get?_push_of_some _ (Heap.get?_push_of_some _ x)⟩
end
theorem turn_enumT {P : Program} {w : World} {K : PySem.W.Frag} {elts : List Expr} {kk : Nat} {tpos : Pos} (a e it : Addr) :
    Turn P w K (.Tuple elts kk tpos) (IteT K a) [e, it] e (fun i h => (∃ old, IsEnum h e it ((i : Nat) : Int) old) ∧ h.IsTupleIter it a i ∧ e ≠ it ∧ a ≠ it ∧ a ≠ e) where
  mem := by simp
  obj := fun i h st b hb => by
    obtain ⟨⟨old, he⟩, ⟨o, ho, hc, hd⟩, _⟩ := st
    have e' : b = e ∨ b = it := by simpa using hb
    rcases e' with z | z
    · rw [z]; exact ⟨_, he, fun v q => nomatch q⟩
    · rw [z]; exact ⟨o, ho, fun v q => by rw [hd] at q; cases q⟩
  keep := fun i h h' st k => let ⟨⟨old, he⟩, hi, hne⟩ := st; ⟨⟨old, k e (by simp) _ he⟩, hi.at fun o q => k it (by simp) o q, hne⟩
  item := by
    intro X hP hw hK hc i pins s σ H E I hf st hg
    subst hP hw hK
    obtain ⟨⟨old, he⟩, hit, hne, hai, hae⟩ := st
    obtain ⟨xs, x, hq, hx⟩ := hg
    obtain ⟨its, rv, p, hz⟩ := I.tuple hq
    obtain ⟨u, hu, ru⟩ := rv.get hx
    have hel : e < s.heap.objs.size := Heap.lt_size he
    have hil : it < s.heap.objs.size := by obtain ⟨_, q, _⟩ := hit; exact Heap.lt_size q
    have hlen : i < its.toArray.size := by
      have := (List.getElem?_eq_some_iff.mp hu).1
      simpa using this
    have D := Draws.tuple (prog := X.prog) (w := X.w) (A := X.A.in1) (I.ok.hd hc) it a hai its.toArray
    refine wpAny_pyNext_enum_itemC D he ⟨hit, (show s.heap.IsTuple a its.toArray from p)⟩ hlen hne (by simp [hne, Ne.symm hae]) fun y h' tk hy ho hs' hT hsz hk => ?_
    obtain rfl : y = u := by
      have hy' : its.toArray[i]? = some y := hy
      have hu' : its.toArray[i]? = some u := by simpa using hu
      rw [hu'] at hy'
      exact (Option.some.inj hy').symm
    refine ⟨_, rfl, wpAny_letOwnedTupleGo_enum (s := { s with heap := h', toks := tk + 1 }) ho fun h'' he' sb => ?_⟩
    have hT2 : h''.get? s.heap.objs.size = some { cls := .type "tuple", data := .seq #[.int i tk, y] } := (sb.2 _ (Nat.ne_of_gt hel)).trans hT
    have new : ObjOk X.prog X.w (upd H s.heap.objs.size (.tup [.int (i : Nat), x])) h'' s.heap.objs.size (.tup [.int (i : Nat), x]) :=
      ⟨by show 2 ≤ sizeLine; decide, [.int i tk, y], .cons ⟨_, rfl⟩ (.cons ru .nil), ⟨_, hT2, rfl, _, rfl⟩⟩
    have I1 : Inv X pins σ (upd H s.heap.objs.size (.tup [.int (i : Nat), x])) { s with heap := h'', toks := tk + 1 } :=
      I.turnedNew (ch := [e, it]) (fun b ob hb q => (sb.2 b (fun z => hb (by simp [z]))).trans (hk b ob (fun z => hb (by simp [z])) (fun z => hb (by simp [z])) q)) hf (Nat.le_refl _) new
    refine ⟨.ref s.heap.objs.size, _, I1, rfl, ⟨_, x, rfl, I.hok.fresh (Nat.le_refl _), rfl, fun ys hy => by rw [I.tuple_inj hy hq]; exact hx⟩, ⟨⟨y, ?_⟩, hs'.1.at fun o q => (sb.2 it (Ne.symm hne)).trans q, hne, hai, hae⟩, fun b hb => ?_⟩
    · have e1 : ((i + 1 : Nat) : Int) = (i : Int) + 1 := by omega
      rw [e1]
      exact he'
    · have hb' : b < s.heap.objs.size := by
        have e' : b = e ∨ b = it := by simpa using hb
        rcases e' with z | z
        · rw [z]; exact hel
        · rw [z]; exact hil
      rw [upd_ne (Nat.ne_of_lt hb')]
      exact (hf b hb).1
  done := by
    intro X hP hw hK hc i pins s σ H E I hf st hg
    subst hP hw hK
    obtain ⟨⟨old, he⟩, hit, hne, hai, hae⟩ := st
    obtain ⟨xs, hq, hx⟩ := hg
    obtain ⟨its, rv, p, hz⟩ := I.tuple hq
    obtain ⟨f0, f1, f2, f3, f4, f5⟩ := hf it (by simp)
    have hl := rv.length
    have hT : s.TypeIs (.ref e) "enumerate" := ⟨_, he, rfl⟩
    unfold pyNext
    refine wpAny_bind (wpAny_attempt (wpAny_callSpecial?_slot (name := Str.ofString "__next__") hT F.slot_enumerate_next (wpAny_call_entry F.slot_enumerate_next hT F.entry_enumerate_next ?_ (F.args_enumerate_next_1 _))))
    show wpAny _ _ (field (.ref e) 2 >>= _) _ _ _
    refine wpAny_bind (wpAny_field he rfl (x := .ref it) rfl ?_)
    refine wpAny_bind (wpAny_nextOf_tuple_end (I.ok.hd hc) hit (show s.heap.IsTuple a its.toArray from p) (by simp; omega) fun h' x eb hx' => ?_)
    obtain ⟨o, ho, hc'⟩ := hx'
    refine wpAny_bind (wpAny_isInstance (T := "StopIteration") (b := true) ⟨o, ho, hc'⟩ isSubtype_stop ?_)
    exact wpAny_pure ⟨rfl, I.turned (t' := s.toks) (fun b o hb q => eb b o hb q) f0 f1 f3 f4 f5⟩
  self := fun A i s Q E st h => let ⟨⟨_, he⟩, _⟩ := st; wpAny_pyIter_enum he h
def iEnA (K : PySem.W.Frag) (ta : TA) : TI := fun σ H R => ta σ H fun vs H1 => ∃ a xs, vs = [.ref a] ∧ ((SqL K H1 a xs ∧ R (Ite K a) H1) ∨ (SqT K H1 a xs ∧ R (IteT K a) H1))
theorem pi_enumA {X : Cx} {e : Expr} {ta : TA} {p pos tpos : Pos} {elts : List Expr} {kk : Nat} (hg : Gl X "enumerate") (hm : X.mg "enumerate" = none) (ha : PA X [e] ta) (hs : starEach [e] X.env = [(false, eval e X.env)]) :
    PI X (.Tuple elts kk tpos) (.Call (.Name "enumerate" p) [e] [] pos) (iEnA X.K ta) := by
  refine ⟨fun pins s σ H R I h => ?_⟩
  refine Call_ (ld_blt I hg hm boot_enumerate (PyProof.Rows.callWith_type1 (thn (ha.run pos pins s σ H _ I h) fun us s1 ⟨vs, H1, I1, r1, a, xs, ex, q1⟩ => ?_) hs rfl))
  subst ex
  cases r1 with
  | cons r rr =>
    cases rr
    cases r
    have fresh : ∀ b ∈ [s1.heap.objs.size + 1, s1.heap.objs.size], FpOk X pins H1 b := fun b hb => by
      have e' : b = s1.heap.objs.size + 1 ∨ b = s1.heap.objs.size := by simpa using hb
      have hle : s1.heap.objs.size ≤ b := by
        rcases e' with z | z
        · rw [z]; exact Nat.le_add_right _ _
        · rw [z]; exact Nat.le_refl _
      exact I1.fpOk hle (I1.hok.fresh hle)
    rcases q1 with ⟨hq, q⟩ | ⟨hq, q⟩
    · obtain ⟨its, rv, p', hz⟩ := I1.list hq
      refine call_enumerate_list p'.isList fun h' he hit hsz hk => wpAny_pyIter_enum he ?_
      exact ⟨s1.heap.objs.size + 1, [s1.heap.objs.size + 1, s1.heap.objs.size], _, _, H1, rfl, I1.kept (t' := s1.toks) hk, turn_enum a (s1.heap.objs.size + 1) s1.heap.objs.size, ⟨⟨.none, he⟩, hit, Nat.succ_ne_self _⟩, fresh, q⟩
    · obtain ⟨its, rv, p', hz⟩ := I1.tuple hq
      obtain ⟨oa, ha', _⟩ := id p'
      have hlt := Heap.lt_size ha'
      refine enum_call1 (begins_tuple a its.toArray) (show s1.heap.IsTuple a its.toArray from p') fun h' he hit hsz hk => wpAny_pyIter_enum he ?_
      exact ⟨s1.heap.objs.size + 1, [s1.heap.objs.size + 1, s1.heap.objs.size], _, _, H1, rfl, I1.kept (t' := s1.toks) hk, turn_enumT a (s1.heap.objs.size + 1) s1.heap.objs.size,
        ⟨⟨.none, he⟩, ⟨_, hit, rfl, rfl⟩, Nat.succ_ne_self _, Nat.ne_of_lt hlt, Nat.ne_of_lt (Nat.lt_succ_of_lt hlt)⟩, fresh, q⟩
section
variable {g : G} {io : Nat → Addr} {M : Mem} {H : Hp} {a b : Addr} {d d2 : D} {ds ds2 : List D}
def enF (ds : List D) : List D := (List.range ds.length).map fun i => D.tup [.int (i : Nat), ds.getD i .non]
theorem enF_get {i : Nat} {d x : D} (h : ds[i]? = some d) (e : (enF ds)[i]? = some x) : x = .tup [.int (i : Nat), d] := by
  unfold enF at e
  have hi := (List.getElem?_eq_some_iff.mp h).1
  rw [List.getElem?_map, List.getElem?_range hi] at e
  cases e
  simp [List.getD, h]
theorem enF_length : (enF ds).length = ds.length := by simp [enF]
/-- a new pair -/
theorem pair_new {F : Addr → Prop} {io2 : Nat → Addr} {M2 : Mem} {H2 : Hp} (m2 : MR (g.wF F) io2 M2 H2) {T : Addr} {v w : V} {x y : D} (hT : H2 T = none) (r1 : VR (rc (g.wF F) io2 M2 H2) v x) (r2 : VR (rc (g.wF F) io2 M2 H2) w y) :
    ST io2 M2 H2 io2 M2 (upd H2 T (.tup [v, w])) ∧ MR (g.wF F) io2 M2 (upd H2 T (.tup [v, w])) ∧ VR (rc (g.wF F) io2 M2 (upd H2 T (.tup [v, w]))) (.ref T) (.tup [x, y]) :=
  ⟨.fresh hT, m2.fresh hT, .tup (SqT.of upd_same) (.cons (VR.mono m2 (.fresh hT) r1) (.cons (VR.mono m2 (.fresh hT) r2) .nil))⟩
theorem walk_en {J : It} {S : Hp → List V → Prop} (key : ∀ (F : Addr → Prop) (io2 : Nat → Addr) (M2 : Mem) (H2 : Hp), (∀ a, F a → g.F a ∨ H a = none) → ST io M H io2 M2 H2 → MR (g.wF F) io2 M2 H2 → ∃ vs, S H2 vs ∧ VRs (rc (g.wF F) io2 M2 H2) vs ds)
    (hgo : ∀ i H vs v, S H vs → vs[i]? = some v → J.go i H) (hst : ∀ i H vs, S H vs → vs.length ≤ i → J.stop i H)
    (hy : ∀ i H x H3, J.yld i H x H3 → ∃ T y, x = .ref T ∧ H T = none ∧ H3 = upd H T (.tup [.int (i : Nat), y]) ∧ ∀ vs, S H vs → vs[i]? = some y) : WalkD g io M H J (enF ds) := by
  refine ⟨fun F i io2 M2 H2 hF t m2 hi => ?_, fun F io2 M2 H2 hF t m2 => ?_, fun F i x io2 M2 H2 H3 y hF t m2 ex hy' => ?_⟩
  · obtain ⟨vs, h, rs⟩ := key F io2 M2 H2 hF t m2
    rw [enF_length] at hi
    exact hgo i H2 vs (vs[i]'(by rw [VRs.length rs]; exact hi)) h (List.getElem?_eq_getElem _)
  · obtain ⟨vs, h, rs⟩ := key F io2 M2 H2 hF t m2
    exact hst _ H2 vs h (by rw [VRs.length rs, enF_length]; exact Nat.le_refl _)
  · obtain ⟨vs, h, rs⟩ := key F io2 M2 H2 hF t m2
    obtain ⟨T, w, rfl, hT, rfl, hx⟩ := hy i H2 y H3 hy'
    have h1 := hx vs h
    obtain ⟨d, h2, h3⟩ := rs.get' h1
    rw [enF_get h2 ex]
    exact pair_new m2 hT (.int _) h3
theorem key_list (m : MR g io M H) (r : VR (rc g io M H) (.ref a) d) (e : lsF d = some ds) (F : Addr → Prop) (io2 : Nat → Addr) (M2 : Mem) (H2 : Hp) (hF : ∀ a, F a → g.F a ∨ H a = none) (t : ST io M H io2 M2 H2) (m2 : MR (g.wF F) io2 M2 H2) : ∃ vs, SqL g.K H2 a vs ∧ VRs (rc (g.wF F) io2 M2 H2) vs ds := by
  obtain ⟨b, vs, eb, h, rs⟩ := lsD_at m2 (VR.monoF hF m t r) (lsF_ls e)
  cases eb
  exact ⟨vs, h, rs⟩
theorem key_tup (m : MR g io M H) (r : VR (rc g io M H) (.ref a) (.tup ds)) (F : Addr → Prop) (io2 : Nat → Addr) (M2 : Mem) (H2 : Hp) (hF : ∀ a, F a → g.F a ∨ H a = none) (t : ST io M H io2 M2 H2) (m2 : MR (g.wF F) io2 M2 H2) : ∃ vs, SqT g.K H2 a vs ∧ VRs (rc (g.wF F) io2 M2 H2) vs ds := by
  obtain ⟨b, vs, eb, h, rs⟩ := tpD_at (VR.monoF hF m t r) rfl
  cases eb
  exact ⟨vs, h, rs⟩
def zpF (ds ds2 : List D) : List D := (ds.zip ds2).map fun p => D.tup [p.1, p.2]
theorem walk_zp {J : It} {S S2 : Hp → List V → Prop} (key : ∀ (F : Addr → Prop) (io2 : Nat → Addr) (M2 : Mem) (H2 : Hp), (∀ a, F a → g.F a ∨ H a = none) → ST io M H io2 M2 H2 → MR (g.wF F) io2 M2 H2 → ∃ vs, S H2 vs ∧ VRs (rc (g.wF F) io2 M2 H2) vs ds)
    (key2 : ∀ (F : Addr → Prop) (io2 : Nat → Addr) (M2 : Mem) (H2 : Hp), (∀ a, F a → g.F a ∨ H a = none) → ST io M H io2 M2 H2 → MR (g.wF F) io2 M2 H2 → ∃ vs, S2 H2 vs ∧ VRs (rc (g.wF F) io2 M2 H2) vs ds2)
    (hgo : ∀ i H vs ws v w, S H vs → S2 H ws → vs[i]? = some v → ws[i]? = some w → J.go i H) (hst : ∀ i H vs ws, S H vs → S2 H ws → (vs.length ≤ i ∨ ws.length ≤ i) → J.stop i H)
    (hy : ∀ i H x H3, J.yld i H x H3 → ∃ T y z, x = .ref T ∧ H T = none ∧ H3 = upd H T (.tup [y, z]) ∧ (∀ vs, S H vs → vs[i]? = some y) ∧ ∀ vs, S2 H vs → vs[i]? = some z) : WalkD g io M H J (zpF ds ds2) := by
  have hlen : (zpF ds ds2).length = min ds.length ds2.length := by simp [zpF, List.length_zip]
  refine ⟨fun F i io2 M2 H2 hF t m2 hi => ?_, fun F io2 M2 H2 hF t m2 => ?_, fun F i x io2 M2 H2 H3 y hF t m2 ex hy' => ?_⟩
  · obtain ⟨vs, h, rs⟩ := key F io2 M2 H2 hF t m2
    obtain ⟨ws, h', rs'⟩ := key2 F io2 M2 H2 hF t m2
    rw [hlen] at hi
    exact hgo i H2 vs ws (vs[i]'(by rw [VRs.length rs]; omega)) (ws[i]'(by rw [VRs.length rs']; omega)) h h' (List.getElem?_eq_getElem _) (List.getElem?_eq_getElem _)
  · obtain ⟨vs, h, rs⟩ := key F io2 M2 H2 hF t m2
    obtain ⟨ws, h', rs'⟩ := key2 F io2 M2 H2 hF t m2
    exact hst _ H2 vs ws h h' (by rw [VRs.length rs, VRs.length rs', hlen]; omega)
  · obtain ⟨vs, h, rs⟩ := key F io2 M2 H2 hF t m2
    obtain ⟨ws, h', rs'⟩ := key2 F io2 M2 H2 hF t m2
    obtain ⟨T, v, w, rfl, hT, rfl, hx, hx'⟩ := hy i H2 y H3 hy'
    obtain ⟨d1, h2, h3⟩ := rs.get' (hx vs h)
    obtain ⟨d2, h4, h5⟩ := rs'.get' (hx' ws h')
    have ez : x = .tup [d1, d2] := by
      unfold zpF at ex
      have hz : (ds.zip ds2)[i]? = some (d1, d2) := List.getElem?_zip_eq_some.mpr ⟨h2, h4⟩
      rw [List.getElem?_map, hz] at ex
      cases ex
      rfl
    rw [ez]
    exact pair_new m2 hT h3 h5
end
def kEn (ds : List D) (M : Mem) : R (List D) := match ds with
  | [d] => R.of ((itD d).map enF) M
  | _ => .stuck
def kZp (ds : List D) (M : Mem) : R (List D) := match ds with
  | [.tup xs, .tup ys] => .ok (zpF xs ys) M
  | [a, b] => (match lsF a, lsF b with
    | some xs, some ys => .ok (zpF xs ys) M
    | _, _ => .stuck)
  | _ => .stuck
section
variable {g : G} {E : WX} {X : Cx} {k kk : Nat} {pos p tpos : Pos} {e e2 : Expr} {elts : List Expr} {f : FE} {r : FA}
theorem di_enum (o : OkB g X) (hg : Gl X "enumerate") (hm : g.mg "enumerate" = none) (ha : DA g E X [e] r) (hs : starEach [e] X.env = [(false, eval e X.env)] := by rfl) : DI g E X (.Tuple elts kk tpos) (.Call (.Name "enumerate" p) [e] [] pos) (iOfA kEn r) :=
  PI.weak (pi_enumA hg (by rw [o.mg]; exact hm) ha hs) fun s H R ⟨env, io, M, S, z⟩ => trAI_then S z fun ds M1 vs H1 io1 t1 S1 r1 p1 => by
    rw [o.K]
    unfold kEn at p1
    split at p1
    · rename_i d
      cases r1 with
      | cons r1 rr =>
        cases rr
        cases ei : itD d with
        | none => rw [ei] at p1; exact p1.elim
        | some xs =>
          rw [ei] at p1
          unfold itD at ei
          split at ei
          · cases ei
            obtain ⟨a, vs, rfl, h, rs⟩ := tpD_at r1 rfl
            refine ⟨a, vs, rfl, .inr ⟨h, PostI.here p1 S1 ?_⟩⟩
            exact walk_en (S := fun H vs => SqT g.K H a vs) (key_tup S1.toMR r1) (fun i H vs v h1 h2 => ⟨vs, v, h1, h2⟩) (fun i H vs h1 h2 => ⟨vs, h1, h2⟩) (fun i H x H3 ⟨T, y, h1, h2, h3, h4⟩ => ⟨T, y, h1, h2, h3, h4⟩)
          · obtain ⟨a, vs, rfl, h, rs⟩ := lsD_at S1.toMR r1 (lsF_ls ei)
            refine ⟨a, vs, rfl, .inl ⟨h, PostI.here p1 S1 ?_⟩⟩
            exact walk_en (S := fun H vs => SqL g.K H a vs) (key_list S1.toMR r1 ei) (fun i H vs v h1 h2 => ⟨vs, v, h1, h2⟩) (fun i H vs h1 h2 => ⟨vs, h1, h2⟩) (fun i H x H3 ⟨T, y, h1, h2, h3, h4⟩ => ⟨T, y, h1, h2, h3, h4⟩)
    · exact p1.elim
theorem di_zip (o : OkB g X) (hg : Gl X "zip") (hm : g.mg "zip" = none) (ha : DA g E X [e, e2] r) (hs : starEach [e, e2] X.env = (false, eval e X.env) :: starEach [e2] X.env := by rfl) (hpl : (backTo pos (starEach [e2] X.env)).any (·.1) = false := by rfl) : DI g E X (.Tuple elts kk tpos) (.Call (.Name "zip" p) [e, e2] [] pos) (iOfA kZp r) :=
  PI.weak (RZ.pi_zipA hg (by rw [o.mg]; exact hm) ha hs hpl) fun s H R ⟨env, io, M, S, z⟩ => trAI_then S z fun ds M1 vs H1 io1 t1 S1 r1 p1 => by
    rw [o.K]
    unfold kZp at p1
    split at p1
    · cases r1 with
      | cons r1 rr => cases rr with
        | cons r2 rr =>
          cases rr
          obtain ⟨a, vs, rfl, h, rs⟩ := tpD_at r1 rfl
          obtain ⟨b, ws, rfl, h', rs'⟩ := tpD_at r2 rfl
          refine ⟨a, b, vs, ws, rfl, .inr ⟨h, h', PostI.here p1 S1 ?_⟩⟩
          exact walk_zp (S := fun H vs => SqT g.K H a vs) (S2 := fun H vs => SqT g.K H b vs) (key_tup S1.toMR r1) (key_tup S1.toMR r2) (fun i H vs ws v w h1 h2 h3 h4 => ⟨vs, ws, v, w, h1, h2, h3, h4⟩) (fun i H vs ws h1 h2 h3 => ⟨vs, ws, h1, h2, h3⟩) (fun i H x H3 ⟨T, y, z, h1, h2, h3, h4, h5⟩ => ⟨T, y, z, h1, h2, h3, h4, h5⟩)
    · split at p1
      · rename_i xs ys ex ey
        cases r1 with
        | cons r1 rr => cases rr with
          | cons r2 rr =>
            cases rr
            obtain ⟨a, vs, rfl, h, rs⟩ := lsD_at S1.toMR r1 (lsF_ls ex)
            obtain ⟨b, ws, rfl, h', rs'⟩ := lsD_at S1.toMR r2 (lsF_ls ey)
            refine ⟨a, b, vs, ws, rfl, .inl ⟨h, h', PostI.here p1 S1 ?_⟩⟩
            exact walk_zp (S := fun H vs => SqL g.K H a vs) (S2 := fun H vs => SqL g.K H b vs) (key_list S1.toMR r1 ex) (key_list S1.toMR r2 ey) (fun i H vs ws v w h1 h2 h3 h4 => ⟨vs, ws, v, w, h1, h2, h3, h4⟩) (fun i H vs ws h1 h2 h3 => ⟨vs, ws, h1, h2, h3⟩) (fun i H x H3 ⟨T, y, z, h1, h2, h3, h4, h5⟩ => ⟨T, y, z, h1, h2, h3, h4, h5⟩)
      · exact p1.elim
    · exact p1.elim
/-- d.keys(), the dict locked -/
def keyV : Key → D
  | .inl i => .int i
  | .inr x => .str x
theorem keyV_at {c : RC} (k : Key) : VR c (kV k) (keyV k) := by cases k; exact .int _; exact .str _
def kKeys (d : D) (M : Mem) : R (List D) := match d with
  | .fdk kvs => .ok (kvs.map fun kv => keyV kv.1) M
  | _ => .stuck
theorem VRk.keys {c : RC} : ∀ {vs : List (Key × V)} {ds : List (Key × D)}, VRk c vs ds → ds.map (·.1) = vs.map (·.1)
  | _, _, .nil => rfl
  | _, _, .cons r t => by rw [List.map_cons, List.map_cons, VRk.keys t]
theorem di_keys {tg : Expr} {apos : Pos} (he : DE g E X e f) (hbase : attributeBase e "keys" X.env (eval e X.env) = eval e X.env := by rfl) (hline : (apos.endLine == pos.line) = true := by rfl) : DI g E X tg (.Call (.Attribute e "keys" apos) [] [] pos) (iOf kKeys f) :=
  PI.weak (pi_keysM he hbase hline) fun s H R ⟨env, io, M, S, z⟩ => trI_then S z fun d M1 v H1 io1 t1 S1 r1 p1 => by
    unfold kKeys at p1
    split at p1
    · rename_i kvs
      cases r1 with
      | @fdk a od vs _ h rk =>
        have kk := rk.keys
        have hl : kvs.length = vs.length := by simpa using congrArg List.length kk
        refine ⟨a, od, vs, rfl, h, PostI.here p1 S1 ?_⟩
        have stay : ∀ {F : Addr → Prop} {io2 : Nat → Addr} {M2 : Mem} {H2 : Hp}, ST io1 M1 H1 io2 M2 H2 → H2 a = some (.frz od (.dK vs)) := fun {F io2 M2 H2} t => (t.ext _ _ h (S1.toMR.not_own h (fun _ z => by cases z) (fun _ z => by cases z) (fun _ _ _ z => by cases z)) (fun _ z => by cases z)).1
        refine ⟨fun F i io2 M2 H2 hF t m2 hi => ⟨stay (F := F) t, by rw [← hl]; simpa using hi⟩, fun F io2 M2 H2 hF t m2 => ⟨stay (F := F) t, by rw [← hl]; simp⟩, fun F i x io2 M2 H2 H3 y hF t m2 ex hy => ?_⟩
        obtain ⟨eH, k, v, h1, h2⟩ := hy
        subst eH h2
        have h3 : (vs.map (·.1))[i]? = some k := by rw [List.getElem?_map, h1]; rfl
        rw [← kk, List.getElem?_map] at h3
        rw [List.getElem?_map] at ex
        cases ek : kvs[i]? with
        | none => rw [ek] at h3; cases h3
        | some p =>
          rw [ek] at h3 ex
          cases h3
          cases ex
          exact ⟨.refl, m2, keyV_at _⟩
    · exact p1.elim
end
end DL

-- DlMut
set_option Elab.async false
set_option linter.all false
set_option maxRecDepth 100000
set_option maxHeartbeats 2000000
/-! DlMut: what is written at: list methods, items, fields, dict displays. -/
namespace DL
open PySem PySem.Spec PyProof.Rows L2
section
variable {g : G} {E : WX} {io : Nat → Addr} {env : DEnv} {M : Mem} {s : L2.St} {H : Hp}
/-- an owned list gets other items -/
theorem SR.wLst (S : SR g io env M s H) {i : Nat} {ds ds' : List D} {vs' : List V} (e : M[i]? = some (.lst ds)) (r : VRs (rc g io M H) vs' ds') :
    ST io M H io (M.set i (.lst ds')) (upd H (io i) (.lst vs')) ∧ SR g io env (M.set i (.lst ds')) s (upd H (io i) (.lst vs')) := by
  have t : ST io M H io (M.set i (.lst ds')) (upd H (io i) (.lst vs')) := .write e (fun z => by cases z)
  exact ⟨t, S.later t (S.toMR.write (u := .lst ds') (o := .lst vs') e (fun z => by cases z) ⟨vs', upd_same, VRs.mono S.toMR t r⟩)⟩
theorem SR.wDk (S : SR g io env M s H) {i : Nat} {ds ds' : List (Key × D)} {vs' : List (Key × V)} (e : M[i]? = some (.dk ds)) (r : VRk (rc g io M H) vs' ds') :
    ST io M H io (M.set i (.dk ds')) (upd H (io i) (.dK vs')) ∧ SR g io env (M.set i (.dk ds')) s (upd H (io i) (.dK vs')) := by
  have t : ST io M H io (M.set i (.dk ds')) (upd H (io i) (.dK vs')) := .write e (fun z => by cases z)
  exact ⟨t, S.later t (S.toMR.write (u := .dk ds') (o := .dK vs') e (fun z => by cases z) ⟨vs', upd_same, VRk.mono S.toMR t r⟩)⟩
theorem SR.wIns (S : SR g io env M s H) {i : Nat} {C : Str} {fs fs' : List (Str × D)} {dx : Addr} {vs' : List (Str × V)} (e : M[i]? = some (.ins C fs)) (r : VRf (rc g io M H) vs' fs') :
    ST io M H io (M.set i (.ins C fs')) (upd H (io i) (.ins (g.ca C) dx vs')) ∧ SR g io env (M.set i (.ins C fs')) s (upd H (io i) (.ins (g.ca C) dx vs')) := by
  have t : ST io M H io (M.set i (.ins C fs')) (upd H (io i) (.ins (g.ca C) dx vs')) := .write e (fun z => by cases z)
  exact ⟨t, S.later t (S.toMR.write (u := .ins C fs') (o := .ins (g.ca C) dx vs') e (fun z => by cases z) ⟨dx, vs', upd_same, VRf.mono S.toMR t r⟩)⟩
/-- the owned list that a value is -/
def ownL (M : Mem) : D → Option (Nat × List D)
  | .ref i => (match M[i]? with
    | some (.lst ds) => some (i, ds)
    | _ => none)
  | _ => none
theorem ownL_at (m : MR g io M H) {v : V} {d : D} {i : Nat} {ds : List D} (r : VR (rc g io M H) v d) (e : ownL M d = some (i, ds)) : v = .ref (io i) ∧ M[i]? = some (.lst ds) ∧ ∃ vs, H (io i) = some (.lst vs) ∧ VRs (rc g io M H) vs ds := by
  unfold ownL at e
  split at e
  · rename_i j
    split at e
    · rename_i ds' em
      cases e
      cases r with
      | ref hi => exact ⟨rfl, em, m.mem _ _ em⟩
    · cases e
  · cases e
end
/-! ### methods of lists -/
def kAppend (o : D) (as : List D) (M : Mem) : R D := match ownL M o, as with
  | some (i, ds), [d] => if ds.length < 16777216 then .ok .non (M.set i (.lst (ds ++ [d]))) else .stuck
  | _, _ => .stuck
def kExtend (o : D) (as : List D) (M : Mem) : R D := match ownL M o, as with
  | some (i, ds), [d] => (match lx M d with
    | some es => if ds.length + es.length ≤ 16777216 then .ok .non (M.set i (.lst (ds ++ es))) else .stuck
    | none => .stuck)
  | _, _ => .stuck
def kPop (o : D) (as : List D) (M : Mem) : R D := match ownL M o, as with
  | some (i, ds), [] => (match ds[ds.length - 1]? with
    | some d => .ok d (M.set i (.lst ds.dropLast))
    | none => .stuck)
  | _, _ => .stuck
/-- where x stands first -/
def firstI (x : Int) : List Int → Option Nat
  | [] => none
  | y :: ys => if y = x then some 0 else (firstI x ys).map (· + 1)
theorem firstI_at {x : Int} : ∀ {ns : List Int} {j : Nat}, firstI x ns = some j → ns[j]? = some x ∧ ∀ m, m < j → ns[m]? ≠ some x
  | y :: ys, j, e => by
    unfold firstI at e
    split at e
    · rename_i h
      cases e
      exact ⟨by rw [h]; rfl, fun m hm => absurd hm (Nat.not_lt_zero _)⟩
    · rename_i h
      obtain ⟨j', e1, rfl⟩ := Option.map_eq_some_iff.mp e
      obtain ⟨h1, h2⟩ := firstI_at e1
      refine ⟨by simpa using h1, fun m hm => ?_⟩
      cases m with
      | zero => simpa using h
      | succ m => simpa using h2 m (by omega)
def kRemove (o : D) (as : List D) (M : Mem) : R D := match ownL M o, as with
  | some (i, ds), [.int x] => (match intsD ds with
    | some ns => (match firstI x ns with
      | some j => .ok .non (M.set i (.lst ((ns.eraseIdx j).map D.int)))
      | none => .stuck)
    | none => .stuck)
  | _, _ => .stuck
/-- o.m(..), o a list -/
def fBm (k : D → List D → Mem → R D) (fo : FE) (r : FA) : FE := fun env M => (fo env M).bind fun d M1 => if (lsD M1 d).isSome = true then (r env M1).bind fun ds M2 => k d ds M2 else .stuck
section
variable {g : G} {E : WX} {X : Cx} {pos apos cpos : Pos} {o e : Expr} {es : List Expr} {fo : FE} {r : FA} {name : Str} {id : String} {rr : V → List V → Hp → VK → Prop} {kk : D → List D → Mem → R D}
def Mth (g : G) (rr : V → List V → Hp → VK → Prop) (kk : D → List D → Mem → R D) : Prop := ∀ (E : WX) (io : Nat → Addr) (env : DEnv) (M : Mem) (s : L2.St) (H : Hp) (v : V) (d : D) (vs : List V) (ds : List D) (Q : VK),
  SR g io env M s H → VR (rc g io M H) v d → VRs (rc g io M H) vs ds → PostE g E io env M s H (kk d ds M) Q → rr v vs H Q
theorem tyV_list {io : Nat → Addr} {M : Mem} {H : Hp} {v : V} {d : D} (m : MR g io M H) (r : VR (rc g io M H) v d) (h : (lsD M d).isSome = true) : tyV g.K "list" v H := by
  obtain ⟨ds, e⟩ := Option.isSome_iff_exists.mp h
  obtain ⟨a, vs, rfl, hs, _⟩ := lsD_at m r e
  exact .inl ⟨rfl, vs, hs⟩
theorem d_bm (hK : X.K = g.K) (slot : Slot "list" name id) (hty : typeOf (.builtin id) = pure (.type "method_descriptor")) (hm : MtR X id rr) (hk : Mth g rr kk) (ho : DE g E X o fo) (ha : DA g E X (e :: es) r)
    (hbase : attributeBase o name X.env (eval o X.env) = eval o X.env := by rfl)
    (hfew : ((backTo cpos (starEach (e :: es) X.env)).all (fun x => !x.1) && (backToKw cpos (keywordEach [] X.env)).all (fun x => x.1.isSome)
      && decide ((e :: es).length + ([] : List Keyword).length + (if ([] : List Keyword).isEmpty then 0 else 1) < 30)) = true := by rfl)
    (hline : (apos.endLine == cpos.line) = true := by rfl) (hs : starEach (e :: es) X.env = (false, eval e X.env) :: starEach es X.env := by rfl) (hplain : (backTo cpos (starEach es X.env)).any (·.1) = false := by rfl) :
    DE g E X (.Call (.Attribute o name apos) (e :: es) [] cpos) (fBm kk fo r) :=
  PE.weak (pe_bm PySem.F.plainAttrs_list slot hty hm ho ha hbase hfew hline hs hplain) fun s H Q ⟨env, io, M, S, z⟩ => by
    unfold fBm at z
    refine trE_then (kk := fun d M1 => if (lsD M1 d).isSome = true then (r env M1).bind fun ds M2 => kk d ds M2 else .stuck) S z fun d M1 v H1 io1 t1 S1 r1 p1 => ?_
    split at p1
    · rename_i hl
      refine ⟨by rw [hK]; exact tyV_list S1.toMR r1 hl, trA_then (kk := fun ds M2 => kk d ds M2) S1 p1 fun ds M2 vs H2 io2 t2 S2 r2 p2 => ?_⟩
      exact hk E io2 env M2 s H2 v d vs ds Q S2 (VR.mono S1.toMR t2 r1) r2 p2
    · exact p1.elim
theorem d_bm0 (hK : X.K = g.K) (slot : Slot "list" name id) (hty : typeOf (.builtin id) = pure (.type "method_descriptor")) (hm : MtR X id rr) (hk : Mth g rr kk) (ho : DE g E X o fo)
    (hbase : attributeBase o name X.env (eval o X.env) = eval o X.env := by rfl) (hline : (apos.endLine == cpos.line) = true := by rfl) : DE g E X (.Call (.Attribute o name apos) [] [] cpos) (fBm kk fo aNil) :=
  PE.weak (pe_bm0 PySem.F.plainAttrs_list slot hty hm ho hbase hline) fun s H Q ⟨env, io, M, S, z⟩ => by
    unfold fBm at z
    refine trE_then (kk := fun d M1 => if (lsD M1 d).isSome = true then (aNil env M1).bind fun ds M2 => kk d ds M2 else .stuck) S z fun d M1 v H1 io1 t1 S1 r1 p1 => ?_
    split at p1
    · rename_i hl
      exact ⟨by rw [hK]; exact tyV_list S1.toMR r1 hl, hk E io1 env M1 s H1 v d [] [] Q S1 r1 .nil p1⟩
    · exact p1.elim
theorem m_append : Mth g rAppend kAppend := by
  intro E io env M s H v d vs ds Q S r1 rs p
  unfold kAppend at p
  split at p
  · rename_i i es d' eo
    split at p
    · rename_i hl
      obtain ⟨rfl, em, ws, h, rw'⟩ := ownL_at S.toMR r1 eo
      cases rs with
      | cons r2 rr =>
        cases rr
        obtain ⟨t, S'⟩ := S.wLst em (rw'.append (.cons r2 .nil))
        exact ⟨_, ws, _, rfl, rfl, h, by rw [VRs.length rw', sizeLine_eq]; exact hl, p _ _ io t S' .non⟩
    · exact p.elim
  · exact p.elim
theorem m_extend : Mth g rExtend kExtend := by
  intro E io env M s H v d vs ds Q S r1 rs p
  unfold kExtend at p
  split at p
  · rename_i i es d' eo
    split at p
    · rename_i xs ex
      split at p
      · rename_i hl
        obtain ⟨rfl, em, ws, h, rw'⟩ := ownL_at S.toMR r1 eo
        cases rs with
        | cons r2 rr =>
          cases rr
          obtain ⟨b, zs, rfl, hb, rz⟩ := lx_at S.toMR r2 ex
          obtain ⟨t, S'⟩ := S.wLst em (rw'.append rz)
          exact ⟨_, b, ws, zs, rfl, rfl, h, hb, by rw [VRs.length rw', VRs.length rz]; exact line_eq hl, p _ _ io t S' .non⟩
      · exact p.elim
    · exact p.elim
  · exact p.elim
theorem VRs.dropLast {c : RC} {vs : List V} {ds : List D} (h : VRs c vs ds) : VRs c vs.dropLast ds.dropLast := by
  rw [List.dropLast_eq_take, List.dropLast_eq_take, VRs.length h]
  exact h.take _
theorem m_pop : Mth g rPop kPop := by
  intro E io env M s H v d vs ds Q S r1 rs p
  unfold kPop at p
  split at p
  · rename_i i es eo
    split at p
    · rename_i y ey
      obtain ⟨rfl, em, ws, h, rw'⟩ := ownL_at S.toMR r1 eo
      cases rs
      obtain ⟨w, h1, h2⟩ := rw'.get ey
      obtain ⟨t, S'⟩ := S.wLst em rw'.dropLast
      exact ⟨_, ws, w, rfl, rfl, h, by rw [VRs.length rw']; exact h1, p _ _ io t S' (VR.mono S.toMR t h2)⟩
    · exact p.elim
  · exact p.elim
theorem m_remove : Mth g rRemI kRemove := by
  intro E io env M s H v d vs ds Q S r1 rs p
  unfold kRemove at p
  split at p
  · rename_i i es x eo
    split at p
    · rename_i ns en
      split at p
      · rename_i j ej
        obtain ⟨rfl, em, ws, h, rw'⟩ := ownL_at S.toMR r1 eo
        cases rs with
        | cons r2 rr =>
          cases rr
          cases r2
          obtain ⟨h1, h2⟩ := firstI_at ej
          obtain ⟨t, S'⟩ := S.wLst em (VRs.ofInts (ns.eraseIdx j))
          exact ⟨_, ns, x, j, rfl, rfl, by rw [← intsD_at rw' en]; exact h, h1, h2, p _ _ io t S' .non⟩
      · exact p.elim
    · exact p.elim
  · exact p.elim
end
/-! ### o[i] = v -/
def putD (kvs : List (Key × D)) (k : Key) (v : D) : List (Key × D) := if (kvs.any fun kv => decide (kv.1 = k)) = true then kvs.map (fun kv => if kv.1 = k then (kv.1, v) else kv) else kvs ++ [(k, v)]
theorem VRk.append {c : RC} : ∀ {vs ws : List (Key × V)} {ds es : List (Key × D)}, VRk c vs ds → VRk c ws es → VRk c (vs ++ ws) (ds ++ es)
  | _, _, _, _, .nil, s => s
  | _, _, _, _, .cons r t, s => .cons r (VRk.append t s)
theorem VRk.any {c : RC} {k : Key} {vs : List (Key × V)} {ds : List (Key × D)} (h : VRk c vs ds) : (vs.any fun kv => decide (kv.1 = k)) = ds.any fun kv => decide (kv.1 = k) := by
  induction ds generalizing vs with
  | nil => cases h; rfl
  | cons d ds ih => cases h with | cons r t => rw [List.any_cons, List.any_cons, ih t]
theorem VRk.mapPut {c : RC} {k : Key} {w : V} {e : D} (q : VR c w e) : ∀ {vs : List (Key × V)} {ds : List (Key × D)}, VRk c vs ds → VRk c (vs.map fun kv => if kv.1 = k then (kv.1, w) else kv) (ds.map fun kv => if kv.1 = k then (kv.1, e) else kv)
  | _, _, .nil => .nil
  | _, _, .cons r t => by
    rw [List.map_cons, List.map_cons]
    dsimp only
    split
    · exact .cons q (VRk.mapPut q t)
    · exact .cons r (VRk.mapPut q t)
theorem VRk.put {c : RC} {k : Key} {w : V} {e : D} {vs : List (Key × V)} {ds : List (Key × D)} (q : VR c w e) (h : VRk c vs ds) : VRk c (putK vs k w) (putD ds k e) := by
  unfold putK putD
  rw [h.any]
  split
  · exact h.mapPut q
  · exact h.append (.cons q .nil)
theorem VRk.length {c : RC} : ∀ {vs : List (Key × V)} {ds : List (Key × D)}, VRk c vs ds → vs.length = ds.length
  | _, _, .nil => rfl
  | _, _, .cons _ s => by simp [VRk.length s]
def kPut (o i v : D) (M : Mem) : Option Mem := match o with
  | .ref r => (match M[r]? with
    | some (.lst ds) => (match i with
      | .int k => (ixN ds.length k).map fun j => M.set r (.lst (ds.set j v))
      | _ => none)
    | some (.dk kvs) => (keyD i).bind fun k => if kvs.length < 16777216 then some (M.set r (.dk (putD kvs k v))) else none
    | _ => none)
  | _ => none
def rPutA : TSet := fun o i v H Q => rSetL o i v H Q ∨ ∃ a H', o = .ref a ∧ DPut H a i v H' ∧ Q H'
theorem set_A {X : Cx} (hu : X.A.units + 1 < cLine) : PSet X rPutA := by
  intro pins s σ H o i v ov iv u Q I ro ri rv h
  rcases h with h | ⟨a, H', rfl, gg, q⟩
  · exact set_list pins s σ H o i v ov iv u Q I ro ri rv h
  · cases (show ov = Value.ref a from ro)
    exact d_setItem hu I gg ri rv fun s' I' => ⟨H', I', q⟩
section
variable {g : G} {io : Nat → Addr} {env : DEnv} {M M' : Mem} {s : L2.St} {H : Hp}
theorem put_at (S : SR g io env M s H) {v w u : V} {o i d : D} {Q : Hp → Prop} (r1 : VR (rc g io M H) v o) (r2 : VR (rc g io M H) w i) (r3 : VR (rc g io M H) u d) (e : kPut o i d M = some M')
    (h : ∀ H', ST io M H io M' H' → SR g io env M' s H' → Q H') : rPutA v w u H Q := by
  unfold kPut at e
  split at e
  · rename_i r
    cases r1 with
    | ref hi =>
      split at e
      · rename_i ds em
        split at e
        · rename_i k
          obtain ⟨j, ej, rfl⟩ := Option.map_eq_some_iff.mp e
          obtain ⟨vs, hh, rs⟩ := S.toMR.mem _ _ em
          cases r2
          obtain ⟨t, S'⟩ := S.wLst em (rs.set j r3)
          exact .inl ⟨_, vs, k, j, rfl, rfl, hh, by rw [VRs.length rs]; exact ej, h _ t S'⟩
        · cases e
      · rename_i kvs em
        obtain ⟨k, ek, e⟩ := Option.bind_eq_some_iff.mp e
        split at e
        · rename_i hl
          cases e
          obtain ⟨vs, hh, rs⟩ := S.toMR.mem _ _ em
          obtain rfl := keyD_at r2 ek
          obtain ⟨t, S'⟩ := S.wDk em (rs.put (k := k) r3)
          exact .inr ⟨_, _, rfl, .inl ⟨vs, k, hh, rfl, by rw [VRk.length rs, sizeLine_eq]; exact hl, rfl⟩, h _ t S'⟩
        · cases e
      · cases e
  · cases e
end
/-! ### targets that may be items -/
abbrev FG := D → DEnv → Mem → RS
abbrev FGs := List D → DEnv → Mem → RS
section
variable (g : G) (E : WX)
/-- what a target's store comes to: nothing but a next -/
def PostG (io : Nat → Addr) (M : Mem) (H : Hp) (r : RS) (Q : L2.St → Hp → Prop) : Prop := match r with
  | .next env' M' => PostN g io M H env' M' Q
  | .exc env' C as M' => ∀ (s' : L2.St) (dd : Option Addr) (H' : Hp) (io' : Nat → Addr), ST io M H io' M' H' → SR g io' env' M' s' H' → XR (rc g io' M' H') as dd → E (.ref (g.ca C)) dd s' H'
  | _ => False
def trG (f : FG) : TG := fun v s H Q => ∃ (env : DEnv) (io : Nat → Addr) (M : Mem) (d : D), SR g io env M s H ∧ VR (rc g io M H) v d ∧ PostG g E io M H (f d env M) Q
def trGs (f : FGs) : TGs := fun vs s H Q => ∃ (env : DEnv) (io : Nat → Addr) (M : Mem) (ds : List D), SR g io env M s H ∧ VRs (rc g io M H) vs ds ∧ PostG g E io M H (f ds env M) Q
end
abbrev DGG (g : G) (E : WX) (X : Cx) (e : Expr) (f : FG) : Prop := PG X e (trG g E f)
abbrev DGGs (g : G) (E : WX) (X : Cx) (es : List Expr) (f : FGs) : Prop := PGs X es (trGs g E f)
theorem PG.weak {X : Cx} {e : Expr} {t t' : TG} (h : PG X e t) (w : ∀ v s H Q, t' v s H Q → t v s H Q) : PG X e t' := ⟨fun pins s σ H v u Q I r k => h.run pins s σ H v u Q I r (w v σ H Q k)⟩
theorem PGs.weak {X : Cx} {e : List Expr} {t t' : TGs} (h : PGs X e t) (w : ∀ v s H Q, t' v s H Q → t v s H Q) : PGs X e t' := ⟨fun pins s σ H v u Q I r k => h.run pins s σ H v u Q I r (w v σ H Q k)⟩
def gN (i : Nat) : FG := fun d env M => .next (env.set i (some d)) M
def gsNil : FGs := fun ds env M => match ds with
  | [] => .next env M
  | _ => .stuck
def gsCons (f : FG) (r : FGs) : FGs := fun ds env M => match ds with
  | d :: ds => (match f d env M with
    | .next env1 M1 => r ds env1 M1
    | x => x)
  | [] => .stuck
def gT (n : Nat) (r : FGs) : FG := fun d env M => match d with
  | .tup ds => if ds.length = n then r ds env M else .stuck
  | _ => .stuck
def gIx (fo fi : FE) : FG := fun d env M => RS.then env (fo env M) fun o M1 => RS.then env (fi env M1) fun i M2 => match kPut o i d M2 with
  | some M3 => .next env M3
  | none => .stuck
def sAsgG (t : FG) (f : FE) : FS := fun env M => RS.then env (f env M) fun d M1 => match t d env M1 with
  | .next env' M' => .next env' M'
  | .exc env' C as M' => .exc env' C as M'
  | _ => .stuck
section
variable {g : G} {E : WX} {X : Cx} {k : Nat} {pos pos' : Pos} {e o i tg : Expr} {es : List Expr} {f : FG} {fs : FGs} {q fo fi : FE} {io io1 : Nat → Addr} {M M1 : Mem} {H H1 : Hp}
theorem PostG.step {r : RS} {Q : L2.St → Hp → Prop} (t : ST io M H io1 M1 H1) (p : PostG g E io M H r Q) : PostG g E io1 M1 H1 r Q := by
  cases r with
  | next e M' => exact PostN.step t p
  | exc env' C as M' => exact fun s' dd H' io' t' => p s' dd H' io' (t.trans t')
  | _ => exact p.elim
theorem gg_name {n : Nat} {x : Str} (o : OkB g X) (hi : X.N[n]? = some x) (hx : Loc X.env.scope x) (hf : X.fn x = true ∨ X.env.scope.names.lookup x = some .local := by first | exact .inl rfl | exact .inr rfl | assumption) : DGG g E X (.Name x pos) (gN n) :=
  PG.weak (pg_name o.nd hi hx hf) fun v s H Q ⟨env, io, M, d, S, r, p⟩ => PostN.here p (S.set r)
theorem ggs_nil : DGGs g E X [] gsNil := PGs.weak pgs_nil fun vs s H Q ⟨env, io, M, ds, S, r, p⟩ => by
  unfold gsNil at p
  split at p
  · cases r; exact ⟨rfl, PostN.here p S⟩
  · exact p.elim
theorem ggs_cons (h1 : DGG g E X e f) (h2 : DGGs g E X es fs) (hs : (assignEach (e :: es) X.env).map (·.2) = assign e X.env :: (assignEach es X.env).map (·.2) := by rfl) : DGGs g E X (e :: es) (gsCons f fs) :=
  PGs.weak (pgs_cons h1 h2 hs) fun vs s H Q ⟨env, io, M, ds, S, r, p⟩ => by
    unfold gsCons at p
    split at p
    · rename_i d ds'
      cases r with
      | cons r1 rr =>
        refine ⟨_, _, rfl, env, io, M, d, S, r1, ?_⟩
        cases e1 : f d env M with
        | next env1 M1 =>
          rw [e1] at p
          exact fun s' H' io' t S' => ⟨env1, io', M1, ds', S', VRs.mono S.toMR t rr, PostG.step t p⟩
        | exc env1 C as M1 => rw [e1] at p; exact p
        | ret d M1 => rw [e1] at p; exact p.elim
        | brk d M1 => rw [e1] at p; exact p.elim
        | cont d M1 => rw [e1] at p; exact p.elim
        | stuck => rw [e1] at p; exact p.elim
    · exact p.elim
theorem gg_tup {kk n : Nat} (o : Ok g E X k) (h : DGGs g E X es fs) (hl : (assignEach es X.env).length = n := by rfl) (hst : (assignEach es X.env).findIdx? (·.1) = none := by rfl) : DGG g E X (.Tuple es kk pos) (gT n fs) :=
  PG.weak (pg_tup o.calm h hl hst) fun v s H Q ⟨env, io, M, d, S, r, p⟩ => by
    unfold gT at p
    split at p
    · rename_i ds
      split at p
      · rename_i hn
        cases r with
        | tup h rs => exact ⟨_, _, rfl, by rw [o.K]; exact h, by rw [VRs.length rs, hn], env, io, M, ds, S, rs, p⟩
      · exact p.elim
    · exact p.elim
theorem gg_ix (ok : Ok g E X k) (ho : DE g E X o fo) (hi : DE g E X i fi) (ha : ∀ v, assign (.Subscript o i pos) X.env v = (do
      let ov ← holding [v] (eval o X.env)
      let iv ← holding [v, ov] (eval i X.env)
      standAt pos
      holding [v, ov, iv] (setItem ov iv v)
      release [v, ov, iv] []) := by intro _; rfl) : DGG g E X (.Subscript o i pos) (gIx fo fi) :=
  PG.weak (pg_sub ho hi (set_A (by have := ok.un; omega)) ha) fun v s H Q ⟨env, io, M, d, S, r, p⟩ => by
    unfold gIx at p
    refine ⟨env, io, M, S, ?_⟩
    cases e1 : fo env M with
    | stuck => rw [e1] at p; exact p.elim
    | exc C as M1 => rw [e1] at p; exact fun dd H' io' t S' x => p s dd H' io' t S' x
    | ok od M1 =>
      rw [e1] at p
      intro ov H1 io1 t1 S1 r1
      refine ⟨env, io1, M1, S1, ?_⟩
      have p := PostG.step t1 p
      dsimp only [RS.then] at p
      cases e2 : fi env M1 with
      | stuck => rw [e2] at p; exact p.elim
      | exc C as M2 => rw [e2] at p; exact fun dd H' io' t S' x => p s dd H' io' t S' x
      | ok id M2 =>
        rw [e2] at p
        intro iv H2 io2 t2 S2 r2
        have p := PostG.step t2 p
        dsimp only [RS.then] at p
        cases e3 : kPut od id d M2 with
        | none => rw [e3] at p; exact p.elim
        | some M3 =>
          rw [e3] at p
          exact put_at S2 (VR.mono S1.toMR t2 r1) r2 (VR.mono S1.toMR t2 (VR.mono S.toMR t1 r)) e3 fun H' t S' => p s H' io2 t S'
theorem ds_asgG (he : DE g E X e q) (hg : DGG g E X tg f) (hs : swapsWithSole [tg] e pos.line X.env = pure false := by rfl) (hw : swappedStores [tg] e X.env = pure none := by rfl)
    (h1 : (assignEach [tg] X.env).map (·.2) = [assign tg X.env] := by rfl) : DS g E X (.Assign [tg] e pos) (sAsgG f q) :=
  PS.weak (ps_asg he hg hs hw h1) fun D s H ⟨env, io, M, S, z⟩ => trE_thenS S z fun d M1 v H1 io1 t S1 r p1 => by
    refine ⟨env, io1, M1, d, S1, r, ?_⟩
    cases e1 : f d env M1 with
    | next env' M' => rw [e1] at p1; exact p1
    | exc env' C as M' => rw [e1] at p1; exact p1
    | ret d M' => rw [e1] at p1; exact p1.elim
    | brk env' M' => rw [e1] at p1; exact p1.elim
    | cont env' M' => rw [e1] at p1; exact p1.elim
    | stuck => rw [e1] at p1; exact p1.elim
/-- o[i] = v -/
theorem ds_put (ok : Ok g E X k) (ho : DE g E X o fo) (hi : DE g E X i fi) (he : DE g E X e q) (hs : swapsWith e (some (.Subscript o i pos')) pos.line X.env = pure false := by rfl) (hs1 : swapsWithSole [.Subscript o i pos'] e pos.line X.env = pure false := by rfl) (hw : swappedStores [.Subscript o i pos'] e X.env = pure none := by rfl)
    (h1 : (assignEach [.Subscript o i pos'] X.env).map (·.2) = [assign (.Subscript o i pos') X.env] := by rfl) (ha : ∀ v, assign (.Subscript o i pos') X.env v = (do
      let ov ← holding [v] (eval o X.env)
      let iv ← holding [v, ov] (eval i X.env)
      standAt pos'
      holding [v, ov, iv] (setItem ov iv v)
      release [v, ov, iv] []) := by intro _; rfl) : DS g E X (.Assign [.Subscript o i pos'] e pos) (sAsgG (gIx fo fi) q) := ds_asgG he (gg_ix ok ho hi ha) hs1 hw h1
/-- a, b = x, y with plain names -/
def sPar2 (i j : Nat) (r : FA) : FS := fun env M => RS.then env (r env M) fun ds M1 => match ds with
  | [a, b] => .next ((env.set i (some a)).set j (some b)) M1
  | _ => .stuck
def sPar3 (i j l : Nat) (r : FA) : FS := fun env M => RS.then env (r env M) fun ds M1 => match ds with
  | [a, b, c] => .next (((env.set i (some a)).set j (some b)).set l (some c)) M1
  | _ => .stuck
theorem ds_par2 {n m : Nat} {x y : Str} {a b : Expr} {r : FA} {px py pt : Pos} {kt k2 pt2} (o : Ok g E X k) (hi : X.N[n]? = some x) (hj : X.N[m]? = some y) (hij : n ≠ m) (hx : X.env.scope.names.lookup x = some .local) (hy : X.env.scope.names.lookup y = some .local) (ha : DA g E X [a, b] r)
    (hw : swappedStores [.Tuple [.Name x px, .Name y py] kt pt] (.Tuple [a, b] k2 pt2) X.env = pure (some [x, y]) := by rfl)
    (hs : swapsWithSole [.Tuple [.Name x px, .Name y py] kt pt] (.Tuple [a, b] k2 pt2) pos.line X.env = pure false := by rfl) : DS g E X (.Assign [.Tuple [.Name x px, .Name y py] kt pt] (.Tuple [a, b] k2 pt2) pos) (sPar2 n m r) :=
  PS.weak (ps_par o.calm o.nd hi hj hij hx hy ha hw hs) fun D s H ⟨env, io, M, S, z⟩ => trA_thenS S z fun ds M1 vs H1 io1 t S1 rs p1 => by
    split at p1
    · cases rs with
      | cons r1 rs => cases rs with | cons r2 rs =>
        cases rs
        exact ⟨_, _, rfl, PostN.here p1 ((S1.set r1).set r2)⟩
    · exact p1.elim
theorem ds_par3 {n m l : Nat} {x y w : Str} {a b c : Expr} {r : FA} {px py pw pt : Pos} {kt k2 pt2} (o : Ok g E X k) (hi : X.N[n]? = some x) (hj : X.N[m]? = some y) (hl : X.N[l]? = some w) (h12 : n ≠ m) (h13 : n ≠ l) (h23 : m ≠ l) (hx : X.env.scope.names.lookup x = some .local) (hy : X.env.scope.names.lookup y = some .local) (hz : X.env.scope.names.lookup w = some .local) (ha : DA g E X [a, b, c] r)
    (hw : swappedStores [.Tuple [.Name x px, .Name y py, .Name w pw] kt pt] (.Tuple [a, b, c] k2 pt2) X.env = pure (some [x, y, w]) := by rfl)
    (hs : swapsWithSole [.Tuple [.Name x px, .Name y py, .Name w pw] kt pt] (.Tuple [a, b, c] k2 pt2) pos.line X.env = pure false := by rfl) : DS g E X (.Assign [.Tuple [.Name x px, .Name y py, .Name w pw] kt pt] (.Tuple [a, b, c] k2 pt2) pos) (sPar3 n m l r) :=
  PS.weak (ps_par3 o.calm o.nd hi hj hl h12 h13 h23 hx hy hz ha hw hs) fun D s H ⟨env, io, M, S, z⟩ => trA_thenS S z fun ds M1 vs H1 io1 t S1 rs p1 => by
    split at p1
    · cases rs with
      | cons r1 rs => cases rs with | cons r2 rs => cases rs with | cons r3 rs =>
        cases rs
        exact ⟨_, _, _, rfl, PostN.here p1 (((S1.set r1).set r2).set r3)⟩
    · exact p1.elim
end
/-! ### fields -/
def putFD (f : Str) (v : D) : List (Str × D) → List (Str × D)
  | [] => [(f, v)]
  | (g, x) :: r => if g = f then (g, v) :: r else (g, x) :: putFD f v r
theorem VRf.put {c : RC} {f : Str} {v : V} {d : D} (q : VR c v d) : ∀ {vs : List (Str × V)} {ds : List (Str × D)}, VRf c vs ds → VRf c (putF f v vs) (putFD f d ds)
  | _, _, .nil => .cons q .nil
  | _, _, .cons r t => by
    unfold putF putFD
    split
    · exact .cons q t
    · exact .cons r (VRf.put q t)
theorem VRf.length {c : RC} : ∀ {vs : List (Str × V)} {ds : List (Str × D)}, VRf c vs ds → vs.length = ds.length
  | _, _, .nil => rfl
  | _, _, .cons _ s => by simp [VRf.length s]
def insAt (M : Mem) (d : D) (C : Str) : Option (Nat × List (Str × D)) := match d with
  | .ref i => (match M[i]? with
    | some (.ins C' fs) => if C' = C then some (i, fs) else none
    | _ => none)
  | _ => none
theorem insAt_at {g : G} {io : Nat → Addr} {M : Mem} {H : Hp} {v : V} {d : D} {C : Str} {i : Nat} {fs : List (Str × D)} (m : MR g io M H) (r : VR (rc g io M H) v d) (e : insAt M d C = some (i, fs)) :
    v = .ref (io i) ∧ M[i]? = some (.ins C fs) ∧ ∃ dx vs, H (io i) = some (.ins (g.ca C) dx vs) ∧ VRf (rc g io M H) vs fs := by
  unfold insAt at e
  split at e
  · rename_i j
    split at e
    · rename_i C' fs' em
      split at e
      · rename_i hC
        subst hC
        cases e
        cases r with
        | ref hi => exact ⟨rfl, em, m.mem _ _ em⟩
      · cases e
    · cases e
  · cases e
/-- o.f = e -/
def sFldD (C f : Str) (fo fe : FE) : FS := fun env M => RS.then env (fe env M) fun d M1 => RS.then env (fo env M1) fun o M2 => match insAt M2 o C with
  | some (i, fs) => if fs.length < 1000 then .next env (M2.set i (.ins C (putFD f d fs))) else .stuck
  | none => .stuck
/-- o.f op= e, ints -/
def sFldAugD (C f : Str) (op : Int → Int → Int) (fo fe : FE) : FS := fun env M => RS.then env (fo env M) fun o M1 => match insAt M1 o C with
  | some (_, fs) => (match fs.lookup f with
    | some (.int x) => RS.then env (fe env M1) fun d M2 => (match d with
      | .int y => (match insAt M2 o C with
        | some (i, fs2) => if fs2.length < 1000 then .next env (M2.set i (.ins C (putFD f (.int (op x y)) fs2))) else .stuck
        | none => .stuck)
      | _ => .stuck)
    | _ => .stuck)
  | none => .stuck
section
variable {g : G} {E : WX} {X : Cx} {k : Nat} {pos pos' : Pos} {o e : Expr} {C f : Str} {fo fe : FE}
theorem ds_fld (ok : OkB g X) (ho : DE g E X o fo) (he : DE g E X e fe) (cl : Cls g.K (g.ca C)) (na : NoAttr g.K (g.ca C) f) (hs : swapsWith e (some (.Attribute o f pos')) pos.line X.env = pure false := by rfl) : DS g E X (.Assign [.Attribute o f pos'] e pos) (sFldD C f fo fe) :=
  PS.weak (ps_fld ho he hs) fun D s H ⟨env, io, M, S, z⟩ => by
    refine trE_thenS S z fun d M1 v H1 io1 t1 S1 r1 p1 => trE_thenS S1 p1 fun od M2 ov H2 io2 t2 S2 r2 p2 => ?_
    split at p2
    · rename_i i fs ei
      split at p2
      · rename_i hl
        obtain ⟨rfl, em, dx, vs, h, rf⟩ := insAt_at S2.toMR r2 ei
        obtain ⟨t, S'⟩ := S2.wIns (dx := dx) em (rf.put (f := f) (VR.mono S1.toMR t2 r1))
        exact ⟨_, _, dx, vs, rfl, h, by rw [ok.K]; exact cl, by rw [ok.K]; exact na, by rw [VRf.length rf]; exact hl, p2 _ _ io2 t S'⟩
      · exact p2.elim
    · exact p2.elim
theorem ds_fldaug {op : Operator} {fn : Int → Int → Int} (ok : OkB g X) (hop : InOp X op fun x y H Q => ∃ i j, x = .int i ∧ y = .int j ∧ Q (.int (fn i j)) H) (ho : DE g E X o fo) (he : DE g E X e fe) (cl : Cls g.K (g.ca C)) (na : NoAttr g.K (g.ca C) f) :
    DS g E X (.AugAssign (.Attribute o f pos') op e pos) (sFldAugD C f fn fo fe) :=
  PS.weak (ps_fldaug ho he hop) fun D s H ⟨env, io, M, S, z⟩ => by
    refine trE_thenS S z fun od M1 ov H1 io1 t1 S1 r1 p1 => ?_
    split at p1
    · rename_i i fs ei
      split at p1
      · rename_i x el
        obtain ⟨rfl, em, dx, vs, h, rf⟩ := insAt_at S1.toMR r1 ei
        obtain ⟨v, hv, rv⟩ := VRf.lookup rf el
        cases rv
        refine ⟨_, _, dx, vs, _, rfl, h, by rw [ok.K]; exact cl, by rw [ok.K]; exact na, hv, ?_⟩
        refine trE_thenS S1 p1 fun d M2 w H2 io2 t2 S2 r2 p2 => ?_
        split at p2
        · rename_i y
          cases r2
          refine ⟨x, y, rfl, rfl, ?_⟩
          split at p2
          · rename_i i2 fs2 ei2
            split at p2
            · rename_i hl
              obtain ⟨e2, em2, dx2, vs2, h2, rf2⟩ := insAt_at S2.toMR (VR.mono S1.toMR t2 r1) ei2
              have e3 : io1 i = io2 i2 := by injection e2
              obtain ⟨t, S'⟩ := S2.wIns (dx := dx2) em2 (rf2.put (f := f) (VR.int (fn x y)))
              rw [e3]
              exact ⟨dx2, vs2, h2, by rw [VRf.length rf2]; exact hl, p2 _ _ io2 t S'⟩
            · exact p2.elim
          · exact p2.elim
        · exact p2.elim
      · exact p1.elim
    · exact p1.elim
theorem in_add : InOp X .Add fun x y H Q => ∃ i j, x = .int i ∧ y = .int j ∧ Q (.int (i + j)) H := fun pins s σ H x y u v Q I r1 r2 h => ip_add pins s σ H x y u v Q I r1 r2 h
theorem in_sub : InOp X .Sub fun x y H Q => ∃ i j, x = .int i ∧ y = .int j ∧ Q (.int (i - j)) H := fun pins s σ H x y u v Q I r1 r2 h => ip_sub pins s σ H x y u v Q I r1 r2 h
/-- x op= e, ints -/
def sAug (i : Nat) (op : Int → Int → Int) (fe : FE) : FS := fun env M => match env[i]? with
  | some (some (.int x)) => RS.then env (fe env M) fun d M1 => (match d with
    | .int y => .next (env.set i (some (.int (op x y)))) M1
    | _ => .stuck)
  | _ => .stuck
theorem ds_aug {n : Nat} {x : Str} {op : Operator} {fn : Int → Int → Int} (ok : OkB g X) (hop : PIp X op (ipI fn)) (hi : X.N[n]? = some x) (hx : Loc X.env.scope x) (he : DE g E X e fe) (hf : X.fn x = true ∨ X.env.scope.names.lookup x = some .local := by first | exact .inl rfl | exact .inr rfl | assumption) : DS g E X (.AugAssign (.Name x pos') op e pos) (sAug n fn fe) :=
  PS.weak (ps_aug ok.nd hi hx he hop hf) fun D s H ⟨env, io, M, S, z⟩ => by
    unfold sAug at z
    split at z
    · rename_i y ey
      obtain ⟨v, hv, rv⟩ := S.ev _ _ ey
      cases rv
      refine ⟨_, hv, trE_thenS S z fun d M1 w H1 io1 t1 S1 r1 p1 => ?_⟩
      split at p1
      · cases r1
        exact ⟨_, _, rfl, rfl, PostN.here p1 (S1.set (.int _))⟩
      · exact p1.elim
    · exact z.elim
end
/-! ### {}, {k: v} -/
def fDict0 : FE := fun _ M => .ok (.ref M.length) (M ++ [.dk []])
def fDict1 (fk fv : FE) : FE := fun env M => (fk env (M ++ [.dk []])).bind fun a M1 => (fv env M1).bind fun b M2 => match keyD a, M2[M.length]? with
  | some k, some (.dk []) => .ok (.ref M.length) (M2.set M.length (.dk [(k, b)]))
  | _, _ => .stuck
section
variable {g : G} {E : WX} {X : Cx} {pos : Pos} {ek ev : Expr} {fk fv : FE}
theorem PostE.newDk {io : Nat → Addr} {env : DEnv} {M : Mem} {s : L2.St} {H : Hp} (S : SR g io env M s H) {a : Addr} (ha : H a = none) :
    ST io M H (ioN io M.length a) (M ++ [.dk []]) (upd H a (.dK [])) ∧ SR g (ioN io M.length a) env (M ++ [.dk []]) s (upd H a (.dK [])) ∧ VR (rc g (ioN io M.length a) (M ++ [.dk []]) (upd H a (.dK []))) (.ref a) (.ref M.length) := by
  have t : ST io M H (ioN io M.length a) (M ++ [.dk []]) (upd H a (.dK [])) := .newOwn ha
  have q : VR (rc g (ioN io M.length a) (M ++ [.dk []]) (upd H a (.dK []))) (.ref (ioN io M.length a M.length)) (.ref M.length) := .ref (by simp)
  rw [ioN_same] at q
  exact ⟨t, S.newOwn (u := .dk []) (o := .dK []) ha ⟨[], upd_same, .nil⟩, q⟩
theorem d_dict0 : DE g E X (.Dict [] [] pos) fDict0 := PE.weak pe_dnewK fun s H Q ⟨env, io, M, S, z⟩ p hp => by
  obtain ⟨t, S', r⟩ := PostE.newDk S hp
  exact z _ _ _ t S' r
theorem d_dict1 (hk : DE g E X ek fk) (hv : DE g E X ev fv) : DE g E X (.Dict [some ek] [ev] pos) (fDict1 fk fv) :=
  PE.weak (pe_disp (pps_cons hk hv pps_nil) rfl rfl (by simp) (by simp)) fun s H Q ⟨env, io, M, S, z⟩ p hp => by
    obtain ⟨t, S', r⟩ := PostE.newDk S hp
    unfold fDict1 at z
    have z := PostE.step t z
    refine trE_then (kk := fun a M1 => (fv env M1).bind fun b M2 => match keyD a, M2[M.length]? with
      | some k, some (.dk []) => .ok (.ref M.length) (M2.set M.length (.dk [(k, b)]))
      | _, _ => .stuck) S' z fun a M1 va H1 io1 t1 S1 r1 p1 => ?_
    refine trE_then (kk := fun b M2 => match keyD a, M2[M.length]? with
      | some k, some (.dk []) => .ok (.ref M.length) (M2.set M.length (.dk [(k, b)]))
      | _, _ => .stuck) S1 p1 fun b M2 vb H2 io2 t2 S2 r2 p2 => ?_
    split at p2
    · rename_i k ek em
      obtain rfl := keyD_at (VR.mono S1.toMR t2 r1) ek
      obtain ⟨vs, h, rk⟩ := S2.toMR.mem _ _ em
      cases rk
      have hio : io2 M.length = p := by
        rw [(t1.trans t2).keep M.length (by simp), ioN_same]
      rw [hio] at h
      refine ⟨h, [(k, vb)], rfl, by simp, ?_⟩
      obtain ⟨t3, S3⟩ := S2.wDk em (.cons (k := k) r2 .nil)
      rw [hio] at t3 S3
      have e1 : mergeK [] [(k, vb)] = [(k, vb)] := by simp [mergeK, putK]
      rw [e1]
      refine p2 _ _ io2 t3 S3 ?_
      exact VR.mono S2.toMR t3 (VR.mono S1.toMR t2 (VR.mono S'.toMR t1 r))
    · exact p2.elim
end
end DL

-- DlRules
set_option Elab.async false
set_option linter.all false
set_option maxRecDepth 100000
set_option maxHeartbeats 2000000
/-! DlRules: the rules by name, as a walk takes them. -/
namespace DL
open PySem PySem.Spec PyProof.Rows L2
section
variable {g : G} {E : WX} {X : Cx} {k : Nat} {pos p : Pos} {a b c e e2 : Expr} {es : List Expr} {f h l : FE} {r : FA}
/-! ### names -/
theorem x_v (i : Nat) {x : Str} (hN : X.N[i]? = some x := by rfl) (hv : Vis X.env.scope x := by first | exact .inl rfl | exact .inr (.inl rfl) | exact .inr (.inr rfl)) (hd : (x == ("__debug__" : Str)) = false := by decide) (hcd : (x == ("__classdict__" : Str)) = false := by decide) : DE g E X (.Name x pos) (fVar i) := d_v hN hv hd hcd
theorem x_gint {x : Str} {i : Int} (o : OkB g X) (hm : ∃ t, g.mg x = some (.int i t)) (hg : Gl X x := by rfl) (hd : (x == ("__debug__" : Str)) = false := by decide) : DE g E X (.Name x pos) (fC (.int i)) := by
  obtain ⟨t, hm⟩ := hm
  exact d_glob o hg hm (v := .int i) ⟨t, rfl⟩ (fun c _ => .int i) hd
theorem x_gstr {x z : Str} (o : OkB g X) (hm : ∃ t, g.mg x = some (.str z t)) (hg : Gl X x := by rfl) (hd : (x == ("__debug__" : Str)) = false := by decide) : DE g E X (.Name x pos) (fC (.str z)) := by
  obtain ⟨t, hm⟩ := hm
  exact d_glob o hg hm (v := .str z) ⟨t, rfl⟩ (fun c _ => .str z) hd
/-! ### operators -/
theorem x_add (o : OkB g X) (ha : DE g E X a f) (hb : DE g E X b h) : DE g E X (.BinOp a .Add b pos) (f2 kAdd f h) := d_op (by rw [← o.K]; exact op_addD) two_add ha hb
theorem x_sub (ha : DE g E X a f) (hb : DE g E X b h) : DE g E X (.BinOp a .Sub b pos) (f2 kSub f h) := d_op op_sub two_sub ha hb
theorem x_mul (ha : DE g E X a f) (hb : DE g E X b h) : DE g E X (.BinOp a .Mult b pos) (f2 kMulI f h) := d_op op_mul two_mulI ha hb
theorem x_fdiv (ha : DE g E X a f) (hb : DE g E X b h) : DE g E X (.BinOp a .FloorDiv b pos) (f2 kFdiv f h) := d_op op_fdivW two_fdiv ha hb
theorem x_mod (ha : DE g E X a f) (hb : DE g E X b h) : DE g E X (.BinOp a .Mod b pos) (f2 kMod f h) := d_op op_mod two_mod ha hb
theorem x_pow (ha : DE g E X a f) (hb : DE g E X b h) : DE g E X (.BinOp a .Pow b pos) (f2 kPow f h) := d_op op_pow two_pow ha hb
theorem x_neg (ha : DE g E X a f) : DE g E X (.UnaryOp .USub a pos) (f1 kNeg f) := d_un un_neg one_neg ha
/-! ### comparisons, as values and as tests -/
section
variable (o : Ok g E X k) (ha : DE g E X a f) (hb : DE g E X b h)
theorem x_lt (ha : DE g E X a f) (hb : DE g E X b h) (hm : behindInMarks .Lt b = false := by rfl) : DE g E X (.Compare a [.Lt] [b] pos) (f2 kLt f h) := d_cmp op_lt two_lt ha hb hm
theorem x_le (ha : DE g E X a f) (hb : DE g E X b h) (hm : behindInMarks .LtE b = false := by rfl) : DE g E X (.Compare a [.LtE] [b] pos) (f2 kLe f h) := d_cmp op_le two_le ha hb hm
theorem x_gt (ha : DE g E X a f) (hb : DE g E X b h) (hm : behindInMarks .Gt b = false := by rfl) : DE g E X (.Compare a [.Gt] [b] pos) (f2 kGt f h) := d_cmp op_gt two_gt ha hb hm
theorem x_ge (ha : DE g E X a f) (hb : DE g E X b h) (hm : behindInMarks .GtE b = false := by rfl) : DE g E X (.Compare a [.GtE] [b] pos) (f2 kGe f h) := d_cmp op_ge two_ge ha hb hm
theorem x_eq (o : Ok g E X k) (ha : DE g E X a f) (hb : DE g E X b h) (hm : behindInMarks .Eq b = false := by rfl) : DE g E X (.Compare a [.Eq] [b] pos) (f2 kEq f h) := d_cmp (by rw [← o.K]; exact op_eqA o.room) two_eq ha hb hm
theorem x_ne (o : Ok g E X k) (ha : DE g E X a f) (hb : DE g E X b h) (hm : behindInMarks .NotEq b = false := by rfl) : DE g E X (.Compare a [.NotEq] [b] pos) (f2 kNe f h) := d_cmp (by rw [← o.K]; exact op_neA o.room) two_ne ha hb hm
theorem x_in (o : Ok g E X k) (ha : DE g E X a f) (hb : DE g E X b h) (hm : behindInMarks .In b = false := by with_unfolding_all rfl) : DE g E X (.Compare a [.In] [b] pos) (f2 kIn f h) := d_cmp (by rw [← o.K]; exact op_inA o.room) two_in ha hb hm
theorem x_notIn (o : Ok g E X k) (ha : DE g E X a f) (hb : DE g E X b h) (hm : behindInMarks .NotIn b = false := by with_unfolding_all rfl) : DE g E X (.Compare a [.NotIn] [b] pos) (f2 kNotIn f h) := d_cmp (by rw [← o.K]; exact op_notInA o.room) two_notIn ha hb hm
theorem x_is (ha : DE g E X a f) (hb : DE g E X b h) (hm : behindInMarks .Is b = false := by rfl) : DE g E X (.Compare a [.Is] [b] pos) (f2 kIsN f h) := d_cmp op_isN two_isN ha hb hm
theorem x_isNot (ha : DE g E X a f) (hb : DE g E X b h) (hm : behindInMarks .IsNot b = false := by rfl) : DE g E X (.Compare a [.IsNot] [b] pos) (f2 kNotN f h) := d_cmp op_notN two_notN ha hb hm
theorem y_lt (ha : DE g E X a f) (hb : DE g E X b h) (hm : behindInMarks .Lt b = false := by rfl) : DT g E X (.Compare a [.Lt] [b] pos) (tOf (f2 kLt f h)) := dt_cmp op_lt two_lt ha hb hm
theorem y_le (ha : DE g E X a f) (hb : DE g E X b h) (hm : behindInMarks .LtE b = false := by rfl) : DT g E X (.Compare a [.LtE] [b] pos) (tOf (f2 kLe f h)) := dt_cmp op_le two_le ha hb hm
theorem y_gt (ha : DE g E X a f) (hb : DE g E X b h) (hm : behindInMarks .Gt b = false := by rfl) : DT g E X (.Compare a [.Gt] [b] pos) (tOf (f2 kGt f h)) := dt_cmp op_gt two_gt ha hb hm
theorem y_ge (ha : DE g E X a f) (hb : DE g E X b h) (hm : behindInMarks .GtE b = false := by rfl) : DT g E X (.Compare a [.GtE] [b] pos) (tOf (f2 kGe f h)) := dt_cmp op_ge two_ge ha hb hm
theorem y_eq (o : Ok g E X k) (ha : DE g E X a f) (hb : DE g E X b h) (hm : behindInMarks .Eq b = false := by rfl) : DT g E X (.Compare a [.Eq] [b] pos) (tOf (f2 kEq f h)) := dt_cmp (by rw [← o.K]; exact op_eqA o.room) two_eq ha hb hm
theorem y_ne (o : Ok g E X k) (ha : DE g E X a f) (hb : DE g E X b h) (hm : behindInMarks .NotEq b = false := by rfl) : DT g E X (.Compare a [.NotEq] [b] pos) (tOf (f2 kNe f h)) := dt_cmp (by rw [← o.K]; exact op_neA o.room) two_ne ha hb hm
theorem y_in (o : Ok g E X k) (ha : DE g E X a f) (hb : DE g E X b h) (hm : behindInMarks .In b = false := by with_unfolding_all rfl) : DT g E X (.Compare a [.In] [b] pos) (tOf (f2 kIn f h)) := dt_cmp (by rw [← o.K]; exact op_inA o.room) two_in ha hb hm
theorem y_notIn (o : Ok g E X k) (ha : DE g E X a f) (hb : DE g E X b h) (hm : behindInMarks .NotIn b = false := by with_unfolding_all rfl) : DT g E X (.Compare a [.NotIn] [b] pos) (tOf (f2 kNotIn f h)) := dt_cmp (by rw [← o.K]; exact op_notInA o.room) two_notIn ha hb hm
theorem y_is (ha : DE g E X a f) (hb : DE g E X b h) (hm : behindInMarks .Is b = false := by rfl) : DT g E X (.Compare a [.Is] [b] pos) (tOf (f2 kIsN f h)) := dt_cmp op_isN two_isN ha hb hm
theorem y_isNot (ha : DE g E X a f) (hb : DE g E X b h) (hm : behindInMarks .IsNot b = false := by rfl) : DT g E X (.Compare a [.IsNot] [b] pos) (tOf (f2 kNotN f h)) := dt_cmp op_notN two_notN ha hb hm
end
/-- a op1 b op2 c -/
def fCh (k1 k2 : D → D → Mem → R D) (f h l : FE) : FE := fun env M => (f env M).bind fun a M1 => (h env M1).bind fun b M2 => (k1 a b M2).bind fun x M3 => match x with
  | .bl true => (l env M3).bind fun c M4 => k2 b c M4
  | .bl false => .ok (.bl false) M3
  | _ => .stuck
theorem tr_ch {r1 r2 : R2} {k1 k2 : D → D → Mem → R D} (h1 : ∀ a b M, ∃ z : R D, z = k1 a b M ∧ ∀ d M', z = .ok d M' → M' = M) (hk1 : Two g r1 k1) (hk2 : Two g r2 k2) (s : L2.St) (H : Hp) (Q : VK) (t : trE g E (fCh k1 k2 f h l) s H Q) : tChain r1 r2 (trE g E f) (trE g E h) (trE g E l) s H Q := by
  obtain ⟨env, io, M, S, p⟩ := t
  unfold fCh at p
  refine trE_then (kk := fun a M1 => (h env M1).bind fun b M2 => (k1 a b M2).bind fun x M3 => match x with
    | .bl true => (l env M3).bind fun c M4 => k2 b c M4
    | .bl false => .ok (.bl false) M3
    | _ => .stuck) S p fun d M1 v H1 io1 t1 S1 q1 p1 => ?_
  refine trE_then (kk := fun b M2 => (k1 d b M2).bind fun x M3 => match x with
    | .bl true => (l env M3).bind fun c M4 => k2 b c M4
    | .bl false => .ok (.bl false) M3
    | _ => .stuck) S1 p1 fun d2 M2 v2 H2 io2 t2 S2 q2 p2 => ?_
  have q1' := VR.mono S1.toMR t2 q1
  refine hk1 E io2 env M2 s H2 v v2 d d2 _ S2 q1' q2 ?_
  cases e : k1 d d2 M2 with
  | stuck => rw [e] at p2; exact p2.elim
  | exc C as M3 => rw [e] at p2; exact p2
  | ok x M3 =>
    rw [e] at p2
    rw [R.bind_ok] at p2
    intro xv H3 io3 t3 S3 q3
    have p3 := PostE.step t3 p2
    cases x with
    | bl b =>
      cases q3
      cases b with
      | false => exact ⟨false, rfl, PostE.here p3 S3 (.bl false)⟩
      | true =>
        refine ⟨true, rfl, ?_⟩
        rw [if_pos rfl]
        exact trE_then (kk := fun c M4 => k2 d2 c M4) S3 p3 fun d4 M4 v4 H4 io4 t4 S4 q4 p4 => hk2 E io4 env M4 s H4 v2 v4 d2 d4 Q S4 (VR.mono S3.toMR t4 (VR.mono S2.toMR t3 q2)) q4 p4
    | _ => exact p3.elim
theorem keepsI {fn : Int → Int → Option D} (a b : D) (M : Mem) : ∃ z : R D, z = kI fn a b M ∧ ∀ d M', z = .ok d M' → M' = M := ⟨_, rfl, fun d M' e => by
  unfold kI at e
  split at e
  · rename_i i j
    cases e1 : fn i j with
    | none => rw [e1] at e; cases e
    | some x => rw [e1] at e; cases e; rfl
  · cases e⟩
section
theorem x_lele (ha : DE g E X a f) (hb : DE g E X b h) (hc : DE g E X c l) (hm : lastMarks [CmpOp.LtE, .LtE] [b, c] = false := by with_unfolding_all rfl) : DE g E X (.Compare a [.LtE, .LtE] [b, c] pos) (fCh kLe kLe f h l) := PE.weak (pe_chain op_le op_le ha hb hc hm) (tr_ch keepsI two_le two_le)
theorem x_lelt (ha : DE g E X a f) (hb : DE g E X b h) (hc : DE g E X c l) (hm : lastMarks [CmpOp.LtE, .Lt] [b, c] = false := by with_unfolding_all rfl) : DE g E X (.Compare a [.LtE, .Lt] [b, c] pos) (fCh kLe kLt f h l) := PE.weak (pe_chain op_le op_lt ha hb hc hm) (tr_ch keepsI two_le two_lt)
theorem x_ltle (ha : DE g E X a f) (hb : DE g E X b h) (hc : DE g E X c l) (hm : lastMarks [CmpOp.Lt, .LtE] [b, c] = false := by with_unfolding_all rfl) : DE g E X (.Compare a [.Lt, .LtE] [b, c] pos) (fCh kLt kLe f h l) := PE.weak (pe_chain op_lt op_le ha hb hc hm) (tr_ch keepsI two_lt two_le)
theorem x_ltlt (ha : DE g E X a f) (hb : DE g E X b h) (hc : DE g E X c l) (hm : lastMarks [CmpOp.Lt, .Lt] [b, c] = false := by with_unfolding_all rfl) : DE g E X (.Compare a [.Lt, .Lt] [b, c] pos) (fCh kLt kLt f h l) := PE.weak (pe_chain op_lt op_lt ha hb hc hm) (tr_ch keepsI two_lt two_lt)
theorem y_ch {k1 k2 : D → D → Mem → R D} {op op' : CmpOp} {r1 r2 : R2} (ho : OpR X (compareOp op) r1) (ho' : OpR X (compareOp op') r2) (hk : ∀ a b M, ∃ z : R D, z = k1 a b M ∧ ∀ d M', z = .ok d M' → M' = M) (hk1 : Two g r1 k1) (hk2 : Two g r2 k2) (ha : DE g E X a f) (hb : DE g E X b h) (hc : DE g E X c l) (hm : lastMarks [op, op'] [b, c] = false) :
    DT g E X (.Compare a [op, op'] [b, c] pos) (tOf (fCh k1 k2 f h l)) := PT.weak (pt_chain ho ho' ha hb hc hm) fun s H Q t => tr_b (r := tChain r1 r2 (trE g E f) (trE g E h) (trE g E l)) (tr_ch hk hk1 hk2) s H Q t
theorem y_lele (ha : DE g E X a f) (hb : DE g E X b h) (hc : DE g E X c l) (hm : lastMarks [CmpOp.LtE, .LtE] [b, c] = false := by with_unfolding_all rfl) : DT g E X (.Compare a [.LtE, .LtE] [b, c] pos) (tOf (fCh kLe kLe f h l)) := y_ch op_le op_le keepsI two_le two_le ha hb hc hm
theorem y_lelt (ha : DE g E X a f) (hb : DE g E X b h) (hc : DE g E X c l) (hm : lastMarks [CmpOp.LtE, .Lt] [b, c] = false := by with_unfolding_all rfl) : DT g E X (.Compare a [.LtE, .Lt] [b, c] pos) (tOf (fCh kLe kLt f h l)) := y_ch op_le op_lt keepsI two_le two_lt ha hb hc hm
theorem y_ltle (ha : DE g E X a f) (hb : DE g E X b h) (hc : DE g E X c l) (hm : lastMarks [CmpOp.Lt, .LtE] [b, c] = false := by with_unfolding_all rfl) : DT g E X (.Compare a [.Lt, .LtE] [b, c] pos) (tOf (fCh kLt kLe f h l)) := y_ch op_lt op_le keepsI two_lt two_le ha hb hc hm
theorem y_ltlt (ha : DE g E X a f) (hb : DE g E X b h) (hc : DE g E X c l) (hm : lastMarks [CmpOp.Lt, .Lt] [b, c] = false := by with_unfolding_all rfl) : DT g E X (.Compare a [.Lt, .Lt] [b, c] pos) (tOf (fCh kLt kLt f h l)) := y_ch op_lt op_lt keepsI two_lt two_lt ha hb hc hm
end
/-! ### subscripts, slices -/
theorem x_ix (o : Ok g E X k) (ha : DE g E X a f) (hb : DE g E X b h) (hs : PlainIx b := by intro _ _; rfl) : DE g E X (.Subscript a b pos) (f2 kIx f h) := d_ix (by rw [← o.K]; exact ix_A o.room) two_ix ha hb hs
/-! ### built-ins -/
section
variable (o : Ok g E X k)
theorem x_len (o : Ok g E X k) (hm : g.mg "len" = none) (ha : DA g E X (e :: es) r) (hg : Gl X "len" := by rfl) (he : starEach (e :: es) X.env = (false, eval e X.env) :: starEach es X.env := by rfl) (hpl : (backTo pos (starEach es X.env)).any (·.1) = false := by rfl) : DE g E X (.Call (.Name "len" p) (e :: es) [] pos) (fOf (k1 kLen) r) :=
  d_bi o.toOkB (by rw [← o.K]; exact call_len) (args1 one_len) hg hm boot_len ha (by decide) (by decide) he hpl
theorem x_isi (o : Ok g E X k) (hm : g.mg "isinstance" = none) (ha : DA g E X (e :: es) r) (hg : Gl X "isinstance" := by rfl) (he : starEach (e :: es) X.env = (false, eval e X.env) :: starEach es X.env := by rfl) (hpl : (backTo pos (starEach es X.env)).any (·.1) = false := by rfl) : DE g E X (.Call (.Name "isinstance" p) (e :: es) [] pos) (fOf (k2 kIsi) r) :=
  d_bi o.toOkB (by rw [← o.K]; exact call_isi) (args2 two_isi) hg hm boot_isinstance ha (by decide) (by decide) he hpl
theorem x_all (o : Ok g E X k) (hm : g.mg "all" = none) (ha : DA g E X (e :: es) r) (hg : Gl X "all" := by rfl) (he : starEach (e :: es) X.env = (false, eval e X.env) :: starEach es X.env := by rfl) (hpl : (backTo pos (starEach es X.env)).any (·.1) = false := by rfl) : DE g E X (.Call (.Name "all" p) (e :: es) [] pos) (fOf (k1 kAll) r) :=
  d_bi o.toOkB (by rw [← o.K]; exact cr_all o.calm) (args1 one_all) hg hm boot_all ha (by decide) (by decide) he hpl
theorem x_any (o : Ok g E X k) (hm : g.mg "any" = none) (ha : DA g E X (e :: es) r) (hg : Gl X "any" := by rfl) (he : starEach (e :: es) X.env = (false, eval e X.env) :: starEach es X.env := by rfl) (hpl : (backTo pos (starEach es X.env)).any (·.1) = false := by rfl) : DE g E X (.Call (.Name "any" p) (e :: es) [] pos) (fOf (k1 kAny) r) :=
  d_bi o.toOkB (by rw [← o.K]; exact cr_any o.calm) (args1 one_any) hg hm boot_any ha (by decide) (by decide) he hpl
theorem x_sum (o : Ok g E X k) (hm : g.mg "sum" = none) (ha : DA g E X (e :: es) r) (hg : Gl X "sum" := by rfl) (he : starEach (e :: es) X.env = (false, eval e X.env) :: starEach es X.env := by rfl) (hpl : (backTo pos (starEach es X.env)).any (·.1) = false := by rfl) : DE g E X (.Call (.Name "sum" p) (e :: es) [] pos) (fOf (k1 kSum) r) :=
  d_bi o.toOkB (by rw [← o.K]; exact cr_sum o.calm) (args1 one_sum) hg hm boot_sum ha (by decide) (by decide) he hpl
theorem x_max (o : Ok g E X k) (hm : g.mg "max" = none) (ha : DA g E X (e :: es) r) (hg : Gl X "max" := by rfl) (he : starEach (e :: es) X.env = (false, eval e X.env) :: starEach es X.env := by rfl) (hpl : (backTo pos (starEach es X.env)).any (·.1) = false := by rfl) : DE g E X (.Call (.Name "max" p) (e :: es) [] pos) (fOf kMax r) :=
  d_bi o.toOkB (by rw [← o.K]; exact cr_maxA o.calm) args_max hg hm boot_max ha (by decide) (by decide) he hpl
theorem x_min (o : Ok g E X k) (hm : g.mg "min" = none) (ha : DA g E X (e :: es) r) (hg : Gl X "min" := by rfl) (he : starEach (e :: es) X.env = (false, eval e X.env) :: starEach es X.env := by rfl) (hpl : (backTo pos (starEach es X.env)).any (·.1) = false := by rfl) : DE g E X (.Call (.Name "min" p) (e :: es) [] pos) (fOf kMin r) :=
  d_bi o.toOkB (by rw [← o.K]; exact cr_minA o.calm) args_min hg hm boot_min ha (by decide) (by decide) he hpl
theorem x_sorted (o : Ok g E X k) (hm : g.mg "sorted" = none) (ha : DA g E X (e :: es) r) (hg : Gl X "sorted" := by rfl) (he : starEach (e :: es) X.env = (false, eval e X.env) :: starEach es X.env := by rfl) (hpl : (backTo pos (starEach es X.env)).any (·.1) = false := by rfl) : DE g E X (.Call (.Name "sorted" p) (e :: es) [] pos) (fOf (k1 kSorted) r) :=
  d_bi o.toOkB (by rw [← o.K]; exact cr_sortedI) (args1 one_sorted) hg hm boot_sorted ha (by decide) (by decide) he hpl
theorem x_abs (o : Ok g E X k) (hm : g.mg "abs" = none) (ha : DA g E X (e :: es) r) (hg : Gl X "abs" := by rfl) (he : starEach (e :: es) X.env = (false, eval e X.env) :: starEach es X.env := by rfl) (hpl : (backTo pos (starEach es X.env)).any (·.1) = false := by rfl) : DE g E X (.Call (.Name "abs" p) (e :: es) [] pos) (fOf (k1 kAbs) r) :=
  d_bi o.toOkB call_abs (args1 one_abs) hg hm boot_abs ha (by decide) (by decide) he hpl
theorem x_divmod (o : Ok g E X k) (hm : g.mg "divmod" = none) (ha : DA g E X (e :: es) r) (hg : Gl X "divmod" := by rfl) (he : starEach (e :: es) X.env = (false, eval e X.env) :: starEach es X.env := by rfl) (hpl : (backTo pos (starEach es X.env)).any (·.1) = false := by rfl) : DE g E X (.Call (.Name "divmod" p) (e :: es) [] pos) (fOf (k2 kDivmod) r) :=
  d_bi o.toOkB call_divmod (args2 two_divmod) hg hm boot_divmod ha (by decide) (by decide) he hpl
theorem x_int (o : Ok g E X k) (hm : g.mg "int" = none) (ha : DA g E X (e :: es) r) (hg : Gl X "int" := by rfl) (he : starEach (e :: es) X.env = (false, eval e X.env) :: starEach es X.env := by rfl) (hpl : (backTo pos (starEach es X.env)).any (·.1) = false := by rfl) : DE g E X (.Call (.Name "int" p) (e :: es) [] pos) (fOf (k1 kInt) r) :=
  d_bt o.toOkB call_int1 (args1 one_int) hg hm PyProof.Rows.boot_int ha (by decide) (by decide) he hpl
theorem x_tuple (o : Ok g E X k) (hm : g.mg "tuple" = none) (ha : DA g E X (e :: es) r) (hg : Gl X "tuple" := by rfl) (he : starEach (e :: es) X.env = (false, eval e X.env) :: starEach es X.env := by rfl) (hpl : (backTo pos (starEach es X.env)).any (·.1) = false := by rfl) : DE g E X (.Call (.Name "tuple" p) (e :: es) [] pos) (fOf (k1 kTuple) r) :=
  d_bt (rr := fun (xs : List V) (H : Hp) (Q : VK) => ∃ p ys, xs = [.ref p] ∧ ((SqL g.K H p ys ∧ ∀ l, H l = none → Q (.ref l) (upd H l (.tup ys))) ∨ (SqT g.K H p ys ∧ Q (.ref p) H))) o.toOkB (by rw [← o.K]; exact call_tuple_of) (args1 one_tuple) hg hm PyProof.Rows.boot_tuple ha (by decide) (by decide) he hpl
theorem x_list (o : Ok g E X k) (hm : g.mg "list" = none) (ha : DA g E X (e :: es) r) (hg : Gl X "list" := by rfl) (he : starEach (e :: es) X.env = (false, eval e X.env) :: starEach es X.env := by rfl) (hpl : (backTo pos (starEach es X.env)).any (·.1) = false := by rfl) : DE g E X (.Call (.Name "list" p) (e :: es) [] pos) (fOf (k1 kList) r) :=
  d_bt o.toOkB (by rw [← o.K]; exact call_list_of) (args1 one_list) hg hm boot_list ha (by decide) (by decide) he hpl
theorem x_listO (o : Ok g E X k) (hm : g.mg "list" = none) (ha : DA g E X (e :: es) r) (hg : Gl X "list" := by rfl) (he : starEach (e :: es) X.env = (false, eval e X.env) :: starEach es X.env := by rfl) (hpl : (backTo pos (starEach es X.env)).any (·.1) = false := by rfl) : DE g E X (.Call (.Name "list" p) (e :: es) [] pos) (fOf (k1 kListO) r) :=
  d_bt o.toOkB (by rw [← o.K]; exact call_list_of) (args1 one_listO) hg hm boot_list ha (by decide) (by decide) he hpl
theorem x_repr (o : OkB g X) (hm : g.mg "repr" = none) (ha : DA g E X (e :: es) r) (hg : Gl X "repr" := by rfl) (he : starEach (e :: es) X.env = (false, eval e X.env) :: starEach es X.env := by rfl) (hpl : (backTo pos (starEach es X.env)).any (·.1) = false := by rfl) : DE g E X (.Call (.Name "repr" p) (e :: es) [] pos) (fOf (k1 kRepr) r) :=
  d_bi o (by rw [← o.K]; exact cr_repr o.grd o.un) (args1 one_repr) hg hm boot_repr ha (by decide) (by decide) he hpl
end
/-- isinstance(e, (A, B)), built-in classes -/
def kIsi2 (m n : String) (d : D) (M : Mem) : R D := R.of (((tyN M d).bind fun t => (kitB t m).bind fun a => (kitB t n).map fun b => D.bl (a || b))) M
theorem x_isi2 {x y : Str} {m n : String} {kt : Nat} {p1 p2 p3 : Pos} (o : Ok g E X k) (hm : g.mg "isinstance" = none) (he : DE g E X e f) (hx : g.mg x = none) (hy : g.mg y = none) (bx : bootBuiltins x = some (.type m)) (by_ : bootBuiltins y = some (.type n)) (hg : Gl X "isinstance" := by rfl) (gx : Gl X x := by rfl) (gy : Gl X y := by rfl)
    (nx : x ≠ "__name__" := by decide) (ny : y ≠ "__name__" := by decide) (dx : (x == ("__debug__" : Str)) = false := by decide) (dy : (y == ("__debug__" : Str)) = false := by decide)
    (hs : starEach [e, .Tuple [.Name x p1, .Name y p2] kt p3] X.env = (false, eval e X.env) :: starEach [.Tuple [.Name x p1, .Name y p2] kt p3] X.env := by rfl) (hpl : (backTo pos (starEach [.Tuple [.Name x p1, .Name y p2] kt p3] X.env)).any (·.1) = false := by rfl)
    (hs2 : starEach [.Tuple [.Name x p1, .Name y p2] kt p3] X.env = (false, eval (.Tuple [.Name x p1, .Name y p2] kt p3) X.env) :: starEach [] X.env := by rfl)
    (hs3 : starEach [.Name x p1, .Name y p2] X.env = (false, eval (.Name x p1) X.env) :: starEach [.Name y p2] X.env := by rfl) (hs4 : starEach [.Name y p2] X.env = (false, eval (.Name y p2) X.env) :: starEach [] X.env := by rfl) :
    DE g E X (.Call (.Name "isinstance" p) [e, .Tuple [.Name x p1, .Name y p2] kt p3] [] pos) (f1 (kIsi2 m n) f) := by
  have mx : X.mg x = none := by rw [o.mg]; exact hx
  have my : X.mg y = none := by rw [o.mg]; exact hy
  have h1 : PE X (.Name x p1) (tC (.ty m)) := pe_bltn gx mx bx rfl nx dx
  have h2 : PE X (.Name y p2) (tC (.ty n)) := pe_bltn gy my by_ rfl ny dy
  refine PE.weak (pe_callB call_isiT hg (by rw [o.mg]; exact hm) boot_isinstance (pa_cons he (pa_cons (pe_tup (pa_cons h1 (pa_cons h2 pa_nil hs4) hs3)) pa_nil hs2) hs) (by decide) (by decide) hs hpl) fun s H Q ⟨env, io, M, S, z⟩ => ?_
  refine trE_then S z fun d M1 v H1 io1 t1 S1 r1 p1 => ?_
  unfold kIsi2 at p1
  cases e1 : (tyN M1 d).bind fun t => (kitB t m).bind fun a => (kitB t n).map fun b => D.bl (a || b) with
  | none => rw [e1] at p1; exact p1.elim
  | some q =>
    rw [e1] at p1
    obtain ⟨t, et, e2⟩ := Option.bind_eq_some_iff.mp e1
    obtain ⟨ba, ea, e3⟩ := Option.bind_eq_some_iff.mp e2
    obtain ⟨bb, eb, rfl⟩ := Option.map_eq_some_iff.mp e3
    rw [o.K]
    refine ⟨by show 2 ≤ sizeLine; rw [sizeLine_eq]; omega, fun T hT => ?_⟩
    have t2 : ST io1 M1 H1 io1 M1 (upd H1 T (.tup [.ty m, .ty n])) := .fresh hT
    have S2 := S1.fresh (o := .tup [.ty m, .ty n]) hT
    refine ⟨v, T, [.ty m, .ty n], _, [.type m, .type n], ba || bb, rfl, upd_same, .cons (.ty m) (.cons (.ty n) .nil), tyN_at S2.toMR (VR.mono S1.toMR t2 r1) et, ?_, p1 _ _ io1 t2 S2 (.bl _)⟩
    cases ba with
    | true => exact kitAny_cons (kit_ty ea) (fun z => by cases z) fun _ => rfl
    | false =>
      refine kitAny_cons (kit_ty ea) (fun _ => ?_) (fun z => by cases z)
      cases bb with
      | true => exact kitAny_cons (kit_ty eb) (fun z => by cases z) fun _ => rfl
      | false => exact kitAny_cons (kit_ty eb) (fun _ => kitAny_nil) fun z => by cases z
/-- list(range(n)), list(range(a, b)) -/
def rgOk (a b : Int) : Bool := decide (-(2 ^ 62) ≤ a ∧ a < 2 ^ 62 ∧ -(2 ^ 62) ≤ b ∧ b < 2 ^ 62 ∧ (b - a).toNat ≤ 2 ^ 24)
def kRgL (own : Bool) (d : D) (M : Mem) : R D := match d with
  | .int b => if rgOk 0 b = true then (if own = true then .ok (.ref M.length) (M ++ [.lst (rgD 0 b)]) else .ok (.lst (rgD 0 b)) M) else .stuck
  | _ => .stuck
theorem VRs.rg {c : RC} (a b : Int) : VRs c (rgV a b) (rgD a b) := by
  unfold rgV rgD
  generalize List.range (b - a).toNat = l
  induction l with
  | nil => exact .nil
  | cons i l ih => exact .cons (.int _) ih
theorem x_listRg (own : Bool) {p1 p2 p3 : Pos} (o : Ok g E X k) (hl : g.mg "list" = none) (hr : g.mg "range" = none) (he : DE g E X e f) (gl : Gl X "list" := by rfl) (gr : Gl X "range" := by rfl) (na : starEach [e] X.env = (false, eval e X.env) :: starEach [] X.env := by rfl)
    (nb : starEach [.Call (.Name "range" p1) [e] [] p2] X.env = (false, eval (.Call (.Name "range" p1) [e] [] p2) X.env) :: starEach [] X.env := by rfl) : DE g E X (.Call (.Name "list" p3) [.Call (.Name "range" p1) [e] [] p2] [] pos) (f1 (kRgL own) f) :=
  PE.weak (pe_listRg o.calm gl (by rw [o.mg]; exact hl) (prg_1 gr (by rw [o.mg]; exact hr) he na) nb) fun s H Q ⟨env, io, M, S, z⟩ => trE_then S z fun d M1 v H1 io1 t1 S1 r1 p1 => by
    unfold kRgL at p1
    split at p1
    · rename_i n
      cases r1
      split at p1
      · rename_i hok
        have hok' := of_decide_eq_true hok
        refine ⟨n, rfl, ⟨hok'.1, hok'.2.1, hok'.2.2.1, hok'.2.2.2.1, hok'.2.2.2.2⟩, fun q hq => ?_⟩
        split at p1
        · exact PostE.newOwn p1 S1 (VRs.rg 0 n) q hq
        · exact PostE.newLst p1 S1 (VRs.rg 0 n) q hq
      · exact p1.elim
    · exact p1.elim
end
/-! ### comprehensions whose list is ours -/
/-- of one heap, more of it ours -/
structure Le (c c' : RC) : Prop where
  K : c'.K = c.K
  H : c'.H = c.H
  io : ∀ i, i < c.n → c'.io i = c.io i
  le : c.n ≤ c'.n
  own : ∀ a, ¬ c.own a → ¬ c'.own a
  bor : ∀ a, c.bor a → c'.bor a
mutual
theorem VR.le {c c' : RC} (h : Le c c') : ∀ {v : V} {d : D}, VR c v d → VR c' v d
  | _, _, .non => .non
  | _, _, .bl b => .bl b
  | _, _, .int i => .int i
  | _, _, .str x => .str x
  | _, _, .ty x => .ty x
  | _, _, .tup ht r => .tup (by rw [h.K, h.H]; exact ht) (VRs.le h r)
  | _, _, .scr ht => .scr (by rw [h.K, h.H]; exact ht.imp (fun z => ⟨z.1, h.own _ z.2⟩) id)
  | _, _, .lst ht n r => .lst (by rw [h.H]; exact ht) (h.own _ n) (VRs.le h r)
  | _, _, .dk ht n r => .dk (by rw [h.H]; exact ht) (h.own _ n) (VRk.le h r)
  | _, _, .fdk ht r => .fdk (by rw [h.H]; exact ht) (VRk.le h r)
  | _, _, .bor ht hb r => .bor (by rw [h.H]; exact ht) (h.bor _ hb) (VRs.le h r)
  | _, _, .ref (i := i) hi => by
    have w : VR c' (.ref (c'.io i)) (.ref i) := .ref (Nat.lt_of_lt_of_le hi h.le)
    rw [h.io i hi] at w
    exact w
theorem VRs.le {c c' : RC} (h : Le c c') : ∀ {v : List V} {d : List D}, VRs c v d → VRs c' v d
  | _, _, .nil => .nil
  | _, _, .cons r s => .cons (VR.le h r) (VRs.le h s)
theorem VRk.le {c c' : RC} (h : Le c c') : ∀ {v : List (Key × V)} {d : List (Key × D)}, VRk c v d → VRk c' v d
  | _, _, .nil => .nil
  | _, _, .cons r s => .cons (VR.le h r) (VRk.le h s)
end
theorem VRf.le {c c' : RC} (h : Le c c') : ∀ {v : List (Str × V)} {d : List (Str × D)}, VRf c v d → VRf c' v d
  | _, _, .nil => .nil
  | _, _, .cons r s => .cons (VR.le h r) (VRf.le h s)
theorem own_hk {g : G} {E : WX} (s : L2.St) (Q : VK) (ys : List D) (io1 : Nat → Addr) (env : DEnv) (M1 : Mem) (H1 : Hp) (io2 : Nat → Addr) (M' : Mem) (H2 : Hp) (D : Addr) (vacc : List V) (S1 : SR g io1 env M1 s H1) (p : PostE g E io1 env M1 s H1 (kOwn ys M') Q) (hD : H1 D = none)
      (t : ST io1 M1 H1 io2 M' H2) (m : MR (g.wF fun a => g.F a ∨ a = D) io2 M' H2) (hl : H2 D = some (.lst vacc)) (r : VRs (rc (g.wF fun a => g.F a ∨ a = D) io2 M' H2) vacc ys) : Q (.ref D) H2 := by
  unfold kOwn at p
  split at p
  · have m2 := m.lessF (g := g) (fun a z => .inl z) S1.toMR.bor
    have nown : ¬ OwnOf io2 M' D := (m.frm D (.inr rfl)).2
    have nF : ¬ g.F D := fun z => free_not_own S1.toMR hD (.inl z)
    have rl := VRs.lessF (g := g) (fun a z => .inl z) r
    have t' : ST io1 M1 H1 (ioN io2 M'.length D) (M' ++ [.lst ys]) H2 := ⟨fun b ob h n q => by
      obtain ⟨a1, a2⟩ := t.ext b ob h n q
      exact ⟨a1, fun z => (own_new z).elim (fun e => by rw [e, hD] at h; cases h) a2⟩, fun i hi => by
      rw [ioN_ne (by have := t.len; omega)]
      exact t.keep i hi, by have := t.len; simp; omega⟩
    have le : Le (rc (g.wF fun a => g.F a ∨ a = D) io2 M' H2) (rc g (ioN io2 M'.length D) (M' ++ [.lst ys]) H2) :=
      ⟨rfl, rfl, fun i hi => ioN_ne (Nat.ne_of_lt hi), by simp, fun a z q => z (q.elim (fun y => .inl (.inl y)) fun y => (own_new y).elim (fun e => .inl (.inr e)) .inr), fun _ => id⟩
    have m3 : MR g (ioN io2 M'.length D) (M' ++ [.lst ys]) H2 := by
      refine ⟨fun i w e => ?_, fun i j w w' e e' n n' hh => ?_, m2.tab, fun a h => ⟨(m2.frm a h).1, fun z => (own_new z).elim (fun e => nF (e ▸ h)) (m2.frm a h).2⟩, m2.bor⟩
      · rcases Nat.lt_or_ge i M'.length with hi | hi
        · rw [List.getElem?_append_left hi] at e
          rw [ioN_ne (Nat.ne_of_lt hi)]
          have q := m.mem i w e
          cases w with
          | gone => trivial
          | lst ds => obtain ⟨vs, h, r⟩ := q; exact ⟨vs, h, VRs.le le r⟩
          | dk ds => obtain ⟨vs, h, r⟩ := q; exact ⟨vs, h, VRk.le le r⟩
          | ins C fs => obtain ⟨dx, vs, h, r⟩ := q; exact ⟨dx, vs, h, VRf.le le r⟩
        · rw [List.getElem?_append_right hi] at e
          cases hk : i - M'.length with
          | succ k => rw [hk] at e; simp at e
          | zero =>
            rw [hk] at e
            have hi2 : i = M'.length := by omega
            subst hi2
            simp at e
            subst e
            rw [ioN_same]
            exact ⟨vacc, hl, VRs.le le r⟩
      · have key : ∀ i w, (M' ++ [MO.lst ys])[i]? = some w → (i < M'.length ∧ M'[i]? = some w) ∨ i = M'.length := fun i w e => by
          rcases Nat.lt_or_ge i M'.length with hi | hi
          · rw [List.getElem?_append_left hi] at e; exact .inl ⟨hi, e⟩
          · rcases Nat.lt_or_ge M'.length i with z | z
            · rw [List.getElem?_eq_none (by simp; omega)] at e; cases e
            · exact .inr (by omega)
        have notD : ∀ i w, M'[i]? = some w → w ≠ .gone → io2 i ≠ D := fun i w e n z => nown ⟨i, w, e, n, z⟩
        rcases key i w e with ⟨hi, e1⟩ | hi <;> rcases key j w' e' with ⟨hj, e2⟩ | hj
        · rw [ioN_ne (Nat.ne_of_lt hi), ioN_ne (Nat.ne_of_lt hj)] at hh
          exact m.inj i j w w' e1 e2 n n' hh
        · subst hj
          rw [ioN_ne (Nat.ne_of_lt hi), ioN_same] at hh
          exact absurd hh (notD i w e1 n)
        · subst hi
          rw [ioN_ne (Nat.ne_of_lt hj), ioN_same] at hh
          exact absurd hh.symm (notD j w' e2 n')
        · rw [hi, hj]
    have q : VR (rc g (ioN io2 M'.length D) (M' ++ [.lst ys]) H2) (.ref (ioN io2 M'.length D M'.length)) (.ref M'.length) := .ref (by simp)
    rw [ioN_same] at q
    exact p _ H2 _ t' (S1.later t' m3) q
  · exact p.elim
def fCompO (own : List Nat) (fi : FA) (t : Tgt) (tt : FT) (f : FE) : FE := fOf kOwn (aComp own fi t tt f)
section
variable {g : G} {E : WX} {X : Cx} {k : Nat} {pos : Pos} {tg iter elt : Expr} {ifs : List Expr} {scope : Scope} {own : List (Str × Nat)} {fi : FA} {t : Tgt} {tt : FT} {f : FE}
theorem d_compO (o : Ok g E X k) (hi : DI g E X tg iter fi) (ok : BlkOk X.N X.env.scope scope own) (hsl : ∀ i ∈ t.slots, i ∈ own.map (·.2))
    (hg : ∀ (s : Shared) (H : Hp) (C : Addr) (cl : List (Str × Addr)) (fp : List Addr), DG g (X.blk s H scope (compEnvC scope cl C X.env) fp) tg t)
    (ht : ∀ (F : Addr → Prop) (s : Shared) (H : Hp) (C : Addr) (cl : List (Str × Addr)) (fp : List Addr), Ok (g.wF F) EN (X.blk s H scope (compEnvC scope cl C X.env) fp) k → DTs (g.wF F) EN (X.blk s H scope (compEnvC scope cl C X.env) fp) ifs tt)
    (he : ∀ (F : Addr → Prop) (s : Shared) (H : Hp) (C : Addr) (cl : List (Str × Addr)) (fp : List Addr), Ok (g.wF F) EN (X.blk s H scope (compEnvC scope cl C X.env) fp) k → DE (g.wF F) EN (X.blk s H scope (compEnvC scope cl C X.env) fp) elt f)
    (hs : ∀ x, foldedSetIterable iter X.env x = pure x := by intro _; rfl) : DE g E X (.ListComp elt [⟨tg, iter, ifs, 0⟩] scope pos) (fCompO (own.map (·.2)) fi t tt f) :=
  d_comp_gen o hi ok hsl hg ht he (own_hk (E := E)) kOwn_len hs
end
end DL

-- DlSuite
set_option Elab.async false
set_option linter.all false
set_option maxRecDepth 100000
set_option maxHeartbeats 2000000
/-! DlSuite: what an except clause does with its exception. -/
namespace PySem.W
open PySem PySem.Spec PySem.Calls PyProof.Rows
/-- isinstance(x, c), x's type under c -/
theorem ans_true {K : Frag} {x t c : Value} {H : Heap → Prop} (ty : ∀ (M : Model) (h : Heap), K.In h → H h → Looks M h (typeOf x) t) (e : kitOne K t c = some true) : Answers (fun s => K.In s.heap ∧ H s.heap) x c true := by
  intro dep tk prog w A R s hs
  obtain ⟨h0, g, d, tt, os⟩ := s
  obtain ⟨⟨X, p⟩, hq⟩ := hs
  have LT := ty (model prog w) h0 X p
  unfold kitOne at e
  unfold Builtin.«isinstance.nested»
  refine wpAny_bind (LT.at ?_)
  by_cases q : (t == c) = true
  · rw [if_pos q]
    first
      | ((repeat lk); exact hq tt)
      | exact wpAny_bind (wpAny_rule (hq tt))
      | exact wpAny_bind (wpAny_rule (wpAny_pure (hq tt)))
  · rw [if_neg q] at e
    rw [if_neg q]
    obtain ⟨hty, his, hsub⟩ := kit_cls (M := model prog w) X e
    have LI : Looks (model prog w) h0 (isInstance x c) true := LT.andThen hsub
    refine wpAny_bind (hty.at ?_)
    rw [if_pos (by decide)]
    k_delta "plainIsInstance"
    refine wpAny_bind (wpAny_bind (his.at ?_))
    simp only [Bool.not_true, Bool.false_eq_true, if_false]
    refine wpAny_bind (LI.at ?_)
    first
      | exact wpAny_pure (wpAny_pure (hq tt))
      | (simp only [if_true]; first | exact wpAny_pure (wpAny_pure (hq tt)) | exact wpAny_pure (hq tt) | exact wpAny_bind (wpAny_pure (wpAny_pure (hq tt))))
theorem isi_true {K : Frag} {x t c : Value} {H : Heap → Prop} {prog : Program} {w : World} {A : Around} {E : Value → Shared → Prop} {s : Shared} {Q : Value → Shared → Prop} (ty : ∀ (M : Model) (h : Heap), K.In h → H h → Looks M h (typeOf x) t) (X : K.In s.heap) (p : H s.heap) (e : kitOne K t c = some true)
    (hx : x ≠ .builtin "__main__.__loader__#opaque") (h : ∀ tk, Q (.bool true) { s with toks := tk }) : wpAny (model prog w) A (call (.builtin "isinstance") [x, c]) Q E s :=
  call_isinstance (S := fun _ R s => (K.In s.heap ∧ H s.heap) ∧ ∀ tk, R (.ok (.ret (.bool true))) { s with toks := tk })
    (fun prog w A R s hs => isinstance_outer (ans_true ty e 0 _ prog w A R s hs) hx) ⟨⟨X, p⟩, h⟩
end PySem.W
namespace DL
open PySem PySem.Spec PyProof.Rows L2
/-- err.f -/
def kXf (cs : List Str) (n : Nat) (C : Str) (as : List (Str × D)) (f : Str) (d : D) (M : Mem) : R D := match d with
  | .ref i => if i = n ∧ C ∈ cs then R.of (as.lookup f) M else .stuck
  | _ => .stuck
/-- isinstance(err, K) -/
def kXi (t : STab) (n : Nat) (C K : Str) (d : D) (M : Mem) : R D := match d with
  | .ref i => if i = n ∧ t.lookup (C, K) = some true then .ok (.bl true) M else .stuck
  | _ => .stuck
section
variable {g : G} {X : Cx} {pos p p1 p2 : Pos} {e : Expr} {fo : FE} {xi : Xi} {oe : Obj} {pn : List (Addr × Obj)}
theorem x_xf {f : Str} {cs : List Str} (hl : xi.lam = none) (o : OkB (g.ex xi) (X.suite xi.a ((xi.a, oe) :: pn))) (hz : Zc (.ref (g.ca xi.C)) xi.d oe) (hf : ∃ vs, oe.data = .fields vs) (hc : ∀ C ∈ cs, XfC g.K (g.ca C) ∧ PySem.W.findIn g.K (.ref (g.ca C)) f = some none)
    (he : DE (g.ex xi) EN (X.suite xi.a ((xi.a, oe) :: pn)) e fo) (hb : attributeBase e f X.env (eval e X.env) = eval e X.env := by rfl) : DE (g.ex xi) EN (X.suite xi.a ((xi.a, oe) :: pn)) (.Attribute e f pos) (f1 (kXf cs xi.n xi.C xi.as f) fo) := by
  by_cases hC : xi.C ∈ cs
  · have hK : X.K = g.K := o.K
    obtain ⟨h1, h2⟩ := hc _ hC
    refine PE.weak (pe_xf (C := g.ca xi.C) (by rw [hK]; exact h1) (by rw [hK]; exact h2) hz hf he hb) fun s H Q ⟨env, io, M, S, z⟩ => trE_then S z fun d M1 v H1 io1 t1 S1 r1 p1 => ?_
    unfold kXf at p1
    split at p1
    · rename_i i
      split at p1
      · rename_i hi
        obtain ⟨rfl, _⟩ := hi
        obtain ⟨⟨x1, x2⟩, x3⟩ := S1.xd xi rfl
        unfold XdP at x3
        rw [hl] at x3
        cases r1
        refine ⟨by show V.ref (io1 xi.n) = V.ref xi.a; rw [x1], rfl, ?_⟩
        cases el : xi.as.lookup f with
        | none => rw [el] at p1; exact p1.elim
        | some y =>
          rw [el] at p1
          rcases x3 with x3 | ⟨dd, vs, e1, e2, rf⟩
          · rw [x3] at el; cases el
          · obtain ⟨w, l, rw'⟩ := VRf.lookup rf el
            exact ⟨dd, vs, w, e1, e2, l, PostE.here p1 S1 rw'⟩
      · exact p1.elim
    · exact p1.elim
  · refine ⟨fun pins s σ H Q I ⟨env, io, M, S, z⟩ => ?_⟩
    refine attr_of hb (thn (he.run pins s σ H (fun _ _ => False) I (trE_then S z fun d M1 v H1 io1 t1 S1 r1 p1 => ?_)) fun u s1 ⟨x, H1, I1, rx, q⟩ => q.elim)
    unfold kXf at p1
    split at p1
    · rw [if_neg (fun z => hC z.2)] at p1; exact p1.elim
    · exact p1.elim
theorem x_xi {K : Str} {Ka : Str} {t : STab} (o : OkB (g.ex xi) (X.suite xi.a ((xi.a, oe) :: pn))) (hz : Zc (.ref (g.ca xi.C)) xi.d oe) (ht : t.Ok g.toG0) (hm : g.mg "isinstance" = none) (hk : g.mg Ka = some (.ref (g.ca K))) (he : DE (g.ex xi) EN (X.suite xi.a ((xi.a, oe) :: pn)) e fo)
    (hg : Gl (X.suite xi.a ((xi.a, oe) :: pn)) "isinstance" := by rfl) (hgk : Gl (X.suite xi.a ((xi.a, oe) :: pn)) Ka := by rfl) (hd : (Ka == ("__debug__" : Str)) = false := by decide)
    (hs : starEach [e, .Name Ka p1] X.env = (false, eval e X.env) :: starEach [.Name Ka p1] X.env := by rfl) (hs2 : starEach [.Name Ka p1] X.env = (false, eval (.Name Ka p1) X.env) :: starEach [] X.env := by rfl) (hpl : (backTo pos (starEach [.Name Ka p1] X.env)).any (·.1) = false := by rfl) :
    DE (g.ex xi) EN (X.suite xi.a ((xi.a, oe) :: pn)) (.Call (.Name "isinstance" p) [e, .Name Ka p1] [] pos) (f1 (kXi t xi.n xi.C K) fo) := by
  have hK : X.K = g.K := o.K
  have hmg : X.mg = g.mg := o.mg
  have hn : PE (X.suite xi.a ((xi.a, oe) :: pn)) (.Name Ka p1) (tC (.ref (g.ca K))) := pe_glob (v := .ref (g.ca K)) hgk (show X.mg Ka = some (.ref (g.ca K)) by rw [hmg]; exact hk) rfl hd
  have cr : CallR (X.suite xi.a ((xi.a, oe) :: pn)) (.builtin "isinstance") (fun xs H Q => xs = [.ref xi.a, .ref (g.ca K)] ∧ t.lookup (xi.C, K) = some true ∧ Q (.bl true) H) := by
    intro pins s σ H xs us Q I r ⟨ex, el, q⟩
    subst ex
    cases r with
    | cons rx rr => cases rr with | cons ry rr =>
      cases rr; cases rx; cases ry
      obtain ⟨hget, _⟩ := I.pin (xi.a, oe) (List.mem_append.mpr (.inl List.mem_cons_self))
      have e1 := ht _ _ _ el
      have ek : PySem.W.kitOne g.K (.ref (g.ca xi.C)) (.ref (g.ca K)) = some true := by
        unfold PySem.W.kitOne
        split
        · rfl
        · unfold PySem.W.exmOne at e1
          split at e1
          · exact e1
          · cases e1
      refine PySem.W.isi_true (K := g.K) (t := .ref (g.ca xi.C)) (H := fun h => h.get? xi.a = some oe) (fun M h _ hp A Q E s k q => wpAny_typeOf_ref (k _ _ hp) (by rw [hz.1]; exact q)) (hK ▸ I.kIn) hget ek (fun z => nomatch z) fun tk => ⟨.bl true, H, I.kept (t' := tk) fun _ _ z => z, rfl, q⟩
  refine PE.weak (pe_callB cr hg (show X.mg "isinstance" = none by rw [hmg]; exact hm) boot_isinstance (pa_cons he (pa_cons hn pa_nil hs2) hs) (by decide) (by decide) hs hpl) fun s H Q ⟨env, io, M, S, z⟩ => trE_then S z fun d M1 v H1 io1 t1 S1 r1 p1 => ?_
  unfold kXi at p1
  split at p1
  · rename_i i
    split at p1
    · rename_i hi
      obtain ⟨rfl, el⟩ := hi
      obtain ⟨⟨x1, x2⟩, x3⟩ := S1.xd xi rfl
      cases r1
      exact ⟨by show [V.ref (io1 xi.n), V.ref (g.ca K)] = _; rw [x1], el, PostE.here p1 S1 (.bl true)⟩
    · exact p1.elim
  · exact p1.elim
end
end DL

-- DlLam
set_option Elab.async false
set_option linter.all false
set_option maxRecDepth 100000
set_option maxHeartbeats 2000000
/-! DlLam: a lambda without parameters handed to a def that calls it. -/
namespace DL
open PySem PySem.Spec PyProof.Rows L2 LamX
/-- the call of what was handed in: it stands at place n -/
def fAct (i n : Nat) (act : Mem → R D) : FE := fun env M => match env[i]? with
  | some (some (.ref j)) => if j = n then act M else .stuck
  | _ => .stuck
def lamXi (n : Nat) (f : Addr) (σ : L2.St) (env : DEnv) (c : Addr) (q : Str) : Xi := ⟨n, f, none, "", [], some ⟨σ, env, c, q⟩⟩
section
variable {X : Cx} {pins : List (Addr × Obj)} {σ : L2.St} {H : Hp} {s : Shared} {ca : Str → Addr} {T : List (Addr × Str)} {F B : Addr → Prop}
/-- the lambda is called, in the def that got it -/
theorem act_run {kb n : Nat} {fb : FE} {env : DEnv} {Ng : List Str} {x a : Str} {sg : Scope} {gf f c' : Addr} {cdg pm ctv : Value} {params : Arguments} {body : Expr} {scope : Scope} {E0 : XK} {E : WX} {pn : List (Addr × Obj)} {xe : Value → Shared → Prop} {p1 p2 : Pos}
    (hnd : X.N.Nodup) (I : Inv X pins σ H s) (L : LamS X.env.scope scope) (hf : s.heap.get? f = some (PySem.W.kla_obj "<lambda>" (X.env.qual ++ "<lambda>") params body scope (cloFrom X.env.cells scope.names []) pm c' ctv)) (hfn : H f = none) (hfr : f ∉ frs X.stack)
    (hbind : bindArgs (PySem.W.kla_fn "<lambda>" (X.env.qual ++ "<lambda>") params body scope (cloFrom X.env.cells scope.names []) pm (.ref c') ctv) ⟨[], []⟩ = pure [])
    (o : Ok ⟨⟨X.prog, X.w, X.base, X.K, X.mg, ca, T⟩, F, some (lamXi n f σ env c' (X.env.qual ++ "<lambda>")), B⟩ E ((cxOf (L2.CX X.prog X.w) X.prog X.w X.K X.mg X.base Ng x sg gf cdg X.A X.stack s H E0).tr pn xe) (kb + 1))
    (hbody : ∀ (A : Around) (outer : List Env) (s : Shared) (H : Hp) (E' : XK), Ok ⟨⟨X.prog, X.w, X.base, X.K, X.mg, ca, T⟩, F, none, B⟩ (fun cls d _ H => E' cls d H) (lamCx X A outer s H E' scope f c') kb → DE ⟨⟨X.prog, X.w, X.base, X.K, X.mg, ca, T⟩, F, none, B⟩ (fun cls d _ H => E' cls d H) (lamCx X A outer s H E' scope f c') body fb)
    (hN : Ng[0]? = some a) (hv : Vis sg a) (hd : (a == ("__debug__" : Str)) = false) (hcd : (a == ("__classdict__" : Str)) = false) :
    DE ⟨⟨X.prog, X.w, X.base, X.K, X.mg, ca, T⟩, F, some (lamXi n f σ env c' (X.env.qual ++ "<lambda>")), B⟩ E ((cxOf (L2.CX X.prog X.w) X.prog X.w X.K X.mg X.base Ng x sg gf cdg X.A X.stack s H E0).tr pn xe) (.Call (.Name a p1) [] [] p2) (fAct 0 n fun M => fb env M) := by
  refine ⟨fun pinsZ sZ σZ HZ QZ IZ ⟨envZ, ioZ, MZ, SZ, zZ⟩ => ?_⟩
  unfold fAct at zZ
  split at zZ
  · rename_i j ej
    split at zZ
    · rename_i hj
      subst hj
      have zZ' : PostE ⟨⟨X.prog, X.w, X.base, X.K, X.mg, ca, T⟩, F, some (lamXi j f σ env c' (X.env.qual ++ "<lambda>")), B⟩ E ioZ envZ MZ σZ HZ (fb env MZ) QZ := zZ
      obtain ⟨⟨x1, x2⟩, x3, x4, x5⟩ := SZ.xd _ rfl
      obtain ⟨v0, hv0, rv0⟩ := SZ.ev _ _ ej
      obtain rfl : v0 = .ref f := by
        cases rv0
        exact congrArg V.ref x1
      refine wpAny_Call_Name_kw (thn ((pe_var (pos := p1) (i := 0) hN hv hd hcd).run pinsZ sZ σZ HZ (fun v H1 => v = .ref f ∧ H1 = HZ) IZ ⟨.ref f, hv0, rfl, rfl⟩) fun u s1 ⟨v, H1, I1, r1, ev, eH⟩ => ?_)
      subst ev
      rw [eH] at I1
      obtain rfl : u = Value.ref f := r1
      have of1 := I1.base.keep f _ hf hfn hfr (fun z => nomatch (show f ∈ ([] : List Addr) from z))
      refine PySem.W.callWith_F0 ⟨_, _, _, _, of1⟩ ?_
      have un : Un (frs X.stack) [] H HZ s.heap s1.heap := I1.base
      obtain ⟨⟨oc, vs, t, hoc, hdc, hvc⟩, _, _⟩ := I1.hok c' _ x3
      have hr := o.room
      have hroom : Room kb ((X.A.deeper (envOfC x sg s.heap.objs.size gf cdg)).deeper (lamEnv X scope s1.heap.objs.size f c')) := hr.deeper _
      have hgrd : X.A.guards = some [] := o.grd
      have rc' : codeAny (model X.prog X.w) (X.A.deeper (envOfC x sg s.heap.objs.size gf cdg)) (.call (.ref f) ⟨[], []⟩) (CR (L2.CX X.prog X.w) (envOfC x sg s.heap.objs.size gf cdg :: X.stack) X.prog X.w HZ s1 QZ (fun cls d H' => E cls d σZ H')) s1 := by
        refine PySem.W.kla_callFunE hr.depth of1 rfl L.co L.gen rfl ⟨c', oc, vs, t, rfl, hoc, hdc, hvc⟩ ?_
        rw [hbind]
        refine wpAny_pure (wpAny_newFunctionEnv (fun y hy => (L.own y hy).2) (fun y hy => absurd hy (by simp)) (fun h₁ hns hsb => ⟨I1.nolimit.fresh _ hsb, ?_⟩) L.kind)
        show codeAny _ _ (.expr body (lamEnv X scope s1.heap.objs.size f c')) _ _
        have kp : ∀ b o, s1.heap.get? b = some o → h₁.get? b = some o := fun b o e => hsb.extBut b o (Nat.ne_of_lt (Heap.lt_size e)) (Heap.get?_push_of_some _ e)
        have J : Inv (lamCx X (X.A.deeper (envOfC x sg s.heap.objs.size gf cdg)) (envOfC x sg s.heap.objs.size gf cdg :: X.stack) s1 HZ (fun cls d H' => E cls d σZ H') scope f c') [] σ HZ { s1 with heap := h₁, toks := s1.toks + ([] : List (Str × Value)).length } :=
          lam_start2 I L I1.env0 hr.hd un hns kp
        have ol : Ok ⟨⟨X.prog, X.w, X.base, X.K, X.mg, ca, T⟩, F, none, B⟩ (fun cls d _ H' => E cls d σZ H') (lamCx X (X.A.deeper (envOfC x sg s.heap.objs.size gf cdg)) (envOfC x sg s.heap.objs.size gf cdg :: X.stack) s1 HZ (fun cls d H' => E cls d σZ H') scope f c') kb :=
          ⟨⟨rfl, rfl, rfl, rfl, rfl, hnd, hgrd, by have h3 := hroom.un; show (X.A.deeper (envOfC x sg s.heap.objs.size gf cdg)).units + 3 + 200 < _; have h4 : ((X.A.deeper (envOfC x sg s.heap.objs.size gf cdg)).deeper (lamEnv X scope s1.heap.objs.size f c')).units = (X.A.deeper (envOfC x sg s.heap.objs.size gf cdg)).units + 3 := rfl; omega⟩, rfl, takes_of rfl rfl rfl rfl, hroom, passes_of rfl⟩
        have S2 : SR ⟨⟨X.prog, X.w, X.base, X.K, X.mg, ca, T⟩, F, none, B⟩ ioZ env MZ σ HZ := ⟨⟨SZ.toMR.mem, SZ.toMR.inj, SZ.toMR.tab, SZ.toMR.frm, SZ.toMR.bor⟩, x5, x4, fun p e => by cases e⟩
        refine PySem.W.kla_codeExpr (wpAny_mono ((hbody _ _ s1 HZ _ ol).run [] _ _ HZ QZ J ⟨env, ioZ, MZ, S2, ?_⟩) (fun v s' hq => ?_) fun e s' hq => hq)
        · cases e : fb env MZ with
          | stuck => rw [e] at zZ'; exact zZ'.elim
          | exc C as M' => rw [e] at zZ'; exact fun dd H' io' t' S' xx => zZ' dd H' io' t' (SZ.later t' ⟨S'.toMR.mem, S'.toMR.inj, S'.toMR.tab, S'.toMR.frm, S'.toMR.bor⟩) xx
          | ok d M' => rw [e] at zZ'; exact fun v H' io' t' S' rr => zZ' v H' io' t' (SZ.later t' ⟨S'.toMR.mem, S'.toMR.inj, S'.toMR.tab, S'.toMR.frm, S'.toMR.bor⟩) rr
        · obtain ⟨w', H', J', rv, q⟩ := hq
          exact ⟨w', H', J'.os, J'.bare, J'.base, J'.hok, rv, q⟩
      refine wpAny_call (codeAny_mono rc' fun r s' hq => ?_)
      cases r with
      | error e => exact o.tk e s' (XE.of_call I1 (fun cls d H' h => h) hq)
      | ok fl =>
        cases fl with
        | ret u => exact I1.after hq
        | next => exact False.elim hq
        | brk => exact False.elim hq
        | cont => exact False.elim hq
    · exact zZ.elim
  · exact zZ.elim
end
def fLam (N : Nat) (bH : Nat → (Mem → R D) → FS) (fb : FE) : FE := fun env M => trimR M.length (match bH M.length (fun M' => fb env M') (startD N [.ref M.length]) (M ++ [.gone]) with
  | .next _ M' => .ok .non M'
  | .ret d M' => .ok d M'
  | .exc _ C as M' => .exc C as M'
  | _ => .stuck)
section
variable {g : G} {E : WX} {X : Cx} {k : Nat}
theorem startD_sr {g : G} {io : Nat → Addr} {M : Mem} {H : Hp} {vs : List V} {ds : List D} (N : List Str) (m : MR g io M H) (r : VRs (rc g io M H) vs ds) (hx : ∀ p, g.xs = some p → (io p.n = p.a ∧ p.n < M.length) ∧ XdP (rc g io M H) p) : SR g io (startD N.length ds) M (L2.start N vs) H := by
  have S0 := sr_start (g := ⟨g.toG0, g.F, none, g.B⟩) N rfl ⟨m.mem, m.inj, m.tab, m.frm, m.bor⟩ r
  exact ⟨m, S0.ev, S0.len, hx⟩
/-- x(lambda: body) -/
theorem d_lam {x a : Str} {gf c P : Addr} {kb : Nat} {pg : Arguments} {bg : List Stmt} {sg : Scope} {dvs : List V} {kws : List (Str × V)} {fd : FuncData} {Ng : List Str} {params : Arguments} {body : Expr} {scope : Scope} {fb : FE} {bH : Nat → (Mem → R D) → FS} {p lpos pos : Pos}
    (o : Ok g E X k) (hk : kb + 2 ≤ k) (FD : FunD g.K x x pg bg sg dvs kws gf fd) (hb : Binds g.K fd [a] []) (Sg : FnScope Ng [a] sg) (hm : g.mg x = some (.ref gf)) (hNg : Ng[0]? = some a) (hva : Vis sg a)
    (hB : ∀ (n : Nat) (act : Mem → R D) (xi : Xi) (cdv : Value) (A : Around) (outer : List Env) (s : Shared) (H : Hp) (E0 : XK), Ok ⟨g.toG0, g.F, some xi, g.B⟩ (fun cls d _ H => E0 cls d H) (cxOf (L2.CX g.P g.w) g.P g.w g.K g.mg g.base Ng x sg gf cdv A outer s H E0) (kb + 1) →
      (∀ (E' : WX) (pn : List (Addr × Obj)) (xe : Value → Shared → Prop) (p1 p2 : Pos), Ok ⟨g.toG0, g.F, some xi, g.B⟩ E' ((cxOf (L2.CX g.P g.w) g.P g.w g.K g.mg g.base Ng x sg gf cdv A outer s H E0).tr pn xe) (kb + 1) → DE ⟨g.toG0, g.F, some xi, g.B⟩ E' ((cxOf (L2.CX g.P g.w) g.P g.w g.K g.mg g.base Ng x sg gf cdv A outer s H E0).tr pn xe) (.Call (.Name a p1) [] [] p2) (fAct 0 n act)) →
      DSs ⟨g.toG0, g.F, some xi, g.B⟩ (fun cls d _ H => E0 cls d H) (cxOf (L2.CX g.P g.w) g.P g.w g.K g.mg g.base Ng x sg gf cdv A outer s H E0) bg (bH n act))
    (TB : TabB g.base g.mg c P) (hcode : X.env.code = .ref c) (hmT : (P, X.env.qual ++ "<lambda>") ∈ g.T) (hu : ∀ p ∈ g.T, p.1 = P → p.2 = X.env.qual ++ "<lambda>") (L : LamS X.env.scope scope) (hdef : defaultsOf params X.env = ([], []))
    (hbind : ∀ (q : Str) (cl : List (Str × Addr)) (pm cv ctv : Value), bindArgs (PySem.W.kla_fn "<lambda>" q params body scope cl pm cv ctv) ⟨[], []⟩ = pure [])
    (hbody : ∀ (A : Around) (outer : List Env) (s : Shared) (H : Hp) (E' : XK) (f c' : Addr), Ok g (fun cls d _ H => E' cls d H) (lamCx X A outer s H E' scope f c') kb → DE g (fun cls d _ H => E' cls d H) (lamCx X A outer s H E' scope f c') body fb)
    (hg : Gl X x := by rfl) (hdb : (x == ("__debug__" : Str)) = false := by decide) (hd : (a == ("__debug__" : Str)) = false := by decide) (hcd : (a == ("__classdict__" : Str)) = false := by decide) (hx : g.xs = none := by rfl) :
    DE g E X (.Call (.Name x p) [.Lambda params body scope lpos] [] pos) (fLam Ng.length bH fb) := by
  obtain ⟨⟨gP, gw, gbase, gK, gmg, gca, gT⟩, gF, gxs, gB⟩ := g
  obtain ⟨⟨e1, e2, e3, e4, e5, hnd, hgrd, hun⟩, hcalm, htk, hroom, hown⟩ := o
  dsimp only at e1 e2 e3 e4 e5 hx
  subst e1 e2 e3 e4 e5 hx
  refine ⟨fun pins s σ H Q I ⟨env, io, M, S, z⟩ => ?_⟩
  obtain ⟨oc, od, dV, kV, doc, pm, an, cdv, ct, osl, rfl, lk, hcg, _, _⟩ := FD.ex
  refine wpAny_Call_Name_kw (ld_glob I hg hm ?_ hdb)
  refine PySem.W.callWith_K (h₀ := X.base) I.ok.mod.kin FD.kp ?_ (by rfl) (by rfl)
  show wpAny _ _ (spliced ((false, eval (.Lambda params body scope lpos) X.env) :: backTo pos (starEach [] X.env))) _ _ s
  refine Calls.spliced_cons (lam_make2 I TB hcode hmT hu S.toMR.tab hdef (L.has I.ok) fun f c' pm' ctv H1 s' I1 eN T1 hf hfn hfr hco => ?_)
  refine Calls.spliced_nil ⟨I1.kIn, ?_⟩
  have t1 : ST io M H io M H1 := ⟨fun b o h n q => ⟨eN b o h q, n⟩, fun _ _ => rfl, Nat.le_refl _⟩
  have m1 : MR ⟨⟨X.prog, X.w, X.base, X.K, X.mg, gca, gT⟩, gF, none, gB⟩ io M H1 := by
    refine ⟨fun i u e => ?_, S.toMR.inj, T1, S.toMR.frm_mono t1, S.toMR.bor⟩
    have q := S.toMR.mem i u e
    cases u with
    | gone => trivial
    | lst ds => obtain ⟨vs, h, r⟩ := q; exact ⟨vs, eN _ _ h (fun _ z => by cases z), VRs.mono S.toMR t1 r⟩
    | dk ds => obtain ⟨vs, h, r⟩ := q; exact ⟨vs, eN _ _ h (fun _ z => by cases z), VRk.mono S.toMR t1 r⟩
    | ins C fs => obtain ⟨dx, vs, h, r⟩ := q; exact ⟨dx, vs, eN _ _ h (fun _ z => by cases z), VRf.mono S.toMR t1 r⟩
  have S1 := S.later t1 m1
  have t2 : ST io M H1 (ioN io M.length f) (M ++ [.gone]) H1 := .gone
  have S2 := S1.later t2 S1.toMR.gone
  have rself : VR (rc ⟨⟨X.prog, X.w, X.base, X.K, X.mg, gca, gT⟩, gF, none, gB⟩ (ioN io M.length f) (M ++ [.gone]) H1) (.ref f) (.ref M.length) := by
    have w : VR (rc ⟨⟨X.prog, X.w, X.base, X.K, X.mg, gca, gT⟩, gF, none, gB⟩ (ioN io M.length f) (M ++ [.gone]) H1) (.ref (ioN io M.length f M.length)) (.ref M.length) := .ref (by simp)
    rw [ioN_same] at w
    exact w
  have hpost : PostC ⟨⟨X.prog, X.w, X.base, X.K, X.mg, gca, gT⟩, gF, none, gB⟩ (fun cls d H' => E cls d σ H') io M H1 (match bH M.length (fun M' => fb env M') (startD Ng.length [.ref M.length]) (M ++ [.gone]) with
      | .next _ M' => .ok .non M'
      | .ret d M' => .ok d M'
      | .exc _ C as M' => .exc C as M'
      | _ => .stuck) Q := by
    refine PostC.trim ?_
    unfold fLam at z
    have z1 := PostE.step t1 z
    cases er : trimR M.length (match bH M.length (fun M' => fb env M') (startD Ng.length [.ref M.length]) (M ++ [.gone]) with
      | .next _ M' => R.ok D.non M'
      | .ret d M' => .ok d M'
      | .exc _ C as M' => .exc C as M'
      | _ => .stuck) with
    | stuck => rw [er] at z1; exact z1.elim
    | ok d M' => rw [er] at z1; exact fun v H' io' t m r => z1 v H' io' t (S1.later t m) r
    | exc C as M' => rw [er] at z1; exact fun dd H' io' t m xx => z1 dd H' io' t (S1.later t m) xx
  have rc' : codeAny (model X.prog X.w) X.A (.call (.ref gf) ⟨[.ref f], []⟩) (CR (L2.CX X.prog X.w) X.stack X.prog X.w H1 s' Q (fun cls d H' => E cls d σ H')) s' := by
    refine run_ofS (N := Ng) (ps := [a]) (us := [.ref f]) (vs := [.ref f]) lk hcg Sg (hroom.mono hk) I1.env0 (hb s' [.ref f] I1.kIn rfl) (.cons rfl .nil) rfl fun hr' => ?_
    have tk : Takes (cxOf (L2.CX X.prog X.w) X.prog X.w X.K X.mg X.base Ng x sg gf cdv X.A X.stack s' H1 (fun cls d H' => E cls d σ H')) (fun cls d _ H => E cls d σ H) := takes_of rfl rfl rfl rfl
    have oc' : Ok ⟨⟨X.prog, X.w, X.base, X.K, X.mg, gca, gT⟩, gF, some (lamXi M.length f σ env c' (X.env.qual ++ "<lambda>")), gB⟩ (fun cls d _ H => E cls d σ H) (cxOf (L2.CX X.prog X.w) X.prog X.w X.K X.mg X.base Ng x sg gf cdv X.A X.stack s' H1 (fun cls d H' => E cls d σ H')) (kb + 1) :=
      ⟨⟨rfl, rfl, rfl, rfl, rfl, Sg.nd, hgrd, by have h3 := hr'.un; show X.A.units + 3 + 200 < _; have h4 : (X.A.deeper (envOfC x sg s'.heap.objs.size gf cdv)).units = X.A.units + 3 := rfl; omega⟩, rfl, tk, hr', passes_of rfl⟩
    refine ⟨_, hB M.length (fun M' => fb env M') _ cdv X.A X.stack s' H1 _ oc' (fun E' pn xe p1 p2 o' => act_run hnd I1 L hf hfn hfr (hbind _ _ _ _ _) o' (fun A outer s H E'' ol => hbody A outer s H E'' f c' ol) hNg hva hd hcd), startD Ng.length [.ref M.length], ioN io M.length f, M ++ [.gone], ?_, ?_⟩
    · refine startD_sr Ng ⟨S2.toMR.mem, S2.toMR.inj, S2.toMR.tab, S2.toMR.frm, S2.toMR.bor⟩ (.cons rself .nil) fun p e => ?_
      cases e
      exact ⟨⟨ioN_same, by simp [lamXi]⟩, hco, S2.len, S2.ev⟩
    · cases er : bH M.length (fun M' => fb env M') (startD Ng.length [.ref M.length]) (M ++ [.gone]) with
      | stuck => rw [er] at hpost; exact hpost.elim
      | next env' M' => rw [er] at hpost; exact fun s2 H2 io2 t S' => hpost .non H2 io2 (t2.trans t) ⟨S'.toMR.mem, S'.toMR.inj, S'.toMR.tab, S'.toMR.frm, S'.toMR.bor⟩ .non
      | ret d M' => rw [er] at hpost; exact fun v H2 io2 t m r => hpost v H2 io2 (t2.trans t) ⟨m.mem, m.inj, m.tab, m.frm, m.bor⟩ r
      | exc env' C as M' => rw [er] at hpost; exact fun s2 dd H2 io2 t S' xx => hpost dd H2 io2 (t2.trans t) ⟨S'.toMR.mem, S'.toMR.inj, S'.toMR.tab, S'.toMR.frm, S'.toMR.bor⟩ xx
      | brk env' M' => rw [er] at hpost; exact hpost.elim
      | cont env' M' => rw [er] at hpost; exact hpost.elim
  refine wpAny_call (codeAny_mono rc' fun r s2 hq => ?_)
  cases r with
  | error e => exact htk e s2 (XE.of_call I1 (fun cls d H' h => h) hq)
  | ok fl =>
    cases fl with
    | ret u => exact I1.after hq
    | next => exact False.elim hq
    | brk => exact False.elim hq
    | cont => exact False.elim hq
end
end DL

-- DlGen
set_option Elab.async false
set_option linter.all false
set_option maxRecDepth 100000
set_option maxHeartbeats 2000000
/-! DlGen: what the printed walks (gen.py) lean on. -/
namespace DL
open PySem PySem.Spec PyProof.Rows L2
section
variable {K : PySem.W.Frag} {x qual : Str} {params : Arguments} {body : List Stmt} {scope : Scope} {f : Addr} {fd : FuncData} {ps : List Str}
/-- every parameter is written, by place -/
theorem bd_N (F : FunD K x qual params body scope [] [] f fd)
    (h : ∀ (kV doc pm : Value) (an : Option Addr) (cdv ct : Value) (us : List Value), us.length = ps.length → bindArgs (PySem.W.fnOf x qual params body scope .none kV doc pm an cdv ct) ⟨us, []⟩ = pure (ps.zip us)) : Bd K fd ps ps.length [] fun ds _ => ds := by
  obtain ⟨oc, od, dV, kV, doc, pm, an, cdv, ct, osl, rfl, lk, hcd, hD, hK⟩ := F.ex
  rcases hD with ⟨_, rfl⟩ | ⟨e, _⟩
  · exact ⟨fun us _ => us, fun vs _ => vs, ⟨fun s us ws X l1 l2 => by
      obtain rfl : ws = [] := List.eq_nil_of_length_eq_zero l2
      exact .of_eq (h kV doc pm an cdv ct us l1), fun r1 r2 => r1⟩, fun c vs zs ds es r _ _ _ => r, fun ds es l _ => l⟩
  · exact absurd rfl e
/-- some by name -/
theorem bd_K (F : FunD K x qual params body scope [] [] f fd) (n : Nat) (ks : List Str) (hn : n + ks.length = ps.length)
    (h : ∀ (kV doc pm : Value) (an : Option Addr) (cdv ct : Value) (us ws : List Value), us.length = n → ws.length = ks.length → bindArgs (PySem.W.fnOf x qual params body scope .none kV doc pm an cdv ct) ⟨us, ks.zip ws⟩ = pure (ps.zip (us ++ ws))) : Bd K fd ps n ks fun ds es => ds ++ es := by
  obtain ⟨oc, od, dV, kV, doc, pm, an, cdv, ct, osl, rfl, lk, hcd, hD, hK⟩ := F.ex
  rcases hD with ⟨_, rfl⟩ | ⟨e, _⟩
  · exact ⟨fun us ws => us ++ ws, fun vs zs => vs ++ zs, ⟨fun s us ws X l1 l2 => .of_eq (h kV doc pm an cdv ct us ws l1 l2), fun r1 r2 => Vals.append r1 r2⟩,
      fun c vs zs ds es r q _ _ => VRs.append r q, fun ds es l l' => by rw [List.length_append, l, l', hn]⟩
  · exact absurd rfl e
end
/-- the shape of a call with keywords, in the parameters' order -/
def shK (n : Nat) (ks : List Str) : Shp := ⟨n, ks, fun ds es => ds ++ es⟩
theorem sh_1 {K : PySem.W.Frag} {fd : FuncData} {ps : List Str} {q : Shp} (h : Bd K fd ps q.n q.ks q.g) : ∀ z ∈ [q], Bd K fd ps z.n z.ks z.g := fun z hz => by
  obtain rfl := List.mem_singleton.mp hz
  exact h
theorem sh_c {K : PySem.W.Frag} {fd : FuncData} {ps : List Str} {q : Shp} {l : List Shp} (h : Bd K fd ps q.n q.ks q.g) (hl : ∀ z ∈ l, Bd K fd ps z.n z.ks z.g) : ∀ z ∈ q :: l, Bd K fd ps z.n z.ks z.g := fun z hz => by
  rcases List.mem_cons.mp hz with rfl | e
  · exact h
  · exact hl z e
section
variable {g : G} {E : WX} {X : Cx} {k : Nat} {pos py spos : Pos} {tg iter elt : Expr} {ifs : List Expr} {scope : Scope} {own : List (Str × Nat)} {fi : FA} {t : Tgt} {tt : FT} {f : FE}
theorem ds_setC_gen {kk : List D → Mem → R D} {i : Nat} {y : Str} (o : Ok g E X k) (hy : X.N[i]? = some y) (hyl : X.env.scope.names.lookup y = some .local) (hsw : swapsWith (.ListComp elt [⟨tg, iter, ifs, 0⟩] scope pos) (some (.Name y py)) spos.line X.env = pure true) (hi : DI g E X tg iter fi) (ok : BlkOk X.N X.env.scope scope own) (hsl : ∀ i ∈ t.slots, i ∈ own.map (·.2))
    (hg : ∀ (s : Shared) (H : Hp) (C : Addr) (cl : List (Str × Addr)) (fp : List Addr), DG g (X.blk s H scope (compEnvC scope cl C X.env) fp) tg t)
    (ht : ∀ (F : Addr → Prop) (s : Shared) (H : Hp) (C : Addr) (cl : List (Str × Addr)) (fp : List Addr), Ok (g.wF F) EN (X.blk s H scope (compEnvC scope cl C X.env) fp) k → DTs (g.wF F) EN (X.blk s H scope (compEnvC scope cl C X.env) fp) ifs tt)
    (he : ∀ (F : Addr → Prop) (s : Shared) (H : Hp) (C : Addr) (cl : List (Str × Addr)) (fp : List Addr), Ok (g.wF F) EN (X.blk s H scope (compEnvC scope cl C X.env) fp) k → DE (g.wF F) EN (X.blk s H scope (compEnvC scope cl C X.env) fp) elt f)
    (hk : ∀ (s : L2.St) (Q : VK) (ys : List D) (io1 : Nat → Addr) (env : DEnv) (M1 : Mem) (H1 : Hp) (io2 : Nat → Addr) (M' : Mem) (H2 : Hp) (D : Addr) (vacc : List V), SR g io1 env M1 s H1 → PostE g E io1 env M1 s H1 (kk ys M') Q → H1 D = none →
      ST io1 M1 H1 io2 M' H2 → MR (g.wF fun a => g.F a ∨ a = D) io2 M' H2 → H2 D = some (.lst vacc) → VRs (rc (g.wF fun a => g.F a ∨ a = D) io2 M' H2) vacc ys → Q (.ref D) H2)
    (hlen : ∀ ys M', 16777216 < ys.length → kk ys M' = .stuck)
    (hs : ∀ x, foldedSetIterable iter X.env x = pure x) : DS g E X (.Assign [.Name y py] (.ListComp elt [⟨tg, iter, ifs, 0⟩] scope pos) spos) (sSet i (fOf kk (aComp (own.map (·.2)) fi t tt f))) :=
  PS.weak (ps_setLc (i := i) (tt := fun s H Q => ∃ F, trT (g.wF F) EN tt s H Q) (te := fun s H Q => ∃ F, trE (g.wF F) EN f s H Q) o.calm o.nd hy hyl hsw hi ok hg
    (fun s H C cl fp => ⟨fun pins s2 σ H2 Q I ⟨F, h⟩ => (ht F s H C cl fp (o.blk F s H scope _ fp)).run pins s2 σ H2 Q I h⟩)
    (fun s H C cl fp => ⟨fun pins s2 σ H2 Q I ⟨F, h⟩ => (he F s H C cl fp (o.blk F s H scope _ fp)).run pins s2 σ H2 Q I h⟩) hs) fun D s H ⟨env, io, M, S, z⟩ =>
    show tLc _ _ _ _ (own.map (·.2)) s H (fun x H1 => gName i x s H1 D.nx) from tr_comp (own.map (·.2)) hsl (fun ys io1 env M1 H1 io2 M' H2 Da vacc => hk s _ ys io1 env M1 H1 io2 M' H2 Da vacc) hlen (trE_thenS (D' := D) (f := fOf kk (aComp (own.map (·.2)) fi t tt f)) (kk := fun d M1 => .next (env.set i (some d)) M1) (C := fun v H1 => gName i v s H1 D.nx) S z fun d M1 v H1 io1 t S1 r p1 => PostN.here p1 (S1.set r))
theorem ds_setC {i : Nat} {y : Str} (o : Ok g E X k) (hy : X.N[i]? = some y) (hyl : X.env.scope.names.lookup y = some .local) (hi : DI g E X tg iter fi) (ok : BlkOk X.N X.env.scope scope own) (hsl : ∀ i ∈ t.slots, i ∈ own.map (·.2))
    (hg : ∀ (s : Shared) (H : Hp) (C : Addr) (cl : List (Str × Addr)) (fp : List Addr), DG g (X.blk s H scope (compEnvC scope cl C X.env) fp) tg t)
    (ht : ∀ (F : Addr → Prop) (s : Shared) (H : Hp) (C : Addr) (cl : List (Str × Addr)) (fp : List Addr), Ok (g.wF F) EN (X.blk s H scope (compEnvC scope cl C X.env) fp) k → DTs (g.wF F) EN (X.blk s H scope (compEnvC scope cl C X.env) fp) ifs tt)
    (he : ∀ (F : Addr → Prop) (s : Shared) (H : Hp) (C : Addr) (cl : List (Str × Addr)) (fp : List Addr), Ok (g.wF F) EN (X.blk s H scope (compEnvC scope cl C X.env) fp) k → DE (g.wF F) EN (X.blk s H scope (compEnvC scope cl C X.env) fp) elt f)
    (hsw : swapsWith (.ListComp elt [⟨tg, iter, ifs, 0⟩] scope pos) (some (.Name y py)) spos.line X.env = pure true := by rfl)
    (hs : ∀ x, foldedSetIterable iter X.env x = pure x := by intro _; rfl) : DS g E X (.Assign [.Name y py] (.ListComp elt [⟨tg, iter, ifs, 0⟩] scope pos) spos) (sSet i (fComp (own.map (·.2)) fi t tt f)) :=
  ds_setC_gen o hy hyl hsw hi ok hsl hg ht he (lst_hk (E := E)) kLst_len hs
theorem ds_setCO {i : Nat} {y : Str} (o : Ok g E X k) (hy : X.N[i]? = some y) (hyl : X.env.scope.names.lookup y = some .local) (hi : DI g E X tg iter fi) (ok : BlkOk X.N X.env.scope scope own) (hsl : ∀ i ∈ t.slots, i ∈ own.map (·.2))
    (hg : ∀ (s : Shared) (H : Hp) (C : Addr) (cl : List (Str × Addr)) (fp : List Addr), DG g (X.blk s H scope (compEnvC scope cl C X.env) fp) tg t)
    (ht : ∀ (F : Addr → Prop) (s : Shared) (H : Hp) (C : Addr) (cl : List (Str × Addr)) (fp : List Addr), Ok (g.wF F) EN (X.blk s H scope (compEnvC scope cl C X.env) fp) k → DTs (g.wF F) EN (X.blk s H scope (compEnvC scope cl C X.env) fp) ifs tt)
    (he : ∀ (F : Addr → Prop) (s : Shared) (H : Hp) (C : Addr) (cl : List (Str × Addr)) (fp : List Addr), Ok (g.wF F) EN (X.blk s H scope (compEnvC scope cl C X.env) fp) k → DE (g.wF F) EN (X.blk s H scope (compEnvC scope cl C X.env) fp) elt f)
    (hsw : swapsWith (.ListComp elt [⟨tg, iter, ifs, 0⟩] scope pos) (some (.Name y py)) spos.line X.env = pure true := by rfl)
    (hs : ∀ x, foldedSetIterable iter X.env x = pure x := by intro _; rfl) : DS g E X (.Assign [.Name y py] (.ListComp elt [⟨tg, iter, ifs, 0⟩] scope pos) spos) (sSet i (fCompO (own.map (·.2)) fi t tt f)) :=
  ds_setC_gen o hy hyl hsw hi ok hsl hg ht he (own_hk (E := E)) kOwn_len hs
end
end DL

-- DlEnd
set_option Elab.async false
set_option linter.all false
set_option maxRecDepth 100000
set_option maxHeartbeats 2000000
/-! DlEnd: the end of a law whose def's promise holds where no repr guard stands (FnG). -/
namespace DL
open PySem PySem.Spec PyProof.Rows L2 LamX
section
variable {P : Program} {w : World} {K : PySem.W.Frag} {mg mb : Str → Option Value} {fa a : Addr} {cs : List (Addr × Addr)} {s₁ : Shared} {vs : List Value} {ns : List Int}
def scrO (vs : List Value) : Obj := { cls := .type "list", data := .seq vs.toArray }
def tblO : Obj := { cls := .none, data := .fields #[] }
/-- the heap a law starts over: the script (if the head does not know it), the tables -/
def startH (K : PySem.W.Frag) (cs : List (Addr × Addr)) (a : Addr) (vs : List Value) (ns : List Int) : Hp := fun b =>
  if b ∈ cs.map (·.2) then some (.tbl #[]) else if b = a ∧ K.lookup a = none then some (.frz (scrO vs) (.lst (ns.map V.int))) else none
theorem startH_cases {b : Addr} {u : HO} (z : startH K cs a vs ns b = some u) : (b ∈ cs.map (·.2) ∧ u = .tbl #[]) ∨ (b ∉ cs.map (·.2) ∧ b = a ∧ K.lookup a = none ∧ u = .frz (scrO vs) (.lst (ns.map V.int))) := by
  unfold startH at z
  by_cases h1 : b ∈ cs.map (·.2)
  · rw [if_pos h1] at z; cases z; exact .inl ⟨h1, rfl⟩
  · rw [if_neg h1] at z
    by_cases h2 : b = a ∧ K.lookup a = none
    · rw [if_pos h2] at z; cases z; exact .inr ⟨h1, h2.1, h2.2, rfl⟩
    · rw [if_neg h2] at z; cases z
theorem law_callG (KX : K.In s₁.heap) (hns : s₁.heap.Ns mainGlobals mg) (hb : s₁.heap.Ns builtinsNs mb) (hbb : ∀ x : Str, x ≠ "__name__" → mb x = bootBuiltins x) (hlim : s₁.heap.NoLimit) (hg : s₁.gens = #[])
    (hT : ∀ p ∈ cs, s₁.heap.get? p.2 = some tblO) (nT : ∀ p ∈ cs, K.lookup p.2 = none) (C : ∀ p ∈ cs, PySem.W.CodeHd s₁.heap p.1 p.2)
    (hbm : ∃ (bm : Addr) (ob : Obj), mg "__builtins__" = some (.ref bm) ∧ bm ≠ builtinsNs ∧ s₁.heap.get? bm = some ob ∧ ob.cls = .type "module" ∧ ob.dict = some builtinsNs ∧ ob.data = .plain)
    (ha : s₁.heap.get? a = some (scrO vs)) (hi : IntsAre vs ns) (hl : ns.length ≤ sizeLine)
    (R : ∀ (base : Heap) (H : Hp), K.In base → base.Ns mainGlobals mg → (∀ p ∈ cs, TabB base mg p.1 p.2) → Env0 P w K mg base callerA [] s₁ H → (∀ p ∈ cs, H p.2 = some (.tbl #[])) → SqL K H a (ns.map V.int) →
      codeAny (model P w) callerA (.call (.ref fa) ⟨[.ref a], []⟩) (CR (L2.CX P w) [] P w H s₁ (fun v _ => v = .bl true) fun _ _ _ => False) s₁)
    (hCX : ∀ H e s', L2.CX P w [] H s₁ (fun _ _ _ => False) e s' → False) :
    codeAny (model P w) callerA (.call (.ref fa) ⟨[.ref a], []⟩) (fun r s' => r = .ok (.ret (.bool true)) ∧ OldK s₁.heap s'.heap ∧ s'.os = s₁.os ∧ AllBare s'.gens) s₁ := by
  have rv := vals_ints hi
  have isT : ∀ b : Addr, b ∈ cs.map (·.2) → s₁.heap.get? b = some tblO := fun b hb => by
    obtain ⟨p, hp, rfl⟩ := List.mem_map.mp hb
    exact hT p hp
  have inT : ∀ p ∈ cs, p.2 ∈ cs.map (·.2) := fun p hp => List.mem_map.mpr ⟨p, hp, rfl⟩
  have aT : a ∉ cs.map (·.2) := fun z => by
    have q := (isT a z).symm.trans ha
    cases q
  -- what is neither the script nor a table is not tracked
  have free : ∀ {b : Addr} {o : Obj}, s₁.heap.get? b = some o → o ≠ scrO vs → o ≠ tblO → startH K cs a vs ns b = none := fun {b o} e n1 n2 => by
    cases q : startH K cs a vs ns b with
    | none => rfl
    | some u =>
      rcases startH_cases q with ⟨z, _⟩ | ⟨_, z, _, _⟩
      · exact absurd (Option.some.inj (e.symm.trans (isT b z))) n2
      · subst z; exact absurd (Option.some.inj (e.symm.trans ha)) n1
  have hok : HOk P w (startH K cs a vs ns) s₁.heap := fun b u z => by
    rcases startH_cases z with ⟨zt, rfl⟩ | ⟨_, rfl, _, rfl⟩
    · exact isT b zt
    · exact ⟨ha, by rw [List.length_map]; exact hl, vs, _, rv, ha⟩
  have hH : ∀ p ∈ cs, startH K cs a vs ns p.2 = some (.tbl #[]) := fun p hp => if_pos (inT p hp)
  have hS : SqL K (startH K cs a vs ns) a (ns.map V.int) := by
    cases hk : K.lookup a with
    | none => exact .inl (.inr ⟨scrO vs, by unfold startH; rw [if_neg aT, if_pos ⟨rfl, hk⟩]⟩)
    | some o =>
      have e := KX a o hk
      rw [ha] at e
      cases e
      exact .inr ⟨_, vs.toArray, _, hk, rfl, rfl, rfl, by rw [List.size_toArray, hi.length]; exact hl, by simpa using rv⟩
  have up : ∀ {b : Addr} {o : Obj}, s₁.heap.get? b = some o → o ≠ scrO vs → o ≠ tblO → (hidT s₁.heap (startH K cs a vs ns)).get? b = some o := fun e n1 n2 => hidT_get e (free e n1 n2)
  have nsK : ∀ {b : Addr} {m : Str → Option Value}, s₁.heap.Ns b m → (hidT s₁.heap (startH K cs a vs ns)).Ns b m := fun {b m} ⟨o, es, ep, e, d, r⟩ =>
    ⟨o, es, ep, up e (fun z => by rw [z] at d; cases d) (fun z => by rw [z] at d; cases d), d, r⟩
  have hKb : K.In (hidT s₁.heap (startH K cs a vs ns)) := fun b o e => hidT_get (KX b o e) (by
    cases q : startH K cs a vs ns b with
    | none => rfl
    | some u =>
      rcases startH_cases q with ⟨z, _⟩ | ⟨_, rfl, z, _⟩
      · obtain ⟨p, hp, rfl⟩ := List.mem_map.mp z
        rw [nT p hp] at e; cases e
      · rw [z] at e; cases e)
  have TB : ∀ p ∈ cs, TabB (hidT s₁.heap (startH K cs a vs ns)) mg p.1 p.2 := fun p hp => by
    refine ⟨?_, ?_, fun z => ?_⟩
    · obtain ⟨o, us, file, tf, flags, tg, inF, text, tt, e1, r1, r2, r3, rest⟩ := C p hp
      exact ⟨o, us, file, tf, flags, tg, inF, text, tt, up e1 (fun z => by rw [z] at r2; cases r2) (fun z => by rw [z] at r2; cases r2; simp at r3), r1, r2, r3, rest⟩
    · obtain ⟨bm, ob, b1, b2, b3, b4, b5, b6⟩ := hbm
      refine ⟨bm, ob, b1, b2, fun q => ?_, fun q => ?_, up b3 (fun z => by rw [z] at b6; cases b6) (fun z => by rw [z] at b6; cases b6), b4, b5, b6⟩
      · obtain ⟨o, es, ep, e, hd, _⟩ := hns
        rw [q, e] at b3
        cases b3
        rw [hd] at b6
        cases b6
      · rw [q, hT p hp] at b3
        cases b3
        cases b6
    · obtain ⟨o, es, ep, e, hd, _⟩ := hns
      rw [z, hT p hp] at e
      cases e
      cases hd
  have e0 : Env0 P w K mg (hidT s₁.heap (startH K cs a vs ns)) callerA [] s₁ (startH K cs a vs ns) :=
    ⟨rfl, ⟨hKb, nsK hns, ⟨mb, nsK hb, hbb⟩, let ⟨mc, h1, h2⟩ := hlim; ⟨mc, nsK h1, h2⟩⟩, fun b o e => of_hidT e, Nat.le_of_eq (hidT_size _ _), trivial, fun b hb => (List.not_mem_nil hb).elim, hok, .of_eq hg⟩
  refine codeAny_mono (R _ _ hKb (nsK hns) TB e0 hH hS) fun r s' h => ?_
  cases r with
  | error e => exact (hCX _ e s' h).elim
  | ok fl =>
    cases fl with
    | next => exact h.elim
    | brk => exact h.elim
    | cont => exact h.elim
    | ret u =>
      obtain ⟨v, H', os, bare, un, hok', r', rfl⟩ := h
      obtain rfl : u = Value.bool true := r'
      have same : ∀ b o, b ∉ cs.map (·.2) → s₁.heap.get? b = some o → s'.heap.get? b = some o := fun b o nb e => by
        cases q : startH K cs a vs ns b with
        | none => exact un.keep b o e q (fun z => (List.not_mem_nil z).elim) (by simp)
        | some u =>
          rcases startH_cases q with ⟨z, _⟩ | ⟨_, rfl, _, rfl⟩
          · exact absurd z nb
          · obtain ⟨e1, _⟩ := hok b _ q
            obtain ⟨e2, _⟩ := hok' b _ (un.frzs b _ _ q)
            rw [e] at e1
            cases e1
            exact e2
      have grown : ∀ p ∈ cs, ∃ more : Array Value, s'.heap.get? p.2 = some { cls := .none, data := .fields more } := fun p hp => by
        obtain ⟨more, z⟩ := un.tbls p.2 #[] (hH p hp)
        exact ⟨_, hok' p.2 _ z⟩
      refine ⟨rfl, ⟨fun b o e => ?_, fun b o e => ?_⟩, os, bare⟩
      · by_cases hb : b ∈ cs.map (·.2)
        · obtain ⟨p, hp, rfl⟩ := List.mem_map.mp hb
          obtain ⟨more, hm⟩ := grown p hp
          cases (hT p hp).symm.trans e
          exact .inr (.inl ⟨((C p hp).tab (hT p hp)).isCodeTable, rfl, #[], more, rfl, by rw [Array.empty_append]; exact hm⟩)
        · exact .inl (same b o hb e)
      · by_cases hb : b ∈ cs.map (·.2)
        · obtain ⟨p, hp, rfl⟩ := List.mem_map.mp hb
          obtain ⟨more, hm⟩ := grown p hp
          exact ⟨_, hm⟩
        · exact ⟨o, same b o hb e⟩
end
end DL
namespace DL
open PySem PySem.Spec PyProof.Rows L2 LamX
/-- THE END: the head gives the law's def as Fk; on the data of every script the law says True -/
theorem walk_G {l : PySem.W.OpenLaw} {n k : Nat} {q : Program} {loose : List Str} {XP : (Str → Option Value) → Heap → Prop} {YP : World → Heap → Prop} {d : DefRec} {m : List D → Mem → R D}
    (hn : l.most = some n) (hn2 : n ≤ sizeLine) (hdf : d.params.defaults = []) (hr : Room k callerA)
    (F : ∀ (w : World) (mg : Str → Option Value) (fa : Addr) (h : Heap), YP w h → h.Ns mainGlobals mg → mg d.name = some (.ref fa) → ∃ (K : PySem.W.Frag) (cs : List (Addr × Addr)) (ca : Str → Addr) (T : List (Addr × Str)), K.In h ∧
      (∀ p ∈ cs, h.get? p.2 = some tblO) ∧ (∀ p ∈ cs, K.lookup p.2 = none) ∧ (∀ p ∈ cs, PySem.W.CodeHd h p.1 p.2) ∧ (∀ p ∈ T, ∃ c ∈ cs, c.2 = p.1) ∧
      ∀ base : Heap, K.In base → base.Ns mainGlobals mg → (∀ p ∈ cs, TabB base mg p.1 p.2) → Fk ⟨l.prog, w, base, K, mg, ca, T⟩ k fa [shN 1] m)
    (hm : ∀ ns : List Int, ns.length ≤ n → (∀ z ∈ ns, Builtin.Int.intBits z ≤ 1048576) → ∃ M, m [.scr ns] [] = .ok (.bl true) M) :
    PySem.W.WalkO q loose XP YP l.row.toRowW d [] (fun f vs => PySem.call f vs) := by
  refine Att.attach_callB hn hdf fun w s₀ s₁ mg mb fa o pm cd doc a vs ns G Y ho hd hcd hmg hobj hints hlen hbits hg => ?_
  obtain ⟨K, cs, ca, T, KX, hT, nT, C, hTc, hF⟩ := F w mg fa _ Y G.T.g hmg
  refine law_callG KX G.T.g G.T.b G.T.builtins G.T.nolimit hg hT nT C G.T.bmain hobj hints (Nat.le_trans hlen hn2) (fun base H hK hN hTB e0 hH hS => ?_) fun H e s' ⟨_, _, _, _, _, _, _, _, _, _, _, _, z⟩ => z
  obtain ⟨fd, ps, FG, kp, hb⟩ := hF base hK hN hTB
  obtain ⟨gU, gV, kb, hv, hl⟩ := hb (shN 1) (.head _)
  have b1 := kb.to s₁ [.ref a] [] KX rfl rfl
  have r1 : Vals (gV [.ref a] []) (gU [.ref a] []) := kb.rel (.cons rfl .nil) .nil
  have l1 : 1 = ps.length := hl [.non] [] rfl rfl
  have mr : MR ⟨⟨l.prog, w, base, K, mg, ca, T⟩, fun _ => False, none, fun _ => False⟩ (fun _ => 0) [] H := ⟨fun i o e => by simp at e, fun i j o o' e => by simp at e, fun p hp => by
    obtain ⟨c, hc, e⟩ := hTc p hp
    exact ⟨#[], by rw [← e]; exact hH c hc, trivial, fun pos cv z => by cases z⟩, fun a h => h.elim, fun a h => h.elim⟩
  have vr : VRs (rc ⟨⟨l.prog, w, base, K, mg, ca, T⟩, fun _ => False, none, fun _ => False⟩ (fun _ => 0) [] H) [.ref a] [.scr ns] := .cons (.scr (hS.imp (fun z => ⟨z, fun q => q.elim id fun ⟨i, o, e, _⟩ => by simp at e⟩) id)) .nil
  have v2 := hv _ _ _ _ _ vr (VRs.nil) rfl rfl
  have lv : (gV [.ref a] []).length = ps.length := by rw [v2.length, ← l1]; rfl
  refine FG.run callerA [] s₁ H ⟨[.ref a], []⟩ (gU [.ref a] []) (gV [.ref a] []) _ _ hr rfl e0 b1 r1 ⟨lv, fun _ => False, fun _ => False, fun _ => 0, [], [.scr ns], mr, v2, ?_⟩
  obtain ⟨M, e⟩ := hm ns hlen hbits
  rw [e]
  intro v H' io' t m' r
  cases r
  rfl
end DL

-- DlHead
set_option Elab.async false
set_option linter.all false
set_option maxRecDepth 100000
set_option maxHeartbeats 2000000
/-! DlHead: what the head tells besides HeadHook4's facts: the getters of properties. -/
namespace DL
open PySem PySem.Spec PyProof.Rows L2 LamX
/-- a function by its address -/
def fnA (K : PySem.W.Frag) (a : Addr) : He.FnW := match K.lookup a with
  | some ⟨_, _, .func fd, _⟩ => some (fd.name, fd.qualname, fd.params, fd.body, fd.scope, fd.globals, fd.closure, fd.builtins)
  | _ => none
/-- the getter of the property m of class C -/
def gAd (K : PySem.W.Frag) (p : Str × Str) : Addr := match PySem.W.recIn K (He.ma K (He.ga K p.1) p.2) "property" with
  | some (.ref g :: _) => g
  | _ => 0
def propB (K : PySem.W.Frag) (p : Str × Str) : Bool :=
  decide (PySem.W.findIn K (.ref (He.ga K p.1)) p.2 = some (some (.ref (He.ma K (He.ga K p.1) p.2)))) && (decide (PySem.W.specialIn K (.ref (He.ma K (He.ga K p.1) p.2)) "__get__" = some (some (.builtin "property.__get__"))) &&
    (decide (PySem.W.takesIn K (.ref (He.ma K (He.ga K p.1) p.2)) = some true) && (match PySem.W.recIn K (He.ma K (He.ga K p.1) p.2) "property" with
      | some (.ref _ :: _) => true
      | _ => false)))
theorem propB_ok {K : PySem.W.Frag} {p : Str × Str} (h : propB K p = true) : PropOf K (He.ga K p.1) p.2 (He.ma K (He.ga K p.1) p.2) (gAd K p) := by
  unfold propB at h
  simp only [Bool.and_eq_true, decide_eq_true_eq] at h
  obtain ⟨h1, h2, h3, h4⟩ := h
  refine ⟨h1, h2, h3, ?_⟩
  unfold gAd
  split at h4
  · rename_i g rest e
    rw [e]
    exact ⟨rest, rfl⟩
  · cases h4
def fnAok (K : PySem.W.Frag) (a : Addr) (d : He.DefD) : Bool := PySem.W.keepIn K (.ref a) && (match K.lookup a with
  | some ⟨_, _, .func fd, _⟩ => PySem.W.codeIn K fd.code d.qual && (He.dflB K fd.defaults (d.dvs K) && He.kwdB K fd.kwdefaults (d.kws K))
  | _ => false)
theorem funA {K : PySem.W.Frag} {a : Addr} {d : He.DefD} (e : fnA K a = d.val) (c : fnAok K a d = true) : ∃ fd, FunD K d.name d.qual d.params d.body d.scope (d.dvs K) (d.kws K) a fd := by
  unfold fnAok at c
  obtain ⟨kp, c2⟩ := He.ba c
  unfold fnA at e
  split at c2
  · rename_i oc od fd osl q
    rw [q] at e
    obtain ⟨n1, n2, n3, n4, n5, n6, n7, n8, n9, n10, n11, n12, n13, n14, n15⟩ := fd
    have e2 : (some (n1, n2, n3, n4, n5, n6, n7, n15) : He.FnW) = some (d.name, d.qual, d.params, .stmts d.body, d.scope, mainGlobals, [], builtinsNs) := e
    simp only [Option.some.injEq, Prod.mk.injEq] at e2
    obtain ⟨rfl, rfl, rfl, rfl, rfl, rfl, rfl, rfl⟩ := e2
    obtain ⟨k1, k2⟩ := He.ba c2
    obtain ⟨k3, k4⟩ := He.ba k2
    exact ⟨_, ⟨oc, od, n8, n9, n10, n11, n12, n13, n14, osl, rfl, q, k1, He.dflB_ok k3, He.kwdB_ok k4⟩, kp⟩
  · cases c2
/-- a property of the text: class, name; its getter -/
structure PrD where
  C : Str
  m : Str
  d : He.DefD
structure SaysP (fa : List He.Fa) (fn : List He.DefD) (ps : List PrD) (tf : List He.Defn) (ex : PySem.W.Frag → Bool) (w : World) (h : Heap) (K : PySem.W.Frag) : Prop where
  x : He.SaysX fa fn [] tf (fun K => ex K && ps.all fun p => propB K (p.C, p.m) && fnAok K (gAd K (p.C, p.m)) p.d) w h K
  pr : (ps.map fun p => fnA K (gAd K (p.C, p.m))) = ps.map fun p => p.d.val
def hookP (n : Nat) (fa : List He.Fa) (fn : List He.DefD) (ps : List PrD) (tf : List He.Defn) (ex : PySem.W.Frag → Bool) : PySem.W.Hook where
  α := He.AlX × List He.FnW
  obs := fun s => (He.obsX n fa fn [] tf (fun K => ex K && ps.all fun p => propB K (p.C, p.m) && fnAok K (gAd K (p.C, p.m)) p.d) s.heap.get?, ps.map fun p => fnA (He.frT s.heap.get? (He.asD s.heap.get? n)) (gAd (He.frT s.heap.get? (He.asD s.heap.get? n)) (p.C, p.m)))
  val := fun w => (He.valX fn [] w, ps.map fun p => p.d.val)
  says := fun w h => ∃ K : PySem.W.Frag, K.In h ∧ SaysP fa fn ps tf ex w h K
  of := fun _ _ e => ⟨_, He.frT_in, He.saysX_of (congrArg (fun z => z.1) e), congrArg (fun z => z.2) e⟩
  keeps := fun _ _ _ ⟨K, hK, c⟩ k => ⟨K, PySem.W.Frag.In.keeps hK k, ⟨⟨c.x.t, c.x.more, c.x.hd, c.x.out, fun p hp => k _ _ (c.x.empty p hp)⟩, c.pr⟩⟩
def obsP (n : Nat) (fa : List He.Fa) (fn : List He.DefD) (ps : List PrD) (tf : List He.Defn) (ex : PySem.W.Frag → Bool) (g : Addr → Option Obj) : He.AlX × List He.FnW :=
  (He.obsX n fa fn [] tf (fun K => ex K && ps.all fun p => propB K (p.C, p.m) && fnAok K (gAd K (p.C, p.m)) p.d) g, ps.map fun p => fnA (He.frT g (He.asD g n)) (gAd (He.frT g (He.asD g n)) (p.C, p.m)))
theorem obsP_eq {n : Nat} {fa : List He.Fa} {fn : List He.DefD} {ps : List PrD} {tf : List He.Defn} {ex : PySem.W.Frag → Bool} {g : Addr → Option Obj} {s : Shared} (h : ∀ a, g a = s.heap.get? a) : obsP n fa fn ps tf ex g = (hookP n fa fn ps tf ex).obs s := by
  have e : g = s.heap.get? := funext h
  rw [e] <;> rfl
theorem SaysP.ex {fa : List He.Fa} {fn : List He.DefD} {ps : List PrD} {tf : List He.Defn} {ex : PySem.W.Frag → Bool} {w : World} {h : Heap} {K : PySem.W.Frag} (c : SaysP fa fn ps tf ex w h K) : ex K = true := (He.ba c.x.more).1
theorem SaysP.prop {fa : List He.Fa} {fn : List He.DefD} {ps : List PrD} {tf : List He.Defn} {ex : PySem.W.Frag → Bool} {w : World} {h : Heap} {K : PySem.W.Frag} (c : SaysP fa fn ps tf ex w h K) (i : Nat) {p : PrD} (hi : ps[i]? = some p := by rfl) :
    ∃ pa ga fd, PropOf K (He.ga K p.C) p.m pa ga ∧ FunD K p.d.name p.d.qual p.d.params p.d.body p.d.scope (p.d.dvs K) (p.d.kws K) ga fd := by
  obtain ⟨h1, h2⟩ := He.ba (List.all_eq_true.mp (He.ba c.x.more).2 p (List.mem_of_getElem? hi))
  have e := congrArg (fun l => l[i]?) c.pr
  simp only [List.getElem?_map, hi, Option.map_some, Option.some.injEq] at e
  obtain ⟨fd, F⟩ := funA e h2
  exact ⟨_, _, fd, propB_ok h1, F⟩
end DL
namespace DL
open PySem PySem.Spec PyProof.Rows L2 LamX
/-- an own exception class over bm[0], whose __init__ sets one attribute f -/
def excB1 (K : PySem.W.Frag) (C : Addr) (bm : List Value) (newId : String) (f : Str) : Bool :=
  PySem.W.excInitIn K C bm newId && (PySem.W.excOver K C bm && (decide (PySem.W.findIn K (.ref C) "__setattr__" = some (some (.builtin "object.__setattr__"))) && (decide (PySem.W.subIn K (.ref C) (.type "BaseException") = some true) &&
    (decide (PySem.W.typeIn K (.ref C) = some (.type "type")) && (PySem.W.keepIn K (.ref C) && (PySem.W.hasDictIn K C && (decide (PySem.W.findIn K (.ref C) f = some none) &&
      (decide (PySem.W.findIn K (.ref C) "__init__" = some (some (.ref (He.ma K C "__init__")))) && decide (PySem.W.typeIn K (.ref (He.ma K C "__init__")) = some (.type "function"))))))))))
theorem rk1 {b : G0} {C : Addr} {f qual : Str} {params : Arguments} {body : List Stmt} {scope : Scope} {dvs : List V} {kws : List (Str × V)} {fd : FuncData} {B newId initId : String} {bm : List Value} (FB : ExcBaseFacts B newId initId bm) (SF : StoreFacts B bm "object.__setattr__" "object") (h : excB1 b.K C bm newId f = true)
    (F : FunD b.K "__init__" qual params body scope dvs kws (He.ma b.K C "__init__") fd) (S : FnScope ["self", f] ["self", f] scope) (hbd : Binds b.K fd ["self", f] [])
    (hb : ∀ (cdv : Value) (A : Around) (outer : List Env) (s : Shared) (H : Hp) (E : XK), PSs (cxOf (L2.CX b.P b.w) b.P b.w b.K b.mg b.base ["self", f] qual scope (He.ma b.K C "__init__") cdv A outer s H E) body (tOs b.K f (tVar 0) (tVar 1))) : Rk b 1 C [f] := by
  unfold excB1 at h
  simp only [Bool.and_eq_true, decide_eq_true_eq] at h
  obtain ⟨h1, h2, h3, h4, h5, h6, h7, h8, h9, h10⟩ := h
  have T : ExC b.K C := ⟨⟨B, newId, initId, bm, FB, SF, h1, h2⟩, h3, h4, h5, h6, h7⟩
  refine ⟨T, _, fd, ["self", f], h9, h10, rfl, F.ok S (fun vs H Q E z => ?_) (fun cdv A outer s H vs Q E hr z => ⟨_, hb cdv A outer s H E, ?_⟩), hbd⟩
  · obtain ⟨a, ws, rfl, hl, _⟩ := z
    simp [hl]
  · obtain ⟨a, ws, rfl, hl, ha, q⟩ := z
    match ws, hl with
    | [y], _ => exact ⟨y, rfl, .ref a, rfl, a, C, rfl, T, h8, .inl ⟨ha, fun d hd hda => q d hd hda⟩⟩
/-- one default that is not needed -/
theorem bd_dfl {K : PySem.W.Frag} {x qual : Str} {params : Arguments} {body : List Stmt} {scope : Scope} {v : V} {kws : List (Str × V)} {f : Addr} {fd : FuncData} {ps : List Str} (F : FunD K x qual params body scope [v] kws f fd)
    (h : ∀ (T : Addr) (kV doc pm : Value) (an : Option Addr) (cdv ct : Value) (us its : List Value), us.length = ps.length → its.length = 1 →
      ∃ k, bindArgs (PySem.W.fnOf x qual params body scope (.ref T) kV doc pm an cdv ct) ⟨us, []⟩ = seqItems? (.ref T) >>= k ∧ k (some its.toArray) = pure (ps.zip (us ++ its.drop 1))) : Binds K fd ps [] := by
  obtain ⟨ds, r, b⟩ := F.binds1 (ps := ps) ps.length 1 (by simp) (by simp) h
  cases r
  exact b
/-- an own exception class over bm[0], without an __init__ of its own -/
def excB0 (K : PySem.W.Frag) (C : Addr) (bm : List Value) (newId : String) : Bool :=
  PySem.W.excIn K C bm newId && (decide (PySem.W.subIn K (.ref C) (.type "BaseException") = some true) && (decide (PySem.W.typeIn K (.ref C) = some (.type "type")) && PySem.W.keepIn K (.ref C)))
theorem rk0 {b : G0} {C : Addr} {B newId initId : String} {bm : List Value} (FB : ExcBaseFacts B newId initId bm) (h : excB0 b.K C bm newId = true) : Rk0 b C := by
  unfold excB0 at h
  simp only [Bool.and_eq_true, decide_eq_true_eq] at h
  obtain ⟨h1, h2, h3, h4⟩ := h
  exact ⟨⟨B, newId, initId, bm, FB, h1⟩, h2, h3, h4⟩
/-- err.f may be read -/
def xfB1 (K : PySem.W.Frag) (C : Addr) (f : Str) : Bool := xfB K C && decide (PySem.W.findIn K (.ref C) f = some none)
theorem xf1 {K : PySem.W.Frag} {C : Addr} {f : Str} (h : xfB1 K C f = true) : XfC K C ∧ PySem.W.findIn K (.ref C) f = some none := by
  unfold xfB1 at h
  simp only [Bool.and_eq_true, decide_eq_true_eq] at h
  exact ⟨xfB_ok h.1, h.2⟩
theorem stab_mem {x : Str × Str} {b : Bool} : ∀ {l : STab}, l.lookup x = some b → (x, b) ∈ l
  | [], h => by cases h
  | (y, c) :: l, h => by
    rw [List.lookup_cons] at h
    by_cases q : (x == y) = true
    · rw [q] at h
      cases h
      rw [eq_of_beq q]
      exact List.mem_cons_self
    · have q' : (x == y) = false := by simpa using q
      rw [q'] at h
      exact List.mem_cons_of_mem _ (stab_mem h)
/-- what clause takes what -/
def tabB (K : PySem.W.Frag) (t : STab) : Bool := t.all fun z => decide (PySem.W.exmOne K (.ref (He.ga K z.1.1)) (.ref (He.ga K z.1.2)) = some z.2)
theorem tab1 {b : G0} {t : STab} (hca : b.ca = He.ga b.K) (h : tabB b.K t = true) : t.Ok b := fun C C' x e => by
  unfold tabB at h
  rw [hca]
  exact of_decide_eq_true (List.all_eq_true.mp h ((C, C'), x) (stab_mem e))
end DL

-- DlImp
set_option Elab.async false
set_option linter.all false
set_option maxRecDepth 100000
set_option maxHeartbeats 0
/-! DlImp: the head of a program that begins with imports -/
noncomputable section
namespace DLI
open PySem PySem.W PySem.Calls PyProof.Rows HandSHeadRun
def impF (st : SharedT → Thread → Option (SharedT × Thread)) : Nat → SharedT → Thread → Option SharedT
  | 0, _, _ => none
  | n + 1, s, t => match t.atExitBegin with
    | some [] => some s
    | some (_ :: _) => none
    | none => match st s t with
      | some (s', t') => frS s' fun s' => impF st n s' t'
      | none => none
theorem impF_ok {tb : String → Option Builtin} {p : Program} {w : World} : ∀ {n : Nat} {s s' : SharedT} {t : Thread}, impF (stepT (denote tb) p w) n s t = some s' → importEnds tb p w n s.abs t = some s'.abs
  | 0, _, _, _, h => by cases h
  | n + 1, s, s', t, h => by
    unfold impF at h
    unfold importEnds
    cases he : t.atExitBegin with
    | some l =>
      rw [he] at h
      cases l with
      | nil => cases h; rfl
      | cons a l => cases h
    | none =>
      rw [he] at h
      cases hs : stepT (denote tb) p w s t with
      | none => rw [hs] at h; cases h
      | some r =>
        obtain ⟨s2, t2⟩ := r
        rw [hs] at h
        have h3 : (frS s2 fun s' => impF (stepT (denote tb) p w) n s' t2) = some s' := h
        rw [frS_eq] at h3
        dsimp only
        rw [stepT_spec hs]
        exact impF_ok h3
def s0T (p : Program) : SharedT := ⟨.nil, 0, (start p).1.heap.life, (start p).1.gens, (start p).1.drawn, (start p).1.toks, (start p).1.os⟩
theorem s0T_abs (p : Program) : (s0T p).abs = (start p).1 := rfl
/-- the top from what the opening has left -/
def topI (st : SharedT → Thread → Option (SharedT × Thread)) (p : Program) (M : Nat) (s1 : Shared) : Option SharedT := match s1.heap.isNs mainGlobals && s1.gens.size == 0 with
  | true => (match putAll s1.heap.objs.toList .nil 0 with
    | some (t, n) => frNat n fun n => goF st n (s1.heap.nsMap mainGlobals "__annotations__") M ⟨t, n, s1.heap.life, s1.gens, s1.drawn, s1.toks, s1.os⟩ (topStub p)
    | none => none)
  | false => none
def allI (st1 st2 : SharedT → Thread → Option (SharedT × Thread)) (p : Program) (M1 M : Nat) : Option (Shared × SharedT) :=
  (impF st1 M1 (s0T (opening p)) (start (opening p)).2).bind fun a => (fenceModules? p a.abs).bind fun s1 => (topI st2 p M s1).map fun s => (s1, s)
theorem topI_ok {p : Program} {w : World} {M : Nat} {s1 : Shared} {s : SharedT} (h : topI (stepT (denote treeTable) p w) p M s1 = some s) :
    (s1.heap.isNs mainGlobals && s1.gens.size == 0) = true ∧ topRun treeTable p w s1.heap.objs.size (s1.heap.nsMap mainGlobals "__annotations__") M s1 (topStub p) = some s.abs := by
  unfold topI at h
  cases e0 : (s1.heap.isNs mainGlobals && s1.gens.size == 0) with
  | false => rw [e0] at h; cases h
  | true =>
    rw [e0] at h
    refine ⟨rfl, ?_⟩
    cases e : putAll s1.heap.objs.toList .nil 0 with
    | none =>
      rw [e] at h
      cases h
    | some r =>
      obtain ⟨t, n⟩ := r
      rw [e] at h
      have h1 : (frNat n fun n => goF (stepT (denote treeTable) p w) n (s1.heap.nsMap mainGlobals "__annotations__") M ⟨t, n, s1.heap.life, s1.gens, s1.drawn, s1.toks, s1.os⟩ (topStub p)) = some s := h
      rw [frNat_eq] at h1
      have q := goF_ok h1
      have eh := putAll_heap e
      have en : s1.heap.objs.size = n := by
        rw [← eh]
        exact absHeap_size t n _
      have eb : (⟨t, n, s1.heap.life, s1.gens, s1.drawn, s1.toks, s1.os⟩ : SharedT).abs = s1 := by
        show (⟨absHeap t n s1.heap.life, s1.gens, s1.drawn, s1.toks, s1.os⟩ : Shared) = _
        rw [eh]
      rw [eb] at q
      rw [en]
      exact q
theorem left_imp {p q : Program} {loose : List Str} {Xt : Shared → Bool} {α : Type} {Yf : Shared → α} {Ya : World → α} {M1 M : Nat}
    (run : ∀ w : World, (allI (stepT (denote treeTable) (opening p) w) (stepT (denote treeTable) p w) p M1 M).map (fun r => (looksF p r.1.heap r.2.abs, openSeen q loose (importedModules p.main.body) Xt true r.2.abs, Yf r.2.abs)) = some (true, openGood q loose, Ya w)) :
    LeftO p q loose Xt Yf Ya (M1 + M) true := fun w => by
  obtain ⟨⟨s1, s⟩, hs, hv⟩ := Option.map_eq_some_iff.mp (run w)
  obtain ⟨a, ha, hb⟩ := Option.bind_eq_some_iff.mp hs
  obtain ⟨s1', hf, hc⟩ := Option.bind_eq_some_iff.mp hb
  obtain ⟨s', ht, he⟩ := Option.map_eq_some_iff.mp hc
  obtain ⟨rfl, rfl⟩ : s1' = s1 ∧ s' = s := by simpa using he
  obtain ⟨l1, l2, l3⟩ : _ ∧ _ ∧ _ := by simpa only [Prod.mk.injEq] using hv
  have i1 := importEnds_mono M _ _ _ _ (impF_ok ha)
  have i2 : fencedOpening treeTable p w (M1 + M) = some s1' := by
    unfold fencedOpening
    rw [← s0T_abs, i1]
    exact hf
  obtain ⟨t1, t2⟩ := topI_ok ht
  have r := topRun_mono M1 _ _ _ _ t2
  rw [show M + M1 = M1 + M by omega] at r
  have l1' : (staticsOk (importedModules p.main.body) s1'.heap s'.abs.heap && namesBound p s'.abs.heap && gensDone s'.abs && laidKept s1'.heap s'.abs.heap) = true := l1
  have t : topFrom treeTable p w (M1 + M) s1' = some s'.abs := by
    unfold topFrom
    rw [t1]
    show (topRun treeTable p w s1'.heap.objs.size (s1'.heap.nsMap mainGlobals "__annotations__") (M1 + M) s1' (topStub p)).bind _ = _
    rw [r]
    show (match staticsOk (importedModules p.main.body) s1'.heap s'.abs.heap && namesBound p s'.abs.heap && gensDone s'.abs && laidKept s1'.heap s'.abs.heap with | true => some s'.abs | false => none) = _
    rw [l1']
  unfold openEnds
  rw [i2]
  show (topFrom treeTable p w (M1 + M) s1').map _ = _
  rw [t]
  exact congrArg some (Prod.ext l2 l3)
/-- the run's equation at a world, with the opening -/
def RunI (r : OpenRow) (q : Program) (H : Hook) (ob : SharedT → H.α) (M1 M : Nat) (loose : List PySem.Str) (w : World) : Prop :=
  (allI (stepQ (denQ tabQ) (opening r.prog) w) (stepQ (denQ tabQ) r.prog w) r.prog M1 M).map (fun z => (looksF r.prog z.1.heap z.2.abs, seenQ q loose (importedModules r.prog.main.body) (fun s => xlAt q [] s && recOk r.toRowW.records s) z.2.abs, ob z.2)) = some (true, openGood q loose, H.val w)
theorem head_imp {r : OpenRow} {q : Program} {H : Hook} {ob : SharedT → H.α} {M1 M : Nat} {loose : List PySem.Str} {d : DefRec} {kwd : List (PySem.Str × PySem.Expr)} (ho : ∀ s : SharedT, ob s = H.obs s.abs)
    (run : ∀ w, RunI r q H ob M1 M loose w)
    (hdef : defOf q r.name = some (d, kwd)) (hp : r.prog.theDef r.name = some (d.params, d.body, d.scope)) (hk : kwWritten? d.params.kwonlyargs d.params.kw_defaults = some kwd)
    (hwr : (!r.writes || r.records.isEmpty) = true) (k1 : r.wellSaid = true) (ok : (chainsOk q && opensWell r.prog && (frees r.toRowW && r.within.isEmpty)) = true) (hb : r.prog.bare) (hw : r.toRowW.promised)
    (call : WalkO q loose (XL q []) H.says r.toRowW d kwd fun f vs => PySem.call f vs) : r.Holds := by
  have left : LeftO r.prog q loose (fun s => xlAt q [] s && recOk r.toRowW.records s) H.obs H.val (M1 + M) true :=
    left_imp (M1 := M1) (M := M) fun w => by
      have z := run w
      unfold RunI at z
      have eo : ob = fun s => H.obs s.abs := funext ho
      rw [eo] at z
      rw [stepQ_eq, denQ_eq, tabQ_eq]
      simp only [seenQ_eq]
      exact z
  exact holds_open (r := r) (q := q) (loose := loose) (XP := XL q []) (YP := H.says) (d := d) (kwd := kwd) left H.of H.keeps (fun s z => xl_of s (Bool.and_eq_true_iff.mp z).1) XL.keeps hdef hp hk (fun s z => recFacts_of (Bool.and_eq_true_iff.mp z).2) hwr k1 ok hb hw call
end DLI
end

-- DlRun
set_option Elab.async false
set_option linter.all false
set_option maxRecDepth 100000
/-! DlRun: the head's run in parts: each part runs the top anew and looks at some of what it has left -/
namespace DLI
open PySem PySem.W PyProof.Rows HandSHeadRun DL
/-- the written part: what stands at these addresses -/
def KT (as : List Addr) (s : SharedT) : Frag := He.frT (getT s) as
def moreL (ps : List PrD) (ex : Frag → Bool) (K : Frag) : Bool := ex K && ps.all fun p => propB K (p.C, p.m) && fnAok K (gAd K (p.C, p.m)) p.d
def obsL (as : List Addr) (fa : List He.Fa) (fn : List He.DefD) (ps : List PrD) (tf : List He.Defn) (ex : Frag → Bool) (g : Addr → Option Obj) : He.AlX × List He.FnW :=
  ((He.obsT fa fn [] (He.frT g as), moreL ps ex (He.frT g as) && He.tabsB g tf (He.frT g as)), ps.map fun p => fnA (He.frT g as) (gAd (He.frT g as) (p.C, p.m)))
theorem band {a b : Bool} (h : (a && b) = true) : a = true ∧ b = true := by cases a <;> cases b <;> first | exact ⟨rfl, rfl⟩ | cases h
theorem saysL_of {as : List Addr} {fa : List He.Fa} {fn : List He.DefD} {ps : List PrD} {tf : List He.Defn} {ex : Frag → Bool} {w : World} {h : Heap} {v2 : List He.FnW}
    (e : obsL as fa fn ps tf ex h.get? = (He.valX fn [] w, v2)) : He.SaysX fa fn [] tf (moreL ps ex) w h (He.frT h.get? as) := by
  have a0 : (He.obsT fa fn [] (He.frT h.get? as), moreL ps ex (He.frT h.get? as) && He.tabsB h.get? tf (He.frT h.get? as)) = He.valX fn [] w := congrArg Prod.fst e
  have a1 := congrArg Prod.fst a0
  obtain ⟨a2, a3⟩ := band (congrArg Prod.snd a0)
  have at_ : ∀ p ∈ tf, codeHdIn (He.frT h.get? as) (He.cT (He.frT h.get? as) p).1 (He.cT (He.frT h.get? as) p).2 = true ∧ ∃ u, h.get? (He.cT (He.frT h.get? as) p).2 = some u ∧ He.emptyTab u = true := by
    intro p hp
    obtain ⟨b1, b2⟩ := band (List.all_eq_true.mp a3 p hp)
    cases hu : h.get? (He.cT (He.frT h.get? as) p).2 with
    | some u => exact ⟨b1, u, rfl, by rw [hu] at b2; exact b2⟩
    | none => rw [hu] at b2; cases b2
  constructor
  · exact a1
  · exact a2
  · exact fun p hp => (at_ p hp).1
  · intro p hp
    obtain ⟨_, u, hu, hz⟩ := at_ p hp
    exact He.frT_none hu hz
  · intro p hp
    obtain ⟨_, u, hu, hz⟩ := at_ p hp
    rw [hu, He.emptyTab_eq hz]
def hookL (as : List Addr) (fa : List He.Fa) (fn : List He.DefD) (ps : List PrD) (tf : List He.Defn) (ex : Frag → Bool) : Hook where
  α := He.AlX × List He.FnW
  obs := fun s => obsL as fa fn ps tf ex s.heap.get?
  val := fun w => (He.valX fn [] w, ps.map fun p : PrD => He.DefD.val p.d)
  says := fun w h => ∃ K : Frag, K.In h ∧ SaysP fa fn ps tf ex w h K
  of := fun _ _ e => ⟨_, He.frT_in, saysL_of e, congrArg (fun z : He.AlX × List He.FnW => z.2) e⟩
  keeps := fun _ _ _ ⟨K, hK, c⟩ k => ⟨K, Frag.In.keeps hK k, ⟨⟨c.x.t, c.x.more, c.x.hd, c.x.out, fun p hp => k _ _ (c.x.empty p hp)⟩, c.pr⟩⟩
theorem obsL_eq {as : List Addr} {fa : List He.Fa} {fn : List He.DefD} {ps : List PrD} {tf : List He.Defn} {ex : Frag → Bool} (s : SharedT) : obsL as fa fn ps tf ex (getT s) = (hookL as fa fn ps tf ex).obs s.abs := by
  have e : getT s = s.abs.heap.get? := funext fun a => getT_eq s a
  show obsL as fa fn ps tf ex (getT s) = obsL as fa fn ps tf ex s.abs.heap.get?
  rw [e]
def lkFa (as : List Addr) (l : List He.Fa) (s : SharedT) : Bool := l.all fun f => f.ok (KT as s)
def lkFn (as : List Addr) (l : List He.DefD) (s : SharedT) : Bool × List He.FnW := (l.all fun d => d.ok (KT as s), l.map fun d => He.fnW (KT as s) d.at_)
def lkX (as : List Addr) (tf : List He.Defn) (ex : Frag → Bool) (ps : List PrD) (s : SharedT) : Bool := moreL ps ex (KT as s) && He.tabsB (getT s) tf (KT as s)
def lkP (as : List Addr) (ps : List PrD) (s : SharedT) : List He.FnW := ps.map fun p => fnA (KT as s) (gAd (KT as s) (p.C, p.m))
theorem obs_of {as : List Addr} {fa : List He.Fa} {fn : List He.DefD} {ps : List PrD} {tf : List He.Defn} {ex : Frag → Bool} {w : World} {s : SharedT} (h1 : lkFa as fa s = true) (h3 : lkFn as fn s = (true, fn.map He.DefD.val))
    (h5 : lkX as tf ex ps s = true) (h6 : lkP as ps s = ps.map fun p => p.d.val) : obsL as fa fn ps tf ex (getT s) = (hookL as fa fn ps tf ex).val w := by
  obtain ⟨h31, h32⟩ := Prod.mk.inj h3
  refine Prod.ext (Prod.ext (Prod.ext (Prod.ext ?_ h32) rfl) h5) h6
  show ((fa.all fun f => f.ok (KT as s)) && (fn.all fun d => d.ok (KT as s))) = true
  rw [h31, Bool.and_true]; exact h1
theorem parts_of {γ α : Type} {o : Option γ} {f : γ → α} {v : α} {P : γ → Prop} (h : o.map f = some v) (hP : ∀ s, f s = v → P s) : ∃ s, o = some s ∧ P s := by
  obtain ⟨s, h1, h2⟩ := Option.map_eq_some_iff.mp h
  exact ⟨s, h1, hP s h2⟩
theorem run_of {γ α1 α2 α3 α4 β : Type} {o : Option γ} {f1 : γ → α1} {f2 : γ → α2} {f3 : γ → α3} {f4 : γ → α4} {v1 : α1} {v2 : α2} {v3 : α3} {v4 : α4} {F : γ → β} {v : β} (h1 : o.map f1 = some v1) (h2 : o.map f2 = some v2) (h3 : o.map f3 = some v3) (h4 : o.map f4 = some v4)
    (hF : ∀ s, f1 s = v1 → f2 s = v2 → f3 s = v3 → f4 s = v4 → F s = v) : o.map F = some v := by
  obtain ⟨s, rfl, e1⟩ := Option.map_eq_some_iff.mp h1
  have e2 : f2 s = v2 := by simpa using h2
  have e3 : f3 s = v3 := by simpa using h3
  have e4 : f4 s = v4 := by simpa using h4
  simp [hF s e1 e2 e3 e4]
theorem part_at {γ α : Type} {o : Option γ} {f : γ → α} {v : α} {z : γ} (h : o.map f = some v) (hz : o = some z) : f z = v := by
  rw [hz] at h
  exact Option.some.inj h
theorem lkFa_app {n : List Addr} {a b : List He.Fa} {s : SharedT} (h1 : lkFa n a s = true) (h2 : lkFa n b s = true) : lkFa n (a ++ b) s = true := by
  unfold lkFa at *
  rw [List.all_append, h1, h2]; rfl
theorem lkFn_app {n : List Addr} {a b : List He.DefD} {s : SharedT} (h1 : lkFn n a s = (true, a.map He.DefD.val)) (h2 : lkFn n b s = (true, b.map He.DefD.val)) : lkFn n (a ++ b) s = (true, (a ++ b).map He.DefD.val) := by
  obtain ⟨h31, h32⟩ := Prod.mk.inj h1
  obtain ⟨h41, h42⟩ := Prod.mk.inj h2
  unfold lkFn
  rw [List.all_append, List.map_append, List.map_append, h31, h32, h41, h42]; rfl
theorem run_fin {r : OpenRow} {q : Program} {H : Hook} {ob : SharedT → H.α} {M1 M : Nat} {loose : List PySem.Str} {w : World} {z : Shared × SharedT} (hz : allI (stepQ (denQ tabQ) (opening r.prog) w) (stepQ (denQ tabQ) r.prog w) r.prog M1 M = some z)
    (h : (looksF r.prog z.1.heap z.2.abs, seenQ q loose (importedModules r.prog.main.body) (fun s => xlAt q [] s && recOk r.toRowW.records s) z.2.abs, ob z.2) = (true, openGood q loose, H.val w)) : RunI r q H ob M1 M loose w := by
  unfold RunI
  rw [hz]
  exact congrArg some h
end DLI

-- DlEval
set_option Elab.async false
set_option linter.all false
set_option maxRecDepth 100000
set_option maxHeartbeats 1000000
/-! DlEval: what the readings come to, as rewriting -/
namespace DL
open PySem PySem.Spec PyProof.Rows L2
theorem str_inj {a b : String} : (Str.ofString a = Str.ofString b) ↔ a = b := by
  constructor
  · intro h
    unfold Str.ofString at h
    rw [cpsOfBytes_string, cpsOfBytes_string] at h
    have h1 : a.toList.map Char.toNat = b.toList.map Char.toNat := by simpa using h
    have h2 := (List.map_inj_right (f := Char.toNat) (fun x y e => by
      have : x.val.toNat = y.val.toNat := e
      exact Char.ext (UInt32.toNat_inj.mp this))).mp h1
    exact String.toList_inj.mp h2
  · rintro rfl; rfl
@[simp] theorem str_eq {a b : String} : (Str.ofString a = Str.ofString b) = (a = b) := propext str_inj
/-- what a term goes on with is not to be looked into ahead: its place depends on it -/
structure Fix {α : Sort u} (a : α) : Type where
def R.bnd {α β : Type} (r : R α) (k : α → Mem → R β) (_ : Fix k := ⟨⟩) : R β := r.bind k
def RS.thn {α : Type} (env : DEnv) (r : R α) (k : α → Mem → RS) (_ : Fix k := ⟨⟩) : RS := RS.then env r k
@[simp] theorem R.bnd_ok {α β : Type} (a : α) (M : Mem) (k : α → Mem → R β) (u : Fix k) : R.bnd (.ok a M) k u = k a M := nd rfl
@[simp] theorem R.bnd_exc {α β : Type} (C : Str) (as : List (Str × D)) (M : Mem) (k : α → Mem → R β) (u : Fix k) : R.bnd (.exc C as M) k u = .exc C as M := nd rfl
@[simp] theorem RS.thn_ok {α : Type} (env : DEnv) (a : α) (M : Mem) (k : α → Mem → RS) (u : Fix k) : RS.thn env (.ok a M) k u = k a M := nd rfl
@[simp] theorem RS.thn_exc {α : Type} (env : DEnv) (C : Str) (as : List (Str × D)) (M : Mem) (k : α → Mem → RS) (u : Fix k) : RS.thn env (.exc C as M : R α) k u = .exc env C as M := nd rfl
def RS.seq (r : RS) (h : FS) (_ : Fix h := ⟨⟩) : RS := match r with
  | .next e M => h e M
  | r => r
section seq
variable {env : DEnv} {M : Mem} {h : FS} {u : Fix h} {d : D} {C : Str} {as : List (Str × D)}
@[simp] theorem RS.seq_next : RS.seq (.next env M) h u = h env M := nd rfl
@[simp] theorem RS.seq_ret : RS.seq (.ret d M) h u = .ret d M := nd rfl
@[simp] theorem RS.seq_brk : RS.seq (.brk env M) h u = .brk env M := nd rfl
@[simp] theorem RS.seq_cont : RS.seq (.cont env M) h u = .cont env M := nd rfl
@[simp] theorem RS.seq_exc : RS.seq (.exc env C as M) h u = .exc env C as M := nd rfl
end seq
/-- the answer of a def's body -/
def RS.out (r : RS) : R D := match r with
  | .next _ M' => .ok .non M'
  | .ret d M' => .ok d M'
  | .exc _ C as M' => .exc C as M'
  | _ => .stuck
@[simp] theorem RS.out_next {env : DEnv} {M : Mem} : RS.out (.next env M) = .ok .non M := nd rfl
@[simp] theorem RS.out_ret {d : D} {M : Mem} : RS.out (.ret d M) = .ok d M := nd rfl
@[simp] theorem RS.out_exc {env : DEnv} {C : Str} {as : List (Str × D)} {M : Mem} : RS.out (.exc env C as M) = .exc C as M := nd rfl
@[simp] theorem ev_mOf (N : Nat) (b : FS) (ds : List D) (M : Mem) : mOf N b ds M = RS.out (b (startD N ds) M) := nd rfl
@[simp] theorem ev_trimM (m : List D → Mem → R D) (ds : List D) (M : Mem) : trimM m ds M = trimR M.length (m ds M) := nd rfl
@[simp] theorem ev_startD (N : Nat) (ds : List D) : startD N ds = ds.map some ++ List.replicate (N - ds.length) none := nd rfl
def RV (o : Option (Option D)) (M : Mem) : R D := match o with
  | some (some d) => .ok d M
  | _ => .stuck
@[simp] theorem RV_some (d : D) (M : Mem) : RV (some (some d)) M = .ok d M := nd rfl
def R.only {α : Type} (r : R α) : R α := match r with
  | .ok a M => .ok a M
  | _ => .stuck
@[simp] theorem R.only_ok {α : Type} (a : α) (M : Mem) : R.only (.ok a M) = .ok a M := nd rfl
def kB (k : Bool → Mem → R D) (a : D) (M : Mem) : R D := match a with
  | .bl b => k b M
  | _ => .stuck
@[simp] theorem kB_bl (k : Bool → Mem → R D) (b : Bool) (M : Mem) : kB k (.bl b) M = k b M := nd rfl
def RS.ofB (o : Option DEnv) (M : Mem) : RS := match o with
  | some env1 => .next env1 M
  | none => .stuck
@[simp] theorem RS.ofB_some (env : DEnv) (M : Mem) : RS.ofB (some env) M = .next env M := nd rfl
@[simp] theorem bind_name (i : Nat) (d : D) (env : DEnv) : (Tgt.name i).bind d env = some (env.set i (some d)) := nd rfl
@[simp] theorem bind_tup (ts : List Tgt) (ds : List D) (env : DEnv) : (Tgt.tup ts).bind (.tup ds) env = Tgt.binds ts ds env := nd rfl
@[simp] theorem binds_nil (env : DEnv) : Tgt.binds [] [] env = some env := nd rfl
@[simp] theorem binds_cons (t : Tgt) (ts : List Tgt) (d : D) (ds : List D) (env : DEnv) : Tgt.binds (t :: ts) (d :: ds) env = (t.bind d env).bind (Tgt.binds ts ds) := nd rfl
@[simp] theorem wipe_nil (env : DEnv) : wipeD env [] = env := nd rfl
@[simp] theorem wipe_cons (env : DEnv) (v : Nat) (vs : List Nat) : wipeD env (v :: vs) = (wipeD env vs).set v none := nd rfl
def RS.putM (env : DEnv) (o : Option Mem) : RS := match o with
  | some M3 => .next env M3
  | none => .stuck
@[simp] theorem RS.putM_some (env : DEnv) (M : Mem) : RS.putM env (some M) = .next env M := nd rfl
/-- an assignment to places: no value is given back -/
def RS.stmt (r : RS) : RS := match r with
  | .next env' M' => .next env' M'
  | .exc env' C as M' => .exc env' C as M'
  | _ => .stuck
@[simp] theorem RS.stmt_next (env : DEnv) (M : Mem) : RS.stmt (.next env M) = .next env M := nd rfl
def RS.fldK (env : DEnv) (M : Mem) (C f : Str) (d : D) (o : Option (Nat × List (Str × D))) : RS := match o with
  | some (i, fs) => if fs.length < 1000 then .next env (M.set i (.ins C (putFD f d fs))) else .stuck
  | none => .stuck
@[simp] theorem RS.fldK_some (env : DEnv) (M : Mem) (C f : Str) (d : D) (i : Nat) (fs : List (Str × D)) : RS.fldK env M C f d (some (i, fs)) = if fs.length < 1000 then .next env (M.set i (.ins C (putFD f d fs))) else .stuck := nd rfl
def RS.par2K (env : DEnv) (i j : Nat) (ds : List D) (M : Mem) : RS := match ds with
  | [a, b] => .next ((env.set i (some a)).set j (some b)) M
  | _ => .stuck
@[simp] theorem RS.par2K_two (env : DEnv) (i j : Nat) (a b : D) (M : Mem) : RS.par2K env i j [a, b] M = .next ((env.set i (some a)).set j (some b)) M := nd rfl
def RS.par3K (env : DEnv) (i j l : Nat) (ds : List D) (M : Mem) : RS := match ds with
  | [a, b, c] => .next (((env.set i (some a)).set j (some b)).set l (some c)) M
  | _ => .stuck
@[simp] theorem RS.par3K_three (env : DEnv) (i j l : Nat) (a b c : D) (M : Mem) : RS.par3K env i j l [a, b, c] M = .next (((env.set i (some a)).set j (some b)).set l (some c)) M := nd rfl
def aug3 (env : DEnv) (C f : Str) (v : Int) (M2 : Mem) (o : Option (Nat × List (Str × D))) : RS := match o with
  | some (i, fs2) => if fs2.length < 1000 then .next env (M2.set i (.ins C (putFD f (.int v) fs2))) else .stuck
  | none => .stuck
@[simp] theorem aug3_some (env : DEnv) (C f : Str) (v : Int) (M2 : Mem) (i : Nat) (fs2 : List (Str × D)) : aug3 env C f v M2 (some (i, fs2)) = if fs2.length < 1000 then .next env (M2.set i (.ins C (putFD f (.int v) fs2))) else .stuck := nd rfl
def aug2 (env : DEnv) (C f : Str) (op : Int → Int → Int) (fe : FE) (o : D) (M1 : Mem) (x : Option D) : RS := match x with
  | some (.int x) => RS.then env (fe env M1) fun d M2 => (match d with
    | .int y => aug3 env C f (op x y) M2 (insAt M2 o C)
    | _ => .stuck)
  | _ => .stuck
def aug2K (env : DEnv) (C f : Str) (op : Int → Int → Int) (o : D) (x : Int) (d : D) (M2 : Mem) : RS := match d with
    | .int y => aug3 env C f (op x y) M2 (insAt M2 o C)
    | _ => .stuck
@[simp] theorem aug2K_int (env : DEnv) (C f : Str) (op : Int → Int → Int) (o : D) (x y : Int) (M2 : Mem) : aug2K env C f op o x (.int y) M2 = aug3 env C f (op x y) M2 (insAt M2 o C) := nd rfl
@[simp] theorem aug2_int (env : DEnv) (C f : Str) (op : Int → Int → Int) (fe : FE) (o : D) (M1 : Mem) (x : Int) : aug2 env C f op fe o M1 (some (.int x)) = RS.thn env (fe env M1) (aug2K env C f op o x) := by
  show RS.then env (fe env M1) _ = RS.then env (fe env M1) _; refine congrArg (RS.then env (fe env M1)) ?_; funext d M2; cases d <;> rfl
def aug1 (env : DEnv) (C f : Str) (op : Int → Int → Int) (fe : FE) (o : D) (M1 : Mem) (x : Option (Nat × List (Str × D))) : RS := match x with
  | some (_, fs) => aug2 env C f op fe o M1 (fs.lookup f)
  | none => .stuck
@[simp] theorem aug1_some (env : DEnv) (C f : Str) (op : Int → Int → Int) (fe : FE) (o : D) (M1 : Mem) (i : Nat) (fs : List (Str × D)) : aug1 env C f op fe o M1 (some (i, fs)) = aug2 env C f op fe o M1 (fs.lookup f) := nd rfl
@[simp ↓] theorem ev_fldAug (C f : Str) (op : Int → Int → Int) (fo fe : FE) (env : DEnv) (M : Mem) : sFldAugD C f op fo fe env M = RS.thn env (fo env M) fun o M1 => aug1 env C f op fe o M1 (insAt M1 o C) := by
  show RS.then env (fo env M) _ = RS.then env (fo env M) _
  refine congrArg (RS.then env (fo env M)) ?_
  funext o M1
  cases insAt M1 o C with
  | none => rfl
  | some p =>
    obtain ⟨i, fs⟩ := p
    show _ = aug2 env C f op fe o M1 (fs.lookup f)
    simp only
    cases fs.lookup f with
    | none => rfl
    | some d =>
      cases d <;> rfl
/-! try, lambdas -/
def RS.tryK (t : STab) (cls : List ClD) (r : RS) (_ : Fix cls := ⟨⟩) : RS := match r with
  | .exc env1 C as M1 => handle t cls env1 C as M1
  | r => r
@[simp] theorem RS.tryK_exc (t : STab) (cls : List ClD) (env1 : DEnv) (C : Str) (as : List (Str × D)) (M1 : Mem) (u : Fix cls) : RS.tryK t cls (.exc env1 C as M1) u = handle t cls env1 C as M1 := nd rfl
@[simp] theorem RS.tryK_next (t : STab) (cls : List ClD) (env1 : DEnv) (M1 : Mem) (u : Fix cls) : RS.tryK t cls (.next env1 M1) u = .next env1 M1 := nd rfl
@[simp ↓] theorem ev_try (t : STab) (b : FS) (cls : List ClD) (env : DEnv) (M : Mem) : sTry t b cls env M = RS.tryK t cls (b env M) := by
  show (match b env M with | .exc env1 C as M1 => _ | r => r) = _
  cases b env M <;> rfl
def handK (t : STab) (cl : ClD) (r : List ClD) (env : DEnv) (C : Str) (as : List (Str × D)) (M : Mem) (o : Option Bool) : RS := match o with
  | some true => (cl.f M.length C as (slotX (some (.ref M.length)) cl.slot env) (M ++ [.gone])).outX cl.slot
  | some false => handle t r env C as M
  | none => .stuck
@[simp] theorem handK_t (t : STab) (cl : ClD) (r : List ClD) (env : DEnv) (C : Str) (as : List (Str × D)) (M : Mem) : handK t cl r env C as M (some true) = (cl.f M.length C as (slotX (some (.ref M.length)) cl.slot env) (M ++ [.gone])).outX cl.slot := nd rfl
@[simp] theorem handK_f (t : STab) (cl : ClD) (r : List ClD) (env : DEnv) (C : Str) (as : List (Str × D)) (M : Mem) : handK t cl r env C as M (some false) = handle t r env C as M := nd rfl
@[simp] theorem ev_hand (t : STab) (cl : ClD) (r : List ClD) (env : DEnv) (C : Str) (as : List (Str × D)) (M : Mem) : handle t (cl :: r) env C as M = handK t cl r env C as M (t.lookup (C, cl.C)) := by
  show (match t.lookup (C, cl.C) with | some true => _ | some false => _ | none => _) = _
  cases t.lookup (C, cl.C) with
  | none => rfl
  | some b => cases b <;> rfl
@[simp] theorem outX_next (slot : Option Nat) (env : DEnv) (M : Mem) : RS.outX slot (.next env M) = .next (slotX none slot env) M := nd rfl
@[simp] theorem outX_ret (slot : Option Nat) (d : D) (M : Mem) : RS.outX slot (.ret d M) = .ret d M := nd rfl
@[simp] theorem slotX_some (o : Option D) (i : Nat) (env : DEnv) : slotX o (some i) env = env.set i o := nd rfl
@[simp] theorem slotX_none (o : Option D) (env : DEnv) : slotX o none env = env := nd rfl
@[simp ↓] theorem ev_lam (N : Nat) (bH : Nat → (Mem → R D) → FS) (fb : FE) (env : DEnv) (M : Mem) : fLam N bH fb env M = trimR M.length (RS.out (bH M.length (fun M' => fb env M') (startD N [.ref M.length]) (M ++ [.gone]))) := by
  show trimR M.length _ = trimR M.length _
  refine congrArg _ ?_
  cases bH M.length (fun M' => fb env M') (startD N [.ref M.length]) (M ++ [.gone]) <;> rfl
def actK (n : Nat) (act : Mem → R D) (M : Mem) (o : Option (Option D)) : R D := match o with
  | some (some (.ref j)) => if j = n then act M else .stuck
  | _ => .stuck
@[simp] theorem actK_ref (n j : Nat) (act : Mem → R D) (M : Mem) : actK n act M (some (some (.ref j))) = if j = n then act M else .stuck := nd rfl
@[simp ↓] theorem ev_act (i n : Nat) (act : Mem → R D) (env : DEnv) (M : Mem) : fAct i n act env M = actK n act M env[i]? := by
  show (match env[i]? with | some (some (.ref j)) => _ | _ => _) = _
  rcases env[i]? with _ | (_ | d)
  · rfl
  · rfl
  · cases d <;> rfl
@[simp] theorem kXf_ref (cs : List Str) (n : Nat) (C : Str) (as : List (Str × D)) (f : Str) (i : Nat) (M : Mem) : kXf cs n C as f (.ref i) M = if i = n ∧ C ∈ cs then R.of (as.lookup f) M else .stuck := nd rfl
@[simp] theorem kXi_ref (t : STab) (n : Nat) (C K : Str) (i : Nat) (M : Mem) : kXi t n C K (.ref i) M = if i = n ∧ t.lookup (C, K) = some true then .ok (.bl true) M else .stuck := nd rfl
def dict1K (M : Mem) (a b : D) (M2 : Mem) : R D := match keyD a, M2[M.length]? with
  | some k, some (.dk []) => .ok (.ref M.length) (M2.set M.length (.dk [(k, b)]))
  | _, _ => .stuck
theorem dict1K_int (M : Mem) (i : Int) (b : D) : dict1K M (.int i) b (M ++ [.dk []]) = .ok (.ref M.length) (M ++ [.dk [(.inl i, b)]]) := by
  unfold dict1K
  simp [keyD]
section ev
variable {env : DEnv} {M : Mem}
@[simp ↓] theorem ev_seq (f h : FS) : sSeq f h env M = RS.seq (f env M) h := nd rfl
@[simp ↓] theorem ev_nil : sNil env M = .next env M := nd rfl
@[simp ↓] theorem ev_drop (f : FE) : sDrop f env M = RS.thn env (f env M) fun _ M1 => .next env M1 := nd rfl
@[simp ↓] theorem ev_ret (f : FE) : sRet f env M = RS.thn env (f env M) fun d M1 => .ret d M1 := nd rfl
@[simp ↓] theorem ev_retN : sRetN env M = .ret .non M := nd rfl
@[simp ↓] theorem ev_if (c : FT) (f h : FS) : sIf c f h env M = RS.thn env (c env M) fun b M1 => if b = true then f env M1 else h env M1 := nd rfl
@[simp ↓] theorem ev_set (i : Nat) (f : FE) : sSet i f env M = RS.thn env (f env M) fun d M1 => .next (env.set i (some d)) M1 := nd rfl
@[simp ↓] theorem ev_asg (t : Tgt) (f : FE) : sAsg t f env M = RS.thn env (f env M) fun d M1 => RS.ofB (t.bind d env) M1 := nd rfl
@[simp ↓] theorem ev_for (f : FA) (t : Tgt) (b : FS) : sForI f t b env M = RS.thn env (f env M) fun ds M1 => sFor t b ds env M1 := nd rfl
@[simp ↓] theorem ev_fldD (C f : Str) (fo fe : FE) : sFldD C f fo fe env M = RS.thn env (fe env M) fun d M1 => RS.thn env (fo env M1) fun o M2 => RS.fldK env M2 C f d (insAt M2 o C) := by
  show RS.then env (fe env M) _ = RS.then env (fe env M) _; refine congrArg (RS.then env (fe env M)) ?_; funext d M1; show RS.then env (fo env M1) _ = RS.then env (fo env M1) _; refine congrArg (RS.then env (fo env M1)) ?_; funext o M2; cases insAt M2 o C <;> rfl
@[simp ↓] theorem ev_par2 (i j : Nat) (r : FA) : sPar2 i j r env M = RS.thn env (r env M) (RS.par2K env i j) := nd rfl
@[simp ↓] theorem ev_par3 (i j l : Nat) (r : FA) : sPar3 i j l r env M = RS.thn env (r env M) (RS.par3K env i j l) := nd rfl
@[simp ↓] theorem ev_raise (C : Str) (fs : List Str) (r : FA) : sRaise C fs r env M = RS.thn env (r env M) fun ds M1 => if ds.length = fs.length ∧ ds.length ≤ 1000 then .exc env C (fs.zip ds).reverse M1 else .stuck := nd rfl
@[simp ↓] theorem ev_raise0 (C : Str) : sRaise0 C env M = .exc env C [] M := nd rfl
@[simp ↓] theorem ev_asgG (t : FG) (f : FE) : sAsgG t f env M = RS.thn env (f env M) fun d M1 => RS.stmt (t d env M1) := by
  show RS.then env (f env M) _ = RS.then env (f env M) _; refine congrArg (RS.then env (f env M)) ?_; funext d M1; cases t d env M1 <;> rfl
@[simp ↓] theorem ev_gN (i : Nat) (d : D) : gN i d env M = .next (env.set i (some d)) M := nd rfl
@[simp ↓] theorem ev_gsNil : gsNil [] env M = .next env M := nd rfl
@[simp ↓] theorem ev_gsCons (f : FG) (r : FGs) (d : D) (ds : List D) : gsCons f r (d :: ds) env M = RS.seq (f d env M) (r ds) := nd rfl
@[simp ↓] theorem ev_gT (n : Nat) (r : FGs) (ds : List D) : gT n r (.tup ds) env M = if ds.length = n then r ds env M else .stuck := nd rfl
@[simp ↓] theorem ev_gIx (fo fi : FE) (d : D) : gIx fo fi d env M = RS.thn env (fo env M) fun o M1 => RS.thn env (fi env M1) fun i M2 => RS.putM env (kPut o i d M2) := nd rfl
@[simp ↓] theorem ev_var (i : Nat) : fVar i env M = RV env[i]? M := nd rfl
@[simp ↓] theorem ev_C (d : D) : fC d env M = .ok d M := nd rfl
@[simp ↓] theorem ev_f1 (k : D → Mem → R D) (f : FE) : f1 k f env M = (f env M).bnd k := nd rfl
@[simp ↓] theorem ev_f2 (k : D → D → Mem → R D) (f h : FE) : f2 k f h env M = (f env M).bnd fun a M1 => (h env M1).bnd fun b M2 => k a b M2 := nd rfl
@[simp ↓] theorem ev_tOf (f : FE) : tOf f env M = (f env M).bnd asB := nd rfl
@[simp] theorem ev_asB (b : Bool) : asB (.bl b) M = .ok b M := nd rfl
@[simp ↓] theorem ev_tNot (f : FT) : tNotF f env M = (f env M).bnd fun b M1 => .ok (!b) M1 := nd rfl
@[simp ↓] theorem ev_tAnd (f h : FT) : tAndF f h env M = (f env M).bnd fun b M1 => if b = true then h env M1 else .ok false M1 := nd rfl
@[simp ↓] theorem ev_tOr (f h : FT) : tOrF f h env M = (f env M).bnd fun b M1 => if b = true then .ok true M1 else h env M1 := nd rfl
@[simp ↓] theorem ev_tYes : tYesF env M = .ok true M := nd rfl
@[simp ↓] theorem ev_fAnd (f h : FE) : fAnd f h env M = (f env M).bnd (kB fun b M1 => if b = true then h env M1 else .ok (.bl false) M1) := by
  show R.bind (f env M) _ = R.bind (f env M) _; refine congrArg (R.bind (f env M)) ?_; funext a M1; cases a <;> first | rfl | (rename_i b; cases b <;> rfl)
@[simp ↓] theorem ev_fOr (f h : FE) : fOr f h env M = (f env M).bnd (kB fun b M1 => if b = true then .ok (.bl true) M1 else h env M1) := by
  show R.bind (f env M) _ = R.bind (f env M) _; refine congrArg (R.bind (f env M)) ?_; funext a M1; cases a <;> first | rfl | (rename_i b; cases b <;> rfl)
@[simp ↓] theorem ev_fNot (f : FE) : fNot f env M = (f env M).bnd (kB fun b M1 => .ok (.bl !b) M1) := by
  show R.bind (f env M) _ = R.bind (f env M) _; refine congrArg (R.bind (f env M)) ?_; funext a M1; cases a <;> rfl
@[simp ↓] theorem ev_fIf (t : FT) (f h : FE) : fIf t f h env M = (t env M).bnd fun b M1 => if b = true then f env M1 else h env M1 := nd rfl
@[simp ↓] theorem ev_aNil : aNil env M = .ok [] M := nd rfl
@[simp ↓] theorem ev_aCons (f : FE) (r : FA) : aCons f r env M = (f env M).bnd fun a M1 => (r env M1).bnd fun as M2 => .ok (a :: as) M2 := nd rfl
@[simp ↓] theorem ev_fOf (k : List D → Mem → R D) (r : FA) : fOf k r env M = (r env M).bnd k := nd rfl
@[simp ↓] theorem ev_fCall (k : List D → List D → Mem → R D) (r rk : FA) : fCall k r rk env M = (r env M).bnd fun ds M1 => (rk env M1).bnd fun es M2 => k ds es M2 := nd rfl
@[simp ↓] theorem ev_fMeth (C m : Str) (k : List D → List D → Mem → R D) (fo : FE) (r rk : FA) : fMeth C m k fo r rk env M = (fo env M).bnd fun d M1 => if isIns M1 d C m = true then (r env M1).bnd fun ds M2 => (rk env M2).bnd fun es M3 => k (d :: ds) es M3 else .stuck := nd rfl
@[simp ↓] theorem ev_fFld (C f : Str) (fo : FE) : fFld C f fo env M = (fo env M).bnd fun d M1 => R.of (fldOf M1 d C f) M1 := nd rfl
@[simp ↓] theorem ev_fBm (k : D → List D → Mem → R D) (fo : FE) (r : FA) : fBm k fo r env M = (fo env M).bnd fun d M1 => if (lsD M1 d).isSome = true then (r env M1).bnd fun ds M2 => k d ds M2 else .stuck := nd rfl
@[simp ↓] theorem ev_oNone : oNone env M = .ok none M := nd rfl
@[simp ↓] theorem ev_oSomeC (i : Int) : oSome (fC (.int i)) env M = .ok (some i) M := nd rfl
@[simp ↓] theorem ev_fSl (f : FE) (lo hi : FO) : fSl f lo hi env M = (f env M).bnd fun d M1 => (lo env M1).bnd fun l M2 => (hi env M2).bnd fun u M3 => kSl d l u M3 := nd rfl
@[simp ↓] theorem ev_iOf (k : D → Mem → R (List D)) (f : FE) : iOf k f env M = (f env M).bnd k := nd rfl
@[simp ↓] theorem ev_iOfA (k : List D → Mem → R (List D)) (f : FA) : iOfA k f env M = (f env M).bnd k := nd rfl
@[simp ↓] theorem ev_aComp (own : List Nat) (fi : FA) (t : Tgt) (tt : FT) (f : FE) : aComp own fi t tt f env M = (fi env M).bnd fun ds M1 => R.only (compL own t tt f env ds M1) := by
  unfold aComp; congr 1; funext ds M1; cases compL own t tt f env ds M1 <;> rfl
@[simp ↓] theorem ev_comp (own : List Nat) (fi : FA) (t : Tgt) (tt : FT) (f : FE) : fComp own fi t tt f env M = ((fi env M).bnd fun ds M1 => R.only (compL own t tt f env ds M1)).bnd kLst := by
  show (aComp own fi t tt f env M).bind _ = _
  rw [ev_aComp]; rfl
@[simp ↓] theorem ev_compO (own : List Nat) (fi : FA) (t : Tgt) (tt : FT) (f : FE) : fCompO own fi t tt f env M = ((fi env M).bnd fun ds M1 => R.only (compL own t tt f env ds M1)).bnd kOwn := by
  show (aComp own fi t tt f env M).bind _ = _
  rw [ev_aComp]; rfl
@[simp ↓] theorem ev_fCh (k1 k2 : D → D → Mem → R D) (f h l : FE) : fCh k1 k2 f h l env M = (f env M).bnd fun a M1 => (h env M1).bnd fun b M2 => (k1 a b M2).bnd (kB fun x M3 => if x = true then (l env M3).bnd fun c M4 => k2 b c M4 else .ok (.bl false) M3) := by
  unfold fCh; congr 1; funext a M1; congr 1; funext b M2; congr 1; funext x M3; cases x <;> first | rfl | (rename_i b; cases b <;> rfl)
@[simp ↓] theorem ev_dict1 (fk fv : FE) : fDict1 fk fv env M = (fk env (M ++ [.dk []])).bnd fun a M1 => (fv env M1).bnd fun b M2 => dict1K M a b M2 := by
  show R.bind (fk env (M ++ [.dk []])) _ = R.bind (fk env (M ++ [.dk []])) _; refine congrArg (R.bind (fk env (M ++ [.dk []]))) ?_; funext a M1; rfl
end ev
section kk
variable {M : Mem}
@[simp] theorem k1_one (f : D → Mem → R D) (d : D) : k1 f [d] M = f d M := nd rfl
@[simp] theorem k2_two (f : D → D → Mem → R D) (a b : D) : k2 f [a, b] M = f a b M := nd rfl
@[simp] theorem kTup_ok {ds : List D} (h : ds.length ≤ 16777216) : kTup ds M = .ok (.tup ds) M := if_pos h
@[simp] theorem kLst_ok {ds : List D} (h : ds.length ≤ 16777216) : kLst ds M = .ok (.lst ds) M := if_pos h
@[simp] theorem kOwn_ok {ds : List D} (h : ds.length ≤ 16777216) : kOwn ds M = .ok (.ref M.length) (M ++ [.lst ds]) := if_pos h
@[simp] theorem kAdd_int (i j : Int) : kAdd (.int i) (.int j) M = .ok (.int (i + j)) M := nd rfl
@[simp] theorem kSub_int (i j : Int) : kSub (.int i) (.int j) M = .ok (.int (i - j)) M := nd rfl
theorem kMulI_int (i j : Int) (h : (-(2 ^ 64) < i ∧ i < 2 ^ 64) ∨ (-(2 ^ 64) < j ∧ j < 2 ^ 64)) : kMulI (.int i) (.int j) M = .ok (.int (i * j)) M := by
  show R.of (if _ then _ else _) M = _
  rw [if_pos h]; rfl
theorem kMod_int (i j : Int) (h : 0 < j) : kMod (.int i) (.int j) M = .ok (.int (i % j)) M := by
  show R.of (if _ then _ else _) M = _
  rw [if_pos h]; rfl
theorem kFdiv_int (i j : Int) (h : 0 < j ∧ j < 2 ^ 200) : kFdiv (.int i) (.int j) M = .ok (.int (i / j)) M := by
  show R.of (if _ then _ else _) M = _
  rw [if_pos h]; rfl
theorem kPow_int (i j : Int) (h : 0 ≤ j ∧ j ≤ 1000 ∧ i.natAbs < 2 ^ 64) : kPow (.int i) (.int j) M = .ok (.int (i ^ j.toNat)) M := by
  show R.of (if _ then _ else _) M = _
  rw [if_pos h]; rfl
theorem kDivmod_int (i j : Int) (h : 0 < j ∧ j < 1073741824) : kDivmod (.int i) (.int j) M = .ok (.tup [.int (i / j), .int (i % j)]) M := by
  show R.of (if _ then _ else _) M = _
  rw [if_pos h]; rfl
@[simp] theorem kLt_int (i j : Int) : kLt (.int i) (.int j) M = .ok (.bl (decide (i < j))) M := nd rfl
@[simp] theorem kLe_int (i j : Int) : kLe (.int i) (.int j) M = .ok (.bl (decide (i ≤ j))) M := nd rfl
@[simp] theorem kGt_int (i j : Int) : kGt (.int i) (.int j) M = .ok (.bl (decide (j < i))) M := nd rfl
@[simp] theorem kGe_int (i j : Int) : kGe (.int i) (.int j) M = .ok (.bl (decide (j ≤ i))) M := nd rfl
@[simp] theorem kNeg_int (i : Int) : kNeg (.int i) M = .ok (.int (-i)) M := nd rfl
@[simp] theorem kAbs_int (i : Int) : kAbs (.int i) M = .ok (.int (if i < 0 then -i else i)) M := nd rfl
@[simp] theorem kInt_int (i : Int) : kInt (.int i) M = .ok (.int i) M := nd rfl
@[simp] theorem kInt_bl (b : Bool) : kInt (.bl b) M = .ok (.int (if b then 1 else 0)) M := nd rfl
@[simp] theorem kMax_int (i j : Int) : kMax [.int i, .int j] M = .ok (.int (if j > i then j else i)) M := nd rfl
@[simp] theorem kMin_int (i j : Int) : kMin [.int i, .int j] M = .ok (.int (if j < i then j else i)) M := nd rfl
@[simp] theorem kEq_int (i j : Int) : kEq (.int i) (.int j) M = .ok (.bl (decide (i = j))) M := nd rfl
@[simp] theorem kEq_str (i j : Str) : kEq (.str i) (.str j) M = .ok (.bl (decide (i = j))) M := nd rfl
@[simp] theorem kNe_int (i j : Int) : kNe (.int i) (.int j) M = .ok (.bl (!decide (i = j))) M := nd rfl
@[simp] theorem kNe_str (i j : Str) : kNe (.str i) (.str j) M = .ok (.bl (!decide (i = j))) M := nd rfl
@[simp] theorem kIsN_non (d : D) : kIsN d .non M = .ok (.bl d.isNon) M := nd rfl
@[simp] theorem kNotN_non (d : D) : kNotN d .non M = .ok (.bl !d.isNon) M := nd rfl
/-! indices -/
theorem atI_ofNat {α : Type} (xs : List α) (i : Nat) : atI xs (i : Int) = xs[i]? := by
  unfold atI ixN
  rw [if_pos (by omega)]
  by_cases h : i < xs.length
  · rw [if_pos (by omega)]; simp
  · rw [if_neg (by omega)]; simp; omega
@[simp] theorem atI_2 {α : Type} (xs : List α) : atI xs 2 = xs[2]? := atI_ofNat xs 2
@[simp] theorem atI_3 {α : Type} (xs : List α) : atI xs 3 = xs[3]? := atI_ofNat xs 3
@[simp] theorem atI_4 {α : Type} (xs : List α) : atI xs 4 = xs[4]? := atI_ofNat xs 4
@[simp] theorem atI_5 {α : Type} (xs : List α) : atI xs 5 = xs[5]? := atI_ofNat xs 5
@[simp] theorem atI_6 {α : Type} (xs : List α) : atI xs 6 = xs[6]? := atI_ofNat xs 6
@[simp] theorem atI_7 {α : Type} (xs : List α) : atI xs 7 = xs[7]? := atI_ofNat xs 7
@[simp] theorem atI_8 {α : Type} (xs : List α) : atI xs 8 = xs[8]? := atI_ofNat xs 8
@[simp] theorem atI_9 {α : Type} (xs : List α) : atI xs 9 = xs[9]? := atI_ofNat xs 9
@[simp] theorem atI_zero {α : Type} (xs : List α) : atI xs 0 = xs[0]? := atI_ofNat xs 0
@[simp] theorem atI_one {α : Type} (xs : List α) : atI xs 1 = xs[1]? := atI_ofNat xs 1
theorem atI_neg {α : Type} (xs : List α) (i : Nat) (h : 0 < i) (h2 : i ≤ xs.length) : atI xs (-(i : Int)) = xs[xs.length - i]? := by
  unfold atI ixN
  rw [if_neg (by omega), if_pos (by omega)]
  show xs[_]? = _
  congr 1; omega
@[simp] theorem kIx_tup (ds : List D) (i : Int) : kIx (.tup ds) (.int i) M = R.of (atI ds i) M := nd rfl
@[simp] theorem kIx_lst (ds : List D) (i : Int) : kIx (.lst ds) (.int i) M = R.of (atI ds i) M := nd rfl
@[simp] theorem kIx_bor (ds : List D) (i : Int) : kIx (.bor ds) (.int i) M = R.of (atI ds i) M := nd rfl
theorem kIx_ref {n : Nat} {ds : List D} (i : Int) (h : M[n]? = some (.lst ds)) : kIx (.ref n) (.int i) M = R.of (atI ds i) M := by
  unfold kIx ixD sqD lsD lx; simp [h]
theorem kIx_scr (ns : List Int) (i : Int) : kIx (.scr ns) (.int i) M = R.of (atI (ns.map D.int) i) M := nd rfl
@[simp] theorem kLen_tup (ds : List D) : kLen (.tup ds) M = .ok (.int ds.length) M := nd rfl
@[simp] theorem kLen_lst (ds : List D) : kLen (.lst ds) M = .ok (.int ds.length) M := nd rfl
@[simp] theorem kLen_bor (ds : List D) : kLen (.bor ds) M = .ok (.int ds.length) M := nd rfl
@[simp] theorem kLen_scr (ds : List Int) : kLen (.scr ds) M = .ok (.int ds.length) M := by simp [kLen, sqD, lsD]
theorem kLen_ref {n : Nat} {ds : List D} (h : M[n]? = some (.lst ds)) : kLen (.ref n) M = .ok (.int ds.length) M := by
  unfold kLen sqD lsD lx; simp [h]
@[simp] theorem kAll_bls (bs : List Bool) : kAll (.lst (bs.map D.bl)) M = .ok (.bl (bs.all id)) M := by simp [kAll, lsB, lsD, lx]
@[simp] theorem kAny_bls (bs : List Bool) : kAny (.lst (bs.map D.bl)) M = .ok (.bl (bs.any id)) M := by simp [kAny, lsB, lsD, lx]
theorem kAll_map {α : Type} (xs : List α) (g : α → Bool) : kAll (.lst (xs.map fun x => .bl (g x))) M = .ok (.bl (xs.all g)) M := by
  rw [show (xs.map fun x => D.bl (g x)) = (xs.map g).map D.bl by simp, kAll_bls, List.all_map]; rfl
theorem kAny_map {α : Type} (xs : List α) (g : α → Bool) : kAny (.lst (xs.map fun x => .bl (g x))) M = .ok (.bl (xs.any g)) M := by
  rw [show (xs.map fun x => D.bl (g x)) = (xs.map g).map D.bl by simp, kAny_bls, List.any_map]; rfl
theorem kSum_map {α : Type} (xs : List α) (g : α → Int) : kSum (.lst (xs.map fun x => .int (g x))) M = .ok (.int (xs.map g).sum) M := by
  rw [show (xs.map fun x => D.int (g x)) = (xs.map g).map D.int by simp]; simp only [kSum, lsI, lsD, lx, Option.bind_some, intsD_map, Option.map_some, R.of_some]
@[simp] theorem kIt_tup (ds : List D) : kIt (.tup ds) M = .ok ds M := nd rfl
@[simp] theorem kIt_lst (ds : List D) : kIt (.lst ds) M = .ok ds M := nd rfl
@[simp] theorem kIt_bor (ds : List D) : kIt (.bor ds) M = .ok ds M := nd rfl
theorem rgF_nat (n : Nat) : rgF 0 n = (List.range n).map fun i => D.int (i : Nat) := by simp [rgF]
theorem kRg1_nat (n : Nat) (h : n < 2 ^ 62) : kRg1 [.int (n : Int)] M = .ok ((List.range n).map fun i => D.int (i : Nat)) M := by
  unfold kRg1
  dsimp only
  rw [if_pos ⟨by omega, by omega⟩, Int.toNat_natCast, rgF_nat]
@[simp] theorem kTuple_lst (ds : List D) : kTuple (.lst ds) M = .ok (.tup ds) M := nd rfl
@[simp] theorem kTuple_bor (ds : List D) : kTuple (.bor ds) M = .ok (.tup ds) M := nd rfl
theorem kTuple_ref {n : Nat} {ds : List D} (h : M[n]? = some (.lst ds)) : kTuple (.ref n) M = .ok (.tup ds) M := by
  unfold kTuple lsD lx; simp [h]
theorem kSorted_lst (ns : List Int) : kSorted (.lst (ns.map D.int)) M = .ok (.lst ((sortI ns).map D.int)) M := by simp [kSorted, lsI, lsD, lx]
theorem kSorted_ref {n : Nat} {ns : List Int} (h : M[n]? = some (.lst (ns.map D.int))) : kSorted (.ref n) M = .ok (.lst ((sortI ns).map D.int)) M := by simp [kSorted, lsI, lsD, lx, h]
theorem kAppend_ref {n : Nat} {ds : List D} {d : D} (h : M[n]? = some (.lst ds)) (hl : ds.length < 16777216) : kAppend (.ref n) [d] M = .ok .non (M.set n (.lst (ds ++ [d]))) := by
  unfold kAppend ownL; simp [h, hl]
theorem lsD_ref {n : Nat} {ds : List D} (h : M[n]? = some (.lst ds)) : lsD M (.ref n) = some ds := by unfold lsD lx; simp [h]
theorem kImp_ok {q : Shp} {m : List D → Mem → R D} {ds es : List D} (h : ds.length = q.n ∧ es.length = q.ks.length) : kImp q m ds es M = m (q.g ds es) M := if_pos h
theorem kPur_ok {q : Shp} {m : List D → Mem → R D} {ds es : List D} (h : ds.length = q.n ∧ es.length = q.ks.length) : kPur q m ds es M = kPure m (q.g ds es) M := if_pos h
@[simp] theorem kImp_N {n : Nat} {m : List D → Mem → R D} {ds : List D} (h : ds.length = n) : kImp (shN n) m ds [] M = m ds M := if_pos ⟨h, rfl⟩
@[simp] theorem kPur_N {n : Nat} {m : List D → Mem → R D} {ds : List D} (h : ds.length = n) : kPur (shN n) m ds [] M = kPure m ds M := if_pos ⟨h, rfl⟩
@[simp] theorem kImp_K {n : Nat} {ks : List Str} {m : List D → Mem → R D} {ds es : List D} (h : ds.length = n) (h2 : es.length = ks.length) : kImp (shK n ks) m ds es M = m (ds ++ es) M := if_pos ⟨h, h2⟩
@[simp] theorem kPur_K {n : Nat} {ks : List Str} {m : List D → Mem → R D} {ds es : List D} (h : ds.length = n) (h2 : es.length = ks.length) : kPur (shK n ks) m ds es M = kPure m (ds ++ es) M := if_pos ⟨h, h2⟩
def mkK (n : Nat) (r : R D) : R D := match r with
  | .ok .non M' => .ok (.ref n) M'
  | .exc C as M' => .exc C as M'
  | _ => .stuck
@[simp] theorem mkK_non (n : Nat) (M' : Mem) : mkK n (.ok .non M') = .ok (.ref n) M' := nd rfl
@[simp] theorem mkK_exc (n : Nat) (C : Str) (as : List (Str × D)) (M' : Mem) : mkK n (.exc C as M') = .exc C as M' := nd rfl
theorem kMake_eq {C : Str} {q : Shp} {m : List D → Mem → R D} {ds es : List D} (h : ds.length + 1 = q.n ∧ es.length = q.ks.length) : kMake C q m ds es M = mkK M.length (m (q.g (.ref M.length :: ds) es) (M ++ [.ins C []])) := by
  unfold kMake
  rw [if_pos h]
  rcases m (q.g (.ref M.length :: ds) es) (M ++ [.ins C []]) with ⟨d, M'⟩ | ⟨C', as, M'⟩ | _
  · cases d <;> rfl
  · rfl
  · rfl
@[simp] theorem kMake_N {C : Str} {n : Nat} {m : List D → Mem → R D} {ds : List D} (h : ds.length + 1 = n) : kMake C (shN n) m ds [] M = mkK M.length (m (.ref M.length :: ds) (M ++ [.ins C []])) := kMake_eq ⟨h, rfl⟩
@[simp] theorem kMake_K {C : Str} {n : Nat} {ks : List Str} {m : List D → Mem → R D} {ds es : List D} (h : ds.length + 1 = n) (h2 : es.length = ks.length) : kMake C (shK n ks) m ds es M = mkK M.length (m ((.ref M.length :: ds) ++ es) (M ++ [.ins C []])) := kMake_eq ⟨h, h2⟩
theorem pure_ok {m : List D → Mem → R D} {ds es : List D} {d : D} (h1 : ds.mapM (D.fz M 8) = some es) (h2 : m es [] = .ok d []) (h3 : d.blw 0 = true) : kPure m ds M = .ok d M := by
  unfold kPure; rw [h1]; simp [h2, h3]
theorem pure_exc {m : List D → Mem → R D} {ds es : List D} {C : Str} {as : List (Str × D)} (h1 : ds.mapM (D.fz M 8) = some es) (h2 : m es [] = .exc C as []) (h3 : D.blwf 0 as = true) : kPure m ds M = .exc C as M := by
  unfold kPure; rw [h1]; simp [h2, h3]
@[simp] theorem kIsi_int_int (i : Int) : kIsi (.int i) (.ty "int") M = .ok (.bl true) M := nd rfl
@[simp] theorem kIsi_int_bool (i : Int) : kIsi (.int i) (.ty "bool") M = .ok (.bl false) M := nd rfl
@[simp] theorem kIsi_int_tuple (i : Int) : kIsi (.int i) (.ty "tuple") M = .ok (.bl false) M := nd rfl
@[simp] theorem kIsi_int_str (i : Int) : kIsi (.int i) (.ty "str") M = .ok (.bl false) M := nd rfl
@[simp] theorem kIsi_tup_tuple (ds : List D) : kIsi (.tup ds) (.ty "tuple") M = .ok (.bl true) M := nd rfl
@[simp] theorem kIsi_tup_int (ds : List D) : kIsi (.tup ds) (.ty "int") M = .ok (.bl false) M := nd rfl
@[simp] theorem kIsi_tup_str (ds : List D) : kIsi (.tup ds) (.ty "str") M = .ok (.bl false) M := nd rfl
@[simp] theorem kIsi_str_str (x : Str) : kIsi (.str x) (.ty "str") M = .ok (.bl true) M := nd rfl
@[simp] theorem kIsi_str_tuple (x : Str) : kIsi (.str x) (.ty "tuple") M = .ok (.bl false) M := nd rfl
@[simp] theorem kIsi_str_int (x : Str) : kIsi (.str x) (.ty "int") M = .ok (.bl false) M := nd rfl
@[simp] theorem kIsi2_lst (ds : List D) : kIsi2 "list" "tuple" (.lst ds) M = .ok (.bl true) M := nd rfl
@[simp] theorem kIsi2_bor (ds : List D) : kIsi2 "list" "tuple" (.bor ds) M = .ok (.bl true) M := nd rfl
@[simp] theorem kIsi2_tup (ds : List D) : kIsi2 "list" "tuple" (.tup ds) M = .ok (.bl true) M := nd rfl
/-! trimming -/
theorem cutD_blw {n f : Nat} {M' : Mem} {d : D} (h : d.blw n = true) : cutD n M' (f + 1) d = some d := by unfold cutD; rw [if_pos h]
/-- nothing new: nothing to trim -/
theorem trimR_same {n : Nat} {d : D} {M' : Mem} (h : M'.length = n) (hd : d.blw n = true) : trimR n (.ok d M') = .ok d M' := by
  unfold trimR
  dsimp only
  rw [cutD_blw hd, List.take_of_length_le (Nat.le_of_eq h)]
  split <;> rfl
theorem trimR_to {n : Nat} {d d' : D} {M' M'' : Mem} (h : M'.length = n) (hd : d.blw n = true) (e : d = d') (e2 : M' = M'') : trimR n (.ok d M') = .ok d' M'' := by
  subst e e2; exact trimR_same h hd
theorem trimR_sameX {n : Nat} {C : Str} {as : List (Str × D)} {M' : Mem} (h : M'.length = n) : trimR n (.exc C as M') = .exc C as M' := by
  unfold trimR
  dsimp only
  rw [List.take_of_length_le (Nat.le_of_eq h)]
  split <;> rfl
@[simp] theorem trim_bl {b : Bool} : trimR 0 (.ok (.bl b) []) = .ok (.bl b) [] := trimR_same rfl rfl
@[simp] theorem trim_int {b : Int} : trimR 0 (.ok (.int b) []) = .ok (.int b) [] := trimR_same rfl rfl
@[simp] theorem trim_str {b : Str} : trimR 0 (.ok (.str b) []) = .ok (.str b) [] := trimR_same rfl rfl
@[simp] theorem trim_non : trimR 0 (.ok .non []) = .ok .non [] := trimR_same rfl rfl
theorem trimR_ok {n : Nat} {d d' : D} {M' : Mem} (h : (M'.take n).all (MO.blw n) = true) (h2 : cutD n M' 8 d = some d') : trimR n (.ok d M') = .ok d' (M'.take n) := by
  unfold trimR; simp only; rw [if_pos h, h2]
theorem trimR_exc {n : Nat} {C : Str} {as : List (Str × D)} {M' : Mem} (h : (M'.take n).all (MO.blw n) = true) (h2 : D.blwf n as = true) : trimR n (.exc C as M') = .exc C as (M'.take n) := by
  unfold trimR; simp only; rw [if_pos (by simp [h, h2])]
theorem trim0 {d d' : D} {M' : Mem} (h2 : cutD 0 M' 8 d = some d') : trimR 0 (.ok d M') = .ok d' [] := trimR_ok (n := 0) (by simp) h2
theorem trim0b {d : D} {M' : Mem} (h : d.blw 0 = true) : trimR 0 (.ok d M') = .ok d [] := trim0 (by unfold cutD; rw [if_pos h])
@[simp] theorem blws_map {α : Type} (n : Nat) (xs : List α) (e : α → D) : D.blws n (xs.map e) = xs.all fun x => D.blw n (e x) := by
  induction xs with
  | nil => rfl
  | cons x xs ih => simp [D.blws, ih]
@[simp] theorem blws_app (n : Nat) (xs ys : List D) : D.blws n (xs ++ ys) = (D.blws n xs && D.blws n ys) := by
  induction xs with
  | nil => simp [D.blws]
  | cons x xs ih => simp [D.blws, ih, Bool.and_assoc]
@[simp] theorem blws_rev (n : Nat) (xs : List D) : D.blws n xs.reverse = D.blws n xs := by
  induction xs with
  | nil => rfl
  | cons x xs ih => simp [D.blws, ih, Bool.and_comm]
theorem zpF_map {α β : Type} (xs : List α) (ys : List β) (e : α → D) (f : β → D) : zpF (xs.map e) (ys.map f) = (xs.zip ys).map fun p => D.tup [e p.1, f p.2] := by
  unfold zpF
  rw [List.zip_map, List.map_map]; rfl
theorem kZp_lst (xs ys : List D) : kZp [.lst xs, .lst ys] M = .ok (zpF xs ys) M := nd rfl
theorem kZp_tup (xs ys : List D) : kZp [.tup xs, .tup ys] M = .ok (zpF xs ys) M := nd rfl
theorem mapM_some {α β : Type} {f : α → Option β} {g : α → β} : ∀ {xs : List α}, (∀ x ∈ xs, f x = some (g x)) → xs.mapM f = some (xs.map g)
  | [], _ => rfl
  | x :: xs, h => by
    rw [List.mapM_cons, h x (.head _), mapM_some fun y hy => h y (.tail _ hy)]; rfl
theorem cutD_ref {n f i : Nat} {M' : Mem} {ds : List D} (hi : n ≤ i) (h : M'[i]? = some (.lst ds)) (hb : D.blws n ds = true) : cutD n M' (f + 2) (.ref i) = some (.lst ds) := by
  unfold cutD
  rw [if_neg (by simp [D.blw]; omega)]
  simp only [h]
  rw [mapM_some (g := id), List.map_id]; rfl
  intro d hd
  have : D.blw n d = true := by
    clear h
    induction ds with
    | nil => cases hd
    | cons x xs ih =>
      rw [D.blws, Bool.and_eq_true] at hb
      rcases List.mem_cons.mp hd with rfl | hd
      · exact hb.1
      · exact ih hb.2 hd
  unfold cutD
  rw [if_pos this]; rfl
theorem trim_ref {i : Nat} {M' : Mem} {ds : List D} (h : M'[i]? = some (.lst ds)) (hb : D.blws 0 ds = true) : trimR 0 (.ok (.ref i) M') = .ok (.lst ds) [] := trim0 (cutD_ref (Nat.zero_le _) h hb)
theorem trim_refn {n i : Nat} {M' : Mem} {ds : List D} (hm : (M'.take n).all (MO.blw n) = true) (hi : n ≤ i) (h : M'[i]? = some (.lst ds)) (hb : D.blws n ds = true) : trimR n (.ok (.ref i) M') = .ok (.lst ds) (M'.take n) := trimR_ok hm (cutD_ref hi h hb)
theorem trim_blw {n : Nat} {d : D} {M' : Mem} (hm : (M'.take n).all (MO.blw n) = true) (hb : d.blw n = true) : trimR n (.ok d M') = .ok d (M'.take n) := trimR_ok hm (cutD_blw hb)
theorem blws_all (n : Nat) (xs : List D) : D.blws n xs = xs.all (D.blw n) := by
  induction xs with
  | nil => rfl
  | cons x xs ih => simp [D.blws, ih]
/-! things of the store, by what is looked up -/
def lstO (o : Option MO) : Option (List D) := match o with
  | some (.lst ds) => some ds
  | _ => none
@[simp] theorem lstO_lst (ds : List D) : lstO (some (.lst ds)) = some ds := nd rfl
theorem lx_ref' (n : Nat) : lx M (.ref n) = lstO M[n]? := nd rfl
@[simp] theorem lsD_ref' (n : Nat) : lsD M (.ref n) = lstO M[n]? := nd rfl
@[simp] theorem lsD_lst (ds : List D) : lsD M (.lst ds) = some ds := nd rfl
@[simp] theorem lsD_bor (ds : List D) : lsD M (.bor ds) = some ds := nd rfl
@[simp] theorem kLen_ref' (n : Nat) : kLen (.ref n) M = R.of ((lstO M[n]?).map fun ds => .int ds.length) M := by
  unfold kLen sqD; rw [lsD_ref']
  cases lstO M[n]? <;> rfl
@[simp] theorem kTuple_ref' (n : Nat) : kTuple (.ref n) M = R.of ((lstO M[n]?).map .tup) M := by
  unfold kTuple; rw [lsD_ref']
  cases lstO M[n]? <;> rfl
@[simp] theorem kRev_ref' (n : Nat) : kRev (.ref n) M = R.of ((lstO M[n]?).map fun ds => .lst ds.reverse) M := by
  unfold kRev; rw [lsD_ref']
  cases lstO M[n]? <;> rfl
@[simp] theorem kListO_ref' (n : Nat) : kListO (.ref n) M = (R.of (lstO M[n]?) M).bnd fun ds M => .ok (.ref M.length) (M ++ [.lst ds]) := by
  unfold kListO sqD; rw [lsD_ref']
  cases lstO M[n]? <;> rfl
@[simp] theorem kSorted_ref' (n : Nat) : kSorted (.ref n) M = (R.of (lstO M[n]?) M).bnd fun ds M => kSorted (.lst ds) M := by
  unfold kSorted lsI; rw [lsD_ref']
  cases lstO M[n]? <;> rfl
@[simp] theorem kSl_lst (ds : List D) (lo hi : Option Int) : kSl (.lst ds) lo hi M = .ok (.lst (cutD' ds lo hi)) M := nd rfl
@[simp] theorem kSl_tup (ds : List D) (lo hi : Option Int) : kSl (.tup ds) lo hi M = .ok (.tup (cutD' ds lo hi)) M := nd rfl
@[simp] theorem cutD_tail (ds : List D) : cutD' ds (some 1) none = ds.tail := by
  unfold cutD'
  have e : HT.sIx ds.length 0 (some 1) = min 1 ds.length := HT.sIx_nat ds.length 0 1
  rw [e, HT.sIx_none]
  cases ds with
  | nil => rfl
  | cons d ds =>
    rw [Nat.min_eq_left (by simp)]
    simp
@[simp] theorem kAdd_lst (a b : List D) : kAdd (.lst a) (.lst b) M = if a.length + b.length ≤ 16777216 then .ok (.lst (a ++ b)) M else .stuck := nd rfl
@[simp] theorem kAdd_refl (n : Nat) (b : List D) : kAdd (.ref n) (.lst b) M = (R.of (lstO M[n]?) M).bnd fun a M => if a.length + b.length ≤ 16777216 then .ok (.lst (a ++ b)) M else .stuck := by
  show kCat M (lx M (.ref n)) (some b) = _
  rw [lx_ref']
  cases lstO M[n]? <;> rfl
@[simp] theorem kAppend_ref' (n : Nat) (d : D) : kAppend (.ref n) [d] M = (R.of (lstO M[n]?) M).bnd fun ds M => if ds.length < 16777216 then .ok .non (M.set n (.lst (ds ++ [d]))) else .stuck := by
  unfold kAppend ownL
  dsimp only
  cases M[n]? with
  | none => rfl
  | some o => cases o <;> rfl
@[simp] theorem kPop_ref' (n : Nat) : kPop (.ref n) [] M = (R.of (lstO M[n]?) M).bnd fun ds M => match ds[ds.length - 1]? with
    | some d => .ok d (M.set n (.lst ds.dropLast))
    | none => .stuck := by
  unfold kPop ownL
  dsimp only
  cases M[n]? with
  | none => rfl
  | some o => cases o <;> rfl
@[simp] theorem kExtend_lst (n : Nat) (es : List D) : kExtend (.ref n) [.lst es] M = (R.of (lstO M[n]?) M).bnd fun ds M => if ds.length + es.length ≤ 16777216 then .ok .non (M.set n (.lst (ds ++ es))) else .stuck := by
  unfold kExtend ownL
  dsimp only
  cases M[n]? with
  | none => rfl
  | some o => cases o <;> rfl
def ixO (o : Option MO) (y : D) : Option D := match o with
  | some (.lst ds) => (match y with
    | .int i => atI ds i
    | _ => none)
  | some (.dk kvs) => (keyD y).bind fun k => valD kvs k
  | _ => none
@[simp] theorem ixO_lst (ds : List D) (i : Int) : ixO (some (.lst ds)) (.int i) = atI ds i := nd rfl
@[simp] theorem ixO_dk (ds : List (Key × D)) (y : D) : ixO (some (.dk ds)) y = (keyD y).bind fun k => valD ds k := nd rfl
@[simp] theorem kIx_ref' (n : Nat) (y : D) : kIx (.ref n) y M = R.of (ixO M[n]? y) M := by
  unfold kIx ixD sqD; rw [lsD_ref']
  unfold dkD
  dsimp only
  cases M[n]? with
  | none => rfl
  | some o => cases o <;> first | rfl | (simp only [ixO, lstO, tpD]; cases y <;> rfl)
@[simp] theorem atI_m2 {α : Type} (xs : List α) (c d : α) : atI (xs ++ [c, d]) (-2) = some c := by
  rw [show (-2 : Int) = -((2 : Nat) : Int) by rfl, atI_neg _ _ (by omega) (by simp)]
  simp
@[simp] theorem atI_m1 {α : Type} (xs : List α) (d : α) : atI (xs ++ [d]) (-1) = some d := by
  rw [show (-1 : Int) = -((1 : Nat) : Int) by rfl, atI_neg _ _ (by omega) (by simp)]
  simp
/-! membership among ints -/
theorem flat_map {α : Type} (xs : List α) (e : α → D) (h : ∀ x, (e x).flat = true) : (xs.map e).all D.flat = true := by simp [h]
theorem kIn_sq {x y : D} {ds : List D} (h : lsD M y = some ds ∧ dkD M y = none) (hx : x.flat = true) (hy : ds.all D.flat = true) : kIn x y M = .ok (.bl (ds.any fun z => eqF z x)) M := by
  unfold kIn inD; rw [h.2, h.1]; simp only [hx, hy, Bool.and_self, if_true]; rfl
theorem kNotIn_sq {x y : D} {ds : List D} (h : lsD M y = some ds ∧ dkD M y = none) (hx : x.flat = true) (hy : ds.all D.flat = true) : kNotIn x y M = .ok (.bl (!ds.any fun z => eqF z x)) M := by
  unfold kNotIn inD; rw [h.2, h.1]; simp only [hx, hy, Bool.and_self, if_true]; rfl
theorem eqF_any (ns : List Nat) (i : Nat) : ((ns.map fun n : Nat => D.int n).any fun z => eqF z (.int i)) = ns.contains i := by
  rw [List.any_map, List.contains_eq_any_beq]
  congr 1; funext n
  show ((n : Int) == (i : Int)) = (i == n)
  by_cases h : n = i
  · simp [h]
  · rw [beq_eq_false_iff_ne.mpr (show (n : Int) ≠ i by omega), beq_eq_false_iff_ne.mpr (show i ≠ n by omega)]
theorem dkD_ref {n : Nat} {ds : List D} (h : M[n]? = some (.lst ds)) : dkD M (.ref n) = none := by unfold dkD; simp [h]
theorem kIn_ref {n : Nat} {ns : List Nat} (i : Nat) (h : M[n]? = some (.lst (ns.map fun n : Nat => D.int n))) : kIn (.int i) (.ref n) M = .ok (.bl (ns.contains i)) M := by
  rw [kIn_sq ⟨by simp [h]; rfl, dkD_ref h⟩ rfl (flat_map _ _ fun _ => rfl), eqF_any]
theorem kNotIn_ref {n : Nat} {ns : List Nat} (i : Nat) (h : M[n]? = some (.lst (ns.map fun n : Nat => D.int n))) : kNotIn (.int i) (.ref n) M = .ok (.bl !(ns.contains i)) M := by
  rw [kNotIn_sq ⟨by simp [h]; rfl, dkD_ref h⟩ rfl (flat_map _ _ fun _ => rfl), eqF_any]
@[simp] theorem kIn_lst {ns : List Nat} (i : Nat) : kIn (.int i) (.lst (ns.map fun n : Nat => D.int n)) M = .ok (.bl (ns.contains i)) M := by
  rw [kIn_sq ⟨rfl, rfl⟩ rfl (flat_map _ _ fun _ => rfl), eqF_any]
@[simp] theorem kNotIn_lst {ns : List Nat} (i : Nat) : kNotIn (.int i) (.lst (ns.map fun n : Nat => D.int n)) M = .ok (.bl !(ns.contains i)) M := by
  rw [kNotIn_sq ⟨rfl, rfl⟩ rfl (flat_map _ _ fun _ => rfl), eqF_any]
@[simp] theorem kIn_bor {ns : List Nat} (i : Nat) : kIn (.int i) (.bor (ns.map fun n : Nat => D.int n)) M = .ok (.bl (ns.contains i)) M := by
  rw [kIn_sq ⟨rfl, rfl⟩ rfl (flat_map _ _ fun _ => rfl), eqF_any]
@[simp] theorem kNotIn_bor {ns : List Nat} (i : Nat) : kNotIn (.int i) (.bor (ns.map fun n : Nat => D.int n)) M = .ok (.bl !(ns.contains i)) M := by
  rw [kNotIn_sq ⟨rfl, rfl⟩ rfl (flat_map _ _ fun _ => rfl), eqF_any]
@[simp] theorem kIn_tup (x : D) (ds : List D) (hx : x.flat = true) (h : ds.all D.flat = true) : kIn x (.tup ds) M = .ok (.bl (ds.any fun z => eqF z x)) M := by
  show R.of ((if _ then _ else _ : Option Bool).map D.bl) M = _
  rw [if_pos (by simp only [hx, h, Bool.and_self])]; rfl
@[simp] theorem eqF_str (a b : Str) : eqF (.str a) (.str b) = decide (a = b) := by
  show (a == b) = _
  by_cases h : a = b <;> simp [h]
@[simp] theorem flat_str (a : Str) : (D.str a).flat = true := nd rfl
@[simp] theorem flat_int (a : Int) : (D.int a).flat = true := nd rfl
/-! dicts by ints -/
@[simp] theorem keyD_int (i : Int) : keyD (.int i) = some (.inl i) := nd rfl
@[simp] theorem keyD_str (i : Str) : keyD (.str i) = some (.inr i) := nd rfl
@[simp] theorem kIx_fdk (kvs : List (Key × D)) (y : D) : kIx (.fdk kvs) y M = R.of ((keyD y).bind fun k => valD kvs k) M := nd rfl
@[simp] theorem kIn_fdk (kvs : List (Key × D)) (y : D) : kIn y (.fdk kvs) M = R.of (((keyD y).map fun k => (valD kvs k).isSome).map D.bl) M := nd rfl
@[simp] theorem kNotIn_fdk (kvs : List (Key × D)) (y : D) : kNotIn y (.fdk kvs) M = R.of (((keyD y).map fun k => (valD kvs k).isSome).map fun k => D.bl !k) M := nd rfl
@[simp] theorem kKeys_fdk (kvs : List (Key × D)) : kKeys (.fdk kvs) M = .ok (kvs.map fun kv => keyV kv.1) M := nd rfl
theorem kLockO_ref {n : Nat} {kvs : List (Key × D)} (h : M[n]? = some (.dk kvs)) : kLockO (.ref n) M = .ok (.fdk kvs) (M.set n .gone) := by
  unfold kLockO; simp [h]
theorem kPut_dk {n : Nat} {kvs : List (Key × D)} {i : Int} {v : D} (h : M[n]? = some (.dk kvs)) (hl : kvs.length < 16777216) (hn : ∀ kv ∈ kvs, kv.1 ≠ .inl i) : kPut (.ref n) (.int i) v M = some (M.set n (.dk (kvs ++ [(.inl i, v)]))) := by
  unfold kPut putD
  have : (kvs.any fun kv => decide (kv.1 = (.inl i : Key))) = false := by
    rw [List.any_eq_false]; intro kv hkv; simpa using hn kv hkv
  simp only [h, keyD_int, Option.bind_some, hl, if_true, this]
  rfl
theorem valD_map {α : Type} (xs : List α) (k : α → Key) (v : α → D) (y : Key) : valD (xs.map fun x => (k x, v x)) y = (xs.find? fun x => decide (k x = y)).map v := by
  unfold valD
  rw [List.find?_map, Option.map_map]; rfl
/-! fields -/
@[simp] theorem isIns_ref (n : Nat) (C m : Str) : isIns M (.ref n) C m = (match M[n]? with
    | some (.ins C' fs) => C' == C && (fs.lookup m).isNone
    | _ => false) := nd rfl
@[simp] theorem fldOf_ref (n : Nat) (C f : Str) : fldOf M (.ref n) C f = (match M[n]? with
    | some (.ins C' fs) => if C' = C then fs.lookup f else none
    | _ => none) := nd rfl
@[simp] theorem insAt_ref (n : Nat) (C : Str) : insAt M (.ref n) C = (match M[n]? with
    | some (.ins C' fs) => if C' = C then some (n, fs) else none
    | _ => none) := nd rfl
end kk
/-! ### comprehensions, loops -/
theorem compL_filter {α : Type} (own : List Nat) (t : Tgt) (tt : FT) (f : FE) (env : DEnv) (e : α → D) (p : α → Bool) (g : α → D) (M : Mem) : ∀ (xs : List α),
    (∀ x ∈ xs, ∃ env1, t.bind (e x) (wipeD env own) = some env1 ∧ tt env1 M = .ok (p x) M ∧ (p x = true → f env1 M = .ok (g x) M)) → compL own t tt f env (xs.map e) M = .ok ((xs.filter p).map g) M
  | [], _ => rfl
  | x :: xs, h => by
    obtain ⟨env1, h1, h2, h3⟩ := h x (.head _)
    have ih := compL_filter own t tt f env e p g M xs fun y hy => h y (.tail _ hy)
    rw [List.map_cons]
    unfold compL
    rw [h1]
    simp only [h2]
    cases hp : p x with
    | false => simp only [ih, List.filter_cons, hp]; rfl
    | true => simp only [h3 hp, ih, List.filter_cons, hp]; rfl
theorem compL_map {α : Type} (own : List Nat) (t : Tgt) (tt : FT) (f : FE) (env : DEnv) (e : α → D) (g : α → D) (M : Mem) (xs : List α)
    (h : ∀ x ∈ xs, ∃ env1, t.bind (e x) (wipeD env own) = some env1 ∧ tt env1 M = .ok true M ∧ f env1 M = .ok (g x) M) : compL own t tt f env (xs.map e) M = .ok (xs.map g) M := by
  rw [compL_filter own t tt f env e (fun _ => true) g M xs fun x hx => by obtain ⟨env1, a, b, c⟩ := h x hx; exact ⟨env1, a, b, fun _ => c⟩]
  rw [List.filter_eq_self.mpr (by simp)]
/-- a comprehension whose parts change the store -/
theorem compL_inv {α : Type} {own : List Nat} {t : Tgt} {tt : FT} {f : FE} {env : DEnv} {e : α → D} {g : α → D} (I : List α → Mem → Prop) : ∀ (ys pre : List α) (M : Mem), I pre M →
    (∀ q x post M, pre ++ ys = q ++ x :: post → I q M → ∃ env1, t.bind (e x) (wipeD env own) = some env1 ∧ tt env1 M = .ok true M ∧ ∃ M2, f env1 M = .ok (g x) M2 ∧ I (q ++ [x]) M2) →
    ∃ M', compL own t tt f env (ys.map e) M = .ok (ys.map g) M' ∧ I (pre ++ ys) M'
  | [], pre, M, h0, _ => ⟨M, rfl, by simpa using h0⟩
  | y :: ys, pre, M, h0, hs => by
    obtain ⟨env1, h1, h2, M2, h3, h4⟩ := hs pre y ys M rfl h0
    obtain ⟨M3, h5, h6⟩ := compL_inv I ys (pre ++ [y]) M2 h4 fun q x post M e => hs q x post M (by simpa using e)
    refine ⟨M3, ?_, by simpa using h6⟩
    rw [List.map_cons]
    unfold compL
    rw [h1]
    simp only [h2, h3, h5]
    rfl
/-- a step of a loop goes on, to a state of which P -/
def RS.goes (r : RS) (P : DEnv → Mem → Prop) (_ : Fix P := ⟨⟩) : Prop := match r with
  | .next e M => P e M
  | .cont e M => P e M
  | _ => False
@[simp] theorem RS.goes_next {env : DEnv} {M : Mem} {P : DEnv → Mem → Prop} {u : Fix P} : RS.goes (.next env M) P u = P env M := nd rfl
@[simp] theorem RS.goes_cont {env : DEnv} {M : Mem} {P : DEnv → Mem → Prop} {u : Fix P} : RS.goes (.cont env M) P u = P env M := nd rfl
/-- a loop that goes through, by an invariant by places -/
theorem for_ix {α : Type} {t : Tgt} {b : FS} {e : α → D} {xs : List α} {env : DEnv} {M : Mem} (I : Nat → DEnv → Mem → Prop) (h0 : I 0 env M)
    (hs : ∀ i (h : i < xs.length) env M, I i env M → ∃ env1, t.bind (e xs[i]) env = some env1 ∧ RS.goes (b env1 M) (I (i + 1))) :
    ∃ env2 M2, sFor t b (xs.map e) env M = .next env2 M2 ∧ I xs.length env2 M2 := by
  suffices h : ∀ (ys : List α) (i : Nat) (env : DEnv) (M : Mem), xs.drop i = ys → I i env M → ∃ env2 M2, sFor t b (ys.map e) env M = .next env2 M2 ∧ I (i + ys.length) env2 M2 by
    simpa using h xs 0 env M (by simp) h0
  intro ys
  induction ys with
  | nil => exact fun i env M _ h => ⟨env, M, rfl, h⟩
  | cons y ys ih =>
    intro i env M hd h
    have hi : i < xs.length := by
      rcases Nat.lt_or_ge i xs.length with q | q
      · exact q
      · rw [List.drop_eq_nil_of_le q] at hd; cases hd
    rw [List.drop_eq_getElem_cons hi] at hd
    obtain ⟨hy, hd2⟩ := List.cons.inj hd
    subst hy
    obtain ⟨env1, h1, h2⟩ := hs i hi env M h
    have key : ∀ env2 M2, I (i + 1) env2 M2 → ∃ env3 M3, sFor t b (ys.map e) env2 M2 = .next env3 M3 ∧ I (i + (xs[i] :: ys).length) env3 M3 := fun env2 M2 h3 => by
      obtain ⟨env3, M3, e3, h4⟩ := ih (i + 1) env2 M2 hd2 h3
      exact ⟨env3, M3, e3, by rw [List.length_cons]; rwa [Nat.add_assoc, Nat.add_comm 1] at h4⟩
    rw [List.map_cons]
    unfold sFor
    rw [h1]
    simp only
    cases hb : b env1 M with
    | next env2 M2 => rw [hb] at h2; exact key _ _ h2
    | cont env2 M2 => rw [hb] at h2; exact key _ _ h2
    | ret d M2 => rw [hb] at h2; exact h2.elim
    | brk d M2 => rw [hb] at h2; exact h2.elim
    | exc e C as M2 => rw [hb] at h2; exact h2.elim
    | stuck => rw [hb] at h2; exact h2.elim
/-- the same by what is done -/
theorem for_inv {α : Type} {t : Tgt} {b : FS} {e : α → D} {xs : List α} {env : DEnv} {M : Mem} (I : List α → DEnv → Mem → Prop) (h0 : I [] env M)
    (hs : ∀ pre x post env M, xs = pre ++ x :: post → I pre env M → ∃ env1, t.bind (e x) env = some env1 ∧ RS.goes (b env1 M) (I (pre ++ [x]))) :
    ∃ env2 M2, sFor t b (xs.map e) env M = .next env2 M2 ∧ I xs env2 M2 := by
  have h := for_ix (t := t) (b := b) (e := e) (xs := xs) (env := env) (M := M) (fun i => I (xs.take i)) (by simpa using h0) fun i hi env M h => by
    rw [List.take_succ_eq_append_getElem hi]
    exact hs _ _ (xs.drop (i + 1)) env M (by rw [← List.drop_eq_getElem_cons hi, List.take_append_drop]) h
  simpa using h
def RS.loop (r : RS) (k : FS) (_ : Fix k := ⟨⟩) : RS := match r with
  | .next e M => k e M
  | .cont e M => k e M
  | .brk e M => .next e M
  | r => r
@[simp] theorem RS.loop_next {env : DEnv} {M : Mem} {h : FS} {u : Fix h} : RS.loop (.next env M) h u = h env M := nd rfl
@[simp] theorem RS.loop_cont {env : DEnv} {M : Mem} {h : FS} {u : Fix h} : RS.loop (.cont env M) h u = h env M := nd rfl
@[simp] theorem RS.loop_brk {env : DEnv} {M : Mem} {h : FS} {u : Fix h} : RS.loop (.brk env M) h u = .next env M := nd rfl
@[simp] theorem RS.loop_ret {d : D} {M : Mem} {h : FS} {u : Fix h} : RS.loop (.ret d M) h u = .ret d M := nd rfl
theorem while_step {c : FT} {b : FS} {n : Nat} {env : DEnv} {M : Mem} : sWhile c b (n + 1) env M = RS.thn env (c env M) fun k M1 => if k = true then RS.loop (b env M1) (sWhile c b n) else .next env M1 := by
  show RS.then env (c env M) _ = RS.then env (c env M) _
  refine congrArg _ ?_
  funext k M1
  cases k
  · rfl
  · simp only [if_true]; cases b env M1 <;> rfl
def RS.bindK (o : Option DEnv) (k : DEnv → RS) (_ : Fix k := ⟨⟩) : RS := match o with
  | none => .stuck
  | some env1 => k env1
@[simp] theorem RS.bindK_some (env1 : DEnv) (k : DEnv → RS) (u : Fix k) : RS.bindK (some env1) k u = k env1 := nd rfl
theorem for_step {t : Tgt} {b : FS} {d : D} {ds : List D} {env : DEnv} {M : Mem} : sFor t b (d :: ds) env M = RS.bindK (t.bind d env) fun env1 => RS.loop (b env1 M) (sFor t b ds) := by
  show (match t.bind d env with | none => _ | some env1 => _) = _
  cases t.bind d env with
  | none => rfl
  | some env1 => simp only [RS.bindK_some]; cases b env1 M <;> rfl
@[simp] theorem for_nil {t : Tgt} {b : FS} {env : DEnv} {M : Mem} : sFor t b [] env M = .next env M := nd rfl
theorem while_go {c : FT} {b : FS} {n : Nat} {env env2 : DEnv} {M M1 M2 : Mem} (h : c env M = .ok true M1) (h2 : b env M1 = .next env2 M2) : sWhile c b (n + 1) env M = sWhile c b n env2 M2 := by
  show RS.then env (c env M) _ = _
  rw [h]; simp [h2]
theorem while_end {c : FT} {b : FS} {n : Nat} {env : DEnv} {M M1 : Mem} (h : c env M = .ok false M1) : sWhile c b (n + 1) env M = .next env M1 := by
  show RS.then env (c env M) _ = _
  rw [h]; simp
end DL

-- DlMore
set_option Elab.async false
set_option linter.all false
set_option maxRecDepth 100000
set_option maxHeartbeats 2000000
/-! DlMore: what the other laws need beside k86. -/
namespace DL
open PySem PySem.Spec PyProof.Rows L2
/-! ### gcd -/
def kGcd := kI fun i j => some (.int (Nat.gcd i.natAbs j.natAbs : Nat))
theorem two_gcd {g : G} : Two g (fun x y H Q => rGcd [x, y] H Q) kGcd := by
  intro E io env M s H v w a b Q S r1 r2 p
  unfold kGcd kI at p
  split at p
  · cases r1; cases r2
    exact ⟨_, _, rfl, PostE.here p S (.int _)⟩
  · exact p.elim
theorem kGcd_int (i j : Int) (M : Mem) : kGcd (.int i) (.int j) M = .ok (.int (Nat.gcd i.natAbs j.natAbs : Nat)) M := nd rfl
section
variable {g : G} {E : WX} {X : Cx} {k : Nat} {pos p : Pos} {e : Expr} {es : List Expr} {r : FA}
/-- a module's name for a built-in function -/
theorem d_bfun {x : Str} {id : String} {rr : List V → Hp → VK → Prop} {kk : List D → Mem → R D} (o : OkB g X) (hc : CallR X (.builtin id) rr) (hk : ArgsK g rr kk) (hg : Gl X x) (hm : g.mg x = some (.builtin id)) (ha : DA g E X (e :: es) r) (hdb : (x == ("__debug__" : Str)) = false := by decide)
    (he : starEach (e :: es) X.env = (false, eval e X.env) :: starEach es X.env := by rfl) (hpl : (backTo pos (starEach es X.env)).any (·.1) = false := by rfl) : DE g E X (.Call (.Name x p) (e :: es) [] pos) (fOf kk r) :=
  PE.weak (pe_callBfun hc hg (by rw [o.mg]; exact hm) ha hdb he hpl) fun s H Q ⟨env, io, M, S, z⟩ => trA_then S z fun ds M1 vs H1 io1 t1 S1 r1 p1 => hk E io1 env M1 s H1 vs ds Q S1 r1 p1
theorem x_gcd (o : Ok g E X k) (hm : g.mg "gcd" = some (.builtin "math.gcd")) (ha : DA g E X (e :: es) r) (hg : Gl X "gcd" := by rfl) (he : starEach (e :: es) X.env = (false, eval e X.env) :: starEach es X.env := by rfl) (hpl : (backTo pos (starEach es X.env)).any (·.1) = false := by rfl) : DE g E X (.Call (.Name "gcd" p) (e :: es) [] pos) (fOf (k2 kGcd) r) :=
  d_bfun o.toOkB cr_gcd (args2 two_gcd) hg hm ha (by decide) he hpl
/-- a module's tuple of ints -/
theorem x_gtup {x : Str} {a : Addr} {ns : List Int} (o : OkB g X) (hm : g.mg x = some (.ref a)) (ht : ∀ H : Hp, SqT g.K H a (ns.map V.int)) (hg : Gl X x := by rfl) (hd : (x == ("__debug__" : Str)) = false := by decide) : DE g E X (.Name x pos) (fC (.tup (ns.map D.int))) :=
  d_glob (v := .ref a) o hg hm rfl (fun c hc => .tup (by rw [hc]; exact ht c.H) (VRs.ofInts ns)) hd
end
/-! ### sorted of data that read alike -/
def rSortedDt (K : PySem.W.Frag) : List V → Hp → VK → Prop := fun vs H Q => ∃ (a : Addr) (bs : List (V × PyData)), vs = [V.ref a] ∧ SqL K H a (bs.map (·.1)) ∧ (∀ b ∈ bs, Dp K H b.1 b.2) ∧ PySem.W.AllAlike (bs.map (·.2)) ∧ PySem.W.Sortable (bs.map (·.2)) ∧ (∀ b ∈ bs, b.2.depth ≤ 60) ∧
  ∀ p, H p = none → Q (.ref p) (upd H p (.lst ((bs.mergeSort (PySem.W.dataLe false (·.2))).map (·.1))))
theorem each_of {X : Cx} {pins : List (Addr × Obj)} {s : Shared} {σ : L2.St} {H : Hp} (I : Inv X pins σ H s) : ∀ {bs : List (V × PyData)} {its : List Value}, (∀ b ∈ bs, Dp X.K H b.1 b.2) → Vals (bs.map (·.1)) its →
    PySem.W.EachIs (fun v (b : V × PyData) => RelV b.1 v) its bs ∧ PySem.W.EachIs (fun v (b : V × PyData) => ∃ as, Reads s.heap v b.2 as) its bs
  | [], _, _, .nil => ⟨.nil, .nil⟩
  | b :: bs, _ :: _, h, .cons r rs => by
    obtain ⟨h1, h2⟩ := each_of I (bs := bs) (fun c hc => h c (List.mem_cons_of_mem _ hc)) rs
    exact ⟨.cons r h1, .cons (Dp.reads I _ _ _ (h b List.mem_cons_self) r) h2⟩
theorem vals_of : ∀ {bs : List (V × PyData)} {its : List Value}, PySem.W.EachIs (fun v (b : V × PyData) => RelV b.1 v) its bs → Vals (bs.map (·.1)) its
  | [], _, .nil => .nil
  | _ :: _, _ :: _, .cons r rs => .cons r (vals_of rs)
theorem cr_sortedDt {X : Cx} (hu : X.A.units + 200 < cLine) : CallR X (.builtin "sorted") (rSortedDt X.K) := by
  intro pins s σ H vs us Q I r h
  obtain ⟨a, bs, rfl, hs, hd, hal, hk, hdep, q⟩ := h
  obtain ⟨its, rv, hl, hz⟩ := I.list hs
  rw [Vals.ref1 r]
  obtain ⟨e1, e2⟩ := each_of I hd rv
  rw [List.length_map] at hz
  refine PySem.W.sorted_data (enc := fun b : V × PyData => b.2) (R := fun v (b : V × PyData) => RelV b.1 v) hl.isList e1 e2 hal hk hz (fun b hb => by have := hdep b hb; omega) fun out hlo eo => ?_
  obtain ⟨ep, he'⟩ := PyProof.Rows.sortedAll_at s.heap its out.toArray
  have hlen : ((bs.mergeSort (PySem.W.dataLe false (·.2))).map (·.1)).length ≤ sizeLine := by
    rw [List.length_map, List.length_mergeSort]; exact hz
  exact ⟨.ref _, upd H (s.heap.objs.size + 1) (.lst ((bs.mergeSort (PySem.W.dataLe false (·.2))).map (·.1))), I.laid (t' := s.toks) (fun _ _ => PyProof.Rows.sortedAll_old) (Nat.le_succ _) ⟨hlen, out, ep, vals_of eo, he'⟩, rfl, q _ (I.hok.fresh (Nat.le_succ _))⟩
def pysD (M : Mem) : List D → Option (List PyData)
  | [] => some []
  | d :: ds => (D.py M 12 d).bind fun p => (pysD M ds).map (p :: ·)
def sortKey (ps : List PyData) : Bool := ps.all (fun p => ps.all (fun q => PySem.W.alike p q)) && (ps.all (fun p => match p with | .tuple (_ :: _) => true | _ => false) && ps.all (fun p => decide (p.depth ≤ 60)))
theorem sortKey_ok {ps : List PyData} (h : sortKey ps = true) : PySem.W.AllAlike ps ∧ PySem.W.Sortable ps ∧ ∀ p ∈ ps, p.depth ≤ 60 := by
  unfold sortKey at h
  simp only [Bool.and_eq_true, List.all_eq_true, decide_eq_true_eq] at h
  refine ⟨fun d hd d' hd' => h.1 d hd d' hd', .inl fun d hd => ?_, h.2.2⟩
  have q := h.2.1 d hd
  split at q
  · exact ⟨_, _, rfl⟩
  · cases q
/-- sorted(x), x a list of tuples that read alike -/
def kSortT (d : D) (M : Mem) : R D := match lsD M d with
  | some ds => (match pysD M ds with
    | some ps => if sortKey ps = true then .ok (.lst (((ds.zip ps).mergeSort (PySem.W.dataLe false (·.2))).map (·.1))) M else .stuck
    | none => .stuck)
  | none => .stuck
theorem pysD_at {g : G} {io : Nat → Addr} {M : Mem} {H : Hp} (m : MR g io M H) : ∀ {vs : List V} {ds : List D} {ps : List PyData}, VRs (rc g io M H) vs ds → pysD M ds = some ps →
    ∃ zs : List (V × D × PyData), zs.map (·.1) = vs ∧ zs.map (·.2.1) = ds ∧ zs.map (·.2.2) = ps ∧ ∀ z ∈ zs, VR (rc g io M H) z.1 z.2.1 ∧ Dp g.K H z.1 z.2.2
  | _, _, _, .nil, e => by cases e; exact ⟨[], rfl, rfl, rfl, fun z h => absurd h (by simp)⟩
  | v :: vs, d :: ds, ps, .cons r rs, e => by
    unfold pysD at e
    obtain ⟨p, e1, e2⟩ := Option.bind_eq_some_iff.mp e
    obtain ⟨ps', e3, rfl⟩ := Option.map_eq_some_iff.mp e2
    obtain ⟨zs, h1, h2, h3, h4⟩ := pysD_at m rs e3
    exact ⟨(v, d, p) :: zs, by simp [h1], by simp [h2], by simp [h3], fun z hz => by
      rcases List.mem_cons.mp hz with h | h
      · subst h; exact ⟨r, py_dp m 12 r e1⟩
      · exact h4 z h⟩
theorem vrs_all {c : RC} : ∀ {zs : List (V × D × PyData)}, (∀ z ∈ zs, VR c z.1 z.2.1) → VRs c (zs.map (·.1)) (zs.map (·.2.1))
  | [], _ => .nil
  | z :: zs, h => .cons (h z List.mem_cons_self) (vrs_all fun y hy => h y (List.mem_cons_of_mem _ hy))
theorem one_sortT {g : G} : One g (fun x H Q => rSortedDt g.K [x] H Q) kSortT := by
  intro E io env M s H v a Q S r p
  unfold kSortT at p
  split at p
  · rename_i ds e
    obtain ⟨q, vs, rfl, h, rs⟩ := lsD_at S.toMR r e
    split at p
    · rename_i ps e2
      split at p
      · rename_i hk
        obtain ⟨h1, h2, h3⟩ := sortKey_ok hk
        obtain ⟨zs, z1, z2, z3, z4⟩ := pysD_at S.toMR rs e2
        subst z1 z2 z3
        let bs : List (V × PyData) := zs.map fun z => (z.1, z.2.2)
        have b1 : bs.map (·.1) = zs.map (·.1) := by simp [bs]
        have b2 : bs.map (·.2) = zs.map (·.2.2) := by simp [bs]
        have hz : (zs.map (·.2.1)).zip (zs.map (·.2.2)) = zs.map fun z => (z.2.1, z.2.2) := by rw [List.zip_map']
        refine ⟨q, bs, rfl, by rw [b1]; exact h, fun b hb => ?_, by rw [b2]; exact h1, by rw [b2]; exact h2, fun b hb => h3 _ (by rw [← b2]; exact List.mem_map_of_mem hb), fun l hl => ?_⟩
        · obtain ⟨z, hz, rfl⟩ := List.mem_map.mp hb
          exact (z4 z hz).2
        · have e1 : bs.mergeSort (PySem.W.dataLe false (·.2)) = (zs.mergeSort (PySem.W.dataLe false (·.2.2))).map fun z => (z.1, z.2.2) := (List.map_mergeSort (f := fun z : V × D × PyData => (z.1, z.2.2)) (fun a _ b _ => rfl)).symm
          have e2 : ((zs.map (·.2.1)).zip (zs.map (·.2.2))).mergeSort (PySem.W.dataLe false (·.2)) = (zs.mergeSort (PySem.W.dataLe false (·.2.2))).map fun z => (z.2.1, z.2.2) := by
            rw [hz]; exact (List.map_mergeSort (f := fun z : V × D × PyData => (z.2.1, z.2.2)) (fun a _ b _ => rfl)).symm
          rw [e2, List.map_map] at p
          rw [e1, List.map_map]
          refine PostE.newLst p S (vrs_all fun z hz => (z4 z ?_).1) l hl
          exact (List.mergeSort_perm _ _).mem_iff.mp hz
      · exact p.elim
    · exact p.elim
  · exact p.elim
section
variable {g : G} {E : WX} {X : Cx} {k : Nat} {pos p : Pos} {e : Expr} {es : List Expr} {r : FA}
theorem x_sortT (o : Ok g E X k) (hm : g.mg "sorted" = none) (ha : DA g E X (e :: es) r) (hg : Gl X "sorted" := by rfl) (he : starEach (e :: es) X.env = (false, eval e X.env) :: starEach es X.env := by rfl) (hpl : (backTo pos (starEach es X.env)).any (·.1) = false := by rfl) : DE g E X (.Call (.Name "sorted" p) (e :: es) [] pos) (fOf (k1 kSortT) r) :=
  d_bi o.toOkB (by rw [← o.K]; exact cr_sortedDt o.un) (args1 one_sortT) hg hm boot_sorted ha (by decide) (by decide) he hpl
theorem x_gtupE {x : Str} {ns : List Int} (o : OkB g X) (h : ∃ a, g.mg x = some (.ref a) ∧ ∀ H : Hp, SqT g.K H a (ns.map V.int)) (hg : Gl X x := by rfl) (hd : (x == ("__debug__" : Str)) = false := by decide) : DE g E X (.Name x pos) (fC (.tup (ns.map D.int))) := by
  obtain ⟨a, hm, ht⟩ := h
  exact x_gtup o hm ht hg hd
/-! ### range downwards -/
def rgDn (i : Int) (n : Nat) : List D := (List.range n).map fun q => D.int (i - (q : Nat))
theorem walk_down {io : Nat → Addr} {M : Mem} {H : Hp} (lo : Int) (n : Nat) : WalkD g io M H (Itc lo (-1) n) (rgDn lo n) := by
  refine ⟨fun F i io2 M2 H2 hF t m2 hi => ?_, fun F io2 M2 H2 hF t m2 => ?_, fun F i x io2 M2 H2 H3 y hF t m2 ex hy => ?_⟩
  · show i < n
    simpa [rgDn] using hi
  · show n ≤ (rgDn lo n).length
    simp [rgDn]
  · obtain ⟨eH, ey⟩ := hy
    subst eH ey
    have hi : i < n := by
      have := (List.getElem?_eq_some_iff.mp ex).1
      simpa [rgDn] using this
    unfold rgDn at ex
    rw [List.getElem?_map, List.getElem?_range hi] at ex
    cases ex
    refine ⟨.refl, m2, ?_⟩
    rw [show lo + (i : Nat) * (-1) = lo - (i : Nat) by omega]
    exact .int _
/-- range(i, j, -1) -/
def kRg3 (ds : List D) (M : Mem) : R (List D) := match ds with
  | [.int i, .int j, .int c] => if c = -1 ∧ -(2 ^ 62) ≤ i ∧ i < 2 ^ 62 ∧ -(2 ^ 62) ≤ j ∧ j < 2 ^ 62 then .ok (rgDn i (i - j).toNat) M else .stuck
  | _ => .stuck
theorem di_range3 {tg e2 e3 : Expr} (o : OkB g X) (hg : Gl X "range") (hm : g.mg "range" = none) (ha : DA g E X [e, e2, e3] r) (hs : starEach [e, e2, e3] X.env = (false, eval e X.env) :: starEach [e2, e3] X.env := by rfl) (hpl : (backTo pos (starEach [e2, e3] X.env)).any (·.1) = false := by rfl) : DI g E X tg (.Call (.Name "range" p) [e, e2, e3] [] pos) (iOfA kRg3 r) :=
  PI.weak (pi_range3 hg (by rw [o.mg]; exact hm) ha hs hpl) fun s H R ⟨env, io, M, S, z⟩ => trAI_then S z fun d M1 v H1 io1 t1 S1 r1 p1 => by
    unfold kRg3 at p1
    split at p1
    · cases r1 with
      | cons r1 rr =>
        cases rr with
        | cons r2 rr =>
          cases rr with
          | cons r3 rr =>
            cases rr
            cases r1; cases r2; cases r3
            split at p1
            · rename_i h
              obtain ⟨rfl, h1, h2, h3, h4⟩ := h
              exact ⟨_, _, _, _, rfl, RgC.neg h1 h2 h3 h4, PostI.here p1 S1 (walk_down _ _)⟩
            · exact p1.elim
    · exact p1.elim
/-! ### what is not reached -/
def eStub : FE := fun _ _ => .stuck
def tStub : FT := fun _ _ => .stuck
def sStub : FS := fun _ _ => .stuck
theorem de_stub {e : Expr} : DE g E X e eStub := ⟨fun pins s σ H Q I ⟨env, io, M, S, p⟩ => p.elim⟩
theorem dt_stub {e : Expr} : DT g E X e tStub := ⟨fun pins s σ H Q I ⟨env, io, M, S, p⟩ => p.elim⟩
theorem ds_stub {st : Stmt} : DS g E X st sStub := ⟨fun pins s σ H Q I ⟨env, io, M, S, p⟩ => p.elim⟩
theorem dss_stub {st : List Stmt} : DSs g E X st sStub := ⟨fun pins s σ H Q I ⟨env, io, M, S, p⟩ => p.elim⟩
end
/-! ### keywords in the opposite order -/
theorem VRs.rev {c : RC} : ∀ {vs : List V} {ds : List D}, VRs c vs ds → VRs c vs.reverse ds.reverse
  | _, _, .nil => .nil
  | _, _, .cons r rs => by
    rw [List.reverse_cons, List.reverse_cons]
    exact (VRs.rev rs).append (.cons r .nil)
theorem vals_rev : ∀ {vs : List V} {us : List Value}, Vals vs us → Vals vs.reverse us.reverse
  | _, _, .nil => .nil
  | _, _, .cons r rs => by
    rw [List.reverse_cons, List.reverse_cons]
    exact Vals.append (vals_rev rs) (.cons r .nil)
theorem bd_KR {K : PySem.W.Frag} {x qual : Str} {params : Arguments} {body : List Stmt} {scope : Scope} {f : Addr} {fd : FuncData} {ps : List Str} (F : FunD K x qual params body scope [] [] f fd) (n : Nat) (ks : List Str) (hn : n + ks.length = ps.length)
    (h : ∀ (kV doc pm : Value) (an : Option Addr) (cdv ct : Value) (us ws : List Value), us.length = n → ws.length = ks.length → bindArgs (PySem.W.fnOf x qual params body scope .none kV doc pm an cdv ct) ⟨us, ks.zip ws⟩ = pure (ps.zip (us ++ ws.reverse))) : Bd K fd ps n ks fun ds es => ds ++ es.reverse := by
  obtain ⟨oc, od, dV, kV, doc, pm, an, cdv, ct, osl, rfl, lk, hcd, hD, hK⟩ := F.ex
  rcases hD with ⟨_, rfl⟩ | ⟨e, _⟩
  · exact ⟨fun us ws => us ++ ws.reverse, fun vs zs => vs ++ zs.reverse, ⟨fun s us ws X l1 l2 => .of_eq (h kV doc pm an cdv ct us ws l1 l2), fun r1 r2 => Vals.append r1 (vals_rev r2)⟩,
      fun c vs zs ds es r q _ _ => VRs.append r (VRs.rev q), fun ds es l l' => by rw [List.length_append, List.length_reverse, l, l', hn]⟩
  · exact absurd rfl e
/-- the shape of a call with keywords, in the opposite order -/
def shR (n : Nat) (ks : List Str) : Shp := ⟨n, ks, fun ds es => ds ++ es.reverse⟩
/-- a module's name for a built-in function, at the head -/
def bfB (K : PySem.W.Frag) (x : Str) (id : String) : Bool := match PySem.W.nsIn K mainGlobals x with
  | some (some (.builtin j)) => decide (j = id)
  | _ => false
theorem bf_ok {K : PySem.W.Frag} {h : Heap} {mg : Str → Option Value} (X : K.In h) (G : h.Ns mainGlobals mg) {x : Str} {id : String} (c : bfB K x id = true) : mg x = some (.builtin id) := by
  unfold bfB at c
  split at c
  · rename_i j e
    rw [of_decide_eq_true c] at e
    exact PySem.W.mg_of X G e
  · cases c
end DL

-- DlComp2
set_option Elab.async false
set_option linter.all false
set_option maxRecDepth 100000
set_option maxHeartbeats 2000000
/-! DlComp2: list comprehensions of two clauses, the second over a name. -/
namespace DL
open PySem PySem.Spec PyProof.Rows L2
theorem wipeD_out {env : DEnv} {i : Nat} : ∀ {vs : List Nat}, i ∉ vs → (wipeD env vs)[i]? = env[i]?
  | [], _ => rfl
  | v :: vs, h => by
    simp only [List.mem_cons, not_or] at h
    unfold wipeD
    rw [List.getElem?_set_ne (fun e => h.1 e.symm), wipeD_out h.2]
def compL2 (own vs1 : List Nat) (t : Tgt) (tt : FT) (fe : FE) (tb : Tgt) (tt1 : FT) (f : FE) (env : DEnv) : List D → Mem → R (List D)
  | [], M => .ok [] M
  | d :: ds, M => match t.bind d (wipeD env own) with
    | none => .stuck
    | some env1 => match tt env1 M with
      | .ok false M1 => compL2 own vs1 t tt fe tb tt1 f env ds M1
      | .ok true M1 => (match fe env1 M1 with
        | .ok e Mq => (match itD e with
          | some ds1 => (match compL vs1 tb tt1 f env1 ds1 Mq with
            | .ok ys M2 => (compL2 own vs1 t tt fe tb tt1 f env ds M2).bind fun zs M3 => .ok (ys ++ zs) M3
            | _ => .stuck)
          | none => .stuck)
        | _ => .stuck)
      | _ => .stuck
/-- a walk that is known by what the value is -/
def WalkV (g : G) (J : It) (v : V) (d : D) (ds : List D) : Prop := ∀ (io : Nat → Addr) (M : Mem) (H : Hp), MR g io M H → VR (rc g io M H) v d →
  (∀ i, i < ds.length → J.go i H) ∧ J.stop ds.length H ∧ ∀ (i : Nat) (e : D) (x : V) (H' : Hp), ds[i]? = some e → J.yld i H x H' → H' = H ∧ VR (rc g io M H) x e
theorem walkV_tup {g : G} {a : Addr} {ds : List D} : WalkV g (Itt g.K a) (.ref a) (.tup ds) ds := by
  intro io M H m r
  obtain ⟨b, vs, eb, h, rs⟩ := tpD_at r rfl
  cases eb
  refine ⟨fun i hi => ⟨vs, vs[i]'(by rw [VRs.length rs]; exact hi), h, List.getElem?_eq_getElem _⟩, ⟨vs, h, by rw [VRs.length rs]; exact Nat.le_refl _⟩, fun i e x H' ee y => ?_⟩
  obtain ⟨eH, hx⟩ := y
  obtain ⟨v, h1, h2⟩ := rs.get ee
  have h3 := hx vs h
  rw [h1] at h3
  cases h3
  exact ⟨eH, h2⟩
theorem walkV_lst {g : G} {a : Addr} {d : D} {ds : List D} (e : lsF d = some ds) : WalkV g (Itl g.K a) (.ref a) d ds := by
  intro io M H m r
  obtain ⟨b, vs, eb, h, rs⟩ := lsD_at m r (lsF_ls e)
  cases eb
  refine ⟨fun i hi => ⟨vs, vs[i]'(by rw [VRs.length rs]; exact hi), h, List.getElem?_eq_getElem _⟩, ⟨vs, h, by rw [VRs.length rs]; exact Nat.le_refl _⟩, fun i e x H' ee y => ?_⟩
  obtain ⟨eH, hx⟩ := y
  obtain ⟨v, h1, h2⟩ := rs.get ee
  have h3 := hx vs h
  rw [h1] at h3
  cases h3
  exact ⟨eH, h2⟩
section
variable {g : G}
/-- the second clause's walk -/
theorem inner {F0 : Addr → Prop} {g' : G} (hg' : g.wF F0 = g') {D : Addr} (hFD : g'.F D) (nBD : ¬ g'.B D) {io1 : Nat → Addr} {M1 : Mem} {H1 : Hp} {sA : L2.St} {envA : DEnv} {σ2 : L2.St} {env1 : DEnv} {vs1 : List Nat} {t1 : Tgt} {tt1 : FT} {f : FE} {J1 : It} {d : DL.D} {ds1 : List DL.D} {y2 : V}
    (hsl1 : ∀ i ∈ t1.slots, i ∈ vs1) (w : WalkV g' J1 y2 d ds1)
    {acc0 ys1 : List DL.D} {Mi : Mem} {vacc0 : List V} {io0 : Nat → Addr} {M0 : Mem} {H0 : Hp} (tx0 : STx D io1 M1 H1 io0 M0 H0) (SA0 : SR g' io0 envA M0 sA H0) (S0 : SR g' io0 env1 M0 σ2 H0) (hl0 : H0 D = some (.lst vacc0)) (ra0 : VRs (rc g' io0 M0 H0) vacc0 acc0) (rd0 : VR (rc g' io0 M0 H0) y2 d)
    (ec0 : compL vs1 t1 tt1 f env1 ds1 M0 = .ok ys1 Mi) (hcap : acc0.length + ys1.length ≤ 16777216) (Nx : Hp → Prop)
    (hNx : ∀ (H' : Hp) (io' : Nat → Addr) (vacc' : List V), STx D io1 M1 H1 io' Mi H' → SR g' io' envA Mi sA H' → H' D = some (.lst vacc') → VRs (rc g' io' Mi H') vacc' (acc0 ++ ys1) → Nx H') :
    ∃ W1 : Nat → Nat → Hp → Prop, (∃ m, W1 0 m H0) ∧ ∀ j k H, W1 j k H → (J1.stop j H ∧ Nx H) ∨ (J1.go j H ∧ ∃ Nx1 : Hp → Prop, (∀ H', Nx1 H' → ∃ k', k' < k ∧ W1 (j + 1) k' H') ∧ ∀ x H', J1.yld j H x H' → Tgt.rd g'.K t1 x (L2.wipe σ2 vs1) H' fun σ3 H5 => L2.wipe σ3 vs1 = L2.wipe σ2 vs1 ∧ (∃ F, trT (g.wF F) EN tt1 σ3 H5 fun b H6 =>
      if b = true then (∃ F, trE (g.wF F) EN f σ3 H6 fun y H7 => ∃ acc, H7 D = some (.lst acc) ∧ acc.length < sizeLine ∧ Nx1 (upd H7 D (.lst (acc ++ [y])))) else Nx1 H6)) := by
  have hK : g'.K = g.K := by rw [← hg']
  let P : Nat → Hp → Prop := fun j H2 => ∃ (io2 : Nat → Addr) (M2 : Mem) (acc : List DL.D) (vacc : List V) (rest : List DL.D), STx D io1 M1 H1 io2 M2 H2 ∧ SR g' io2 envA M2 sA H2 ∧ SR g' io2 (wipeD env1 vs1) M2 (L2.wipe σ2 vs1) H2 ∧ VR (rc g' io2 M2 H2) y2 d ∧ H2 D = some (.lst vacc) ∧
    VRs (rc g' io2 M2 H2) vacc acc ∧ compL vs1 t1 tt1 f env1 (ds1.drop j) M2 = .ok rest Mi ∧ acc ++ rest = acc0 ++ ys1
  have P0 : P 0 H0 := ⟨io0, M0, acc0, vacc0, ys1, tx0, SA0, S0.wipe vs1, rd0, hl0, ra0, ec0, rfl⟩
  refine ⟨fun i m H2 => m = ds1.length - i ∧ i ≤ ds1.length ∧ P i H2, ⟨ds1.length, rfl, Nat.zero_le _, P0⟩, ?_⟩
  rintro i m H2 ⟨rfl, hi, io2, M2, acc, vacc, rest, tx, SA2, S2, rd, hl, ra, ec, ey⟩
  obtain ⟨w1, w2, w3⟩ := w io2 M2 H2 S2.toMR rd
  have nD2 : ∀ {io' : Nat → Addr} {M' : Mem} {H' : Hp}, MR g' io' M' H' → ¬ OwnOf io' M' D := fun m => (m.frm D hFD).2
  by_cases hlt : i < ds1.length
  · refine .inr ⟨w1 i hlt, fun H3 => i + 1 ≤ ds1.length ∧ P (i + 1) H3, fun H3 ⟨h1, h2⟩ => ⟨ds1.length - (i + 1), by omega, rfl, h1, h2⟩, fun x H3 y => ?_⟩
    have ed : ds1[i]? = some ds1[i] := List.getElem?_eq_getElem hlt
    obtain ⟨eH, r3⟩ := w3 i _ x H3 ed y
    subst eH
    rw [List.drop_eq_getElem_cons hlt] at ec
    unfold compL at ec
    cases e1 : t1.bind ds1[i] (wipeD env1 vs1) with
    | none => rw [e1] at ec; cases ec
    | some env2 =>
      rw [e1] at ec
      dsimp only at ec
      refine Tgt.reads e1 r3 S2 fun s4 S4 wp => ⟨by rw [wp vs1 hsl1, wipe_idem], F0, ?_⟩
      rw [hg']
      refine ⟨env2, io2, M2, S4, ?_⟩
      cases e3 : tt1 env2 M2 with
      | stuck => rw [e3] at ec; cases ec
      | exc C as M3 => rw [e3] at ec; cases ec
      | ok b M3 =>
        rw [e3] at ec
        intro H4 io4 t4 S4'
        have hl4 := (t4.ext D _ hl (nD2 S2.toMR) (fun _ z => by cases z)).1
        have ra4 := VRs.mono S2.toMR t4 ra
        have rd4 := VR.mono S2.toMR t4 rd
        have tx4 := tx.st t4
        have later : ∀ {env' : DEnv} {s' : L2.St}, SR g' io2 env' M2 s' H3 → SR g' io4 env' M3 s' H4 := fun Z => ⟨S4'.toMR, fun i d e => let ⟨v, h, r⟩ := Z.ev i d e; ⟨v, h, VR.mono Z.toMR t4 r⟩, Z.len, Z.xm t4⟩
        have SA4 := later SA2
        have Sw4 := later S2
        cases b with
        | false =>
          dsimp only at ec
          exact ⟨hlt, io4, M3, acc, vacc, rest, tx4, SA4, Sw4, rd4, hl4, ra4, ec, ey⟩
        | true =>
          dsimp only at ec
          cases e4 : f env2 M3 with
          | stuck => rw [e4] at ec; cases ec
          | exc C as M4 => rw [e4] at ec; cases ec
          | ok yd M4 =>
            rw [e4] at ec
            dsimp only at ec
            cases e5 : compL vs1 t1 tt1 f env1 (ds1.drop (i + 1)) M4 with
            | stuck => rw [e5] at ec; cases ec
            | exc C as M5 => rw [e5] at ec; cases ec
            | ok ys2 M5 =>
              rw [e5] at ec
              rw [R.bind_ok] at ec
              cases ec
              refine ⟨F0, ?_⟩
              rw [hg']
              refine ⟨env2, io4, M3, S4', ?_⟩
              rw [e4]
              intro vy H5 io5 t5 S5 r5
              have hl5 := (t5.ext D _ hl4 (nD2 Sw4.toMR) (fun _ z => by cases z)).1
              have ra5 := VRs.mono Sw4.toMR t5 ra4
              have rd5 := VR.mono Sw4.toMR t5 rd4
              have later5 : ∀ {env' : DEnv} {s' : L2.St}, SR g' io4 env' M3 s' H4 → SR g' io5 env' M4 s' H5 := fun Z => ⟨S5.toMR, fun i d e => let ⟨v, h, r⟩ := Z.ev i d e; ⟨v, h, VR.mono Z.toMR t5 r⟩, Z.len, Z.xm t5⟩
              refine ⟨vacc, hl5, ?_, hlt, io5, M4, acc ++ [yd], vacc ++ [vy], ys2, (tx4.st t5).upd, (later5 SA4).updD hFD nBD hl5, (later5 Sw4).updD hFD nBD hl5, VR.updD hFD nBD hl5 rd5, upd_same, VRs.updD hFD nBD hl5 (ra5.append (.cons r5 .nil)), e5, by simpa using ey⟩
              have q1 := VRs.length ra
              have q2 := congrArg List.length ey
              rw [List.length_append, List.length_cons, List.length_append] at q2
              rw [q1, sizeLine_eq]
              omega
  · have ei : i = ds1.length := by omega
    subst ei
    rw [List.drop_length] at ec
    unfold compL at ec
    obtain ⟨er, em⟩ : rest = [] ∧ Mi = M2 := by
      cases ec
      exact ⟨rfl, rfl⟩
    subst er em
    rw [List.append_nil] at ey
    exact .inl ⟨w2, hNx H2 io2 vacc tx SA2 hl (by rw [← ey]; exact ra)⟩
end
def aComp2 (own vs1 : List Nat) (fi : FA) (t : Tgt) (tt : FT) (fe : FE) (tb : Tgt) (tt1 : FT) (f : FE) : FA := fun env M => (fi env M).bind fun ds M1 => match compL2 own vs1 t tt fe tb tt1 f env ds M1 with
  | .ok ys M2 => .ok ys M2
  | _ => .stuck
section
variable {g : G} {E : WX} {X : Cx} {k : Nat} {pos : Pos} {tg iter elt tg1 iter1 : Expr} {ifs ifs1 : List Expr} {scope : Scope} {own : List (Str × Nat)} {fi : FA} {t tb : Tgt} {tt tt1 : FT} {f : FE} {fe : FE}
theorem tr_comp2 {s : L2.St} {H : Hp} {Q : VK} {kk : List D → Mem → R D} (vs vs1 : List Nat) (hsl : ∀ i ∈ t.slots, i ∈ vs) (hsl1 : ∀ i ∈ tb.slots, i ∈ vs1) 
    (hk : ∀ (ys : List D) (io1 : Nat → Addr) (env : DEnv) (M1 : Mem) (H1 : Hp) (io2 : Nat → Addr) (M' : Mem) (H2 : Hp) (D : Addr) (vacc : List V), SR g io1 env M1 s H1 → PostE g E io1 env M1 s H1 (kk ys M') Q → H1 D = none →
      ST io1 M1 H1 io2 M' H2 → MR (g.wF fun a => g.F a ∨ a = D) io2 M' H2 → H2 D = some (.lst vacc) → VRs (rc (g.wF fun a => g.F a ∨ a = D) io2 M' H2) vacc ys → Q (.ref D) H2)
    (hlen : ∀ ys M', 16777216 < ys.length → kk ys M' = .stuck)
    (h : trE g E (fOf kk (aComp2 vs vs1 fi t tt fe tb tt1 f)) s H Q) :
    tLc2 (trI g E fi) (Tgt.rd g.K t) (fun s H Q => ∃ F, trT (g.wF F) EN tt s H Q) (iSq g.K fun s H Q => ∃ F, trE (g.wF F) EN (fe) s H Q) (Tgt.rd g.K tb) (fun s H Q => ∃ F, trT (g.wF F) EN tt1 s H Q) (fun s H Q => ∃ F, trE (g.wF F) EN f s H Q) vs vs1 s H Q := by
  obtain ⟨env, io, M, S, z⟩ := h
  show trI g E fi s H _
  refine ⟨env, io, M, S, ?_⟩
  have z' : PostE g E io env M s H ((aComp2 vs vs1 fi t tt fe tb tt1 f env M).bind kk) Q := z
  unfold aComp2 at z'
  cases e : fi env M with
  | stuck => rw [e] at z'; exact z'.elim
  | exc C as M1 => rw [e] at z'; exact z'
  | ok ds M1 =>
    rw [e] at z'
    rw [R.bind_ok] at z'
    intro J H1 io1 t1 S1 w D hD
    have z1 := PostE.step t1 z'
    cases e2 : compL2 vs vs1 t tt fe tb tt1 f env ds M1 with
    | stuck => rw [e2] at z1; exact z1.elim
    | exc C as M2 => rw [e2] at z1; exact z1.elim
    | ok ys M' =>
      rw [e2] at z1
      dsimp only at z1
      rw [R.bind_ok] at z1
      have hys : ys.length ≤ 16777216 := by
        rcases Nat.lt_or_ge 16777216 ys.length with q | q
        · rw [hlen ys M' q] at z1; exact z1.elim
        · exact q
      obtain ⟨g', hg'⟩ : ∃ g', (g.wF fun a => g.F a ∨ a = D) = g' := ⟨_, rfl⟩
      have hFD : g'.F D := by rw [← hg']; exact .inr rfl
      have hK : g'.K = g.K := by rw [← hg']
      have nBD : ¬ g'.B D := by
        rw [← hg']
        intro z
        obtain ⟨⟨o, e, _⟩, _⟩ := S1.toMR.frm D (S1.toMR.bor D z)
        rw [hD] at e
        cases e
      have hFin : ∀ a, (fun a => g.F a ∨ a = D) a → g.F a ∨ H1 a = none := fun a q => q.elim .inl fun y => .inr (by rw [y]; exact hD)
      -- the invariant
      let P : Nat → Hp → Prop := fun i H2 => ∃ (io2 : Nat → Addr) (M2 : Mem) (acc : List DL.D) (vacc : List V) (rest : List DL.D), STx D io1 M1 H1 io2 M2 H2 ∧ SR g' io2 (wipeD env vs) M2 (L2.wipe s vs) H2 ∧ H2 D = some (.lst vacc) ∧
        VRs (rc g' io2 M2 H2) vacc acc ∧ compL2 vs vs1 t tt fe tb tt1 f env (ds.drop i) M2 = .ok rest M' ∧ acc ++ rest = ys
      have P0 : P 0 (upd H1 D (.lst [])) := by
        have tf : ST io1 M1 H1 io1 M1 (upd H1 D (.lst [])) := .fresh hD
        have m1 : MR g' io1 M1 (upd H1 D (.lst [])) := by
          rw [← hg']
          refine ⟨fun i o e => ?_, S1.toMR.inj, S1.toMR.tab.ext (ext_fresh hD), fun a q => ?_, fun a q => .inl (S1.toMR.bor a q)⟩
          · have q := S1.toMR.mem i o e
            cases o with
            | gone => trivial
            | lst ds => obtain ⟨vs, e1, r⟩ := q; exact ⟨vs, ext_fresh hD _ _ e1, VRs.monoF hFin S1.toMR tf r⟩
            | dk ds => obtain ⟨vs, e1, r⟩ := q; exact ⟨vs, ext_fresh hD _ _ e1, VRk.monoF hFin S1.toMR tf r⟩
            | ins C fs => obtain ⟨dx, vs, e1, r⟩ := q; exact ⟨dx, vs, ext_fresh hD _ _ e1, VRf.monoF hFin S1.toMR tf r⟩
          · rcases q with q | q
            · exact S1.toMR.frm_mono tf a q
            · subst q
              exact ⟨⟨_, upd_same, fun _ z => by cases z⟩, fun z => free_not_own S1.toMR hD (.inr z)⟩
        have s1 : SR g' io1 env M1 s (upd H1 D (.lst [])) := ⟨m1, fun i d e => by
          obtain ⟨v, h, r⟩ := S1.ev i d e
          rw [← hg']
          exact ⟨v, h, VR.monoF hFin S1.toMR tf r⟩, S1.len, fun p e => by
            rw [← hg'] at e
            obtain ⟨y, z⟩ := S1.xd p e
            rw [← hg']
            exact ⟨y, z.monoF hFin S1.toMR tf⟩⟩
        exact ⟨io1, M1, [], [], ys, ⟨fun b o hb h n q => ⟨(upd_ne hb).trans h, n⟩, fun _ _ => rfl, Nat.le_refl _⟩, s1.wipe vs, upd_same, .nil, e2, rfl⟩
      refine ⟨fun i m H2 => m = ds.length - i ∧ i ≤ ds.length ∧ P i H2, ⟨ds.length, rfl, Nat.zero_le _, P0⟩, ?_⟩
      rintro i m H2 ⟨rfl, hi, io2, M2, acc, vacc, rest, tx, S2, hl, ra, ec, ey⟩
      have m2 : MR (g.wF fun a => g.F a ∨ a = D) io2 M2 H2 := by rw [hg']; exact S2.toMR
      by_cases hlt : i < ds.length
      · refine .inr ⟨w.goes _ i io2 M2 H2 hFin (tx.of hD) m2 hlt, fun H3 => i + 1 ≤ ds.length ∧ P (i + 1) H3, fun H3 ⟨h1, h2⟩ => ⟨ds.length - (i + 1), by omega, rfl, h1, h2⟩, fun x H3 y => ?_⟩
        have ed : ds[i]? = some ds[i] := List.getElem?_eq_getElem hlt
        obtain ⟨t3, m3, r3⟩ := w.yields _ i _ io2 M2 H2 H3 x hFin (tx.of hD) m2 ed y
        rw [hg'] at m3 r3
        have S3 := S2.ext_mono t3 m3
        have nD2 : ∀ {io' : Nat → Addr} {M' : Mem} {H' : Hp}, MR g' io' M' H' → ¬ OwnOf io' M' D := fun m => (m.frm D hFD).2
        have hl3 := (t3.ext D _ hl (nD2 S2.toMR) (fun _ z => by cases z)).1
        have ra3 := VRs.mono S2.toMR t3 ra
        have tx3 := tx.st t3
        rw [List.drop_eq_getElem_cons hlt] at ec
        unfold compL2 at ec
        cases e1 : t.bind ds[i] (wipeD env vs) with
        | none => rw [e1] at ec; cases ec
        | some env1 =>
          rw [e1] at ec
          dsimp only at ec
          rw [← hK]
          refine Tgt.reads e1 r3 S3 fun s4 S4 wp => ⟨by rw [wp vs hsl, wipe_idem], fun a => g.F a ∨ a = D, ?_⟩
          rw [hg']
          refine ⟨env1, io2, M2, S4, ?_⟩
          cases e3 : tt env1 M2 with
          | stuck => rw [e3] at ec; cases ec
          | exc C as M3 => rw [e3] at ec; cases ec
          | ok b M3 =>
            rw [e3] at ec
            intro H4 io4 t4 S4'
            have hl4 := (t4.ext D _ hl3 (nD2 S3.toMR) (fun _ z => by cases z)).1
            have ra4 := VRs.mono S3.toMR t4 ra3
            have tx4 := tx3.st t4
            have Sw4 : SR g' io4 (wipeD env vs) M3 (L2.wipe s vs) H4 := ⟨S4'.toMR, fun i d e => let ⟨v, h, r⟩ := S3.ev i d e; ⟨v, h, VR.mono S3.toMR t4 r⟩, S3.len, S3.xm t4⟩
            cases b with
            | false =>
              dsimp only at ec
              exact ⟨hlt, io4, M3, acc, vacc, rest, tx4, Sw4, hl4, ra4, ec, ey⟩
            | true =>
              dsimp only at ec
              cases e4 : fe env1 M3 with
              | stuck => rw [e4] at ec; cases ec
              | exc C as M4 => rw [e4] at ec; cases ec
              | ok q Mq =>
                rw [e4] at ec
                dsimp only at ec
                cases e6 : itD q with
                | none => rw [e6] at ec; cases ec
                | some ds1 =>
                  rw [e6] at ec
                  dsimp only at ec
                  cases e7 : compL vs1 tb tt1 f env1 ds1 Mq with
                  | stuck => rw [e7] at ec; cases ec
                  | exc C as M4 => rw [e7] at ec; cases ec
                  | ok ys1 Mi =>
                    rw [e7] at ec
                    dsimp only at ec
                    cases e5 : compL2 vs vs1 t tt fe tb tt1 f env (ds.drop (i + 1)) Mi with
                    | stuck => rw [e5] at ec; cases ec
                    | exc C as M5 => rw [e5] at ec; cases ec
                    | ok ys2 M5 =>
                      rw [e5] at ec
                      rw [R.bind_ok] at ec
                      cases ec
                      have hcap : acc.length + ys1.length ≤ 16777216 := by
                        have q2 := congrArg List.length ey
                        rw [List.length_append, List.length_append] at q2
                        omega
                      have nx : ∀ (H' : Hp) (io' : Nat → Addr) (vacc' : List V), STx D io1 M1 H1 io' Mi H' → SR g' io' (wipeD env vs) Mi (L2.wipe s vs) H' → H' D = some (.lst vacc') → VRs (rc g' io' Mi H') vacc' (acc ++ ys1) → i + 1 ≤ ds.length ∧ P (i + 1) H' :=
                        fun H' io' vacc' tx' SA' hl' ra' => ⟨hlt, io', Mi, acc ++ ys1, vacc', ys2, tx', SA', hl', ra', e5, by simpa using ey⟩
                      refine ⟨fun a => g.F a ∨ a = D, ?_⟩
                      rw [hg']
                      refine ⟨env1, io4, M3, S4', ?_⟩
                      rw [e4]
                      intro vq H5 io5 t5 S5 r5
                      have hl5 := (t5.ext D _ hl4 (nD2 Sw4.toMR) (fun _ z => by cases z)).1
                      have ra5 := VRs.mono Sw4.toMR t5 ra4
                      have Sw5 : SR g' io5 (wipeD env vs) Mq (L2.wipe s vs) H5 := ⟨S5.toMR, fun i d e => let ⟨v, h, r⟩ := Sw4.ev i d e; ⟨v, h, VR.mono Sw4.toMR t5 r⟩, Sw4.len, Sw4.xm t5⟩
                      have go := fun (J1 : It) (w1 : WalkV g' J1 vq q ds1) => inner hg' hFD nBD hsl1 w1 (tx4.st t5) Sw5 S5 hl5 ra5 r5 e7 hcap (fun H3 => i + 1 ≤ ds.length ∧ P (i + 1) H3) nx
                      unfold itD at e6
                      split at e6
                      · cases e6
                        obtain ⟨a, xs, rfl, h, rs⟩ := tpD_at r5 rfl
                        exact ⟨a, rfl, .inr ⟨⟨xs, h⟩, go _ walkV_tup⟩⟩
                      · obtain ⟨a, xs, rfl, h, rs⟩ := lsD_at S5.toMR r5 (lsF_ls e6)
                        exact ⟨a, rfl, .inl ⟨⟨xs, h⟩, go _ (walkV_lst e6)⟩⟩
      · have ei : i = ds.length := by omega
        subst ei
        rw [List.drop_length] at ec
        unfold compL2 at ec
        obtain ⟨er, em⟩ : rest = [] ∧ M' = M2 := by
          cases ec
          exact ⟨rfl, rfl⟩
        subst er em
        rw [List.append_nil] at ey
        subst ey
        rw [← hg'] at ra
        exact .inl ⟨w.stops _ io2 M' H2 hFin (tx.of hD) m2, hk acc io1 env M1 H1 io2 M' H2 D vacc S1 z1 hD (tx.of hD) m2 hl ra⟩
/-- [elt for tg in iter if .. for tg1 in iter1 if ..]: its list is data -/
def fComp2 (own vs1 : List Nat) (fi : FA) (t : Tgt) (tt : FT) (fe : FE) (tb : Tgt) (tt1 : FT) (f : FE) : FE := fOf kLst (aComp2 own vs1 fi t tt fe tb tt1 f)
theorem d_comp2 (o : Ok g E X k) (vs1 : List Nat) (hi : DI g E X tg iter fi) (ok : BlkOk X.N X.env.scope scope own) (hsl : ∀ i ∈ t.slots, i ∈ own.map (·.2)) (hsl1 : ∀ i ∈ tb.slots, i ∈ vs1) (hv : ∀ i ∈ vs1, i ∈ own.map (·.2))
    (hg : ∀ (s : Shared) (H : Hp) (C : Addr) (cl : List (Str × Addr)) (fp : List Addr), DG g (X.blk s H scope (compEnvC scope cl C X.env) fp) tg t)
    (ht : ∀ (F : Addr → Prop) (s : Shared) (H : Hp) (C : Addr) (cl : List (Str × Addr)) (fp : List Addr), Ok (g.wF F) EN (X.blk s H scope (compEnvC scope cl C X.env) fp) k → DTs (g.wF F) EN (X.blk s H scope (compEnvC scope cl C X.env) fp) ifs tt)
    (hi1 : ∀ (F : Addr → Prop) (s : Shared) (H : Hp) (C : Addr) (cl : List (Str × Addr)) (fp : List Addr), Ok (g.wF F) EN (X.blk s H scope (compEnvC scope cl C X.env) fp) k → DE (g.wF F) EN (X.blk s H scope (compEnvC scope cl C X.env) fp) iter1 fe)
    (hg1 : ∀ (s : Shared) (H : Hp) (C : Addr) (cl : List (Str × Addr)) (fp : List Addr), DG g (X.blk s H scope (compEnvC scope cl C X.env) fp) tg1 tb)
    (ht1 : ∀ (F : Addr → Prop) (s : Shared) (H : Hp) (C : Addr) (cl : List (Str × Addr)) (fp : List Addr), Ok (g.wF F) EN (X.blk s H scope (compEnvC scope cl C X.env) fp) k → DTs (g.wF F) EN (X.blk s H scope (compEnvC scope cl C X.env) fp) ifs1 tt1)
    (he : ∀ (F : Addr → Prop) (s : Shared) (H : Hp) (C : Addr) (cl : List (Str × Addr)) (fp : List Addr), Ok (g.wF F) EN (X.blk s H scope (compEnvC scope cl C X.env) fp) k → DE (g.wF F) EN (X.blk s H scope (compEnvC scope cl C X.env) fp) elt f)
    (hs : ∀ x, foldedSetIterable iter X.env x = pure x := by intro _; rfl) (hs1 : ∀ env x, foldedSetIterable iter1 env x = pure x := by intro _ _; rfl) : DE g E X (.ListComp elt [⟨tg, iter, ifs, 0⟩, ⟨tg1, iter1, ifs1, 0⟩] scope pos) (fComp2 (own.map (·.2)) vs1 fi t tt fe tb tt1 f) :=
  PE.weak (pe_lc2 (tt := fun s H Q => ∃ F, trT (g.wF F) EN tt s H Q) (tt1 := fun s H Q => ∃ F, trT (g.wF F) EN tt1 s H Q) (te := fun s H Q => ∃ F, trE (g.wF F) EN f s H Q) (wi1 := iSq g.K fun s H Q => ∃ F, trE (g.wF F) EN fe s H Q) o.calm o.nd hi ok hv hg
    (fun s H C cl fp => ⟨fun pins s2 σ H2 Q I ⟨F, h⟩ => (ht F s H C cl fp (o.blk F s H scope _ fp)).run pins s2 σ H2 Q I h⟩)
    (fun s H C cl fp => by
      have q : PE (X.blk s H scope (compEnvC scope cl C X.env) fp) iter1 (fun s H Q => ∃ F, trE (g.wF F) EN fe s H Q) := ⟨fun pins s2 σ H2 Q I ⟨F, h⟩ => (hi1 F s H C cl fp (o.blk F s H scope _ fp)).run pins s2 σ H2 Q I h⟩
      have z := pi_sq (tg := tg1) q
      have e : (X.blk s H scope (compEnvC scope cl C X.env) fp).K = g.K := o.K
      rw [e] at z
      exact z)
    hg1
    (fun s H C cl fp => ⟨fun pins s2 σ H2 Q I ⟨F, h⟩ => (ht1 F s H C cl fp (o.blk F s H scope _ fp)).run pins s2 σ H2 Q I h⟩)
    (fun s H C cl fp => ⟨fun pins s2 σ H2 Q I ⟨F, h⟩ => (he F s H C cl fp (o.blk F s H scope _ fp)).run pins s2 σ H2 Q I h⟩) hs hs1)
    fun s H Q h => tr_comp2 (own.map (·.2)) vs1 hsl hsl1 (fun ys io1 env M1 H1 io2 M' H2 D vacc => lst_hk (E := E) s Q ys io1 env M1 H1 io2 M' H2 D vacc) kLst_len h
theorem ds_setC2 {i : Nat} {y : Str} {py spos : Pos} (o : Ok g E X k) (vs1 : List Nat) (hy : X.N[i]? = some y) (hyl : X.env.scope.names.lookup y = some .local) (hi : DI g E X tg iter fi) (ok : BlkOk X.N X.env.scope scope own) (hsl : ∀ i ∈ t.slots, i ∈ own.map (·.2)) (hsl1 : ∀ i ∈ tb.slots, i ∈ vs1) (hv : ∀ i ∈ vs1, i ∈ own.map (·.2))
    (hg : ∀ (s : Shared) (H : Hp) (C : Addr) (cl : List (Str × Addr)) (fp : List Addr), DG g (X.blk s H scope (compEnvC scope cl C X.env) fp) tg t)
    (ht : ∀ (F : Addr → Prop) (s : Shared) (H : Hp) (C : Addr) (cl : List (Str × Addr)) (fp : List Addr), Ok (g.wF F) EN (X.blk s H scope (compEnvC scope cl C X.env) fp) k → DTs (g.wF F) EN (X.blk s H scope (compEnvC scope cl C X.env) fp) ifs tt)
    (hi1 : ∀ (F : Addr → Prop) (s : Shared) (H : Hp) (C : Addr) (cl : List (Str × Addr)) (fp : List Addr), Ok (g.wF F) EN (X.blk s H scope (compEnvC scope cl C X.env) fp) k → DE (g.wF F) EN (X.blk s H scope (compEnvC scope cl C X.env) fp) iter1 fe)
    (hg1 : ∀ (s : Shared) (H : Hp) (C : Addr) (cl : List (Str × Addr)) (fp : List Addr), DG g (X.blk s H scope (compEnvC scope cl C X.env) fp) tg1 tb)
    (ht1 : ∀ (F : Addr → Prop) (s : Shared) (H : Hp) (C : Addr) (cl : List (Str × Addr)) (fp : List Addr), Ok (g.wF F) EN (X.blk s H scope (compEnvC scope cl C X.env) fp) k → DTs (g.wF F) EN (X.blk s H scope (compEnvC scope cl C X.env) fp) ifs1 tt1)
    (he : ∀ (F : Addr → Prop) (s : Shared) (H : Hp) (C : Addr) (cl : List (Str × Addr)) (fp : List Addr), Ok (g.wF F) EN (X.blk s H scope (compEnvC scope cl C X.env) fp) k → DE (g.wF F) EN (X.blk s H scope (compEnvC scope cl C X.env) fp) elt f)
    (hsw : swapsWith (.ListComp elt [⟨tg, iter, ifs, 0⟩, ⟨tg1, iter1, ifs1, 0⟩] scope pos) (some (.Name y py)) spos.line X.env = pure true := by rfl)
    (hs : ∀ x, foldedSetIterable iter X.env x = pure x := by intro _; rfl) (hs1 : ∀ env x, foldedSetIterable iter1 env x = pure x := by intro _ _; rfl) : DS g E X (.Assign [.Name y py] (.ListComp elt [⟨tg, iter, ifs, 0⟩, ⟨tg1, iter1, ifs1, 0⟩] scope pos) spos) (sSet i (fComp2 (own.map (·.2)) vs1 fi t tt fe tb tt1 f)) :=
  PS.weak (ps_setLc2 (i := i) (tt := fun s H Q => ∃ F, trT (g.wF F) EN tt s H Q) (tt1 := fun s H Q => ∃ F, trT (g.wF F) EN tt1 s H Q) (te := fun s H Q => ∃ F, trE (g.wF F) EN f s H Q) (wi1 := iSq g.K fun s H Q => ∃ F, trE (g.wF F) EN fe s H Q) o.calm o.nd hy hyl hsw hi ok hv hg
    (fun s H C cl fp => ⟨fun pins s2 σ H2 Q I ⟨F, h⟩ => (ht F s H C cl fp (o.blk F s H scope _ fp)).run pins s2 σ H2 Q I h⟩)
    (fun s H C cl fp => by
      have q : PE (X.blk s H scope (compEnvC scope cl C X.env) fp) iter1 (fun s H Q => ∃ F, trE (g.wF F) EN fe s H Q) := ⟨fun pins s2 σ H2 Q I ⟨F, h⟩ => (hi1 F s H C cl fp (o.blk F s H scope _ fp)).run pins s2 σ H2 Q I h⟩
      have z := pi_sq (tg := tg1) q
      have e : (X.blk s H scope (compEnvC scope cl C X.env) fp).K = g.K := o.K
      rw [e] at z
      exact z)
    hg1
    (fun s H C cl fp => ⟨fun pins s2 σ H2 Q I ⟨F, h⟩ => (ht1 F s H C cl fp (o.blk F s H scope _ fp)).run pins s2 σ H2 Q I h⟩)
    (fun s H C cl fp => ⟨fun pins s2 σ H2 Q I ⟨F, h⟩ => (he F s H C cl fp (o.blk F s H scope _ fp)).run pins s2 σ H2 Q I h⟩) hs hs1) fun D s H ⟨env, io, M, S, z⟩ =>
    show tLc2 _ _ _ _ _ _ _ (own.map (·.2)) vs1 s H (fun x H1 => gName i x s H1 D.nx) from tr_comp2 (own.map (·.2)) vs1 hsl hsl1 (fun ys io1 env M1 H1 io2 M' H2 Da vacc => lst_hk (E := E) s _ ys io1 env M1 H1 io2 M' H2 Da vacc) kLst_len (trE_thenS (D' := D) (f := fComp2 (own.map (·.2)) vs1 fi t tt fe tb tt1 f) (kk := fun d M1 => .next (env.set i (some d)) M1) (C := fun v H1 => gName i v s H1 D.nx) S z fun d M1 v H1 io1 t S1 r p1 => PostN.here p1 (S1.set r))
end
end DL

-- DlFrz
set_option Elab.async false
set_option linter.all false
set_option maxRecDepth 100000
set_option maxHeartbeats 2000000
/-! DlFrz: lists of ours that are looked at for a while, or from now on. -/
namespace DL
open PySem PySem.Spec PyProof.Rows L2
/-- an expression that writes at nothing of ours: it sees our lists as they stand -/
def fFrz (f : FE) : FE := fun env M => match f (env.map fun o => o.bind (D.fz M 8)) [] with
  | .ok d [] => if d.blw 0 = true then .ok d M else .stuck
  | _ => .stuck
theorem d_frz {g : G} {E : WX} {X : Cx} {e : Expr} {f : FE} (h : ∀ F B, DE ⟨g.toG0, F, none, B⟩ E X e f) : DE g E X e (fFrz f) := by
  refine ⟨fun pins s σ H Q I ⟨env, io, M, S, p⟩ => ?_⟩
  refine (h (fun a => g.F a ∨ OwnOf io M a) (fun a => g.B a ∨ OwnOf io M a)).run pins s σ H Q I ?_
  have frm : ∀ a, (g.F a ∨ OwnOf io M a) → (∃ o, H a = some o ∧ ∀ ps, o ≠ .tbl ps) ∧ ¬ OwnOf io [] a := fun a z => by
    refine ⟨?_, fun ⟨i, o, e, _⟩ => absurd e (by simp)⟩
    rcases z with z | z
    · exact (S.toMR.frm a z).1
    · rcases S.toMR.own_at z with ⟨vs, h⟩ | ⟨vs, h⟩ | ⟨C, dx, vs, h⟩
      · exact ⟨_, h, fun _ z => by cases z⟩
      · exact ⟨_, h, fun _ z => by cases z⟩
      · exact ⟨_, h, fun _ z => by cases z⟩
  have noown : ∀ a, ¬ OwnOf io [] a := fun a ⟨i, o, e, _⟩ => absurd e (by simp)
  have m0 : MR ⟨g.toG0, fun a => g.F a ∨ OwnOf io M a, none, fun a => g.B a ∨ OwnOf io M a⟩ io [] H := ⟨fun i o e => absurd e (by simp), fun i j o o' e => absurd e (by simp), S.toMR.tab, frm, fun a z => z.imp (S.toMR.bor a) id⟩
  have S0 : SR ⟨g.toG0, fun a => g.F a ∨ OwnOf io M a, none, fun a => g.B a ∨ OwnOf io M a⟩ io (env.map fun o => o.bind (D.fz M 8)) [] σ H := by
    refine ⟨m0, fun i d ed => ?_, by rw [List.length_map, S.len], fun p e => by cases e⟩
    rw [List.getElem?_map] at ed
    obtain ⟨o, eo, e2⟩ := Option.map_eq_some_iff.mp ed
    obtain ⟨d0, rfl, e3⟩ := Option.bind_eq_some_iff.mp e2
    obtain ⟨v, hv, r⟩ := S.ev i d0 eo
    exact ⟨v, hv, fz_ok S.toMR 8 r e3⟩
  have back : ∀ {io' : Nat → Addr} {H' : Hp}, ST io [] H io' [] H' → MR ⟨g.toG0, fun a => g.F a ∨ OwnOf io M a, none, fun a => g.B a ∨ OwnOf io M a⟩ io' [] H' → ST io M H io M H' ∧ MR g io M H' ∧ Sub 0 (rc ⟨g.toG0, fun a => g.F a ∨ OwnOf io M a, none, fun a => g.B a ∨ OwnOf io M a⟩ io' [] H') (rc g io M H') := fun {io' H'} t m' => by
    have t' : ST io M H io M H' := ⟨fun b o h n q => ⟨(t.ext b o h (noown b) q).1, n⟩, fun _ _ => rfl, Nat.le_refl _⟩
    refine ⟨t', ⟨fun i o e => ?_, S.toMR.inj, m'.tab, fun a h => ⟨(m'.frm a (.inl h)).1, (S.toMR.frm a h).2⟩, S.toMR.bor⟩, ⟨rfl, rfl, fun i hi => absurd hi (Nat.not_lt_zero _), Nat.zero_le _, fun a z q => z (.inl q), fun h => absurd h (Nat.lt_irrefl _)⟩⟩
    have q := S.toMR.mem i o e
    cases o with
    | gone => trivial
    | lst ds => obtain ⟨vs, h, r⟩ := q; exact ⟨vs, (t.ext _ _ h (noown _) (fun _ z => by cases z)).1, VRs.mono S.toMR t' r⟩
    | dk ds => obtain ⟨vs, h, r⟩ := q; exact ⟨vs, (t.ext _ _ h (noown _) (fun _ z => by cases z)).1, VRk.mono S.toMR t' r⟩
    | ins C fs => obtain ⟨dx, vs, h, r⟩ := q; exact ⟨dx, vs, (t.ext _ _ h (noown _) (fun _ z => by cases z)).1, VRf.mono S.toMR t' r⟩
  refine ⟨_, io, [], S0, ?_⟩
  unfold fFrz at p
  cases e : f (env.map fun o => o.bind (D.fz M 8)) [] with
  | stuck => rw [e] at p; exact p.elim
  | exc C as M' => rw [e] at p; exact p.elim
  | ok d M' =>
    rw [e] at p
    cases M' with
    | cons u M' => exact p.elim
    | nil =>
      dsimp only at p
      split at p
      · rename_i hd
        intro v H' io' t S' r'
        obtain ⟨t', m2, sb'⟩ := back t S'.toMR
        exact p v H' io t' (S.ext_mono t' m2) (VR.sub sb' hd r')
      · exact p.elim
theorem Ok.frz {g : G} {E : WX} {X : Cx} {k : Nat} (o : Ok g E X k) (F B : Addr → Prop) : Ok ⟨g.toG0, F, none, B⟩ E X k :=
  ⟨⟨o.prog, o.w, o.base, o.K, o.mg, o.nd, o.grd, o.un⟩, o.calm, o.tk, o.room, o.own⟩
/-- from now on a list of ours is written at no more -/
def lkS (i : Nat) (env : DEnv) (M : Mem) : DEnv × Mem := match env[i]? with
  | some (some (.ref j)) => (match M[j]? with
    | some (.lst ds) => (env.set i (some (.lst ds)), M.set j MO.gone)
    | _ => (env, M))
  | _ => (env, M)
def sLk (i : Nat) (f : FS) : FS := fun env M => f (lkS i env M).1 (lkS i env M).2
theorem ds_lk {g : G} {E : WX} {X : Cx} {st : Stmt} {f : FS} (i : Nat) (h : DS g E X st f) : DS g E X st (sLk i f) := by
  refine PS.weak h fun D s H ⟨env, io, M, S, z⟩ => ?_
  unfold sLk lkS at z
  split at z
  · rename_i j ei
    split at z
    · rename_i ds ej
      have hj : j < M.length := (List.getElem?_eq_some_iff.mp ej).1
      have less : ∀ a, OwnOf io (M.set j MO.gone) a → OwnOf io M a := by
        rintro a ⟨k, o, e, ho, rfl⟩
        by_cases hk : j = k
        · subst hk
          rw [List.getElem?_set_self hj] at e
          cases e; exact absurd rfl ho
        · rw [List.getElem?_set_ne hk] at e
          exact ⟨k, o, e, ho, rfl⟩
      have nown : ¬ OwnOf io (M.set j MO.gone) (io j) := by
        rintro ⟨k, o, e, ho, hk⟩
        by_cases hjk : j = k
        · subst hjk
          rw [List.getElem?_set_self hj] at e
          cases e; exact absurd rfl ho
        · rw [List.getElem?_set_ne hjk] at e
          exact hjk (S.toMR.inj j k _ _ ej e (fun z => by cases z) ho hk.symm)
      have t : ST io M H io (M.set j MO.gone) H := ⟨fun b o h n q => ⟨h, fun y => n (less b y)⟩, fun _ _ => rfl, by simp⟩
      have m : MR g io (M.set j MO.gone) H := by
        refine ⟨fun k o e => ?_, fun a b o o' ea eb na nb hh => ?_, S.toMR.tab, fun a ha => ⟨(S.toMR.frm a ha).1, fun y => (S.toMR.frm a ha).2 (less a y)⟩, S.toMR.bor⟩
        · by_cases hk : j = k
          · subst hk
            rw [List.getElem?_set_self hj] at e
            cases e; trivial
          · rw [List.getElem?_set_ne hk] at e
            have q := S.toMR.mem k o e
            cases o with
            | gone => trivial
            | lst ds => obtain ⟨vs, h, r⟩ := q; exact ⟨vs, h, VRs.mono S.toMR t r⟩
            | dk ds => obtain ⟨vs, h, r⟩ := q; exact ⟨vs, h, VRk.mono S.toMR t r⟩
            | ins C fs => obtain ⟨dx, vs, h, r⟩ := q; exact ⟨dx, vs, h, VRf.mono S.toMR t r⟩
        · have fa : ∀ k o, (M.set j MO.gone)[k]? = some o → o ≠ MO.gone → M[k]? = some o := fun k o e ho => by
            by_cases hk : j = k
            · subst hk
              rw [List.getElem?_set_self hj] at e
              cases e; exact absurd rfl ho
            · rwa [List.getElem?_set_ne hk] at e
          exact S.toMR.inj a b o o' (fa a o ea na) (fa b o' eb nb) na nb hh
      have S1 := S.later t m
      have hi : i < env.length := (List.getElem?_eq_some_iff.mp ei).1
      refine ⟨env.set i (some (.lst ds)), io, M.set j MO.gone, ⟨m, fun k d e => ?_, by rw [List.length_set]; exact S.len, S1.xd⟩, PostS.step t z⟩
      by_cases hk : i = k
      · subst hk
        rw [List.getElem?_set_self hi] at e
        cases e
        obtain ⟨v, hv, r⟩ := S.ev i _ ei
        obtain ⟨vs, hh, rs⟩ := S.toMR.mem j _ ej
        cases r with
        | ref _ => exact ⟨_, hv, .lst hh (fun z => z.elim (fun q => (S.toMR.frm _ q).2 ⟨j, _, ej, (fun z => by cases z), rfl⟩) nown) (VRs.mono S.toMR t rs)⟩
      · rw [List.getElem?_set_ne hk] at e
        exact S1.ev k d e
    · exact ⟨env, io, M, S, z⟩
  · exact ⟨env, io, M, S, z⟩
end DL

-- DlLt
set_option Elab.async false
set_option linter.all false
set_option maxRecDepth 100000
set_option maxHeartbeats 2000000
/-! DlLt: tuples that read alike, the lesser one. -/
namespace DL
open PySem PySem.Spec PyProof.Rows L2
def rLtD (K : PySem.W.Frag) : R2 := fun x y H Q => ∃ d e, Dp K H x d ∧ Dp K H y e ∧ SeqAt.shaped d = true ∧ SeqAt.shaped e = true ∧ PySem.W.alike d e = true ∧ d ≠ .none ∧ Q (.bl (PySem.W.dataLt d e)) H
theorem op_ltD {X : Cx} (hu : X.A.units + 64 < cLine) : OpR X (compareOp .Lt) (rLtD X.K) := by
  intro pins s σ H x y v u Q I rx ry h
  obtain ⟨d, e, hd, he, sd, se, ha, hn, q⟩ := h
  obtain ⟨as, r1⟩ := Dp.reads I d x v hd rx
  obtain ⟨bs, r2⟩ := Dp.reads I e y u he ry
  refine PySem.W.lt_data r1 r2 ha hn ?_ ⟨.bl _, H, I, rfl, q⟩
  unfold SeqAt.shaped at sd
  simp only [Bool.and_eq_true, decide_eq_true_eq] at sd
  omega
/-- a < b of tuples -/
def kLtT (a b : D) (M : Mem) : R D := match pyDeep M a b with
  | some (.tuple p, q) => if PySem.W.alike (.tuple p) q = true then .ok (.bl (PySem.W.dataLt (.tuple p) q)) M else .stuck
  | _ => .stuck
theorem two_ltT {g : G} : Two g (rLtD g.K) kLtT := by
  intro E io env M s H v w a b Q S r1 r2 p
  unfold kLtT at p
  split at p
  · rename_i x y e1
    split at p
    · rename_i ha
      have q := PostE.here p S (.bl _)
      unfold pyDeep at e1
      obtain ⟨p', ep, e1⟩ := Option.bind_eq_some_iff.mp e1
      obtain ⟨q', eq, e1⟩ := Option.bind_eq_some_iff.mp e1
      split at e1
      · rename_i hs
        cases e1
        simp only [Bool.and_eq_true] at hs
        exact ⟨_, _, py_dp S.toMR 12 r1 ep, py_dp S.toMR 12 r2 eq, hs.1, hs.2, ha, (fun z => by cases z), q⟩
      · cases e1
    · exact p.elim
  · exact p.elim
/-- a is not b of truth values -/
def kNotB (a b : D) (M : Mem) : R D := match a, b with
  | .bl x, .bl y => .ok (.bl (!decide (x = y))) M
  | _, _ => .stuck
theorem two_notB {g : G} : Two g rNotB kNotB := by
  intro E io env M s H v w a b Q S r1 r2 p
  unfold kNotB at p
  split at p
  · cases r1; cases r2
    exact ⟨_, _, rfl, rfl, PostE.here p S (.bl _)⟩
  · exact p.elim
section
variable {g : G} {E : WX} {X : Cx} {k : Nat} {pos p : Pos} {a b : Expr} {f h : FE}
theorem x_ltT (o : Ok g E X k) (ha : DE g E X a f) (hb : DE g E X b h) (hm : behindInMarks .Lt b = false := by rfl) : DE g E X (.Compare a [.Lt] [b] pos) (f2 kLtT f h) := d_cmp (by rw [← o.K]; exact op_ltD o.room.units) two_ltT ha hb hm
theorem y_ltT (o : Ok g E X k) (ha : DE g E X a f) (hb : DE g E X b h) (hm : behindInMarks .Lt b = false := by rfl) : DT g E X (.Compare a [.Lt] [b] pos) (tOf (f2 kLtT f h)) := dt_cmp (by rw [← o.K]; exact op_ltD o.room.units) two_ltT ha hb hm
theorem x_notB (o : Ok g E X k) (ha : DE g E X a f) (hb : DE g E X b h) (hm : behindInMarks .IsNot b = false := by rfl) : DE g E X (.Compare a [.IsNot] [b] pos) (f2 kNotB f h) := d_cmp op_notBl two_notB ha hb hm
theorem y_notB (o : Ok g E X k) (ha : DE g E X a f) (hb : DE g E X b h) (hm : behindInMarks .IsNot b = false := by rfl) : DT g E X (.Compare a [.IsNot] [b] pos) (tOf (f2 kNotB f h)) := dt_cmp op_notBl two_notB ha hb hm
end
end DL

-- K91D
set_option Elab.async false
set_option linter.all false
set_option maxRecDepth 100000
set_option maxHeartbeats 1000000
/-! what the defs of k91 do on data (printed by gen.py) -/
namespace K91
open PySem PySem.Spec PyProof.Rows L2 LamX DL
def b_is_integer : FS := (sRet (fAnd (fOf (k2 kIsi) (aCons (fVar 0) (aCons (fC (.ty "int")) aNil))) (fNot (fOf (k2 kIsi) (aCons (fVar 0) (aCons (fC (.ty "bool")) aNil))))))
def m_is_integer : List D → Mem → R D := trimM (mOf 1 b_is_integer)
def b_is_within : FS := (sRet (fAnd (fCall (kPur (shN 1) m_is_integer) (aCons (fVar 0) aNil) aNil) (fCh kLe kLe (fVar 1) (fVar 0) (fVar 2))))
def m_is_within : List D → Mem → R D := trimM (mOf 3 b_is_within)
def b_is_row : FS := (sRet (fAnd (fOf (k2 kIsi) (aCons (fVar 0) (aCons (fC (.ty "tuple")) aNil))) (f2 kEq (fOf (k1 kLen) (aCons (fVar 0) aNil)) (fVar 1))))
def m_is_row : List D → Mem → R D := trimM (mOf 2 b_is_row)
def b_is_rising : FS := (sRet (fOf (k1 kAll) (aCons (fComp [1, 2] (iOfA kZp (aCons (fVar 0) (aCons (fSl (fVar 0) (oSome (fC (.int 1))) oNone) aNil))) (.tup [(.name 1), (.name 2)]) tYesF (f2 kLt (fVar 1) (fVar 2))) aNil)))
def m_is_rising : List D → Mem → R D := trimM (mOf 3 b_is_rising)
def b_are_places_of : FS := (sSeq (sIf (tOrF (tNotF (tOf (fOf (k2 kIsi) (aCons (fVar 0) (aCons (fC (.ty "tuple")) aNil))))) (tNotF (tOf (fOf (k1 kAll) (aCons (fComp [2] (iOf kIt (fVar 0)) (.name 2) tYesF (fCall (kPur (shN 3) m_is_within) (aCons (fVar 2) (aCons (fC (.int 0)) (aCons (f2 kSub (fVar 1) (fC (.int 1))) aNil))) aNil)) aNil))))) (sRet (fC (.bl false))) sNil)
  (sRet (fCall (kPur (shN 1) m_is_rising) (aCons (fVar 0) aNil) aNil)))
def m_are_places_of : List D → Mem → R D := trimM (mOf 3 b_are_places_of)
def b_fraction : FS := (sSeq (sIf (tOf (f2 kLt (fVar 1) (fC (.int 0)))) (sPar2 0 1 (aCons (f1 kNeg (fVar 0)) (aCons (f1 kNeg (fVar 1)) aNil))) sNil)
  (sSeq (sSet 2 (fOf (k2 kGcd) (aCons (fVar 0) (aCons (fVar 1) aNil))))
  (sRet (fOf kTup (aCons (f2 kFdiv (fVar 0) (fVar 2)) (aCons (f2 kFdiv (fVar 1) (fVar 2)) aNil))))))
def m_fraction : List D → Mem → R D := trimM (mOf 3 b_fraction)
def b_whole : FS := (sRet (fOf kTup (aCons (fVar 0) (aCons (fC (.int 1)) aNil))))
def m_whole : List D → Mem → R D := trimM (mOf 1 b_whole)
def b_plus : FS := (sRet (fCall (kPur (shN 2) m_fraction) (aCons (f2 kAdd (f2 kMulI (f2 kIx (fVar 0) (fC (.int 0))) (f2 kIx (fVar 1) (fC (.int 1)))) (f2 kMulI (f2 kIx (fVar 1) (fC (.int 0))) (f2 kIx (fVar 0) (fC (.int 1))))) (aCons (f2 kMulI (f2 kIx (fVar 0) (fC (.int 1))) (f2 kIx (fVar 1) (fC (.int 1)))) aNil)) aNil))
def m_plus : List D → Mem → R D := trimM (mOf 2 b_plus)
def b_product : FS := (sRet (fCall (kPur (shN 2) m_fraction) (aCons (f2 kMulI (f2 kIx (fVar 0) (fC (.int 0))) (f2 kIx (fVar 1) (fC (.int 0)))) (aCons (f2 kMulI (f2 kIx (fVar 0) (fC (.int 1))) (f2 kIx (fVar 1) (fC (.int 1)))) aNil)) aNil))
def m_product : List D → Mem → R D := trimM (mOf 2 b_product)
def b_is_less : FS := (sRet (f2 kLt (f2 kMulI (f2 kIx (fVar 0) (fC (.int 0))) (f2 kIx (fVar 1) (fC (.int 1)))) (f2 kMulI (f2 kIx (fVar 1) (fC (.int 0))) (f2 kIx (fVar 0) (fC (.int 1))))))
def m_is_less : List D → Mem → R D := trimM (mOf 2 b_is_less)
def b_shown : FS := (sSeq (sIf (tOrF (tOf (f2 kGe (fOf (k1 kAbs) (aCons (f2 kIx (fVar 0) (fC (.int 0))) aNil)) (fC (.int 10000000000000000000000000000000000000000000000000000000000000000000000000000000000000000000000000000000000000000000000000000000000000000000000000000000000000000000000000000000000000000000000000000000000000000000000000000000000000000000000000000000000000000000000000000000000000000000000000000000000000000000000000000000000000000000000000000000000000000000000000000000000000000000000000000000000000000)))) (tOf (f2 kGe (f2 kIx (fVar 0) (fC (.int 1))) (fC (.int 10000000000000000000000000000000000000000000000000000000000000000000000000000000000000000000000000000000000000000000000000000000000000000000000000000000000000000000000000000000000000000000000000000000000000000000000000000000000000000000000000000000000000000000000000000000000000000000000000000000000000000000000000000000000000000000000000000000000000000000000000000000000000000000000000000000000000000))))) sStub sNil)
  (sRet (fVar 0)))
def m_shown : List D → Mem → R D := trimM (mOf 1 b_shown)
def b_is_ratio : FS := (sSeq (sIf (tOrF (tNotF (tOf (fCall (kPur (shN 2) m_is_row) (aCons (fVar 0) (aCons (fC (.int 2)) aNil)) aNil))) (tOrF (tNotF (tOf (fCall (kPur (shN 1) m_is_integer) (aCons (f2 kIx (fVar 0) (fC (.int 0))) aNil) aNil))) (tOrF (tNotF (tOf (fCall (kPur (shN 1) m_is_integer) (aCons (f2 kIx (fVar 0) (fC (.int 1))) aNil) aNil))) (tOf (f2 kLt (f2 kIx (fVar 0) (fC (.int 1))) (fC (.int 1))))))) (sRet (fC (.bl false))) sNil)
  (sRet (fAnd (f2 kLt (fOf (k1 kAbs) (aCons (f2 kIx (fVar 0) (fC (.int 0))) aNil)) (fC (.int 10000000000000000000000000000000000000000000000000000000000000000000000000000000000000000000000000000000000000000000000000000000000000000000000000000000000000000000000000000000000000000000000000000000000000000000000000000000000000000000000000000000000000000000000000000000000000000000000000000000000000000000000000000000000000000000000000000000000000000000000000000000000000000000000000000000000000000))) (fAnd (f2 kLt (f2 kIx (fVar 0) (fC (.int 1))) (fC (.int 10000000000000000000000000000000000000000000000000000000000000000000000000000000000000000000000000000000000000000000000000000000000000000000000000000000000000000000000000000000000000000000000000000000000000000000000000000000000000000000000000000000000000000000000000000000000000000000000000000000000000000000000000000000000000000000000000000000000000000000000000000000000000000000000000000000000000000))) (f2 kEq (fOf (k2 kGcd) (aCons (f2 kIx (fVar 0) (fC (.int 0))) (aCons (f2 kIx (fVar 0) (fC (.int 1))) aNil))) (fC (.int 1)))))))
def m_is_ratio : List D → Mem → R D := trimM (mOf 1 b_is_ratio)
def b_is_tie : FS := (sRet (fAnd (fCall (kPur (shN 2) m_is_row) (aCons (fVar 0) (aCons (fC (.int 2)) aNil)) aNil) (fAnd (fCall (kPur (shN 3) m_is_within) (aCons (f2 kIx (fVar 0) (fC (.int 0))) (aCons (fC (.int 0)) (aCons (fVar 1) aNil))) aNil) (fCall (kPur (shN 3) m_is_within) (aCons (f2 kIx (fVar 0) (fC (.int 1))) (aCons (fC (.int 1)) (aCons (fC (.int 999)) aNil))) aNil))))
def m_is_tie : List D → Mem → R D := trimM (mOf 2 b_is_tie)
def b_is_tree : FS := (sSeq (sIf (tOrF (tNotF (tOf (fCall (kPur (shN 2) m_is_row) (aCons (fVar 0) (aCons (fC (.int 2)) aNil)) aNil))) (tOrF (tNotF (tOf (fOf (k2 kIsi) (aCons (f2 kIx (fVar 0) (fC (.int 0))) (aCons (fC (.ty "str")) aNil))))) (tOf (f2 kNe (f2 kIx (fVar 0) (fC (.int 0))) (fC (.str "tree")))))) (sRet (fC (.bl false))) sNil)
  (sSeq (sIf (tOrF (tNotF (tOf (fOf (k2 kIsi) (aCons (f2 kIx (fVar 0) (fC (.int 1))) (aCons (fC (.ty "tuple")) aNil))))) (tOf (f2 kGe (fOf (k1 kLen) (aCons (f2 kIx (fVar 0) (fC (.int 1))) aNil)) (fC (.int 24))))) (sRet (fC (.bl false))) sNil)
  (sRet (fOf (k1 kAll) (aCons (fComp [1, 2] (iOfA kEn (aCons (f2 kIx (fVar 0) (fC (.int 1))) aNil)) (.tup [(.name 1), (.name 2)]) tYesF (fCall (kPur (shN 2) m_is_tie) (aCons (fVar 2) (aCons (fVar 1) aNil)) aNil)) aNil)))))
def m_is_tree : List D → Mem → R D := trimM (mOf 3 b_is_tree)
def b_want_tree : FS := (sSeq (sIf (tNotF (tOf (fCall (kPur (shN 1) m_is_tree) (aCons (fVar 0) aNil) aNil))) (sRaise "InvalidTree" ["value"] (aCons (fVar 0) aNil)) sNil)
  (sRet (fVar 0)))
def m_want_tree : List D → Mem → R D := trimM (mOf 1 b_want_tree)
def b_place_count : FS := (sRet (f2 kAdd (fOf (k1 kLen) (aCons (f2 kIx (fVar 0) (fC (.int 1))) aNil)) (fC (.int 1))))
def m_place_count : List D → Mem → R D := trimM (mOf 1 b_place_count)
def b_father_of : FS := (sRet (f2 kIx (f2 kIx (f2 kIx (fVar 0) (fC (.int 1))) (f2 kSub (fVar 1) (fC (.int 1)))) (fC (.int 0))))
def m_father_of : List D → Mem → R D := trimM (mOf 2 b_father_of)
def b_path_up : FS := (sSeq (sSet 2 (fOf kOwn (aCons (fVar 1) aNil)))
  (sSeq (sWhile (tOf (f2 kNe (f2 kIx (fVar 2) (f1 kNeg (fC (.int 1)))) (fC (.int 0)))) (sDrop (fBm kAppend (fVar 2) (aCons (fCall (kPur (shN 2) m_father_of) (aCons (fVar 0) (aCons (f2 kIx (fVar 2) (f1 kNeg (fC (.int 1)))) aNil)) aNil) aNil))) 64)
  (sRet (fVar 2))))
def m_path_up : List D → Mem → R D := mOf 3 b_path_up
def b_depths_in : FS := (sSeq (sSet 1 (fOf kOwn (aCons (fC (.int 0)) aNil)))
  (sSeq (sForI (iOf kIt (f2 kIx (fVar 0) (fC (.int 1)))) (.tup [(.name 2), (.name 3)]) (sDrop (fBm kAppend (fVar 1) (aCons (f2 kAdd (f2 kIx (fVar 1) (fVar 2)) (fVar 3)) aNil))))
  (sRet (fVar 1))))
def m_depths_in : List D → Mem → R D := trimM (mOf 4 b_depths_in)
def b_path_in : FS := (sSeq (sPar2 3 4 (aCons (fCall (kImp (shN 2) m_path_up) (aCons (fVar 0) (aCons (fVar 1) aNil)) aNil) (aCons (fCall (kImp (shN 2) m_path_up) (aCons (fVar 0) (aCons (fVar 2) aNil)) aNil) aNil)))
  (sSeq (sWhile (tAndF (tOf (f2 kGt (fOf (k1 kLen) (aCons (fVar 3) aNil)) (fC (.int 1)))) (tAndF (tOf (f2 kGt (fOf (k1 kLen) (aCons (fVar 4) aNil)) (fC (.int 1)))) (tOf (f2 kEq (f2 kIx (fVar 3) (f1 kNeg (fC (.int 2)))) (f2 kIx (fVar 4) (f1 kNeg (fC (.int 2)))))))) (sSeq (sDrop (fBm kPop (fVar 3) aNil))
  (sDrop (fBm kPop (fVar 4) aNil))) 64)
  (sRet (f2 kAdd (fVar 3) (fSl (f1 kRev (fVar 4)) (oSome (fC (.int 1))) oNone)))))
def m_path_in : List D → Mem → R D := trimM (mOf 5 b_path_in)
def b_top_in : FS := (sRet (fOf (kMin) (aCons (fCall (kPur (shN 3) m_path_in) (aCons (fVar 0) (aCons (fVar 1) (aCons (fVar 2) aNil))) aNil) aNil)))
def m_top_in : List D → Mem → R D := trimM (mOf 3 b_top_in)
def b_way_in : FS := (sSeq (sSet 3 (fCall (kPur (shN 1) m_depths_in) (aCons (fVar 0) aNil) aNil))
  (sRet (f2 kSub (f2 kAdd (f2 kIx (fVar 3) (fVar 1)) (f2 kIx (fVar 3) (fVar 2))) (f2 kMulI (fC (.int 2)) (f2 kIx (fVar 3) (fCall (kPur (shN 3) m_top_in) (aCons (fVar 0) (aCons (fVar 1) (aCons (fVar 2) aNil))) aNil))))))
def m_way_in : List D → Mem → R D := trimM (mOf 4 b_way_in)
def b_want_many : FS := (sIf (tNotF (tOf (fCall (kPur (shN 3) m_is_within) (aCons (fVar 0) (aCons (fC (.int 0)) (aCons (fC (.int 99)) aNil))) aNil))) (sRaise "InvalidMany" ["value"] (aCons (fVar 0) aNil)) sNil)
def m_want_many : List D → Mem → R D := trimM (mOf 1 b_want_many)
def b_is_call : FS := (sSeq (sIf (tOrF (tNotF (tOf (fCall (kPur (shN 2) m_is_row) (aCons (fVar 1) (aCons (fC (.int 3)) aNil)) aNil))) (tOrF (tNotF (tOf (fCall (kPur (shN 3) m_is_within) (aCons (f2 kIx (fVar 1) (fC (.int 0))) (aCons (fC (.int 0)) (aCons (fC (.int 99)) aNil))) aNil))) (tNotF (tOf (fCall (kPur (shN 3) m_is_within) (aCons (f2 kIx (fVar 1) (fC (.int 2))) (aCons (fC (.int 0)) (aCons (fC (.int 9999)) aNil))) aNil))))) (sRet (fC (.bl false))) sNil)
  (sRet (fCall (kPur (shN 3) m_is_within) (aCons (f2 kIx (fVar 1) (fC (.int 1))) (aCons (fC (.int 0)) (aCons (f2 kSub (fCall (kPur (shN 1) m_place_count) (aCons (fVar 0) aNil) aNil) (fC (.int 1))) aNil))) aNil)))
def m_is_call : List D → Mem → R D := trimM (mOf 2 b_is_call)
def b_is_day_in : FS := (sSeq (sIf (tOrF (tNotF (tOf (fCall (kPur (shN 2) m_is_row) (aCons (fVar 1) (aCons (fC (.int 3)) aNil)) aNil))) (tOrF (tNotF (tOf (fOf (k2 kIsi) (aCons (f2 kIx (fVar 1) (fC (.int 0))) (aCons (fC (.ty "str")) aNil))))) (tOf (f2 kNe (f2 kIx (fVar 1) (fC (.int 0))) (fC (.str "day")))))) (sRet (fC (.bl false))) sNil)
  (sSeq (sIf (tOrF (tNotF (tOf (fCall (kPur (shN 1) m_is_ratio) (aCons (f2 kIx (fVar 1) (fC (.int 1))) aNil) aNil))) (tOrF (tOf (f2 kLt (f2 kIx (f2 kIx (fVar 1) (fC (.int 1))) (fC (.int 0))) (fC (.int 0)))) (tNotF (tOf (fOf (k2 kIsi) (aCons (f2 kIx (fVar 1) (fC (.int 2))) (aCons (fC (.ty "tuple")) aNil))))))) (sRet (fC (.bl false))) sNil)
  (sSeq (sIf (tOrF (tNotF (tOf (fCh kLe kLe (fC (.int 1)) (fOf (k1 kLen) (aCons (f2 kIx (fVar 1) (fC (.int 2))) aNil)) (fC (.int 8))))) (tNotF (tOf (fOf (k1 kAll) (aCons (fComp [4] (iOf kIt (f2 kIx (fVar 1) (fC (.int 2)))) (.name 4) tYesF (fCall (kPur (shN 2) m_is_call) (aCons (fVar 0) (aCons (fVar 4) aNil)) aNil)) aNil))))) (sRet (fC (.bl false))) sNil)
  (sRet (fOf (k1 kAll) (aCons (fComp [2, 3] (iOfA kZp (aCons (f2 kIx (fVar 1) (fC (.int 2))) (aCons (fSl (f2 kIx (fVar 1) (fC (.int 2))) (oSome (fC (.int 1))) oNone) aNil))) (.tup [(.name 2), (.name 3)]) tYesF (f2 kLtT (fVar 2) (fVar 3))) aNil))))))
def m_is_day_in : List D → Mem → R D := trimM (mOf 5 b_is_day_in)
def b_want_day : FS := (sIf (tNotF (tOf (fCall (kPur (shN 2) m_is_day_in) (aCons (fCall (kPur (shN 1) m_want_tree) (aCons (fVar 0) aNil) aNil) (aCons (fVar 1) aNil)) aNil))) (sRaise "InvalidDay" ["value"] (aCons (fVar 1) aNil)) sNil)
def m_want_day : List D → Mem → R D := trimM (mOf 2 b_want_day)
def b_fit_in : FS := (sSeq (sAsg (.tup [(.tup [(.name 5), (.name 6), (.name 7)]), (.tup [(.name 8), (.name 9), (.name 10)])]) (fOf kTup (aCons (f2 kIx (f2 kIx (fVar 1) (fC (.int 2))) (fVar 2)) (aCons (f2 kIx (f2 kIx (fVar 1) (fC (.int 2))) (fVar 3)) aNil))))
  (sSeq (sSet 4 (fCall (kPur (shN 2) m_plus) (aCons (fCall (kPur (shN 1) m_whole) (aCons (f2 kAdd (fVar 7) (fVar 10)) aNil) aNil) (aCons (fCall (kPur (shN 2) m_product) (aCons (f2 kIx (fVar 1) (fC (.int 1))) (aCons (fCall (kPur (shN 1) m_whole) (aCons (fOf (k1 kAbs) (aCons (f2 kSub (fVar 8) (fVar 5)) aNil)) aNil) aNil) aNil)) aNil) aNil)) aNil))
  (sRet (fNot (fCall (kPur (shN 2) m_is_less) (aCons (fVar 4) (aCons (fCall (kPur (shN 1) m_whole) (aCons (fCall (kPur (shN 3) m_way_in) (aCons (fVar 0) (aCons (fVar 6) (aCons (fVar 9) aNil))) aNil) aNil) aNil) aNil)) aNil)))))
def m_fit_in : List D → Mem → R D := trimM (mOf 11 b_fit_in)
def b_do_all_fit : FS := (sSeq (sForI (iOfA kEn (aCons (fVar 2) aNil)) (.tup [(.name 3), (.name 4)]) (sIf (tNotF (tOf (fOf (k1 kAll) (aCons (fComp [5] (iOf kIt (fSl (fVar 2) oNone (oSome (fVar 3)))) (.name 5) tYesF (fCall (kPur (shN 4) m_fit_in) (aCons (fVar 0) (aCons (fVar 1) (aCons (fVar 5) (aCons (fVar 4) aNil)))) aNil)) aNil)))) (sRet (fC (.bl false))) sNil))
  (sRet (fC (.bl true))))
def m_do_all_fit : List D → Mem → R D := trimM (mOf 6 b_do_all_fit)
def b_contrary_in : FS := (sSeq (sSet 2 (fOf kOwn aNil))
  (sSeq (sForI (iOfA kRg1 (aCons (fOf (k1 kLen) (aCons (f2 kIx (fVar 1) (fC (.int 2))) aNil)) aNil)) (.name 3) (sDrop (fBm kExtend (fVar 2) (aCons (fComp [4] (iOfA kRg1 (aCons (fVar 3) aNil)) (.name 4) (tNotF (tOf (fCall (kPur (shN 4) m_fit_in) (aCons (fVar 0) (aCons (fVar 1) (aCons (fVar 4) (aCons (fVar 3) aNil)))) aNil))) (fOf kTup (aCons (fVar 4) (aCons (fVar 3) aNil)))) aNil))))
  (sRet (fVar 2))))
def m_contrary_in : List D → Mem → R D := trimM (mOf 5 b_contrary_in)
def b_touches : FS := (sRet (fOf (k1 kAny) (aCons (fComp [3, 4] (iOf kIt (fVar 0)) (.tup [(.name 3), (.name 4)]) tYesF (fOr (fAnd (f2 kIn (fVar 3) (fVar 1)) (f2 kIn (fVar 4) (fVar 2))) (fAnd (f2 kIn (fVar 3) (fVar 2)) (f2 kIn (fVar 4) (fVar 1))))) aNil)))
def m_touches : List D → Mem → R D := trimM (mOf 5 b_touches)
def b_are_all_contrary : FS := sStub
def m_are_all_contrary : List D → Mem → R D := trimM (mOf 5 b_are_all_contrary)
def b_greatest_lots : FS := (sSeq (sPar2 4 5 (aCons (fOf kLst aNil) (aCons (fOf kOwn (aCons (fOf kLst aNil) aNil)) aNil)))
  (sSeq (sForI (iOf kIt (fVar 1)) (.name 2) (sDrop (fBm kExtend (fVar 5) (aCons (fFrz (fComp [3] (iOf kIt (fVar 5)) (.name 3) (tOf (fOf (k1 kAll) (aCons (fComp [6] (iOf kIt (fVar 3)) (.name 6) tYesF (fCall (kPur (shN 3) m_touches) (aCons (fVar 0) (aCons (fVar 6) (aCons (fVar 2) aNil))) aNil)) aNil))) (f2 kAdd (fVar 3) (fOf kLst (aCons (fVar 2) aNil))))) aNil))))
  (sSeq (sLk 5 (sForI (iOf kIt (fVar 5)) (.name 3) (sSet 4 (fIf (tOf (f2 kGt (fOf (k1 kLen) (aCons (fVar 3) aNil)) (fOf (k1 kLen) (aCons (fVar 4) aNil)))) (fVar 3) (fVar 4)))))
  (sRet (fVar 4)))))
def m_greatest_lots : List D → Mem → R D := trimM (mOf 7 b_greatest_lots)
def b_share_in : FS := (sSeq (sSet 3 (fOf kOwn (aCons (fOf kTup (aCons (fOf kLst aNil) (aCons (fC (.int 0)) aNil))) aNil)))
  (sSeq (sWhile (tOf (f2 kNe (fVar 3) (fOf kLst aNil))) (sSeq (sAsg (.tup [(.name 5), (.name 6)]) (fBm kPop (fVar 3) aNil))
  (sSeq (sIf (tOf (f2 kEq (fVar 6) (fVar 1))) (sRet (fOf (k1 kTuple) (aCons (fComp [7] (iOf kIt (fVar 5)) (.name 7) tYesF (fOf (k1 kTuple) (aCons (fVar 7) aNil))) aNil))) sNil)
  (sSeq (sIf (tOf (f2 kLt (fOf (k1 kLen) (aCons (fVar 5) aNil)) (fVar 2))) (sDrop (fBm kAppend (fVar 3) (aCons (fOf kTup (aCons (f2 kAdd (fVar 5) (fOf kLst (aCons (fOf kLst (aCons (fVar 6) aNil)) aNil))) (aCons (f2 kAdd (fVar 6) (fC (.int 1))) aNil))) aNil))) sNil)
  (sForI (iOfA kRg3 (aCons (f2 kSub (fOf (k1 kLen) (aCons (fVar 5) aNil)) (fC (.int 1))) (aCons (f1 kNeg (fC (.int 1))) (aCons (f1 kNeg (fC (.int 1))) aNil)))) (.name 4) (sIf (tNotF (tOf (fCall (kPur (shN 3) m_touches) (aCons (fVar 0) (aCons (f2 kIx (fVar 5) (fVar 4)) (aCons (fOf kLst (aCons (fVar 6) aNil)) aNil))) aNil))) (sDrop (fBm kAppend (fVar 3) (aCons (fOf kTup (aCons (f2 kAdd (f2 kAdd (fSl (fVar 5) oNone (oSome (fVar 4))) (fOf kLst (aCons (f2 kAdd (f2 kIx (fVar 5) (fVar 4)) (fOf kLst (aCons (fVar 6) aNil))) aNil))) (fSl (fVar 5) (oSome (f2 kAdd (fVar 4) (fC (.int 1)))) oNone)) (aCons (f2 kAdd (fVar 6) (fC (.int 1))) aNil))) aNil))) sNil))))) 400)
  (sRet (fC .non))))
def m_share_in : List D → Mem → R D := trimM (mOf 8 b_share_in)
def b_fewest_in : FS := (sSeq (sPar2 3 4 (aCons (fCall (kPur (shN 2) m_contrary_in) (aCons (fVar 0) (aCons (fVar 1) aNil)) aNil) (aCons (fOf (k1 kLen) (aCons (f2 kIx (fVar 1) (fC (.int 2))) aNil)) aNil)))
  (sSeq (sSet 2 (fOf (k1 kLen) (aCons (fCall (kPur (shN 2) m_greatest_lots) (aCons (fVar 3) (aCons (fComp [5] (iOfA kRg1 (aCons (fVar 4) aNil)) (.name 5) tYesF (fOf kLst (aCons (fVar 5) aNil))) aNil)) aNil) aNil)))
  (sSeq (sWhile (tOf (f2 kIsN (fCall (kPur (shN 3) m_share_in) (aCons (fVar 3) (aCons (fVar 4) (aCons (fVar 2) aNil))) aNil) (fC .non))) (sAug 2 (fun i j => i + j) (fC (.int 1))) 64)
  (sRet (fVar 2)))))
def m_fewest_in : List D → Mem → R D := trimM (mOf 6 b_fewest_in)
def b_best_split : FS := sStub
def m_best_split : List D → Mem → R D := trimM (mOf 9 b_best_split)
def b_cases_in : FS := sStub
def m_cases_in : List D → Mem → R D := trimM (mOf 14 b_cases_in)
def b_lot_of : FS := sStub
def m_lot_of : List D → Mem → R D := trimM (mOf 3 b_lot_of)
def b_is_end : FS := sStub
def m_is_end : List D → Mem → R D := trimM (mOf 7 b_is_end)
def b_is_node : FS := sStub
def m_is_node : List D → Mem → R D := trimM (mOf 5 b_is_node)
def b_are_nodes : FS := sStub
def m_are_nodes : List D → Mem → R D := trimM (mOf 5 b_are_nodes)
def b_are_cases : FS := sStub
def m_are_cases : List D → Mem → R D := trimM (mOf 14 b_are_cases)
def b_is_share : FS := (sSeq (sIf (tOrF (tNotF (tOf (fOf (k2 kIsi) (aCons (fVar 2) (aCons (fC (.ty "tuple")) aNil))))) (tNotF (tOf (fOf (k1 kAll) (aCons (fComp [4] (iOf kIt (fVar 2)) (.name 4) tYesF (fAnd (fCall (kPur (shN 2) m_are_places_of) (aCons (fVar 4) (aCons (fOf (k1 kLen) (aCons (f2 kIx (fVar 1) (fC (.int 2))) aNil)) aNil)) aNil) (f2 kGt (fOf (k1 kLen) (aCons (fVar 4) aNil)) (fC (.int 0))))) aNil))))) (sRet (fC (.bl false))) sNil)
  (sSeq (sSet 3 (fComp2 [4, 5] [5] (iOf kIt (fVar 2)) (.name 4) tYesF (fVar 4) (.name 5) tYesF (fVar 5)))
  (sRet (fAnd (f2 kEq (fOf (k1 kSorted) (aCons (fVar 3) aNil)) (f1 (kRgL false) (fOf (k1 kLen) (aCons (f2 kIx (fVar 1) (fC (.int 2))) aNil)))) (fOf (k1 kAll) (aCons (fComp [4] (iOf kIt (fVar 2)) (.name 4) tYesF (fCall (kPur (shN 3) m_do_all_fit) (aCons (fVar 0) (aCons (fVar 1) (aCons (fVar 4) aNil))) aNil)) aNil))))))
def m_is_share : List D → Mem → R D := trimM (mOf 6 b_is_share)
def b_at_speed : FS := (sRet (fOf kTup (aCons (f2 kIx (fVar 0) (fC (.int 0))) (aCons (fVar 1) (aCons (f2 kIx (fVar 0) (fC (.int 2))) aNil)))))
def m_at_speed : List D → Mem → R D := trimM (mOf 2 b_at_speed)
def b_speeds_in : FS := (sSeq (sSet 2 (fOf kOwn (aCons (fC (.tup (([0, 1] : List Int).map D.int))) aNil)))
  (sSeq (sForI (iOfA kEn (aCons (f2 kIx (fVar 1) (fC (.int 2))) aNil)) (.tup [(.name 4), (.tup [(.name 7), (.name 8), (.name 9)])]) (sForI (iOf kIt (fSl (f2 kIx (fVar 1) (fC (.int 2))) oNone (oSome (fVar 4)))) (.tup [(.name 10), (.name 11), (.name 12)]) (sSeq (sSet 13 (f2 kSub (f2 kSub (fCall (kPur (shN 3) m_way_in) (aCons (fVar 0) (aCons (fVar 11) (aCons (fVar 8) aNil))) aNil) (fVar 12)) (fVar 9)))
  (sIf (tAndF (tOf (f2 kGt (fVar 13) (fC (.int 0)))) (tOf (f2 kNe (fVar 7) (fVar 10)))) (sDrop (fBm kAppend (fVar 2) (aCons (fCall (kPur (shN 2) m_fraction) (aCons (fVar 13) (aCons (fOf (k1 kAbs) (aCons (f2 kSub (fVar 7) (fVar 10)) aNil)) aNil)) aNil) aNil))) sNil))))
  (sSeq (sSet 3 (fOf kOwn aNil))
  (sSeq (sLk 2 (sWhile (tOf (f2 kNe (fVar 2) (fOf kLst aNil))) (sSeq (sSet 5 (f2 kIx (fVar 2) (fC (.int 0))))
  (sSeq (sForI (iOf kIt (fVar 2)) (.name 6) (sSet 5 (fIf (tOf (fCall (kPur (shN 2) m_is_less) (aCons (fVar 6) (aCons (fVar 5) aNil)) aNil)) (fVar 6) (fVar 5))))
  (sSeq (sDrop (fBm kAppend (fVar 3) (aCons (fVar 5) aNil)))
  (sSet 2 (fComp [6] (iOf kIt (fVar 2)) (.name 6) (tOf (f2 kNe (fVar 6) (fVar 5))) (fVar 6)))))) 64))
  (sRet (fVar 3))))))
def m_speeds_in : List D → Mem → R D := trimM (mOf 14 b_speeds_in)
def b_least_in : FS := (sSeq (sSet 3 (fCall (kPur (shN 2) m_speeds_in) (aCons (fVar 0) (aCons (fVar 1) aNil)) aNil))
  (sSeq (sIf (tOf (f2 kGt (fCall (kPur (shN 2) m_fewest_in) (aCons (fVar 0) (aCons (fCall (kPur (shN 2) m_at_speed) (aCons (fVar 1) (aCons (f2 kIx (fVar 3) (f1 kNeg (fC (.int 1)))) aNil)) aNil) aNil)) aNil) (fVar 2))) (sRet (fC .non)) sNil)
  (sSeq (sPar2 4 5 (aCons (fC (.int 0)) (aCons (f2 kSub (fOf (k1 kLen) (aCons (fVar 3) aNil)) (fC (.int 1))) aNil)))
  (sSeq (sWhile (tOf (f2 kLt (fVar 4) (fVar 5))) (sSeq (sSet 6 (f2 kFdiv (f2 kAdd (fVar 4) (fVar 5)) (fC (.int 2))))
  (sIf (tOf (f2 kGt (fCall (kPur (shN 2) m_fewest_in) (aCons (fVar 0) (aCons (fCall (kPur (shN 2) m_at_speed) (aCons (fVar 1) (aCons (f2 kIx (fVar 3) (fVar 6)) aNil)) aNil) aNil)) aNil) (fVar 2))) (sSet 4 (f2 kAdd (fVar 6) (fC (.int 1)))) (sSet 5 (fVar 6)))) 64)
  (sRet (f2 kIx (fVar 3) (fVar 4)))))))
def m_least_in : List D → Mem → R D := trimM (mOf 7 b_least_in)
def b_fewest_riders : FS := (sSeq (sDrop (fCall (kPur (shN 2) m_want_day) (aCons (fVar 0) (aCons (fVar 1) aNil)) aNil))
  (sRet (fCall (kPur (shN 2) m_fewest_in) (aCons (fVar 0) (aCons (fVar 1) aNil)) aNil)))
def m_fewest_riders : List D → Mem → R D := trimM (mOf 2 b_fewest_riders)
def b_riders_paper : FS := (sSeq (sDrop (fCall (kPur (shN 2) m_want_day) (aCons (fVar 0) (aCons (fVar 1) aNil)) aNil))
  (sSeq (sDrop (fCall (kPur (shN 1) m_want_many) (aCons (fVar 2) aNil) aNil))
  (sSeq (sPar2 4 5 (aCons (fCall (kPur (shN 2) m_contrary_in) (aCons (fVar 0) (aCons (fVar 1) aNil)) aNil) (aCons (fOf (k1 kLen) (aCons (f2 kIx (fVar 1) (fC (.int 2))) aNil)) aNil)))
  (sSeq (sSet 3 (fCall (kPur (shN 3) m_share_in) (aCons (fVar 4) (aCons (fVar 5) (aCons (fVar 2) aNil))) aNil))
  (sRet (fIf (tOf (f2 kNotN (fVar 3) (fC .non))) (fOf kTup (aCons (fC (.str "riders")) (aCons (fVar 3) aNil))) (fOf kTup (aCons (fC (.str "more")) (aCons (fCall (kPur (shN 3) m_cases_in) (aCons (fVar 4) (aCons (fVar 5) (aCons (fVar 2) aNil))) aNil) aNil)))))))))
def m_riders_paper : List D → Mem → R D := trimM (mOf 6 b_riders_paper)
def b_is_riders_paper : FS := (sSeq (sDrop (fCall (kPur (shN 2) m_want_day) (aCons (fVar 0) (aCons (fVar 1) aNil)) aNil))
  (sSeq (sDrop (fCall (kPur (shN 1) m_want_many) (aCons (fVar 2) aNil) aNil))
  (sSeq (sIf (tOrF (tNotF (tOf (fCall (kPur (shN 2) m_is_row) (aCons (fVar 3) (aCons (fC (.int 2)) aNil)) aNil))) (tNotF (tOf (fOf (k2 kIsi) (aCons (f2 kIx (fVar 3) (fC (.int 0))) (aCons (fC (.ty "str")) aNil)))))) (sRet (fC (.bl false))) sNil)
  (sSeq (sIf (tOf (f2 kEq (f2 kIx (fVar 3) (fC (.int 0))) (fC (.str "riders")))) (sRet (fAnd (fCall (kPur (shN 3) m_is_share) (aCons (fVar 0) (aCons (fVar 1) (aCons (f2 kIx (fVar 3) (fC (.int 1))) aNil))) aNil) (f2 kLe (fOf (k1 kLen) (aCons (f2 kIx (fVar 3) (fC (.int 1))) aNil)) (fVar 2)))) sNil)
  (sSeq (sSet 4 (fOf (k1 kLen) (aCons (f2 kIx (fVar 1) (fC (.int 2))) aNil)))
  (sRet (fAnd (f2 kEq (f2 kIx (fVar 3) (fC (.int 0))) (fC (.str "more"))) (fAnd (fCall (kPur (shN 2) m_are_nodes) (aCons (f2 kIx (fVar 3) (fC (.int 1))) (aCons (fVar 4) aNil)) aNil) (fCall (kPur (shN 4) m_are_cases) (aCons (fCall (kPur (shN 2) m_contrary_in) (aCons (fVar 0) (aCons (fVar 1) aNil)) aNil) (aCons (fVar 4) (aCons (fVar 2) (aCons (f2 kIx (fVar 3) (fC (.int 1))) aNil)))) aNil)))))))))
def m_is_riders_paper : List D → Mem → R D := trimM (mOf 5 b_is_riders_paper)
def b_least_speed : FS := (sSeq (sDrop (fCall (kPur (shN 2) m_want_day) (aCons (fVar 0) (aCons (fVar 1) aNil)) aNil))
  (sSeq (sDrop (fCall (kPur (shN 1) m_want_many) (aCons (fVar 2) aNil) aNil))
  (sSeq (sSet 3 (fCall (kPur (shN 3) m_least_in) (aCons (fVar 0) (aCons (fVar 1) (aCons (fVar 2) aNil))) aNil))
  (sRet (fIf (tOf (f2 kIsN (fVar 3) (fC .non))) (fC .non) (fCall (kPur (shN 1) m_shown) (aCons (fVar 3) aNil) aNil))))))
def m_least_speed : List D → Mem → R D := trimM (mOf 4 b_least_speed)
def b__law_pot : FS := (sSeq (sSet 2 (fIf (tOf (f2 kLt (fVar 1) (fOf (k1 kLen) (aCons (fVar 0) aNil)))) (fOf (k1 kAbs) (aCons (f2 kIx (fVar 0) (fVar 1)) aNil)) (f2 kAdd (f2 kMulI (fC (.int 1367)) (fVar 1)) (fC (.int 373)))))
  (sRet (fOf kOwn (aCons (fOf (kMax) (aCons (fC (.int 0)) (aCons (f2 kSub (fVar 2) (f2 kPow (fC (.int 10)) (fC (.int 18)))) aNil))) (aCons (f2 kAdd (f2 kMod (fOf (k1 kInt) (aCons (f2 kAdd (f2 kAdd (f2 kMulI (f2 kMod (fOf (k1 kInt) (aCons (fVar 2) aNil)) (fC (.int 2147483549))) (fC (.int 40014))) (f2 kMulI (fC (.int 4639)) (fVar 1))) (fC (.int 1021))) aNil)) (fC (.int 2147483563))) (fC (.int 1))) aNil)))))
def m__law_pot : List D → Mem → R D := mOf 3 b__law_pot
def b__law_draw : FS := (sSeq (sIf (tOf (f2 kGt (f2 kIx (fVar 0) (fC (.int 0))) (fC (.int 0)))) (sSeq (sAsgG (gT 2 (gsCons (gIx (fVar 0) (fC (.int 0))) (gsCons (gN 2) gsNil))) (fOf (k2 kDivmod) (aCons (f2 kIx (fVar 0) (fC (.int 0))) (aCons (fVar 1) aNil))))
  (sRet (fVar 2))) sNil)
  (sSeq (sAsgG (gIx (fVar 0) (fC (.int 1))) (f2 kMod (fOf (k1 kInt) (aCons (f2 kAdd (f2 kMulI (f2 kIx (fVar 0) (fC (.int 1))) (fC (.int 40692))) (fC (.int 8627))) aNil)) (fC (.int 2147483587))))
  (sRet (f2 kMod (fOf (k1 kInt) (aCons (f2 kFdiv (f2 kMod (fOf (k1 kInt) (aCons (f2 kMulI (f2 kIx (fVar 0) (fC (.int 1))) (f2 kIx (fVar 0) (fC (.int 1)))) aNil)) (fC (.int 2147483549))) (fC (.int 17))) aNil)) (fVar 1)))))
def m__law_draw : List D → Mem → R D := mOf 3 b__law_draw
def b__law_pick : FS := (sRet (f2 kIx (fVar 1) (fCall (kImp (shN 2) m__law_draw) (aCons (fVar 0) (aCons (fOf (k1 kLen) (aCons (fVar 1) aNil)) aNil)) aNil)))
def m__law_pick : List D → Mem → R D := mOf 2 b__law_pick
def b__law_low : FS := (sSeq (sPar2 2 3 (aCons (fOf (k1 kAbs) (aCons (fVar 0) aNil)) (aCons (fVar 1) aNil)))
  (sSeq (sWhile (tOf (f2 kGt (fVar 3) (fC (.int 0)))) (sPar2 2 3 (aCons (fVar 3) (aCons (f2 kMod (fOf (k1 kInt) (aCons (fVar 2) aNil)) (fVar 3)) aNil))) 64)
  (sRet (fOf kTup (aCons (f2 kFdiv (fVar 0) (fVar 2)) (aCons (f2 kFdiv (fVar 1) (fVar 2)) aNil))))))
def m__law_low : List D → Mem → R D := trimM (mOf 4 b__law_low)
def b__law_plus : FS := (sRet (fCall (kPur (shN 2) m__law_low) (aCons (f2 kAdd (f2 kMulI (f2 kIx (fVar 0) (fC (.int 0))) (f2 kIx (fVar 1) (fC (.int 1)))) (f2 kMulI (f2 kIx (fVar 1) (fC (.int 0))) (f2 kIx (fVar 0) (fC (.int 1))))) (aCons (f2 kMulI (f2 kIx (fVar 0) (fC (.int 1))) (f2 kIx (fVar 1) (fC (.int 1)))) aNil)) aNil))
def m__law_plus : List D → Mem → R D := trimM (mOf 2 b__law_plus)
def b__law_minus : FS := (sRet (fCall (kPur (shN 2) m__law_low) (aCons (f2 kSub (f2 kMulI (f2 kIx (fVar 0) (fC (.int 0))) (f2 kIx (fVar 1) (fC (.int 1)))) (f2 kMulI (f2 kIx (fVar 1) (fC (.int 0))) (f2 kIx (fVar 0) (fC (.int 1))))) (aCons (f2 kMulI (f2 kIx (fVar 0) (fC (.int 1))) (f2 kIx (fVar 1) (fC (.int 1)))) aNil)) aNil))
def m__law_minus : List D → Mem → R D := trimM (mOf 2 b__law_minus)
def b__law_times : FS := (sRet (fCall (kPur (shN 2) m__law_low) (aCons (f2 kMulI (f2 kIx (fVar 0) (fC (.int 0))) (f2 kIx (fVar 1) (fC (.int 0)))) (aCons (f2 kMulI (f2 kIx (fVar 0) (fC (.int 1))) (f2 kIx (fVar 1) (fC (.int 1)))) aNil)) aNil))
def m__law_times : List D → Mem → R D := trimM (mOf 2 b__law_times)
def b__law_less : FS := (sRet (f2 kLt (f2 kMulI (f2 kIx (fVar 0) (fC (.int 0))) (f2 kIx (fVar 1) (fC (.int 1)))) (f2 kMulI (f2 kIx (fVar 1) (fC (.int 0))) (f2 kIx (fVar 0) (fC (.int 1))))))
def m__law_less : List D → Mem → R D := trimM (mOf 2 b__law_less)
def b__law_climbed : FS := (sSeq (sPar2 2 3 (aCons (fDict1 (fVar 1) (fC (.int 0))) (aCons (fC (.int 0)) aNil)))
  (sSeq (sWhile (tOf (f2 kNe (fVar 1) (fC (.int 0)))) (sSeq (sAsg (.tup [(.name 4), (.name 5)]) (f2 kIx (f2 kIx (fVar 0) (fC (.int 1))) (f2 kSub (fVar 1) (fC (.int 1)))))
  (sSeq (sPar2 1 3 (aCons (fVar 4) (aCons (f2 kAdd (fVar 3) (fVar 5)) aNil)))
  (sAsgG (gIx (fVar 2) (fVar 1)) (fVar 3)))) 64)
  (sRet (fVar 2))))
def m__law_climbed : List D → Mem → R D := mOf 6 b__law_climbed
def b__law_way : FS := (sSeq (sAsg (.tup [(.name 3), (.name 4)]) (fOf kTup (aCons (f1 kLockO (fCall (kImp (shN 2) m__law_climbed) (aCons (fVar 0) (aCons (fVar 1) aNil)) aNil)) (aCons (f1 kLockO (fCall (kImp (shN 2) m__law_climbed) (aCons (fVar 0) (aCons (fVar 2) aNil)) aNil)) aNil))))
  (sRet (fOf (kMin) (aCons (fComp [5] (iOf kKeys (fVar 3)) (.name 5) (tOf (f2 kIn (fVar 5) (fVar 4))) (f2 kAdd (f2 kIx (fVar 3) (fVar 5)) (f2 kIx (fVar 4) (fVar 5)))) aNil))))
def m__law_way : List D → Mem → R D := trimM (mOf 6 b__law_way)
def b__law_tree : FS := (sSeq (sSet 2 (fOf kOwn aNil))
  (sSeq (sForI (iOfA kRg1 (aCons (fCall (kImp (shN 2) m__law_draw) (aCons (fVar 0) (aCons (fVar 1) aNil)) aNil) aNil)) (.name 3) (sSeq (sSet 4 (f2 kSub (fVar 3) (fCall (kImp (shN 2) m__law_draw) (aCons (fVar 0) (aCons (fOf (kMin) (aCons (f2 kAdd (fVar 3) (fC (.int 1))) (aCons (fCall (kImp (shN 2) m__law_pick) (aCons (fVar 0) (aCons (fOf kLst (aCons (fC (.int 1)) (aCons (fC (.int 2)) (aCons (fC (.int 9)) aNil)))) aNil)) aNil) aNil))) aNil)) aNil)))
  (sDrop (fBm kAppend (fVar 2) (aCons (fOf kTup (aCons (fVar 4) (aCons (f2 kAdd (fC (.int 1)) (fCall (kImp (shN 2) m__law_draw) (aCons (fVar 0) (aCons (fC (.int 9)) aNil)) aNil)) aNil))) aNil)))))
  (sRet (fOf kTup (aCons (fC (.str "tree")) (aCons (fOf (k1 kTuple) (aCons (fVar 2) aNil)) aNil))))))
def m__law_tree : List D → Mem → R D := trimM (mOf 5 b__law_tree)
def b__law_day : FS := (sSeq (sSet 3 (fOf kOwn aNil))
  (sSeq (sForI (iOfA kRg1 (aCons (f2 kAdd (fC (.int 1)) (fCall (kImp (shN 2) m__law_draw) (aCons (fVar 0) (aCons (fVar 2) aNil)) aNil)) aNil)) (.name 4) (sSeq (sSet 5 (fOf kTup (aCons (fCall (kImp (shN 2) m__law_draw) (aCons (fVar 0) (aCons (fC (.int 5)) aNil)) aNil) (aCons (fCall (kImp (shN 2) m__law_draw) (aCons (fVar 0) (aCons (f2 kAdd (fOf (k1 kLen) (aCons (f2 kIx (fVar 1) (fC (.int 1))) aNil)) (fC (.int 1))) aNil)) aNil) (aCons (fCall (kImp (shN 2) m__law_draw) (aCons (fVar 0) (aCons (fC (.int 6)) aNil)) aNil) aNil)))))
  (sDrop (fBm kExtend (fVar 3) (aCons (fIf (tOf (f2 kNotIn (fVar 5) (fVar 3))) (fOf kLst (aCons (fVar 5) aNil)) (fOf kLst aNil)) aNil)))))
  (sRet (fOf kTup (aCons (fC (.str "day")) (aCons (fCall (kPur (shN 2) m__law_low) (aCons (fCall (kImp (shN 2) m__law_draw) (aCons (fVar 0) (aCons (fC (.int 9)) aNil)) aNil) (aCons (f2 kAdd (fC (.int 1)) (fCall (kImp (shN 2) m__law_draw) (aCons (fVar 0) (aCons (fC (.int 3)) aNil)) aNil)) aNil)) aNil) (aCons (fOf (k1 kTuple) (aCons (fOf (k1 kSortT) (aCons (fVar 3) aNil)) aNil)) aNil)))))))
def m__law_day : List D → Mem → R D := trimM (mOf 6 b__law_day)
def b__law_do_fit : FS := (sSeq (sAsg (.tup [(.tup [(.name 5), (.name 6), (.name 7)]), (.tup [(.name 8), (.name 9), (.name 10)])]) (fOf kTup (aCons (f2 kIx (f2 kIx (fVar 1) (fC (.int 2))) (fVar 2)) (aCons (f2 kIx (f2 kIx (fVar 1) (fC (.int 2))) (fVar 3)) aNil))))
  (sSeq (sSet 4 (fCall (kPur (shN 2) m__law_plus) (aCons (fOf kTup (aCons (f2 kAdd (fVar 7) (fVar 10)) (aCons (fC (.int 1)) aNil))) (aCons (fCall (kPur (shN 2) m__law_times) (aCons (f2 kIx (fVar 1) (fC (.int 1))) (aCons (fOf kTup (aCons (fOf (k1 kAbs) (aCons (f2 kSub (fVar 8) (fVar 5)) aNil)) (aCons (fC (.int 1)) aNil))) aNil)) aNil) aNil)) aNil))
  (sRet (fNot (fCall (kPur (shN 2) m__law_less) (aCons (fVar 4) (aCons (fOf kTup (aCons (fCall (kPur (shN 3) m__law_way) (aCons (fVar 0) (aCons (fVar 6) (aCons (fVar 9) aNil))) aNil) (aCons (fC (.int 1)) aNil))) aNil)) aNil)))))
def m__law_do_fit : List D → Mem → R D := trimM (mOf 11 b__law_do_fit)
def b__law_fewest : FS := (sSeq (sSet 2 (fOf kLst (aCons (fOf kLst aNil) aNil)))
  (sSeq (sForI (iOfA kRg1 (aCons (fOf (k1 kLen) (aCons (f2 kIx (fVar 1) (fC (.int 2))) aNil)) aNil)) (.name 3) (sSeq (sSet 4 (fOf kOwn aNil))
  (sSeq (sLk 2 (sForI (iOf kIt (fVar 2)) (.name 5) (sSeq (sDrop (fBm kAppend (fVar 4) (aCons (f2 kAdd (fVar 5) (fOf kLst (aCons (fOf kLst (aCons (fVar 3) aNil)) aNil))) aNil)))
  (sForI (iOfA kEn (aCons (fVar 5) aNil)) (.tup [(.name 6), (.name 7)]) (sIf (tOf (fOf (k1 kAll) (aCons (fComp [8] (iOf kIt (fVar 7)) (.name 8) tYesF (fCall (kPur (shN 4) m__law_do_fit) (aCons (fVar 0) (aCons (fVar 1) (aCons (fVar 3) (aCons (fVar 8) aNil)))) aNil)) aNil))) (sDrop (fBm kAppend (fVar 4) (aCons (f2 kAdd (f2 kAdd (fSl (fVar 5) oNone (oSome (fVar 6))) (fOf kLst (aCons (f2 kAdd (fVar 7) (fOf kLst (aCons (fVar 3) aNil))) aNil))) (fSl (fVar 5) (oSome (f2 kAdd (fVar 6) (fC (.int 1)))) oNone)) aNil))) sNil)))))
  (sSet 2 (fVar 4)))))
  (sLk 2 (sRet (fOf (kMin) (aCons (fComp [5] (iOf kIt (fVar 2)) (.name 5) tYesF (fOf (k1 kLen) (aCons (fVar 5) aNil))) aNil))))))
def m__law_fewest : List D → Mem → R D := trimM (mOf 9 b__law_fewest)
def b__law_many_right : FS := (sSeq (sSet 4 (fCall (kPur (shN 3) m_least_speed) (aCons (fVar 1) (aCons (fVar 2) (aCons (fVar 3) aNil))) aNil))
  (sSeq (sSet 5 (fOf kTup (aCons (fC (.str "day")) (aCons (fCall (kPur (shN 2) m__law_low) (aCons (fCall (kImp (shN 2) m__law_draw) (aCons (fVar 0) (aCons (fC (.int 40)) aNil)) aNil) (aCons (fC (.int 7)) aNil)) aNil) (aCons (f2 kIx (fVar 2) (fC (.int 2))) aNil)))))
  (sSeq (sIf (tOf (f2 kNe (fOf (k1 kRepr) (aCons (fOf kLst (aCons (fCall (kPur (shR 0 ["many", "day", "tree"]) m_least_speed) aNil (aCons (fVar 3) (aCons (fVar 2) (aCons (fVar 1) aNil)))) (aCons (fCall (kPur (shN 3) m_least_speed) (aCons (fVar 1) (aCons (fVar 5) (aCons (fVar 3) aNil))) aNil) aNil))) aNil)) (fOf (k1 kRepr) (aCons (fOf kLst (aCons (fVar 4) (aCons (fVar 4) aNil))) aNil)))) (sRet (fC (.bl false))) sNil)
  (sSeq (sIf (tOf (f2 kIsN (fVar 4) (fC .non))) (sRet (f2 kGt (fCall (kPur (shN 2) m__law_fewest) (aCons (fVar 1) (aCons (fOf kTup (aCons (fC (.str "day")) (aCons (fOf kTup (aCons (f2 kPow (fC (.int 10)) (fC (.int 6))) (aCons (fC (.int 1)) aNil))) (aCons (f2 kIx (fVar 2) (fC (.int 2))) aNil)))) aNil)) aNil) (fVar 3))) sNil)
  (sSeq (sSet 6 (fOf kTup (aCons (fC (.str "day")) (aCons (fVar 4) (aCons (f2 kIx (fVar 2) (fC (.int 2))) aNil)))))
  (sSeq (sIf (tOrF (tOf (f2 kGt (fCall (kPur (shN 2) m__law_fewest) (aCons (fVar 1) (aCons (fVar 6) aNil)) aNil) (fVar 3))) (tOrF (tOf (f2 kGt (fCall (kPur (shN 2) m_fewest_riders) (aCons (fVar 1) (aCons (fVar 6) aNil)) aNil) (fVar 3))) (tOf (f2 kNotB (fCall (kPur (shN 4) m_is_riders_paper) (aCons (fVar 1) (aCons (fVar 6) (aCons (fVar 3) (aCons (fCall (kPur (shN 3) m_riders_paper) (aCons (fVar 1) (aCons (fVar 6) (aCons (fVar 3) aNil))) aNil) aNil)))) aNil) (fC (.bl true)))))) (sRet (fC (.bl false))) sNil)
  (sSeq (sIf (tOf (f2 kNe (fVar 4) (fOf kTup (aCons (fC (.int 0)) (aCons (fC (.int 1)) aNil))))) (sSeq (sSet 9 (fOf kTup (aCons (fC (.str "day")) (aCons (fCall (kPur (shN 2) m__law_minus) (aCons (fVar 4) (aCons (fOf kTup (aCons (fC (.int 1)) (aCons (f2 kPow (fC (.int 10)) (fC (.int 4))) aNil))) aNil)) aNil) (aCons (f2 kIx (fVar 2) (fC (.int 2))) aNil)))))
  (sIf (tOrF (tOf (f2 kLe (f2 kMulI (f2 kIx (fVar 4) (fC (.int 0))) (f2 kPow (fC (.int 10)) (fC (.int 4)))) (f2 kIx (fVar 4) (fC (.int 1))))) (tOf (f2 kLe (fCall (kPur (shN 2) m__law_fewest) (aCons (fVar 1) (aCons (fVar 9) aNil)) aNil) (fVar 3)))) (sRet (fC (.bl false))) sNil)) sNil)
  (sSeq (sSet 7 (fOf kTup (aCons (fC (.str "tree")) (aCons (fOf (k1 kTuple) (aCons (fComp [10, 11] (iOf kIt (f2 kIx (fVar 1) (fC (.int 1)))) (.tup [(.name 10), (.name 11)]) tYesF (fOf kTup (aCons (fVar 10) (aCons (f2 kMulI (fC (.int 2)) (fVar 11)) aNil)))) aNil)) aNil))))
  (sSeq (sSet 8 (fOf kTup (aCons (fC (.str "day")) (aCons (f2 kIx (fVar 2) (fC (.int 1))) (aCons (fOf (k1 kTuple) (aCons (fComp [12, 13, 14] (iOf kIt (f2 kIx (fVar 2) (fC (.int 2)))) (.tup [(.name 12), (.name 13), (.name 14)]) tYesF (fOf kTup (aCons (fVar 12) (aCons (fVar 13) (aCons (f2 kMulI (fC (.int 2)) (fVar 14)) aNil))))) aNil)) aNil)))))
  (sRet (f2 kEq (fCall (kPur (shN 3) m_least_speed) (aCons (fVar 7) (aCons (fVar 8) (aCons (fVar 3) aNil))) aNil) (fCall (kPur (shN 2) m__law_times) (aCons (fVar 4) (aCons (fOf kTup (aCons (fC (.int 2)) (aCons (fC (.int 1)) aNil))) aNil)) aNil))))))))))))
def m__law_many_right : List D → Mem → R D := trimM (mOf 15 b__law_many_right)
def b__law_right : FS := (sSeq (sSet 1 (fCall (kImp (shN 2) m__law_tree) (aCons (fVar 0) (aCons (fC (.int 9)) aNil)) aNil))
  (sSeq (sSet 2 (fCall (kImp (shN 3) m__law_day) (aCons (fVar 0) (aCons (fVar 1) (aCons (fC (.int 6)) aNil))) aNil))
  (sSeq (sSet 3 (fOf (k1 kRepr) (aCons (fOf kLst (aCons (fVar 1) (aCons (fVar 2) aNil))) aNil)))
  (sSeq (sForI (iOf kIt (fOf kLst (aCons (fC (.int 0)) (aCons (fC (.int 1)) (aCons (fC (.int 2)) (aCons (f2 kAdd (fC (.int 1)) (fCall (kImp (shN 2) m__law_draw) (aCons (fVar 0) (aCons (fC (.int 5)) aNil)) aNil)) (aCons (fOf (k1 kLen) (aCons (f2 kIx (fVar 2) (fC (.int 2))) aNil)) aNil))))))) (.name 4) (sIf (tNotF (tOf (fCall (kImp (shN 4) m__law_many_right) (aCons (fVar 0) (aCons (fVar 1) (aCons (fVar 2) (aCons (fVar 4) aNil)))) aNil))) (sRet (fC (.bl false))) sNil))
  (sRet (f2 kEq (fOf (k1 kRepr) (aCons (fOf kLst (aCons (fVar 1) (aCons (fVar 2) aNil))) aNil)) (fVar 3)))))))
def m__law_right : List D → Mem → R D := trimM (mOf 5 b__law_right)
def b_law : FS := (sRet (fCall (kImp (shN 1) m__law_right) (aCons (fCall (kImp (shN 2) m__law_pot) (aCons (fVar 0) (aCons (fC (.int 0)) aNil)) aNil) aNil) aNil))
def m_law : List D → Mem → R D := trimM (mOf 1 b_law)
end K91

-- K91N
set_option Elab.async false
set_option linter.all false
set_option maxRecDepth 100000
set_option maxHeartbeats 0
/-! what the head of k91 is asked for (printed by gen.py) -/
namespace K91N
open PySem PySem.Spec PyProof.Rows L2 LamX DL K91
def top (i : Nat) : Stmt := PySem.Challenge.pw_treeposts_k91_whole_least_speeds.main.body.getD i (.Pass ⟨0, 0, 0, 0⟩)
def sub (st : Stmt) (j : Nat) : Stmt := match st with
  | .ClassDef _ _ _ body .. => body.getD j (.Pass ⟨0, 0, 0, 0⟩)
  | _ => .Pass ⟨0, 0, 0, 0⟩
def asL : List Addr := [3, 6, 4, 60, 73, 86, 98, 110, 129, 138, 145, 152, 157, 162, 163, 170, 177, 184, 191, 198, 205, 212, 219, 224, 231, 238, 245, 252, 259, 266, 273, 280, 287, 294, 299, 306, 313, 318, 323, 328, 333, 338, 343, 348, 353, 358, 363, 368, 373, 378, 383, 388, 395, 400, 407, 414, 421, 428, 435, 442, 449, 456, 463, 470, 477, 484, 491, 498, 503, 510, 517, 524, 529, 534, 541, 548, 0, 59, 72, 85, 97, 109, 128, 137, 144, 151, 156, 161, 169, 176, 183, 190, 197, 204, 211, 218, 223, 230, 237, 244, 251, 258, 265, 272, 279, 286, 293, 298, 305, 312, 317, 322, 327, 332, 337, 342, 347, 352, 357, 362, 367, 372, 377, 382, 387, 394, 399, 406, 413, 420, 427, 434, 441, 448, 455, 462, 469, 476, 483, 490, 497, 502, 509, 516, 523, 528, 533, 540, 547, 57, 58, 61, 71, 74, 84, 96, 108, 126, 127, 132, 133, 134, 135, 136, 139, 140, 141, 142, 143, 146, 147, 148, 149, 150, 153, 154, 155, 158, 159, 160, 164, 165, 166, 167, 168, 171, 172, 173, 174, 175, 178, 179, 180, 181, 182, 185, 186, 187, 188, 189, 192, 193, 194, 195, 196, 199, 200, 201, 202, 203, 206, 207, 208, 209, 210, 213, 214, 215, 216, 217, 220, 221, 222, 225, 226, 227, 228, 229, 232, 233, 234, 235, 236, 239, 240, 241, 242, 243, 246, 247, 248, 249, 250, 253, 254, 255, 256, 257, 260, 261, 262, 263, 264, 267, 268, 269, 270, 271, 274, 275, 276, 277, 278, 281, 282, 283, 284, 285, 288, 289, 290, 291, 292, 295, 296, 297, 300, 301, 302, 303, 304, 307, 308, 309, 310, 311, 314, 315, 316, 319, 320, 321, 324, 325, 326, 329, 330, 331, 334, 335, 336, 339, 340, 341, 344, 345, 346, 349, 350, 351, 354, 355, 356, 359, 360, 361, 364, 365, 366, 369, 370, 371, 374, 375, 376, 379, 380, 381, 384, 385, 386, 389, 390, 391, 392, 393, 396, 397, 398, 401, 402, 403, 404, 405, 408, 409, 410, 411, 412, 415, 416, 417, 418, 419, 422, 423, 424, 425, 426, 429, 430, 431, 432, 433, 436, 437, 438, 439, 440, 443, 444, 445, 446, 447, 450, 451, 452, 453, 454, 457, 458, 459, 460, 461, 464, 465, 466, 467, 468, 471, 472, 473, 474, 475, 478, 479, 480, 481, 482, 485, 486, 487, 488, 489, 492, 493, 494, 495, 496, 499, 500, 501, 504, 505, 506, 507, 508, 511, 512, 513, 514, 515, 518, 519, 520, 521, 522, 525, 526, 527, 530, 531, 532, 535, 536, 537, 538, 539, 542, 543, 544, 545, 546, 56, 50, 125, 51, 52, 53, 54, 55, 120, 121, 122, 123, 124]
def fa : List He.Fa := [.free "bool",
  .free "isinstance",
  .free "int",
  .glo "is_integer",
  .free "len",
  .free "tuple",
  .free "zip",
  .free "all",
  .glo "is_within",
  .glo "is_rising",
  .glo "fraction",
  .int "LIMIT" 10000000000000000000000000000000000000000000000000000000000000000000000000000000000000000000000000000000000000000000000000000000000000000000000000000000000000000000000000000000000000000000000000000000000000000000000000000000000000000000000000000000000000000000000000000000000000000000000000000000000000000000000000000000000000000000000000000000000000000000000000000000000000000000000000000000000000000,
  .free "abs",
  .glo "is_row",
  .int "MOST_LENGTH" 999,
  .free "str",
  .int "MOST_PLACES" 24,
  .free "enumerate",
  .glo "is_tie",
  .glo "is_tree",
  .glo "InvalidTree",
  .glo "father_of",
  .glo "path_up",
  .glo "path_in",
  .free "min",
  .glo "depths_in",
  .glo "top_in",
  .int "MOST_MANY" 99,
  .glo "InvalidMany",
  .int "MOST_REACH" 9999,
  .int "MOST_HOUR" 99,
  .glo "place_count",
  .glo "is_ratio",
  .glo "is_call",
  .int "MOST_CALLS" 8,
  .glo "want_tree",
  .glo "is_day_in",
  .glo "InvalidDay",
  .glo "whole",
  .glo "product",
  .glo "plus",
  .glo "way_in",
  .glo "is_less",
  .glo "fit_in",
  .free "range",
  .free "any",
  .glo "touches",
  .glo "contrary_in",
  .glo "greatest_lots",
  .glo "share_in",
  .glo "are_places_of",
  .glo "do_all_fit",
  .free "sorted",
  .free "list",
  .glo "NOUGHT",
  .glo "speeds_in",
  .glo "at_speed",
  .glo "fewest_in",
  .glo "want_day",
  .glo "want_many",
  .str "RIDERS" "riders",
  .glo "cases_in",
  .str "MORE" "more",
  .glo "is_share",
  .glo "are_cases",
  .glo "are_nodes",
  .glo "least_in",
  .glo "shown",
  .free "max",
  .free "divmod",
  .glo "_law_draw",
  .glo "_law_low",
  .glo "_law_climbed",
  .glo "_law_pick",
  .glo "_law_times",
  .glo "_law_plus",
  .glo "_law_way",
  .glo "_law_less",
  .glo "_law_do_fit",
  .glo "least_speed",
  .free "repr",
  .glo "_law_fewest",
  .glo "riders_paper",
  .glo "is_riders_paper",
  .glo "fewest_riders",
  .glo "_law_minus",
  .glo "_law_tree",
  .glo "_law_day",
  .glo "_law_many_right",
  .glo "_law_pot",
  .glo "_law_right",
  .glo "law"]
def fn : List He.DefD := [⟨("is_integer", none), "is_integer", "is_integer", defArgs (top 9), defBody (top 9), defScope (top 9), [], []⟩,
  ⟨("is_within", none), "is_within", "is_within", defArgs (top 10), defBody (top 10), defScope (top 10), [], []⟩,
  ⟨("is_row", none), "is_row", "is_row", defArgs (top 11), defBody (top 11), defScope (top 11), [], []⟩,
  ⟨("is_rising", none), "is_rising", "is_rising", defArgs (top 12), defBody (top 12), defScope (top 12), [], []⟩,
  ⟨("are_places_of", none), "are_places_of", "are_places_of", defArgs (top 13), defBody (top 13), defScope (top 13), [], []⟩,
  ⟨("fraction", none), "fraction", "fraction", defArgs (top 18), defBody (top 18), defScope (top 18), [], []⟩,
  ⟨("whole", none), "whole", "whole", defArgs (top 19), defBody (top 19), defScope (top 19), [], []⟩,
  ⟨("plus", none), "plus", "plus", defArgs (top 20), defBody (top 20), defScope (top 20), [], []⟩,
  ⟨("product", none), "product", "product", defArgs (top 21), defBody (top 21), defScope (top 21), [], []⟩,
  ⟨("is_less", none), "is_less", "is_less", defArgs (top 22), defBody (top 22), defScope (top 22), [], []⟩,
  ⟨("shown", none), "shown", "shown", defArgs (top 23), defBody (top 23), defScope (top 23), [], []⟩,
  ⟨("is_ratio", none), "is_ratio", "is_ratio", defArgs (top 24), defBody (top 24), defScope (top 24), [], []⟩,
  ⟨("is_tie", none), "is_tie", "is_tie", defArgs (top 28), defBody (top 28), defScope (top 28), [], []⟩,
  ⟨("is_tree", none), "is_tree", "is_tree", defArgs (top 29), defBody (top 29), defScope (top 29), [], []⟩,
  ⟨("InvalidTree", some "__init__"), "__init__", "WoodError.__init__", defArgs (sub (top 2) 0), defBody (sub (top 2) 0), defScope (sub (top 2) 0), [.non], []⟩,
  ⟨("want_tree", none), "want_tree", "want_tree", defArgs (top 30), defBody (top 30), defScope (top 30), [], []⟩,
  ⟨("place_count", none), "place_count", "place_count", defArgs (top 31), defBody (top 31), defScope (top 31), [], []⟩,
  ⟨("father_of", none), "father_of", "father_of", defArgs (top 32), defBody (top 32), defScope (top 32), [], []⟩,
  ⟨("path_up", none), "path_up", "path_up", defArgs (top 33), defBody (top 33), defScope (top 33), [], []⟩,
  ⟨("depths_in", none), "depths_in", "depths_in", defArgs (top 34), defBody (top 34), defScope (top 34), [], []⟩,
  ⟨("path_in", none), "path_in", "path_in", defArgs (top 35), defBody (top 35), defScope (top 35), [], []⟩,
  ⟨("top_in", none), "top_in", "top_in", defArgs (top 36), defBody (top 36), defScope (top 36), [], []⟩,
  ⟨("way_in", none), "way_in", "way_in", defArgs (top 37), defBody (top 37), defScope (top 37), [], []⟩,
  ⟨("InvalidMany", some "__init__"), "__init__", "WoodError.__init__", defArgs (sub (top 2) 0), defBody (sub (top 2) 0), defScope (sub (top 2) 0), [.non], []⟩,
  ⟨("want_many", none), "want_many", "want_many", defArgs (top 40), defBody (top 40), defScope (top 40), [], []⟩,
  ⟨("is_call", none), "is_call", "is_call", defArgs (top 45), defBody (top 45), defScope (top 45), [], []⟩,
  ⟨("is_day_in", none), "is_day_in", "is_day_in", defArgs (top 46), defBody (top 46), defScope (top 46), [], []⟩,
  ⟨("InvalidDay", some "__init__"), "__init__", "WoodError.__init__", defArgs (sub (top 2) 0), defBody (sub (top 2) 0), defScope (sub (top 2) 0), [.non], []⟩,
  ⟨("want_day", none), "want_day", "want_day", defArgs (top 47), defBody (top 47), defScope (top 47), [], []⟩,
  ⟨("fit_in", none), "fit_in", "fit_in", defArgs (top 48), defBody (top 48), defScope (top 48), [], []⟩,
  ⟨("do_all_fit", none), "do_all_fit", "do_all_fit", defArgs (top 49), defBody (top 49), defScope (top 49), [], []⟩,
  ⟨("contrary_in", none), "contrary_in", "contrary_in", defArgs (top 57), defBody (top 57), defScope (top 57), [], []⟩,
  ⟨("touches", none), "touches", "touches", defArgs (top 59), defBody (top 59), defScope (top 59), [], []⟩,
  ⟨("are_all_contrary", none), "are_all_contrary", "are_all_contrary", defArgs (top 58), defBody (top 58), defScope (top 58), [], []⟩,
  ⟨("greatest_lots", none), "greatest_lots", "greatest_lots", defArgs (top 60), defBody (top 60), defScope (top 60), [], []⟩,
  ⟨("share_in", none), "share_in", "share_in", defArgs (top 61), defBody (top 61), defScope (top 61), [], []⟩,
  ⟨("fewest_in", none), "fewest_in", "fewest_in", defArgs (top 62), defBody (top 62), defScope (top 62), [], []⟩,
  ⟨("best_split", none), "best_split", "best_split", defArgs (top 63), defBody (top 63), defScope (top 63), [], []⟩,
  ⟨("cases_in", none), "cases_in", "cases_in", defArgs (top 64), defBody (top 64), defScope (top 64), [], []⟩,
  ⟨("lot_of", none), "lot_of", "lot_of", defArgs (top 65), defBody (top 65), defScope (top 65), [], []⟩,
  ⟨("is_end", none), "is_end", "is_end", defArgs (top 66), defBody (top 66), defScope (top 66), [], []⟩,
  ⟨("is_node", none), "is_node", "is_node", defArgs (top 67), defBody (top 67), defScope (top 67), [], []⟩,
  ⟨("are_nodes", none), "are_nodes", "are_nodes", defArgs (top 68), defBody (top 68), defScope (top 68), [], []⟩,
  ⟨("are_cases", none), "are_cases", "are_cases", defArgs (top 69), defBody (top 69), defScope (top 69), [], []⟩,
  ⟨("is_share", none), "is_share", "is_share", defArgs (top 70), defBody (top 70), defScope (top 70), [], []⟩,
  ⟨("at_speed", none), "at_speed", "at_speed", defArgs (top 71), defBody (top 71), defScope (top 71), [], []⟩,
  ⟨("speeds_in", none), "speeds_in", "speeds_in", defArgs (top 72), defBody (top 72), defScope (top 72), [], []⟩,
  ⟨("least_in", none), "least_in", "least_in", defArgs (top 73), defBody (top 73), defScope (top 73), [], []⟩,
  ⟨("fewest_riders", none), "fewest_riders", "fewest_riders", defArgs (top 74), defBody (top 74), defScope (top 74), [], []⟩,
  ⟨("riders_paper", none), "riders_paper", "riders_paper", defArgs (top 75), defBody (top 75), defScope (top 75), [], []⟩,
  ⟨("is_riders_paper", none), "is_riders_paper", "is_riders_paper", defArgs (top 76), defBody (top 76), defScope (top 76), [], []⟩,
  ⟨("least_speed", none), "least_speed", "least_speed", defArgs (top 77), defBody (top 77), defScope (top 77), [], []⟩,
  ⟨("_law_pot", none), "_law_pot", "_law_pot", defArgs (top 79), defBody (top 79), defScope (top 79), [], []⟩,
  ⟨("_law_draw", none), "_law_draw", "_law_draw", defArgs (top 80), defBody (top 80), defScope (top 80), [], []⟩,
  ⟨("_law_pick", none), "_law_pick", "_law_pick", defArgs (top 81), defBody (top 81), defScope (top 81), [], []⟩,
  ⟨("_law_low", none), "_law_low", "_law_low", defArgs (top 82), defBody (top 82), defScope (top 82), [], []⟩,
  ⟨("_law_plus", none), "_law_plus", "_law_plus", defArgs (top 83), defBody (top 83), defScope (top 83), [], []⟩,
  ⟨("_law_minus", none), "_law_minus", "_law_minus", defArgs (top 84), defBody (top 84), defScope (top 84), [], []⟩,
  ⟨("_law_times", none), "_law_times", "_law_times", defArgs (top 85), defBody (top 85), defScope (top 85), [], []⟩,
  ⟨("_law_less", none), "_law_less", "_law_less", defArgs (top 86), defBody (top 86), defScope (top 86), [], []⟩,
  ⟨("_law_climbed", none), "_law_climbed", "_law_climbed", defArgs (top 87), defBody (top 87), defScope (top 87), [], []⟩,
  ⟨("_law_way", none), "_law_way", "_law_way", defArgs (top 88), defBody (top 88), defScope (top 88), [], []⟩,
  ⟨("_law_tree", none), "_law_tree", "_law_tree", defArgs (top 89), defBody (top 89), defScope (top 89), [], []⟩,
  ⟨("_law_day", none), "_law_day", "_law_day", defArgs (top 90), defBody (top 90), defScope (top 90), [], []⟩,
  ⟨("_law_do_fit", none), "_law_do_fit", "_law_do_fit", defArgs (top 91), defBody (top 91), defScope (top 91), [], []⟩,
  ⟨("_law_fewest", none), "_law_fewest", "_law_fewest", defArgs (top 92), defBody (top 92), defScope (top 92), [], []⟩,
  ⟨("_law_many_right", none), "_law_many_right", "_law_many_right", defArgs (top 93), defBody (top 93), defScope (top 93), [], []⟩,
  ⟨("_law_right", none), "_law_right", "_law_right", defArgs (top 94), defBody (top 94), defScope (top 94), [], []⟩,
  ⟨("law", none), "law", "law", defArgs (top 95), defBody (top 95), defScope (top 95), [], []⟩]
def ps : List PrD := []
def exs : List (PySem.W.Frag → Bool) := [fun K => bfB K "gcd" "math.gcd",
  fun K => excB1 K (He.ga K "InvalidTree") [.type "ValueError", .type "Exception", .type "BaseException", .type "object"] "ValueError.__new__" "value",
  fun K => excB1 K (He.ga K "InvalidMany") [.type "ValueError", .type "Exception", .type "BaseException", .type "object"] "ValueError.__new__" "value",
  fun K => excB1 K (He.ga K "InvalidDay") [.type "ValueError", .type "Exception", .type "BaseException", .type "object"] "ValueError.__new__" "value",
  fun K => He.tupB K "NOUGHT" [.int 0, .int 1]]
abbrev ex : PySem.W.Frag → Bool := fun K => exs.all fun f => f K
def tf : List He.Defn := []
def T0 (K : PySem.W.Frag) : List (Addr × Str) := []
end K91N

-- K91T
set_option Elab.async false
set_option linter.all false
set_option maxRecDepth 100000
set_option maxHeartbeats 0
/-! the run of the head of k91 (printed by gen.py) -/
namespace K91N
open PySem PySem.Spec PyProof.Rows L2 LamX DL K91
abbrev R : PySem.W.OpenRow := PySem.W.OpenLaw.row PySem.Challenge.rw_treeposts_k91_whole_least_speeds
abbrev qv : Program := PySem.W.view R.prog [95]
def names0 : List PySem.Str := ["gcd", "WoodError", "LimitError", "InvalidTree", "InvalidMany", "InvalidDay", "TooMany", "is_integer", "is_within", "is_row", "is_rising", "are_places_of", "MOST_DIGITS", "LIMIT", "NOUGHT", "fraction", "whole", "plus", "product", "is_less", "shown", "is_ratio", "MOST_PLACES", "MOST_LENGTH", "is_tie", "is_tree", "want_tree", "place_count", "father_of", "path_up"]
def names1 : List PySem.Str := ["depths_in", "path_in", "top_in", "way_in", "MOST_MANY", "want_many", "MOST_CALLS", "MOST_HOUR", "MOST_REACH", "is_call", "is_day_in", "want_day", "fit_in", "do_all_fit", "RIDERS", "MORE", "SPLIT", "TIED", "PARTED", "MOST_NODES", "contrary_in", "are_all_contrary", "touches", "greatest_lots", "share_in", "fewest_in", "best_split", "cases_in", "lot_of", "is_end"]
def names2 : List PySem.Str := ["is_node", "are_nodes", "are_cases", "is_share", "at_speed", "speeds_in", "least_in", "fewest_riders", "riders_paper", "is_riders_paper", "least_speed", "_law_pot", "_law_draw", "_law_pick", "_law_low", "_law_plus", "_law_minus", "_law_times", "_law_less", "_law_climbed", "_law_way", "_law_tree", "_law_day", "_law_do_fit", "_law_fewest", "_law_many_right", "_law_right"]
def names : List PySem.Str := names0 ++ names1 ++ names2
noncomputable abbrev En (w : World) : Option (Shared × PySem.W.SharedT) := DLI.allI (HandSHeadRun.stepQ (HandSHeadRun.denQ HandSHeadRun.tabQ) (PySem.W.opening R.prog) w) (HandSHeadRun.stepQ (HandSHeadRun.denQ HandSHeadRun.tabQ) R.prog w) R.prog 3000 60000
theorem r1 (w : World) : (En w).map (fun z => (HandSHeadRun.looksF R.prog z.1.heap z.2.abs, HandSHeadRun.seenQ qv names (importedModules R.prog.main.body) (fun s => PySem.W.xlAt qv [] s && PySem.W.recOk R.toRowW.records s) z.2.abs)) = some (true, PySem.W.openGood qv names) := by
  kernel_rfl
def fa0 : List He.Fa := (fa.drop 0).take 92
theorem r_fa0 (w : World) : (En w).map (fun z => DLI.lkFa asL fa0 z.2) = some true := by
  kernel_rfl
def fn0 : List He.DefD := (fn.drop 0).take 69
theorem r_fn0 (w : World) : (En w).map (fun z => DLI.lkFn asL fn0 z.2) = some (true, fn0.map He.DefD.val) := by
  kernel_rfl
theorem r4 (w : World) : (En w).map (fun z => (DLI.lkX asL tf ex ps z.2, DLI.lkP asL ps z.2)) = some (true, ps.map fun p => p.d.val) := by
  kernel_rfl
theorem fa_eq : fa = fa0 := by rfl
theorem fn_eq : fn = fn0 := by rfl
abbrev hk : PySem.W.Hook := DLI.hookL asL fa fn ps tf ex
def ob (s : PySem.W.SharedT) := DLI.obsL asL fa fn ps tf ex (HandSHeadRun.getT s)
theorem ob_eq (s : PySem.W.SharedT) : ob s = hk.obs s.abs := DLI.obsL_eq s
theorem run (w : World) : DLI.RunI R qv hk ob 3000 60000 names w := by
  obtain ⟨z, hz, h1⟩ := DLI.parts_of (r1 w) (fun _ h => h)
  have h_fa0 := DLI.part_at (r_fa0 w) hz
  have h_fn0 := DLI.part_at (r_fn0 w) hz
  have h_x := DLI.part_at (r4 w) hz
  have hfa : DLI.lkFa asL fa z.2 = true := by rw [fa_eq]; exact h_fa0
  have hfn : DLI.lkFn asL fn z.2 = (true, fn.map He.DefD.val) := by rw [fn_eq]; exact h_fn0
  obtain ⟨h11, h12⟩ := Prod.mk.inj h1
  obtain ⟨h41, h42⟩ := Prod.mk.inj h_x
  exact DLI.run_fin hz (Prod.ext h11 (Prod.ext h12 (DLI.obs_of (w := w) hfa hfn h41 h42)))
end K91N

-- K91P
set_option Elab.async false
set_option linter.all false
set_option maxRecDepth 100000
set_option maxHeartbeats 1000000
namespace K91P
open PySem DL L2 K91
/-! data -/
abbrev eN (i : Nat) : D := .int i
def eTie (p : Nat × Nat) : D := .tup [.int p.1, .int p.2]
abbrev eTies (t : List (Nat × Nat)) : D := .tup (t.map eTie)
abbrev eTree (t : List (Nat × Nat)) : D := .tup [.str "tree", eTies t]
structure Cu where
  pl : Nat
  re : Nat
  ra : Nat
  fe : Nat
def eCu (c : Cu) : D := .tup [.int c.pl, .int c.re, .int c.ra, .int c.fe]
abbrev eCus (cs : List Cu) : D := .tup (cs.map eCu)
abbrev eSites (ss : List (Nat × Nat)) : D := .tup (ss.map eTie)
structure Wd where
  t : List (Nat × Nat)
  cs : List Cu
  ss : List (Nat × Nat)
abbrev eW (w : Wd) : D := .tup [.str "wood", eTree w.t, eCus w.cs, eSites w.ss]
@[simp] theorem blw_eN {n : Nat} : D.blw n ∘ eN = fun _ => true := rfl
@[simp] theorem blw_eN' {n i : Nat} : D.blw n (eN i) = true := rfl
@[simp] theorem blw_eTie' {n : Nat} {i : Nat × Nat} : D.blw n (eTie i) = true := by simp [D.blw, D.blws, eTie]
@[simp] theorem blw_eCu' {n : Nat} {i : Cu} : D.blw n (eCu i) = true := by simp [D.blw, D.blws, eCu]
@[simp] theorem blw_tup {n : Nat} {ds : List D} : D.blw n (.tup ds) = D.blws n ds := by simp [D.blw]
@[simp] theorem blw_lst {n : Nat} {ds : List D} : D.blw n (.lst ds) = D.blws n ds := by simp [D.blw]
@[simp] theorem blws_cons {n : Nat} {d : D} {ds : List D} : D.blws n (d :: ds) = (D.blw n d && D.blws n ds) := by simp [D.blws]
@[simp] theorem blws_nil {n : Nat} : D.blws n [] = true := by simp [D.blws]
@[simp] theorem blw_int {n : Nat} {i : Int} : D.blw n (.int i) = true := by simp [D.blw]
@[simp] theorem blw_str {n : Nat} {i : Str} : D.blw n (.str i) = true := by simp [D.blw]
@[simp] theorem blw_bl {n : Nat} {i : Bool} : D.blw n (.bl i) = true := by simp [D.blw]
@[simp] theorem blw_non {n : Nat} : D.blw n .non = true := by simp [D.blw]
/-- data without places, not deep: freezing leaves them -/
theorem mapM_fz {M : Mem} {k : Nat} {α : Type} {e : α → D} {xs : List α} (h : ∀ x, D.fz M k (e x) = some (e x)) : (xs.map e).mapM (D.fz M k) = some (xs.map e) := by
  rw [mapM_some (g := id) (by intro x hx; obtain ⟨y, _, rfl⟩ := List.mem_map.mp hx; exact h y), List.map_id]
@[simp] theorem fz_int {M : Mem} {k : Nat} {i : Int} : D.fz M (k + 1) (.int i) = some (.int i) := by simp [D.fz, D.blw]
@[simp] theorem fz_eN {M : Mem} {k : Nat} {i : Nat} : D.fz M (k + 1) (eN i) = some (eN i) := by simp [eN]
@[simp] theorem fz_str {M : Mem} {k : Nat} {i : Str} : D.fz M (k + 1) (.str i) = some (.str i) := by simp [D.fz, D.blw]
theorem fz_tup {M : Mem} {k : Nat} {ds : List D} : D.fz M (k + 1) (.tup ds) = (ds.mapM (D.fz M k)).map D.tup := by simp [D.fz]
theorem fz_lst {M : Mem} {k : Nat} {ds : List D} : D.fz M (k + 1) (.lst ds) = (ds.mapM (D.fz M k)).map D.lst := by simp [D.fz]
theorem fz_bor {M : Mem} {k : Nat} {ds : List D} : D.fz M (k + 1) (.bor ds) = (ds.mapM (D.fz M k)).map D.bor := by simp [D.fz]
theorem fz_ref {M : Mem} {k i : Nat} {ds : List D} (h : M[i]? = some (.lst ds)) : D.fz M (k + 1) (.ref i) = (ds.mapM (D.fz M k)).map D.bor := by simp [D.fz, h]
theorem fz_eTie {M : Mem} {k : Nat} {i : Nat × Nat} : D.fz M (k + 2) (eTie i) = some (eTie i) := by simp [eTie, fz_tup]
theorem fz_eCu {M : Mem} {k : Nat} {i : Cu} : D.fz M (k + 2) (eCu i) = some (eCu i) := by simp [eCu, fz_tup]
@[simp] theorem fz_eTies {M : Mem} {k : Nat} {t : List (Nat × Nat)} : D.fz M (k + 3) (.tup (t.map eTie)) = some (.tup (t.map eTie)) := by
  rw [fz_tup, mapM_fz fun _ => fz_eTie]; rfl
@[simp] theorem fz_eCus {M : Mem} {k : Nat} {t : List Cu} : D.fz M (k + 3) (eCus t) = some (eCus t) := by
  rw [fz_tup, mapM_fz fun _ => fz_eCu]; rfl
@[simp] theorem fz_eTree {M : Mem} {k : Nat} {t : List (Nat × Nat)} : D.fz M (k + 4) (eTree t) = some (eTree t) := by
  rw [fz_tup]; simp
@[simp] theorem fz_eW {M : Mem} {k : Nat} {w : Wd} : D.fz M (k + 5) (eW w) = some (eW w) := by
  rw [fz_tup]; simp
@[simp] theorem fz_eNs {M : Mem} {k : Nat} {t : List Nat} : D.fz M (k + 2) (.lst (t.map eN)) = some (.lst (t.map eN)) := by
  rw [fz_lst, mapM_fz fun _ => fz_eN]; rfl
@[simp] theorem fz_eNsb {M : Mem} {k : Nat} {t : List Nat} : D.fz M (k + 2) (.bor (t.map eN)) = some (.bor (t.map eN)) := by
  rw [fz_bor, mapM_fz fun _ => fz_eN]; rfl
/-! basics -/
@[simp] theorem is_integer_int (i : Int) (M : Mem) : kPure m_is_integer [.int i] M = .ok (.bl true) M := by
  exact pure_ok (es := [.int i]) rfl rfl rfl
theorem is_within_int (i a b : Int) (h : a ≤ i ∧ i ≤ b) (M : Mem) : kPure m_is_within [.int i, .int a, .int b] M = .ok (.bl true) M := by
  refine pure_ok (es := [.int i, .int a, .int b]) rfl ?_ rfl
  simp [m_is_within, b_is_within, h.1, h.2]
theorem is_row_tup (ds : List D) (n : Nat) (h : ds.length = n) : m_is_row [.tup ds, .int n] [] = .ok (.bl true) [] := by
  simp [m_is_row, b_is_row, h]
@[simp] theorem is_rowP {n : Nat} {ds : List D} {M : Mem} (h : ds.length = n) (hz : ds.mapM (D.fz M 7) = some ds) : kPure m_is_row [.tup ds, .int n] M = .ok (.bl true) M := 
  pure_ok (es := [.tup ds, .int n]) (by simp [fz_tup, hz]) (is_row_tup _ n h) rfl
theorem is_tie_ok (p : Nat × Nat) (i : Nat) (M : Mem) (h : p.1 ≤ i ∧ 1 ≤ p.2 ∧ p.2 ≤ 999) : kPure m_is_tie [eTie p, .int i] M = .ok (.bl true) M := by
  refine pure_ok (es := [eTie p, .int i]) (by simp [fz_eTie]) ?_ rfl
  have e : kPure m_is_row [eTie p, .int 2] [] = .ok (.bl true) [] := is_rowP (n := 2) rfl (by simp)
  simp [m_is_tie, b_is_tie, e]
  simp [eTie, is_within_int _ _ _ (show (0 : Int) ≤ p.1 ∧ (p.1 : Int) ≤ i by omega), is_within_int _ _ _ (show (1 : Int) ≤ p.2 ∧ (p.2 : Int) ≤ 999 by omega)]
def GoodT (t : List (Nat × Nat)) : Prop := t.length < 24 ∧ ∀ (i : Nat) (p : Nat × Nat), t[i]? = some p → p.1 ≤ i ∧ 1 ≤ p.2 ∧ p.2 ≤ 999
theorem enF_map {α : Type} (xs : List α) (e : α → D) : enF (xs.map e) = xs.zipIdx.map fun p => D.tup [.int p.2, e p.1] := by
  unfold enF
  apply List.ext_getElem?
  intro i
  simp only [List.getElem?_map, List.length_map, List.getElem?_zipIdx, List.getD_eq_getElem?_getD]
  by_cases h : i < xs.length
  · simp [h]
  · simp [h]
theorem kEn_tup {M : Mem} {α : Type} (xs : List α) (e : α → D) : kEn [.tup (xs.map e)] M = .ok (xs.zipIdx.map fun p => D.tup [.int p.2, e p.1]) M := by
  show R.of (some (enF _)) M = _
  rw [enF_map]; rfl
theorem is_tree_ok (t : List (Nat × Nat)) (g : GoodT t) (M : Mem) : kPure m_is_tree [eTree t] M = .ok (.bl true) M := by
  refine pure_ok (es := [eTree t]) (by simp) ?_ rfl
  have e : kPure m_is_row [eTree t, .int 2] [] = .ok (.bl true) [] := is_rowP (n := 2) rfl (by simp)
  have e2 : ¬ (24 ≤ (t.length : Int)) := by have := g.1; omega
  simp [m_is_tree, b_is_tree, e, e2, kEn_tup]
  rw [compL_map (g := fun _ => .bl true)]
  · have := g.1
    simp
    rw [kLst_ok (by simp; omega)]
    simp [kAll_map]
  · intro x hx
    refine ⟨_, rfl, rfl, ?_⟩
    simp [wipeD]
    refine is_tie_ok _ _ _ (g.2 x.2 x.1 ?_)
    simpa [List.mem_zipIdx_iff_getElem?] using hx
@[simp] theorem place_count_ok (t : List (Nat × Nat)) (M : Mem) : kPure m_place_count [eTree t] M = .ok (.int (t.length + 1 : Nat)) M := by
  refine pure_ok (es := [eTree t]) (by simp) ?_ rfl
  simp [m_place_count, b_place_count]

def fa (t : List (Nat × Nat)) (p : Nat) : Nat := (t.getD (p - 1) (0, 0)).1
def ln (t : List (Nat × Nat)) (p : Nat) : Nat := (t.getD (p - 1) (0, 0)).2
theorem tie_at {t : List (Nat × Nat)} {p : Nat} (h : 0 < p) (h2 : p ≤ t.length) : t[p - 1]? = some (fa t p, ln t p) := by
  unfold fa ln
  rw [List.getElem?_eq_getElem (by omega), List.getD_eq_getElem?_getD, List.getElem?_eq_getElem (by omega)]
  rfl
theorem fa_lt {t : List (Nat × Nat)} (g : GoodT t) {p : Nat} (h : 0 < p) (h2 : p ≤ t.length) : fa t p < p := by
  have := (g.2 _ _ (tie_at h h2)).1
  simp at this; omega
theorem ln_b {t : List (Nat × Nat)} (g : GoodT t) {p : Nat} (h : 0 < p) (h2 : p ≤ t.length) : 1 ≤ ln t p ∧ ln t p ≤ 999 := by
  have := (g.2 _ _ (tie_at h h2)).2
  simpa using this
def up (t : List (Nat × Nat)) (p : Nat) : List Nat := if h : p = 0 then [0] else p :: up t (min (fa t p) (p - 1))
  termination_by p
  decreasing_by omega
def dep (t : List (Nat × Nat)) (p : Nat) : Nat := if h : p = 0 then 0 else dep t (min (fa t p) (p - 1)) + ln t p
  termination_by p
  decreasing_by omega
theorem up_zero (t : List (Nat × Nat)) : up t 0 = [0] := by rw [up]; rfl
theorem up_pos {t : List (Nat × Nat)} (g : GoodT t) {p : Nat} (h : 0 < p) (h2 : p ≤ t.length) : up t p = p :: up t (fa t p) := by
  rw [up, dif_neg (by omega), Nat.min_eq_left (by have := fa_lt g h h2; omega)]
theorem dep_zero (t : List (Nat × Nat)) : dep t 0 = 0 := by rw [dep]; rfl
theorem dep_pos {t : List (Nat × Nat)} (g : GoodT t) {p : Nat} (h : 0 < p) (h2 : p ≤ t.length) : dep t p = dep t (fa t p) + ln t p := by
  rw [dep, dif_neg (by omega), Nat.min_eq_left (by have := fa_lt g h h2; omega)]
theorem atI_pred {α : Type} (xs : List α) (p : Nat) (h : 0 < p) : atI xs ((p : Int) - 1) = xs[p - 1]? := by
  rw [show (p : Int) - 1 = ((p - 1 : Nat) : Int) by omega, atI_ofNat]
theorem father_of_ok {t : List (Nat × Nat)} {p : Nat} (h : 0 < p) (h2 : p ≤ t.length) (M : Mem) : kPure m_father_of [eTree t, .int p] M = .ok (.int (fa t p)) M := by
  refine pure_ok (es := [eTree t, .int p]) (by simp) ?_ rfl
  simp [m_father_of, b_father_of, atI_pred, h, tie_at h h2, eTie]
theorem kIx_last {M : Mem} {n : Nat} {pre : List D} {d : D} (h : M[n]? = some (.lst (pre ++ [d]))) : kIx (.ref n) (.int (-1)) M = .ok d M := by
  rw [kIx_ref _ h, show (-1 : Int) = -((1 : Nat) : Int) by rfl, atI_neg _ _ (by omega) (by simp)]
  simp
theorem path_up_loop {t : List (Nat × Nat)} (g : GoodT t) (d : D) : ∀ (p : Nat) (pre : List Nat) (f : Nat) (M : Mem), p < f → p ≤ t.length → pre.length + p < 1000 →
    sWhile (tOf (f2 kNe (f2 kIx (fVar 2) (f1 kNeg (fC (.int 1)))) (fC (.int 0)))) (sDrop (fBm kAppend (fVar 2) (aCons (fCall (kPur (shN 2) m_father_of) (aCons (fVar 0) (aCons (f2 kIx (fVar 2) (f1 kNeg (fC (.int 1)))) aNil)) aNil) aNil))) f
      [some (eTree t), some d, some (.ref M.length)] (M ++ [.lst (pre.map eN ++ [eN p])]) = .next [some (eTree t), some d, some (.ref M.length)] (M ++ [.lst (pre.map eN ++ (up t p).map eN)]) := by
  intro p
  induction p using Nat.strongRecOn with
  | _ p ih =>
    intro pre f M hf hp hl
    obtain ⟨f, rfl⟩ : ∃ k, f = k + 1 := ⟨f - 1, by omega⟩
    rw [while_step]
    by_cases h0 : p = 0
    · subst h0
      simp [up_zero]
    · have hfa := fa_lt g (show 0 < p by omega) hp
      have e := ih (fa t p) hfa (pre ++ [p]) f M (by omega) (by omega) (by simp; omega)
      simp only [List.map_append, List.map_cons, List.map_nil] at e
      have h2 : pre.length + 1 < 16777216 := by omega
      simp [h0, father_of_ok (show 0 < p by omega) hp, h2, up_pos g (show 0 < p by omega) hp]
      simpa using e
theorem path_up_ok {t : List (Nat × Nat)} (g : GoodT t) {p : Nat} (hp : p ≤ t.length) (M : Mem) : m_path_up [eTree t, .int p] M = .ok (.ref M.length) (M ++ [.lst ((up t p).map eN)]) := by
  have h := path_up_loop g (.int p) p [] 64 M (by have := g.1; omega) hp (by have := g.1; simp; omega)
  simp [eN] at h
  simp [m_path_up, b_path_up, h]

/-! the places above -/
theorem up_suffix {t : List (Nat × Nat)} (g : GoodT t) : ∀ (a : Nat) (P : List Nat) (y : Nat) (Q : List Nat), a ≤ t.length → up t a = P ++ y :: Q → y :: Q = up t y ∧ y ≤ t.length := by
  intro a
  induction a using Nat.strongRecOn with
  | _ a ih =>
    intro P y Q ha e
    by_cases h0 : a = 0
    · subst h0
      rw [up_zero] at e
      cases P with
      | nil => simp at e; obtain ⟨rfl, rfl⟩ := e; exact ⟨(up_zero t).symm, ha⟩
      | cons p P => simp at e
    · cases P with
      | nil =>
        have e2 := e
        rw [up_pos g (by omega) ha] at e
        simp at e
        obtain ⟨rfl, e⟩ := e
        rw [e2]; exact ⟨rfl, ha⟩
      | cons p P =>
        rw [up_pos g (by omega) ha] at e
        simp at e
        have := fa_lt g (show 0 < a by omega) ha
        exact ih (fa t a) this P y Q (by omega) e.2
theorem up_le {t : List (Nat × Nat)} (g : GoodT t) : ∀ (a : Nat), a ≤ t.length → ∀ y ∈ up t a, y ≤ a := by
  intro a
  induction a using Nat.strongRecOn with
  | _ a ih =>
    intro ha y hy
    by_cases h0 : a = 0
    · subst h0; rw [up_zero] at hy; simp at hy; omega
    · rw [up_pos g (by omega) ha] at hy
      have := fa_lt g (show 0 < a by omega) ha
      rcases List.mem_cons.mp hy with rfl | hy
      · omega
      · have := ih _ this (by omega) y hy; omega
theorem up_sorted {t : List (Nat × Nat)} (g : GoodT t) : ∀ (a : Nat), a ≤ t.length → (up t a).Pairwise (· > ·) := by
  intro a
  induction a using Nat.strongRecOn with
  | _ a ih =>
    intro ha
    by_cases h0 : a = 0
    · subst h0; rw [up_zero]; simp
    · rw [up_pos g (by omega) ha]
      have := fa_lt g (show 0 < a by omega) ha
      refine List.pairwise_cons.mpr ⟨fun y hy => ?_, ih _ this (by omega)⟩
      have := up_le g _ (by omega) y hy; omega
theorem up_head (t : List (Nat × Nat)) (a : Nat) : ∃ Q, up t a = a :: Q := by
  rw [up]
  split
  · rename_i h; subst h; exact ⟨_, rfl⟩
  · exact ⟨_, rfl⟩
theorem up_len {t : List (Nat × Nat)} (g : GoodT t) : ∀ (a : Nat), a ≤ t.length → (up t a).length ≤ a + 1 := by
  intro a
  induction a using Nat.strongRecOn with
  | _ a ih =>
    intro ha
    by_cases h0 : a = 0
    · subst h0; rw [up_zero]; simp
    · rw [up_pos g (by omega) ha]
      have := fa_lt g (show 0 < a by omega) ha
      have := ih _ this (by omega)
      simp; omega
theorem up_last {t : List (Nat × Nat)} (g : GoodT t) : ∀ (a : Nat), a ≤ t.length → ∃ U, up t a = U ++ [0] := by
  intro a
  induction a using Nat.strongRecOn with
  | _ a ih =>
    intro ha
    by_cases h0 : a = 0
    · subst h0; rw [up_zero]; exact ⟨[], rfl⟩
    · rw [up_pos g (by omega) ha]
      have := fa_lt g (show 0 < a by omega) ha
      obtain ⟨U, h⟩ := ih _ this (by omega)
      exact ⟨a :: U, by rw [h]; rfl⟩
/-- the places of a that b hasn't -/
def ua (t : List (Nat × Nat)) (a b : Nat) : List Nat := (up t a).filter fun y => !(up t b).contains y
def lcp (t : List (Nat × Nat)) (a b : Nat) : Nat := ((up t a).filter fun y => (up t b).contains y).headD 0
theorem split_top {t : List (Nat × Nat)} (g : GoodT t) {a b : Nat} (ha : a ≤ t.length) (hb : b ≤ t.length) {U V C : List Nat} {x : Nat} (ea : up t a = U ++ x :: C) (eb : up t b = V ++ x :: C)
    (hd : ∀ y, U.getLast? = some y → V.getLast? = some y → False) : ua t a b = U ∧ ua t b a = V ∧ lcp t a b = x := by
  have hU : ∀ y, y ∈ U → y ∈ V → False := by
    intro y hu hv
    obtain ⟨U1, U2, rfl⟩ := List.append_of_mem hu
    obtain ⟨V1, V2, rfl⟩ := List.append_of_mem hv
    rw [List.append_assoc, List.cons_append] at ea eb
    have h1 := (up_suffix g a U1 y _ ha ea).1
    have h2 := (up_suffix g b V1 y _ hb eb).1
    rw [← h2] at h1
    have h3 : U2 = V2 := List.append_cancel_right (List.cons.inj h1).2
    subst h3
    refine hd ((y :: U2).getLast (by simp)) ?_ ?_
    · rw [List.getLast?_append, List.getLast?_eq_some_getLast (show y :: U2 ≠ [] by simp)]; rfl
    · rw [List.getLast?_append, List.getLast?_eq_some_getLast (show y :: U2 ≠ [] by simp)]; rfl
  have pa := up_sorted g a ha
  have pb := up_sorted g b hb
  rw [ea] at pa
  rw [eb] at pb
  rw [List.pairwise_append] at pa pb
  have fU : ∀ y ∈ U, y ∉ V ++ x :: C := fun y hy hm => by
    rcases List.mem_append.mp hm with h | h
    · exact hU y hy h
    · have := pa.2.2 y hy y h; omega
  have fV : ∀ y ∈ V, y ∉ U ++ x :: C := fun y hy hm => by
    rcases List.mem_append.mp hm with h | h
    · exact hU y h hy
    · have := pb.2.2 y hy y h; omega
  refine ⟨?_, ?_, ?_⟩
  · unfold ua
    rw [ea, eb, List.filter_append, List.filter_eq_self.mpr, List.filter_eq_nil_iff.mpr, List.append_nil]
    · intro y hy; simp only [List.contains_eq_mem, Bool.not_eq_true', decide_eq_false_iff_not]; exact fun z => z (List.mem_append.mpr (.inr hy))
    · intro y hy; simp only [List.contains_eq_mem, Bool.not_eq_true', decide_eq_false_iff_not]; exact fU y hy
  · unfold ua
    rw [ea, eb, List.filter_append, List.filter_eq_self.mpr, List.filter_eq_nil_iff.mpr, List.append_nil]
    · intro y hy; simp only [List.contains_eq_mem, Bool.not_eq_true', decide_eq_false_iff_not]; exact fun z => z (List.mem_append.mpr (.inr hy))
    · intro y hy; simp only [List.contains_eq_mem, Bool.not_eq_true', decide_eq_false_iff_not]; exact fV y hy
  · unfold lcp
    rw [ea, eb, List.filter_append, List.filter_eq_nil_iff.mpr, List.nil_append, List.filter_cons, if_pos]
    · rfl
    · simp
    · intro y hy; simp only [List.contains_eq_mem, decide_eq_true_eq]; exact fU y hy
/-- two ways up part once -/
theorem parts : ∀ (n : Nat) (U V : List Nat) (x : Nat), U.length ≤ n → ∃ U' V' x' C, U ++ [x] = U' ++ x' :: C ∧ V ++ [x] = V' ++ x' :: C ∧ ∀ y, U'.getLast? = some y → V'.getLast? = some y → False
  | n, [], V, x, _ => ⟨[], V, x, [], rfl, rfl, fun y h => by cases h⟩
  | n, U, [], x, _ => ⟨U, [], x, [], rfl, rfl, fun y _ h => by cases h⟩
  | 0, u :: U, v :: V, x, h => by simp at h
  | n + 1, u :: U, v :: V, x, h => by
    obtain ⟨U0, u0, hu⟩ : ∃ U0 u0, u :: U = U0 ++ [u0] := ⟨_, _, (List.dropLast_concat_getLast (by simp)).symm⟩
    obtain ⟨V0, v0, hv⟩ : ∃ V0 v0, v :: V = V0 ++ [v0] := ⟨_, _, (List.dropLast_concat_getLast (by simp)).symm⟩
    by_cases e : u0 = v0
    · subst e
      obtain ⟨U', V', x', C, h1, h2, h3⟩ := parts n U0 V0 u0 (by have := congrArg List.length hu; simp at this h; omega)
      exact ⟨U', V', x', C ++ [x], by rw [hu, h1]; simp, by rw [hv, h2]; simp, h3⟩
    · refine ⟨u :: U, v :: V, x, [], rfl, rfl, fun y h1 h2 => e ?_⟩
      rw [hu] at h1; rw [hv] at h2
      simp at h1 h2
      rw [h1, h2]
theorem up_parts {t : List (Nat × Nat)} (g : GoodT t) {a b : Nat} (ha : a ≤ t.length) (hb : b ≤ t.length) : up t a = ua t a b ++ up t (lcp t a b) ∧ up t b = ua t b a ++ up t (lcp t a b) ∧ lcp t a b ≤ t.length := by
  obtain ⟨U, hu⟩ := up_last g a ha
  obtain ⟨V, hv⟩ := up_last g b hb
  obtain ⟨U', V', x', C, h1, h2, h3⟩ := parts U.length U V 0 (Nat.le_refl _)
  rw [← hu] at h1
  rw [← hv] at h2
  obtain ⟨e1, e2, e3⟩ := split_top g ha hb h1 h2 h3
  obtain ⟨e4, e5⟩ := up_suffix g _ _ _ _ ha h1
  rw [e1, e2, e3, ← e4]
  exact ⟨h1, h2, e5⟩

theorem path_loop (d1 d2 d3 : D) : ∀ (n f : Nat) (U V : List Nat) (x : Nat), U.length ≤ n → n < f → ∃ U' V' x' C, U ++ [x] = U' ++ x' :: C ∧ V ++ [x] = V' ++ x' :: C ∧ (∀ y, U'.getLast? = some y → V'.getLast? = some y → False) ∧
    sWhile (tAndF (tOf (f2 kGt (fOf (k1 kLen) (aCons (fVar 3) aNil)) (fC (.int 1)))) (tAndF (tOf (f2 kGt (fOf (k1 kLen) (aCons (fVar 4) aNil)) (fC (.int 1)))) (tOf (f2 kEq (f2 kIx (fVar 3) (f1 kNeg (fC (.int 2)))) (f2 kIx (fVar 4) (f1 kNeg (fC (.int 2)))))))) (sSeq (sDrop (fBm kPop (fVar 3) aNil))
      (sDrop (fBm kPop (fVar 4) aNil))) f [some d1, some d2, some d3, some (.ref 0), some (.ref 1)] [.lst (U.map eN ++ [eN x]), .lst (V.map eN ++ [eN x])] =
    .next [some d1, some d2, some d3, some (.ref 0), some (.ref 1)] [.lst (U'.map eN ++ [eN x']), .lst (V'.map eN ++ [eN x'])] := by
  intro n
  induction n with
  | zero =>
    intro f U V x h hf
    obtain rfl : U = [] := List.eq_nil_of_length_eq_zero (by omega)
    obtain ⟨f, rfl⟩ : ∃ k, f = k + 1 := ⟨f - 1, by omega⟩
    refine ⟨[], V, x, [], rfl, rfl, fun y h => (by cases h), ?_⟩
    rw [while_step]
    simp
  | succ n ih =>
    intro f U V x h hf
    obtain ⟨f, rfl⟩ : ∃ k, f = k + 1 := ⟨f - 1, by omega⟩
    by_cases hU : U = []
    · subst hU
      refine ⟨[], V, x, [], rfl, rfl, fun y h => (by cases h), ?_⟩
      rw [while_step]
      simp
    by_cases hV : V = []
    · subst hV
      refine ⟨U, [], x, [], rfl, rfl, fun y _ h => (by cases h), ?_⟩
      rw [while_step]
      simp [List.length_pos_iff.mpr hU]
    obtain ⟨U0, u0, rfl⟩ : ∃ U0 u0, U = U0 ++ [u0] := ⟨_, _, (List.dropLast_concat_getLast hU).symm⟩
    obtain ⟨V0, v0, rfl⟩ : ∃ V0 v0, V = V0 ++ [v0] := ⟨_, _, (List.dropLast_concat_getLast hV).symm⟩
    by_cases e : u0 = v0
    · subst e
      obtain ⟨U', V', x', C, h1, h2, h3, h4⟩ := ih f U0 V0 u0 (by simp at h; omega) (by omega)
      refine ⟨U', V', x', C ++ [x], by rw [h1]; simp, by rw [h2]; simp, h3, ?_⟩
      rw [while_step]
      have e1 : (1 : Int) < U0.length + 2 := by omega
      have e2 : (1 : Int) < V0.length + 2 := by omega
      simp [e1, e2]
      simpa using h4
    · refine ⟨U0 ++ [u0], V0 ++ [v0], x, [], rfl, rfl, fun y h1 h2 => e ?_, ?_⟩
      · simp at h1 h2
        rw [h1, h2]
      · rw [while_step]
        have e1 : (1 : Int) < U0.length + 2 := by omega
        have e2 : (1 : Int) < V0.length + 2 := by omega
        have e3 : ¬ ((u0 : Int) = v0) := by omega
        simp [e, e1, e2, e3]
theorem lstN_ok {M : Mem} {n : Nat} {ds : List Nat} (h : ds.length ≤ 16777216) : True := trivial
theorem path_in_ok {t : List (Nat × Nat)} (g : GoodT t) {a b : Nat} (ha : a ≤ t.length) (hb : b ≤ t.length) (M : Mem) : kPure m_path_in [eTree t, .int a, .int b] M = .ok (.lst ((ua t a b ++ lcp t a b :: (ua t b a).reverse).map eN)) M := by
  refine pure_ok (es := [eTree t, .int a, .int b]) (by simp) ?_ (by simp [blws_map])
  obtain ⟨U, hu⟩ := up_last g a ha
  obtain ⟨V, hv⟩ := up_last g b hb
  have hlu := up_len g a ha
  have hlv := up_len g b hb
  have hl := g.1
  obtain ⟨U', V', x', C, h1, h2, h3, h4⟩ := path_loop (eTree t) (.int a) (.int b) U.length 64 U V 0 (Nat.le_refl _) (by rw [hu] at hlu; simp at hlu; omega)
  obtain ⟨e1, e2, e3⟩ := split_top g ha hb (hu.trans h1) (hv.trans h2) h3
  have b1 := congrArg List.length h1
  have b2 := congrArg List.length h2
  rw [hu] at hlu
  rw [hv] at hlv
  simp at b1 b2 hlu hlv
  have b3 : U'.length + 1 + V'.length ≤ 16777216 := by omega
  simp [m_path_in, b_path_in, path_up_ok g ha, path_up_ok g hb, hu, hv, h4, b3, e1, e2, e3]
  rw [trim0b (by simp)]
theorem top_le {t : List (Nat × Nat)} (g : GoodT t) {a b : Nat} (ha : a ≤ t.length) (hb : b ≤ t.length) : ∀ y ∈ ua t a b ++ lcp t a b :: (ua t b a).reverse, lcp t a b ≤ y := by
  obtain ⟨h1, h2, h3⟩ := up_parts g ha hb
  have s1 := up_sorted g a ha
  have s2 := up_sorted g b hb
  rw [h1, List.pairwise_append] at s1
  rw [h2, List.pairwise_append] at s2
  obtain ⟨Q, hq⟩ := up_head t (lcp t a b)
  intro y hy
  simp only [List.mem_append, List.mem_cons, List.mem_reverse] at hy
  rcases hy with hy | rfl | hy
  · have := s1.2.2 y hy (lcp t a b) (by rw [hq]; simp); omega
  · omega
  · have := s2.2.2 y hy (lcp t a b) (by rw [hq]; simp); omega
theorem kMin_of {M : Mem} {ns : List Nat} {m : Nat} (h : m ∈ ns) (h2 : ∀ y ∈ ns, m ≤ y) : kMin [.lst (ns.map eN)] M = .ok (.int m) M := by
  show kMin1 _ _ = _
  unfold kMin1 lsI lsD lx
  rw [show ns.map eN = (ns.map fun n : Nat => (n : Int)).map D.int by simp]
  simp only [Option.bind_some, intsD_map]
  have : (ns.map fun n : Nat => (n : Int)).min? = some (m : Int) := by
    rw [List.min?_eq_some_iff]
    refine ⟨List.mem_map.mpr ⟨m, h, rfl⟩, fun b hb => ?_⟩
    obtain ⟨y, hy, rfl⟩ := List.mem_map.mp hb
    exact Int.ofNat_le.mpr (h2 y hy)
  rw [this]; rfl
theorem top_in_ok {t : List (Nat × Nat)} (g : GoodT t) {a b : Nat} (ha : a ≤ t.length) (hb : b ≤ t.length) (M : Mem) : kPure m_top_in [eTree t, .int a, .int b] M = .ok (.int (lcp t a b)) M := by
  refine pure_ok (es := [eTree t, .int a, .int b]) (by simp) ?_ (by simp)
  simp only [m_top_in, b_top_in, ev_trimM, ev_mOf, ev_ret, ev_fOf, ev_aCons, ev_fCall, ev_startD]
  simp [path_in_ok g ha hb, -List.map_append]
  rw [kMin_of (by simp) (top_le g ha hb)]
  simp
def deps (t : List (Nat × Nat)) (k : Nat) : List D := (List.range k).map fun p => .int (dep t p)
theorem depths_in_ok {t : List (Nat × Nat)} (g : GoodT t) (M : Mem) : kPure m_depths_in [eTree t] M = .ok (.lst (deps t (t.length + 1))) M := by
  refine pure_ok (es := [eTree t]) (by simp) ?_ (by simp [deps])
  obtain ⟨env2, M2, h1, h2⟩ := for_ix (t := .tup [(.name 2), (.name 3)]) (b := (sDrop (fBm kAppend (fVar 1) (aCons (f2 kAdd (f2 kIx (fVar 1) (fVar 2)) (fVar 3)) aNil)))) (e := eTie) (xs := t) (env := [some (eTree t), some (.ref 0), none, none]) (M := [.lst [.int 0]])
    (I := fun i env M => (∃ x y, env = [some (eTree t), some (.ref 0), x, y]) ∧ M = [.lst (deps t (i + 1))]) ⟨⟨_, _, rfl⟩, by simp [deps, dep_zero]⟩ (by
      rintro i hi env M ⟨⟨x, y, rfl⟩, rfl⟩
      have hg := g.2 i t[i] (List.getElem?_eq_getElem hi)
      have ht := g.1
      have e1 : (deps t (i + 1))[(t[i]).1]? = some (.int (dep t (t[i]).1)) := by
        unfold deps
        rw [List.getElem?_map, List.getElem?_range (by omega)]; rfl
      refine ⟨_, rfl, ?_⟩
      have e2 : (deps t (i + 1)).length < 16777216 := by simp [deps]; omega
      have e3 : dep t (i + 1) = dep t (t[i]).1 + (t[i]).2 := by
        rw [dep_pos g (by omega) (by omega)]
        have := tie_at (t := t) (p := i + 1) (by omega) (by omega)
        simp at this
        rw [List.getElem?_eq_getElem hi] at this
        have := Option.some.inj this
        rw [this]
      simp [atI_ofNat, e1, e2]
      simp [deps, List.range_succ (n := i + 1), e3])
  obtain ⟨⟨x, y, rfl⟩, rfl⟩ := h2
  simp [m_depths_in, b_depths_in, h1]
  exact trim_ref rfl (by simp [deps])
@[simp] theorem deps_at {t : List (Nat × Nat)} {k p : Nat} (h : p < k) : (deps t k)[p]? = some (.int (dep t p)) := by
  unfold deps; rw [List.getElem?_map, List.getElem?_range h]; rfl
theorem blws_deps {t : List (Nat × Nat)} {k n : Nat} : D.blws n (deps t k) = true := by simp [deps]
def way (t : List (Nat × Nat)) (a b : Nat) : Int := dep t a + dep t b - 2 * dep t (lcp t a b)
theorem way_in_ok {t : List (Nat × Nat)} (g : GoodT t) {a b : Nat} (ha : a ≤ t.length) (hb : b ≤ t.length) (M : Mem) : kPure m_way_in [eTree t, .int a, .int b] M = .ok (.int (way t a b)) M := by
  refine pure_ok (es := [eTree t, .int a, .int b]) (by simp) ?_ (by simp)
  have := (up_parts g ha hb).2.2
  simp [m_way_in, b_way_in, depths_in_ok g, top_in_ok g ha hb, atI_ofNat, deps_at (show a < t.length + 1 by omega), deps_at (show b < t.length + 1 by omega), deps_at (show lcp t a b < t.length + 1 by omega), kMulI_int, way]
end K91P

-- K91Q
set_option Elab.async false
set_option linter.all false
set_option maxRecDepth 100000
set_option maxHeartbeats 1000000
namespace K91P
open PySem DL L2 K91
/-! fractions -/
abbrev eR (q : Int × Int) : D := .tup [.int q.1, .int q.2]
def low (a b : Int) : Int × Int := (a / (Nat.gcd a.natAbs b.natAbs : Nat), b / (Nat.gcd a.natAbs b.natAbs : Nat))
theorem fraction_ok {a b : Int} (hb : 0 < b) (hm : b < 2 ^ 200) (M : Mem) : kPure m_fraction [.int a, .int b] M = .ok (eR (low a b)) M := by
  have hg : 0 < (Nat.gcd a.natAbs b.natAbs : Int) := by
    have : 0 < Nat.gcd a.natAbs b.natAbs := Nat.gcd_pos_of_pos_right _ (by omega)
    omega
  have hg2 : (Nat.gcd a.natAbs b.natAbs : Int) < 2 ^ 200 := by
    have : Nat.gcd a.natAbs b.natAbs ≤ b.natAbs := Nat.gcd_le_right _ (by omega)
    omega
  have hn : ¬ b < 0 := by omega
  refine pure_ok (es := [.int a, .int b]) (by simp) ?_ (by simp)
  have e1 : ∀ x : Int, kFdiv (.int x) (.int (Nat.gcd a.natAbs b.natAbs : Nat)) [] = .ok (.int (x / (Nat.gcd a.natAbs b.natAbs : Nat))) [] := fun x => kFdiv_int _ _ (by first | exact ⟨hg, hg2⟩ | (constructor <;> omega))
  simp [m_fraction, b_fraction, hn, kGcd_int, e1, low]
  rfl
@[simp] theorem fz_eR {M : Mem} {q : Int × Int} {k : Nat} : D.fz M (k + 2) (eR q) = some (eR q) := by simp [fz_tup]
theorem whole_ok (a : Int) (M : Mem) : kPure m_whole [.int a] M = .ok (eR (a, 1)) M := by
  refine pure_ok (es := [.int a]) (by simp) ?_ (by simp)
  simp [m_whole, b_whole]
  rfl
/-- what may be reckoned with -/
def Rt (q : Int × Int) : Prop := 0 < q.2 ∧ q.2 < 2 ^ 60 ∧ -(2 ^ 60) < q.1 ∧ q.1 < 2 ^ 60
theorem product_ok {p q : Int × Int} (hp : Rt p) (hq : Rt q) (M : Mem) : kPure m_product [eR p, eR q] M = .ok (eR (low (p.1 * q.1) (p.2 * q.2))) M := by
  obtain ⟨p1, p2, p3, p4⟩ := hp
  obtain ⟨q1, q2, q3, q4⟩ := hq
  refine pure_ok (es := [eR p, eR q]) (by simp) ?_ (by simp)
  have h0 : 0 < p.2 * q.2 := Int.mul_pos p1 q1
  have h1 : p.2 * q.2 < 2 ^ 200 := by
    have := Int.mul_le_mul (Int.le_of_lt p2) (Int.le_of_lt q2) (Int.le_of_lt q1) (by decide)
    omega
  have e1 : kMulI (.int p.1) (.int q.1) [] = .ok (.int (p.1 * q.1)) [] := kMulI_int _ _ (by omega)
  have e2 : kMulI (.int p.2) (.int q.2) [] = .ok (.int (p.2 * q.2)) [] := kMulI_int _ _ (by omega)
  simp [m_product, b_product, e1, e2, fraction_ok h0 h1]
  rfl
theorem plus_ok {p q : Int × Int} (hp : Rt p) (hq : Rt q) (M : Mem) : kPure m_plus [eR p, eR q] M = .ok (eR (low (p.1 * q.2 + q.1 * p.2) (p.2 * q.2))) M := by
  obtain ⟨p1, p2, p3, p4⟩ := hp
  obtain ⟨q1, q2, q3, q4⟩ := hq
  refine pure_ok (es := [eR p, eR q]) (by simp) ?_ (by simp)
  have h0 : 0 < p.2 * q.2 := Int.mul_pos p1 q1
  have h1 : p.2 * q.2 < 2 ^ 200 := by
    have := Int.mul_le_mul (Int.le_of_lt p2) (Int.le_of_lt q2) (Int.le_of_lt q1) (by decide)
    omega
  have e1 : kMulI (.int p.1) (.int q.2) [] = .ok (.int (p.1 * q.2)) [] := kMulI_int _ _ (by omega)
  have e2 : kMulI (.int p.2) (.int q.2) [] = .ok (.int (p.2 * q.2)) [] := kMulI_int _ _ (by omega)
  have e3 : kMulI (.int q.1) (.int p.2) [] = .ok (.int (q.1 * p.2)) [] := kMulI_int _ _ (by omega)
  simp [m_plus, b_plus, e1, e2, e3, fraction_ok h0 h1]
  rfl
theorem is_less_ok {p q : Int × Int} (hp : Rt p) (hq : Rt q) (M : Mem) : kPure m_is_less [eR p, eR q] M = .ok (.bl (decide (p.1 * q.2 < q.1 * p.2))) M := by
  obtain ⟨p1, p2, p3, p4⟩ := hp
  obtain ⟨q1, q2, q3, q4⟩ := hq
  refine pure_ok (es := [eR p, eR q]) (by simp) ?_ (by simp)
  have e1 : kMulI (.int p.1) (.int q.2) [] = .ok (.int (p.1 * q.2)) [] := kMulI_int _ _ (by omega)
  have e3 : kMulI (.int q.1) (.int p.2) [] = .ok (.int (q.1 * p.2)) [] := kMulI_int _ _ (by omega)
  simp [m_is_less, b_is_less, e1, e3]
/-! a fraction in low terms -/
theorem low_spec {a b : Int} (hb : 0 < b) : ∃ g : Int, 0 < g ∧ a = g * (low a b).1 ∧ b = g * (low a b).2 := by
  have h1 : 0 < Nat.gcd a.natAbs b.natAbs := Nat.gcd_pos_of_pos_right _ (by omega)
  refine ⟨(Nat.gcd a.natAbs b.natAbs : Nat), by omega, ?_, ?_⟩
  · exact (Int.mul_ediv_cancel' (Int.ofNat_dvd_left.mpr (Nat.gcd_dvd_left _ _))).symm
  · exact (Int.mul_ediv_cancel' (Int.ofNat_dvd_left.mpr (Nat.gcd_dvd_right _ _))).symm
theorem low_pos {a b : Int} (hb : 0 < b) : 0 < (low a b).2 := by
  obtain ⟨g, h1, h2, h3⟩ := low_spec (a := a) hb
  rw [h3] at hb
  exact Int.pos_of_mul_pos_right hb h1
end K91P

-- K91V
set_option Elab.async false
set_option linter.all false
set_option maxRecDepth 100000
set_option maxHeartbeats 1000000
namespace K91P
open PySem DL L2 K91
/-! days -/
structure Ca where
  h : Nat
  p : Nat
  r : Nat
abbrev eCa (c : Ca) : D := .tup [.int c.h, .int c.p, .int c.r]
abbrev eDay (v : Int × Int) (cs : List Ca) : D := .tup [.str "day", eR v, .tup (cs.map eCa)]
/-- a speed that may be reckoned with -/
def Sp (v : Int × Int) : Prop := 0 ≤ v.1 ∧ v.1 < 2 ^ 40 ∧ 0 < v.2 ∧ v.2 < 2 ^ 40
def GoodC (t : List (Nat × Nat)) (c : Ca) : Prop := c.h ≤ 99 ∧ c.p ≤ t.length ∧ c.r ≤ 9999
def fit (t : List (Nat × Nat)) (v : Int × Int) (c c' : Ca) : Bool := decide (way t c.p c'.p * v.2 ≤ (c.r + c'.r) * v.2 + v.1 * ((c'.h : Int) - c.h).natAbs)
theorem fz_eCa {M : Mem} {k : Nat} {c : Ca} : D.fz M (k + 2) (eCa c) = some (eCa c) := by simp [eCa, fz_tup]
@[simp] theorem fz_eCas {M : Mem} {k : Nat} {cs : List Ca} : D.fz M (k + 3) (.tup (cs.map eCa)) = some (.tup (cs.map eCa)) := by
  rw [fz_tup, mapM_fz fun _ => fz_eCa]; rfl
@[simp] theorem fz_eDay {M : Mem} {k : Nat} {v : Int × Int} {cs : List Ca} : D.fz M (k + 4) (eDay v cs) = some (eDay v cs) := by
  rw [fz_tup]; simp
def cAt (cs : List Ca) (i : Nat) : Ca := cs.getD i ⟨0, 0, 0⟩
theorem cAt_get {cs : List Ca} {i : Nat} (h : i < cs.length) : cs[i]? = some (cAt cs i) := by
  rw [cAt, List.getD_eq_getElem?_getD, List.getElem?_eq_getElem h]; rfl
theorem cAt_mem {cs : List Ca} {i : Nat} (h : i < cs.length) : cAt cs i ∈ cs := List.mem_iff_getElem?.mpr ⟨i, cAt_get h⟩
def Fv (t : List (Nat × Nat)) (cs : List Ca) (v : Int × Int) (i j : Nat) : Bool := fit t v (cAt cs i) (cAt cs j)
theorem dep_b {t : List (Nat × Nat)} (g : GoodT t) : ∀ (p : Nat), p ≤ t.length → dep t p ≤ 999 * p := by
  intro p
  induction p using Nat.strongRecOn with
  | _ p ih =>
    intro hp
    by_cases h : p = 0
    · subst h; rw [dep_zero]; omega
    · have := fa_lt g (show 0 < p by omega) hp
      have := ln_b g (show 0 < p by omega) hp
      have := ih (fa t p) (by omega) (by omega)
      rw [dep_pos g (by omega) hp]; omega
theorem way_b {t : List (Nat × Nat)} (g : GoodT t) {a b : Nat} (ha : a ≤ t.length) (hb : b ≤ t.length) : -(2 ^ 20) < way t a b ∧ way t a b < 2 ^ 20 := by
  have h := g.1
  have h1 := dep_b g a ha
  have h2 := dep_b g b hb
  have h3 := dep_b g _ (up_parts g ha hb).2.2
  have h4 := (up_parts g ha hb).2.2
  unfold way
  constructor <;> omega
theorem kAbs_na {M : Mem} (i : Int) : kAbs (.int i) M = .ok (.int i.natAbs) M := by
  rw [kAbs_int]; congr 2; split <;> omega
theorem low_b {a b : Int} (hb : 0 < b) : (low a b).2 ≤ b ∧ (low a b).1 ≤ a.natAbs ∧ -(a.natAbs : Int) ≤ (low a b).1 := by
  obtain ⟨g, h1, h2, h3⟩ := low_spec (a := a) hb
  have h4 := low_pos (a := a) hb
  generalize low a b = q at *
  have e : a.natAbs = g.natAbs * q.1.natAbs := by rw [h2, Int.natAbs_mul]
  have : q.1.natAbs ≤ a.natAbs := by rw [e]; exact Nat.le_mul_of_pos_left _ (by omega)
  have : q.2 ≤ b := by
    rw [h3]
    have := Int.mul_le_mul_of_nonneg_right (show (1 : Int) ≤ g by omega) (Int.le_of_lt h4)
    omega
  omega
theorem low_less {a b : Int} (hb : 0 < b) (w : Int) : ((low a b).1 * 1 < w * (low a b).2) ↔ a < w * b := by
  obtain ⟨g, h1, h2, h3⟩ := low_spec (a := a) hb
  have h4 := low_pos (a := a) hb
  generalize low a b = q at *
  rw [h2, h3]
  have e : w * (g * q.2) = g * (w * q.2) := by grind
  rw [e, Int.mul_one]
  constructor
  · intro h; exact Int.mul_lt_mul_of_pos_left h h1
  · intro h; exact Int.lt_of_mul_lt_mul_left h (Int.le_of_lt h1)
/-- how it is reckoned -/
theorem fit_low {t : List (Nat × Nat)} {v : Int × Int} (hv : 0 < v.2) (c c' : Ca) (w : Int) (hw : w = way t c.p c'.p) (d : Nat) (hd : d = ((c'.h : Int) - c.h).natAbs) :
    (!decide ((low (((c.r : Int) + c'.r) * (low (v.1 * d) v.2).2 + (low (v.1 * d) v.2).1 * 1) (1 * (low (v.1 * d) v.2).2)).1 * 1 < w * (low (((c.r : Int) + c'.r) * (low (v.1 * d) v.2).2 + (low (v.1 * d) v.2).1 * 1) (1 * (low (v.1 * d) v.2).2)).2)) = fit t v c c' := by
  have h4 := low_pos (a := v.1 * d) hv
  unfold fit
  rw [Bool.eq_iff_iff]
  simp only [decide_eq_true_eq, Bool.not_eq_true', decide_eq_false_iff_not]
  rw [low_less (by omega), ← hw, ← hd, Int.not_lt]
  obtain ⟨g, h1, h2, h3⟩ := low_spec (a := v.1 * d) hv
  generalize low (v.1 * d) v.2 = q at *
  rw [h2, h3]
  have e1 : ((c.r : Int) + c'.r) * (g * q.2) + g * q.1 = g * (((c.r : Int) + c'.r) * q.2 + q.1 * 1) := by grind
  have e2 : w * (g * q.2) = g * (w * (1 * q.2)) := by grind
  rw [e1, e2]
  constructor
  · intro h; exact Int.mul_le_mul_of_nonneg_left h (Int.le_of_lt h1)
  · intro h; exact Int.le_of_mul_le_mul_left h h1
theorem room_rt {v : Int × Int} (hv : Sp v) {d : Nat} (hd : d ≤ 99) : Rt (low (v.1 * d) v.2) ∧ (low (v.1 * d) v.2).2 < 2 ^ 40 ∧ (low (v.1 * d) v.2).1 < 2 ^ 48 ∧ 0 ≤ (low (v.1 * d) v.2).1 := by
  obtain ⟨h1, h2, h3, h4⟩ := hv
  have a := low_b (a := v.1 * d) h3
  have b := low_pos (a := v.1 * d) h3
  have c : 0 ≤ v.1 * d := Int.mul_nonneg h1 (by omega)
  have e : v.1 * d ≤ v.1 * 99 := Int.mul_le_mul_of_nonneg_left (by omega) h1
  have e0 : 0 ≤ (low (v.1 * d) v.2).1 := Int.ediv_nonneg c (by omega)
  unfold Rt
  omega
theorem room2_rt {q : Int × Int} (hq : Rt q) (h2 : q.2 < 2 ^ 40) (h3 : q.1 < 2 ^ 48) (h4 : 0 ≤ q.1) {r : Int} (hr : 0 ≤ r) (hr2 : r < 2 ^ 16) : Rt (low (r * q.2 + q.1 * 1) (1 * q.2)) := by
  obtain ⟨g1, g2, g3, g4⟩ := hq
  have a := low_b (a := r * q.2 + q.1 * 1) (b := 1 * q.2) (by omega)
  have b := low_pos (a := r * q.2 + q.1 * 1) (b := 1 * q.2) (by omega)
  have c : 0 ≤ r * q.2 := Int.mul_nonneg hr (by omega)
  have e : r * q.2 ≤ 2 ^ 16 * q.2 := Int.mul_le_mul_of_nonneg_right (by omega) (by omega)
  unfold Rt
  omega
theorem fit_in_ok {t : List (Nat × Nat)} (g : GoodT t) {v : Int × Int} (hv : Sp v) {cs : List Ca} (hc : ∀ c ∈ cs, GoodC t c) {i j : Nat} (hi : i < cs.length) (hj : j < cs.length) (M : Mem) :
    kPure m_fit_in [eTree t, eDay v cs, .int i, .int j] M = .ok (.bl (Fv t cs v i j)) M := by
  refine pure_ok (es := [eTree t, eDay v cs, .int i, .int j]) (by simp) ?_ (by simp)
  obtain ⟨a1, a2, a3⟩ := hc _ (cAt_mem hi)
  obtain ⟨b1, b2, b3⟩ := hc _ (cAt_mem hj)
  have hi' := cAt_get hi
  have hj' := cAt_get hj
  unfold Fv
  generalize cAt cs i = c at *
  generalize cAt cs j = c' at *
  have hd : (((c'.h : Int) - c.h).natAbs) ≤ 99 := by omega
  have hw := way_b g a2 b2
  obtain ⟨r1, r2, r3, r4⟩ := room_rt hv hd
  have r5 := room2_rt r1 r2 r3 r4 (r := (c.r : Int) + c'.r) (by omega) (by omega)
  have e1 : kPure m_product [eR v, eR ((((c'.h : Int) - c.h).natAbs : Int), 1)] [] = .ok (eR (low (v.1 * (((c'.h : Int) - c.h).natAbs : Int)) v.2)) [] := by
    have := product_ok (p := v) (q := ((((c'.h : Int) - c.h).natAbs : Int), 1)) ⟨hv.2.2.1, by have := hv.2.2.2; omega, by have := hv.1; omega, by have := hv.2.1; omega⟩ ⟨by simp, by simp, by simp; omega, by simp; omega⟩ []
    simpa using this
  have e2 := plus_ok (p := ((c.r : Int) + c'.r, 1)) (q := low (v.1 * (((c'.h : Int) - c.h).natAbs : Int)) v.2) ⟨by simp, by simp, by simp; omega, by simp; omega⟩ r1 []
  have e3 := is_less_ok (p := low (((c.r : Int) + c'.r) * (low (v.1 * (((c'.h : Int) - c.h).natAbs : Int)) v.2).2 + (low (v.1 * (((c'.h : Int) - c.h).natAbs : Int)) v.2).1 * 1) (1 * (low (v.1 * (((c'.h : Int) - c.h).natAbs : Int)) v.2).2)) (q := (way t c.p c'.p, 1)) r5 ⟨by simp, by simp, by simp; omega, by simp; omega⟩ []
  have e4 := fit_low (t := t) hv.2.2.1 c c' _ rfl _ rfl
  simp only at e1 e2 e3
  rw [← e4]
  generalize low (v.1 * (((c'.h : Int) - c.h).natAbs : Int)) v.2 = q at *
  generalize low (((c.r : Int) + c'.r) * q.2 + q.1 * 1) (1 * q.2) = R at *
  simp only [Int.mul_one] at e3 ⊢
  simp [m_fit_in, b_fit_in, atI_ofNat, hi', hj', whole_ok, kAbs_na, -kAbs_int, e1, e2, e3, way_in_ok g a2 b2]
end K91P

-- K91G
set_option linter.all false
namespace K91P
/-! lots of calls: plain laws -/
abbrev Lots := List (List Nat)
def putAt (l : Lots) (k i : Nat) : Lots := l.take i ++ [l.getD i [] ++ [k]] ++ l.drop (i + 1)
def okAt (F : Nat → Nat → Bool) (k : Nat) (l : Lots) (i : Nat) : Bool := (l.getD i []).all fun a => F a k
def ext (F : Nat → Nat → Bool) (k : Nat) (l : Lots) : List Lots := (l ++ [[k]]) :: ((List.range l.length).filter (okAt F k l)).map (putAt l k)
def pts (F : Nat → Nat → Bool) : Nat → List Lots
  | 0 => [[]]
  | k + 1 => (pts F k).flatMap (ext F k)
theorem putAt_len {l : Lots} {k i : Nat} (h : i < l.length) : (putAt l k i).length = l.length := by
  simp [putAt]; omega
theorem mem_ext {F : Nat → Nat → Bool} {k : Nat} {l x : Lots} : x ∈ ext F k l ↔ x = l ++ [[k]] ∨ ∃ i, i < l.length ∧ okAt F k l i = true ∧ x = putAt l k i := by
  simp only [ext, List.mem_cons, List.mem_map, List.mem_filter, List.mem_range]
  constructor
  · rintro (h | ⟨i, ⟨h1, h2⟩, rfl⟩)
    · exact .inl h
    · exact .inr ⟨i, h1, h2, rfl⟩
  · rintro (h | ⟨i, h1, h2, rfl⟩)
    · exact .inl h
    · exact .inr ⟨i, ⟨h1, h2⟩, rfl⟩
theorem mem_parts {F : Nat → Nat → Bool} {k : Nat} {x : Lots} : x ∈ pts F (k + 1) ↔ ∃ l ∈ pts F k, x ∈ ext F k l := by
  simp [pts, List.mem_flatMap]
theorem ext_len {F : Nat → Nat → Bool} {k : Nat} {l x : Lots} (h : x ∈ ext F k l) : l.length ≤ x.length ∧ x.length ≤ l.length + 1 := by
  rcases mem_ext.mp h with rfl | ⟨i, h1, h2, rfl⟩
  · simp
  · rw [putAt_len h1]; omega
theorem parts_mono {F F' : Nat → Nat → Bool} (n : Nat) (hF : ∀ a b, a < b → b < n → F a b = true → F' a b = true) (hb : ∀ k, k ≤ n → ∀ x ∈ pts F k, ∀ lot ∈ x, ∀ a ∈ lot, a < k) : ∀ k, k ≤ n → ∀ x ∈ pts F k, x ∈ pts F' k := by
  intro k
  induction k with
  | zero => intro _ x hx; exact hx
  | succ k ih =>
    intro hk x hx
    obtain ⟨l, hl, hx⟩ := mem_parts.mp hx
    refine mem_parts.mpr ⟨l, ih (by omega) l hl, ?_⟩
    rcases mem_ext.mp hx with rfl | ⟨i, h1, h2, rfl⟩
    · exact mem_ext.mpr (.inl rfl)
    · refine mem_ext.mpr (.inr ⟨i, h1, ?_, rfl⟩)
      simp only [okAt, List.all_eq_true] at h2 ⊢
      intro a ha
      refine hF a k ?_ (by omega) (h2 a ha)
      refine hb k (by omega) l hl (l.getD i []) ?_ a ha
      rw [List.getD_eq_getElem?_getD, List.getElem?_eq_getElem h1]; simp
theorem mem_putAt {l : Lots} {k i : Nat} {lot : List Nat} (hi : i < l.length) : lot ∈ putAt l k i → (lot ∈ l) ∨ lot = l.getD i [] ++ [k] := by
  intro h
  simp only [putAt, List.mem_append, List.mem_singleton] at h
  rcases h with (h | h) | h
  · exact .inl (List.mem_of_mem_take h)
  · exact .inr h
  · exact .inl (List.mem_of_mem_drop h)
theorem getD_mem {l : Lots} {i : Nat} (h : i < l.length) : l.getD i [] ∈ l := by
  rw [List.getD_eq_getElem?_getD, List.getElem?_eq_getElem h]; simp
/-- what the lots of a part are -/
structure Good (F : Nat → Nat → Bool) (k : Nat) (l : Lots) : Prop where
  len : l.length ≤ k
  ne : ∀ lot ∈ l, lot ≠ []
  lt : ∀ lot ∈ l, ∀ a ∈ lot, a < k
  ri : ∀ lot ∈ l, lot.Pairwise (· < ·)
  fi : ∀ lot ∈ l, lot.Pairwise fun a b => F a b = true
  al : ∀ a < k, ∃ lot ∈ l, a ∈ lot
  pe : l.flatten.Perm (List.range k)
  ll : ∀ lot ∈ l, lot.length ≤ k
theorem flatten_putAt {l : Lots} {k i : Nat} (h : i < l.length) : (putAt l k i).flatten.Perm (l.flatten ++ [k]) := by
  have e : l = l.take i ++ [l.getD i []] ++ l.drop (i + 1) := by
    rw [List.getD_eq_getElem?_getD, List.getElem?_eq_getElem h]
    simp
  have : (putAt l k i).flatten = (l.take i).flatten ++ (l.getD i [] ++ ([k] ++ (l.drop (i + 1)).flatten)) := by simp [putAt]
  rw [this]
  have e2 : l.flatten ++ [k] = (l.take i).flatten ++ (l.getD i [] ++ ((l.drop (i + 1)).flatten ++ [k])) := by
    conv => lhs; rw [e]
    simp
  rw [e2]
  exact List.Perm.append_left _ (List.Perm.append_left _ List.perm_append_comm)
theorem good_parts {F : Nat → Nat → Bool} : ∀ k, ∀ x ∈ pts F k, Good F k x := by
  intro k
  induction k with
  | zero =>
    intro x hx
    simp [pts] at hx
    subst hx
    constructor <;> simp
  | succ k ih =>
    intro x hx
    obtain ⟨l, hl, hx⟩ := mem_parts.mp hx
    have g := ih l hl
    rcases mem_ext.mp hx with rfl | ⟨i, h1, h2, rfl⟩
    · constructor
      · have := g.len; simp; omega
      · intro lot h; simp at h; rcases h with h | rfl
        · exact g.ne lot h
        · simp
      · intro lot h; simp at h; rcases h with h | rfl
        · intro a ha; have := g.lt lot h a ha; omega
        · simp
      · intro lot h; simp at h; rcases h with h | rfl
        · exact g.ri lot h
        · simp
      · intro lot h; simp at h; rcases h with h | rfl
        · exact g.fi lot h
        · simp
      · intro a ha
        by_cases e : a = k
        · exact ⟨[k], by simp, by simp [e]⟩
        · obtain ⟨lot, h, h'⟩ := g.al a (by omega)
          exact ⟨lot, by simp [h], h'⟩
      · rw [List.range_succ]; simpa using List.Perm.append_right [k] g.pe
      · intro lot h; simp at h; rcases h with h | rfl
        · have := g.ll lot h; omega
        · simp
    · have gm := getD_mem h1
      constructor
      · rw [putAt_len h1]; have := g.len; omega
      · intro lot h; rcases mem_putAt h1 h with h | rfl
        · exact g.ne lot h
        · simp
      · intro lot h; rcases mem_putAt h1 h with h | rfl
        · intro a ha; have := g.lt lot h a ha; omega
        · intro a ha
          rcases List.mem_append.mp ha with ha | ha
          · have := g.lt _ gm a ha; omega
          · simp at ha; omega
      · intro lot h; rcases mem_putAt h1 h with h | rfl
        · exact g.ri lot h
        · refine List.pairwise_append.mpr ⟨g.ri _ gm, by simp, ?_⟩
          intro a ha b hb
          simp at hb; subst hb
          exact g.lt _ gm a ha
      · intro lot h; rcases mem_putAt h1 h with h | rfl
        · exact g.fi lot h
        · refine List.pairwise_append.mpr ⟨g.fi _ gm, by simp, ?_⟩
          intro a ha b hb
          simp at hb; subst hb
          simp only [okAt, List.all_eq_true] at h2
          exact h2 a ha
      · intro a ha
        by_cases e : a = k
        · exact ⟨l.getD i [] ++ [k], by simp [putAt], by simp [e]⟩
        · obtain ⟨lot, h, h'⟩ := g.al a (by omega)
          obtain ⟨j, hj, rfl⟩ := List.mem_iff_getElem.mp h
          by_cases e2 : j = i
          · subst e2
            refine ⟨l.getD j [] ++ [k], by simp [putAt], ?_⟩
            rw [List.getD_eq_getElem?_getD, List.getElem?_eq_getElem hj]
            simp [h']
          · refine ⟨l[j], ?_, h'⟩
            simp only [putAt, List.mem_append]
            by_cases e3 : j < i
            · exact .inl (.inl (List.mem_iff_getElem.mpr ⟨j, by simp; omega, by simp⟩))
            · exact .inr (List.mem_iff_getElem.mpr ⟨j - (i + 1), by simp; omega, by simp; congr 1; omega⟩)
      · exact (flatten_putAt h1).trans (by rw [List.range_succ]; exact List.Perm.append_right [k] g.pe)
      · intro lot h; rcases mem_putAt h1 h with h | rfl
        · have := g.ll lot h; omega
        · have := g.ll _ gm; simp at this ⊢; omega
/-! the fewest -/
def few (F : Nat → Nat → Bool) (n : Nat) : Nat := (((pts F n).map List.length).min?).getD 0
theorem parts_ne (F : Nat → Nat → Bool) : ∀ n, ∃ l, l ∈ pts F n
  | 0 => ⟨[], by simp [pts]⟩
  | n + 1 => by
    obtain ⟨l, h⟩ := parts_ne F n
    exact ⟨l ++ [[n]], mem_parts.mpr ⟨l, h, mem_ext.mpr (.inl rfl)⟩⟩
theorem few_min (F : Nat → Nat → Bool) (n : Nat) : ((pts F n).map List.length).min? = some (few F n) := by
  unfold few
  cases h : ((pts F n).map List.length).min? with
  | none =>
    rw [List.min?_eq_none_iff] at h
    obtain ⟨l, hl⟩ := parts_ne F n
    simp at h; rw [h] at hl; simp at hl
  | some m => rfl
theorem few_le_iff {F : Nat → Nat → Bool} {n m : Nat} : few F n ≤ m ↔ ∃ l ∈ pts F n, l.length ≤ m := by
  have h := List.min?_eq_some_iff.mp (few_min F n)
  constructor
  · intro hm
    obtain ⟨l, hl, e⟩ := List.mem_map.mp h.1
    exact ⟨l, hl, by omega⟩
  · rintro ⟨l, hl, e⟩
    have := h.2 l.length (List.mem_map.mpr ⟨l, hl, rfl⟩)
    omega
theorem few_mono {F F' : Nat → Nat → Bool} {n : Nat} (hF : ∀ a b, a < b → b < n → F a b = true → F' a b = true) : few F' n ≤ few F n := by
  obtain ⟨l, hl, e⟩ := few_le_iff.mp (Nat.le_refl (few F n))
  exact few_le_iff.mpr ⟨l, parts_mono n hF (fun k _ x hx => (good_parts k x hx).lt) n (Nat.le_refl _) l hl, e⟩
theorem few_congr {F F' : Nat → Nat → Bool} {n : Nat} (hF : ∀ a b, a < b → b < n → F a b = F' a b) : few F' n = few F n := by
  apply Nat.le_antisymm
  · exact few_mono fun a b h h2 h3 => by rw [← hF a b h h2]; exact h3
  · exact few_mono fun a b h h2 h3 => by rw [hF a b h h2]; exact h3
theorem few_le_n (F : Nat → Nat → Bool) (n : Nat) : few F n ≤ n := by
  obtain ⟨l, h⟩ := parts_ne F n
  exact few_le_iff.mpr ⟨l, h, (good_parts n l h).len⟩
/-! contrary calls -/
theorem len_filter {α : Type} (p : α → Bool) : ∀ c : List α, c.length = (c.filter p).length + (c.filter fun a => !p a).length
  | [] => rfl
  | a :: c => by
    have := len_filter p c
    by_cases h : p a <;> simp [h, this] <;> omega
theorem pigeon : ∀ (l : Lots) (c : List Nat), (∀ a ∈ c, ∃ lot ∈ l, a ∈ lot) → c.Pairwise (fun a b => ∀ lot ∈ l, ¬ (a ∈ lot ∧ b ∈ lot)) → c.length ≤ l.length
  | [], c, h, _ => by
    cases c with
    | nil => simp
    | cons a c => obtain ⟨lot, h, _⟩ := h a (by simp); simp at h
  | lot :: l, c, h, hp => by
    rw [len_filter (fun a => lot.contains a) c]
    have h1 : (c.filter fun a => lot.contains a).length ≤ 1 := by
      have q : (c.filter fun a => lot.contains a).Pairwise (fun a b => ∀ x ∈ lot :: l, ¬ (a ∈ x ∧ b ∈ x)) := hp.sublist List.filter_sublist
      have qa : ∀ a ∈ c.filter (fun a => lot.contains a), a ∈ lot := by
        intro a ha
        simpa using (List.mem_filter.mp ha).2
      generalize c.filter (fun a => lot.contains a) = c' at q qa
      match c', q, qa with
      | [], _, _ => simp
      | [a], _, _ => simp
      | a :: b :: r, q, qa =>
        rw [List.pairwise_cons] at q
        exact absurd ⟨qa a (by simp), qa b (by simp)⟩ (q.1 b (by simp) lot (by simp))
    have h2 := pigeon l (c.filter fun a => !lot.contains a) (by
      intro a ha
      obtain ⟨ha, hn⟩ := List.mem_filter.mp ha
      obtain ⟨x, hx, hax⟩ := h a ha
      rcases List.mem_cons.mp hx with rfl | hx
      · simp at hn; exact absurd hax hn
      · exact ⟨x, hx, hax⟩) ((hp.sublist List.filter_sublist).imp fun hab x hx => hab x (by simp [hx]))
    simp only [List.length_cons]
    omega
def cl (F : Nat → Nat → Bool) : Nat → List (List Nat)
  | 0 => [[]]
  | k + 1 => cl F k ++ ((cl F k).filter fun c => c.all fun a => !F a k).map (· ++ [k])
theorem cl_ok {F : Nat → Nat → Bool} : ∀ k, ∀ c ∈ cl F k, c.length ≤ k ∧ (∀ a ∈ c, a < k) ∧ c.Pairwise fun a b => a < b ∧ F a b = false := by
  intro k
  induction k with
  | zero => intro c hc; simp [cl] at hc; subst hc; simp
  | succ k ih =>
    intro c hc
    rcases List.mem_append.mp hc with hc | hc
    · obtain ⟨h1, h2, h3⟩ := ih c hc
      exact ⟨by omega, fun a ha => by have := h2 a ha; omega, h3⟩
    · obtain ⟨c', hc', rfl⟩ := List.mem_map.mp hc
      obtain ⟨hc', hf⟩ := List.mem_filter.mp hc'
      obtain ⟨h1, h2, h3⟩ := ih c' hc'
      simp only [List.all_eq_true] at hf
      refine ⟨by simp; omega, ?_, ?_⟩
      · intro a ha
        rcases List.mem_append.mp ha with ha | ha
        · have := h2 a ha; omega
        · simp at ha; omega
      · refine List.pairwise_append.mpr ⟨h3, by simp, ?_⟩
        intro a ha b hb
        simp at hb; subst hb
        exact ⟨h2 a ha, by simpa using hf a ha⟩
theorem pair_lot {F : Nat → Nat → Bool} {lot : List Nat} {a b : Nat} (hr : lot.Pairwise (· < ·)) (hf : lot.Pairwise fun a b => F a b = true) (ha : a ∈ lot) (hb : b ∈ lot) (h : a < b) : F a b = true := by
  have := hr.and hf
  obtain ⟨i, hi, rfl⟩ := List.mem_iff_getElem.mp ha
  obtain ⟨j, hj, rfl⟩ := List.mem_iff_getElem.mp hb
  rw [List.pairwise_iff_getElem] at this
  by_cases e : i < j
  · exact (this i j hi hj e).2
  · by_cases e2 : i = j
    · subst e2; omega
    · have := (this j i hj hi (by omega)).1; omega
theorem cl_le {F : Nat → Nat → Bool} {n : Nat} {c : List Nat} (h : c ∈ cl F n) : c.length ≤ few F n := by
  obtain ⟨l, hl, e⟩ := few_le_iff.mp (Nat.le_refl (few F n))
  refine Nat.le_trans ?_ e
  have g := good_parts n l hl
  obtain ⟨_, h2, h3⟩ := cl_ok n c h
  refine pigeon l c (fun a ha => g.al a (h2 a ha)) (h3.imp ?_)
  rintro a b ⟨hab, hf⟩ lot hlot ⟨ha, hb⟩
  rw [pair_lot (g.ri lot hlot) (g.fi lot hlot) ha hb hab] at hf
  simp at hf
/-! the walk of the shares -/
def kids (F : Nat → Nat → Bool) (m k : Nat) (l : Lots) : List Lots := (if l.length < m then [l ++ [[k]]] else []) ++ (((List.range l.length).reverse.filter (okAt F k l)).map (putAt l k))
theorem mem_kids {F : Nat → Nat → Bool} {m k : Nat} {l x : Lots} : x ∈ kids F m k l ↔ x ∈ ext F k l ∧ (l.length < m ∨ ∃ i, i < l.length ∧ okAt F k l i = true ∧ x = putAt l k i) := by
  rw [mem_ext]
  simp only [kids, List.mem_append, List.mem_map, List.mem_filter, List.mem_reverse, List.mem_range]
  constructor
  · rintro (h | ⟨i, ⟨h1, h2⟩, rfl⟩)
    · by_cases e : l.length < m
      · simp [e] at h; exact ⟨.inl h, .inl e⟩
      · simp [e] at h
    · exact ⟨.inr ⟨i, h1, h2, rfl⟩, .inr ⟨i, h1, h2, rfl⟩⟩
  · rintro ⟨h | ⟨i, h1, h2, rfl⟩, h' | ⟨j, h1', h2', rfl'⟩⟩
    · exact .inl (by simp [h, h'])
    · exact .inr ⟨j, ⟨h1', h2'⟩, rfl'.symm⟩
    · exact .inr ⟨i, ⟨h1, h2⟩, rfl⟩
    · exact .inr ⟨i, ⟨h1, h2⟩, rfl⟩
def desc (F : Nat → Nat → Bool) (m : Nat) : Nat → Nat → Lots → List Lots
  | 0, _, l => [l]
  | d + 1, k, l => (kids F m k l).flatMap (desc F m d (k + 1))
theorem desc_parts {F : Nat → Nat → Bool} {m : Nat} : ∀ d k l, l ∈ pts F k → l.length ≤ m → ∀ x ∈ desc F m d k l, x ∈ pts F (k + d) ∧ x.length ≤ m
  | 0, k, l, hl, hm, x, hx => by simp [desc] at hx; subst hx; exact ⟨hl, hm⟩
  | d + 1, k, l, hl, hm, x, hx => by
    simp only [desc, List.mem_flatMap] at hx
    obtain ⟨y, hy, hx⟩ := hx
    obtain ⟨hy, h⟩ := mem_kids.mp hy
    have := desc_parts d (k + 1) y (mem_parts.mpr ⟨l, hl, hy⟩) (by
      rcases h with h | ⟨i, h1, h2, rfl⟩
      · have := (ext_len hy).2; omega
      · rw [putAt_len h1]; exact hm) x hx
    rw [show k + (d + 1) = k + 1 + d by omega]
    exact this
theorem parts_desc {F : Nat → Nat → Bool} {m : Nat} : ∀ k, ∀ x ∈ pts F k, x.length ≤ m → ∀ d, ∀ y ∈ desc F m d k x, y ∈ desc F m (k + d) 0 []
  | 0, x, hx, _, d, y, hy => by simp [pts] at hx; subst hx; simpa using hy
  | k + 1, x, hx, hm, d, y, hy => by
    obtain ⟨l, hl, hx⟩ := mem_parts.mp hx
    have hle := (ext_len hx).1
    have := parts_desc (m := m) k l hl (by omega) (d + 1) y (by
      simp only [desc, List.mem_flatMap]
      refine ⟨x, mem_kids.mpr ⟨hx, ?_⟩, hy⟩
      rcases mem_ext.mp hx with rfl | h
      · simp at hm; exact .inl (by omega)
      · exact .inr h)
    rw [show k + 1 + d = k + (d + 1) by omega]
    exact this
theorem desc_iff {F : Nat → Nat → Bool} {m n : Nat} {x : Lots} : x ∈ desc F m n 0 [] ↔ x ∈ pts F n ∧ x.length ≤ m := by
  constructor
  · intro h
    simpa using desc_parts n 0 [] (by simp [pts]) (by simp) x h
  · rintro ⟨h, h2⟩
    simpa using parts_desc n x h h2 0 x (by simp [desc])
/-- so many nodes lie below -/
def Bd : Nat → Nat → Nat
  | 0, _ => 1
  | d + 1, r => 1 + Bd d (r + 1) + r * Bd d r
def tot (n : Nat) (W : List (Lots × Nat)) : Nat := (W.map fun p => Bd (n - p.2) p.1.length).sum
def lvs (F : Nat → Nat → Bool) (m n : Nat) (W : List (Lots × Nat)) : List Lots := W.flatMap fun p => desc F m (n - p.2) p.2 p.1
theorem sum_const {α : Type} (f : α → Nat) (c : Nat) : ∀ xs : List α, (∀ x ∈ xs, f x = c) → (xs.map f).sum = xs.length * c
  | [], _ => by simp
  | x :: xs, h => by
    have := sum_const f c xs fun y hy => h y (by simp [hy])
    rw [List.map_cons, List.sum_cons, this, h x (by simp), List.length_cons, Nat.add_mul]; omega
theorem tot_app (n : Nat) (V W : List (Lots × Nat)) : tot n (V ++ W) = tot n V + tot n W := by simp [tot]
theorem tot_kids {F : Nat → Nat → Bool} {m n k : Nat} {l : Lots} (h : k < n) : tot n ((kids F m k l).map fun x => (x, k + 1)) < Bd (n - k) l.length := by
  obtain ⟨d, hd⟩ : ∃ d, n - k = d + 1 := ⟨n - k - 1, by omega⟩
  rw [hd, Bd]
  have hd' : n - (k + 1) = d := by omega
  simp only [kids, List.map_append, tot_app]
  have h1 : tot n ((if l.length < m then [l ++ [[k]]] else []).map fun x => (x, k + 1)) ≤ Bd d (l.length + 1) := by
    split <;> simp [tot, hd']
  have h2 : tot n ((((List.range l.length).reverse.filter (okAt F k l)).map (putAt l k)).map fun x => (x, k + 1)) ≤ l.length * Bd d l.length := by
    rw [tot, List.map_map, List.map_map, sum_const _ (Bd d l.length)]
    · refine Nat.mul_le_mul_right _ ?_
      refine Nat.le_trans (List.length_filter_le _ _) ?_
      simp
    · intro i hi
      have := (List.mem_filter.mp hi).1
      simp at this
      simp [hd', putAt_len this]
  omega
theorem Bd_pos : ∀ d r, 0 < Bd d r
  | 0, _ => by simp [Bd]
  | d + 1, r => by simp [Bd]; omega
theorem tot_len (n : Nat) : ∀ W : List (Lots × Nat), W.length ≤ tot n W
  | [] => by simp [tot]
  | p :: W => by
    have := tot_len n W
    have h := Bd_pos (n - p.2) p.1.length
    simp only [tot, List.map_cons, List.sum_cons, List.length_cons] at *
    omega
end K91P

-- K91U
set_option Elab.async false
set_option linter.all false
set_option maxRecDepth 100000
set_option maxHeartbeats 1000000
namespace K91P
open PySem DL L2 K91
/-! fractions in low terms, rising thresholds: plain laws -/
theorem low_mul {k a b : Int} (hk : 0 < k) (hb : 0 < b) : low (k * a) (k * b) = low a b := by
  unfold low
  have e : (Nat.gcd (k * a).natAbs (k * b).natAbs : Int) = k * (Nat.gcd a.natAbs b.natAbs : Nat) := by
    rw [Int.natAbs_mul, Int.natAbs_mul, Nat.gcd_mul_left, Int.natCast_mul]
    congr 1; omega
  rw [e, Int.mul_ediv_mul_of_pos _ _ hk, Int.mul_ediv_mul_of_pos _ _ hk]
theorem low_canon {a b c d : Int} (hb : 0 < b) (hd : 0 < d) (e : a * d = c * b) : low a b = low c d := by
  rw [← low_mul (a := a) hd hb, ← low_mul (a := c) hb hd, Int.mul_comm d a, e, Int.mul_comm d b, Int.mul_comm c b]
theorem low_idem {a b : Int} (hb : 0 < b) : low (low a b).1 (low a b).2 = low a b := by
  obtain ⟨g, h1, h2, h3⟩ := low_spec (a := a) hb
  rw [← low_mul h1 (low_pos hb), ← h2, ← h3]
/-- low terms -/
def Can (q : Int × Int) : Prop := 0 < q.2 ∧ low q.1 q.2 = q
theorem can_low {a b : Int} (hb : 0 < b) : Can (low a b) := ⟨low_pos hb, low_idem hb⟩
theorem can_eq {p q : Int × Int} (hp : Can p) (hq : Can q) (e : p.1 * q.2 = q.1 * p.2) : p = q := by
  rw [← hp.2, ← hq.2]; exact low_canon hp.1 hq.1 e
theorem le_tr {p q r : Int × Int} (hp : 0 < p.2) (hq : 0 < q.2) (hr : 0 < r.2) (h : p.1 * q.2 ≤ q.1 * p.2) (h2 : q.1 * r.2 ≤ r.1 * q.2) : p.1 * r.2 ≤ r.1 * p.2 := by
  have a := Int.mul_le_mul_of_nonneg_right h (Int.le_of_lt hr)
  have b := Int.mul_le_mul_of_nonneg_right h2 (Int.le_of_lt hp)
  refine Int.le_of_mul_le_mul_left (a := q.2) ?_ hq
  grind
theorem lt_le_tr {p q r : Int × Int} (hp : 0 < p.2) (hq : 0 < q.2) (hr : 0 < r.2) (h : p.1 * q.2 < q.1 * p.2) (h2 : q.1 * r.2 ≤ r.1 * q.2) : p.1 * r.2 < r.1 * p.2 := by
  have a := Int.mul_lt_mul_of_pos_right h hr
  have b := Int.mul_le_mul_of_nonneg_right h2 (Int.le_of_lt hp)
  refine Int.lt_of_mul_lt_mul_left (a := q.2) ?_ (Int.le_of_lt hq)
  grind
def mn (m : Int × Int) (xs : List (Int × Int)) : Int × Int := xs.foldl (fun m x => if x.1 * m.2 < m.1 * x.2 then x else m) m
theorem mn_spec : ∀ (xs : List (Int × Int)) (m : Int × Int), (∀ x ∈ m :: xs, 0 < x.2) → mn m xs ∈ m :: xs ∧ ∀ x ∈ m :: xs, (mn m xs).1 * x.2 ≤ x.1 * (mn m xs).2
  | [], m, h => by simp [mn]
  | x :: xs, m, h => by
    have hm := h m (by simp)
    have hx := h x (by simp)
    have e : mn m (x :: xs) = mn (if x.1 * m.2 < m.1 * x.2 then x else m) xs := rfl
    rw [e]
    split
    · rename_i c
      obtain ⟨h1, h2⟩ := mn_spec xs x (by intro y hy; exact h y (by simp at hy ⊢; rcases hy with hy | hy <;> simp [hy]))
      refine ⟨List.mem_cons_of_mem _ h1, ?_⟩
      have hp := h _ (List.mem_cons_of_mem _ h1)
      intro y hy
      rcases List.mem_cons.mp hy with rfl | hy
      · exact le_tr hp hx hm (h2 x (by simp)) (Int.le_of_lt c)
      · exact h2 y hy
    · rename_i c
      obtain ⟨h1, h2⟩ := mn_spec xs m (by intro y hy; exact h y (by simp at hy ⊢; rcases hy with hy | hy <;> simp [hy]))
      have h1' : mn m xs ∈ m :: x :: xs := by simp at h1 ⊢; rcases h1 with h | h <;> simp [h]
      refine ⟨h1', ?_⟩
      have hp := h _ h1'
      intro y hy
      simp only [List.mem_cons] at hy
      rcases hy with rfl | rfl | hy
      · exact h2 _ (by simp)
      · exact le_tr hp hm hx (h2 m (by simp)) (by omega)
      · exact h2 y (by simp [hy])
def rise : Nat → List (Int × Int) → List (Int × Int)
  | 0, _ => []
  | _ + 1, [] => []
  | n + 1, x :: xs => mn x (x :: xs) :: rise n ((x :: xs).filter fun y => !decide (y = mn x (x :: xs)))
theorem mn_mem {x : Int × Int} {xs : List (Int × Int)} (h : ∀ y ∈ x :: xs, 0 < y.2) : mn x (x :: xs) ∈ x :: xs ∧ ∀ y ∈ x :: xs, (mn x (x :: xs)).1 * y.2 ≤ y.1 * (mn x (x :: xs)).2 := by
  obtain ⟨h1, h2⟩ := mn_spec (x :: xs) x (by intro y hy; simp at hy; exact h y (by simp; exact hy))
  refine ⟨?_, fun y hy => h2 y (List.mem_cons_of_mem _ hy)⟩
  simp only [List.mem_cons] at h1 ⊢
  rcases h1 with h | h | h <;> simp [h]
theorem len_filter_lt {α : Type} {p : α → Bool} {x : α} : ∀ {xs : List α}, x ∈ xs → p x = false → (xs.filter p).length < xs.length
  | y :: ys, h, hp => by
    rcases List.mem_cons.mp h with rfl | h
    · simp [hp]; have := List.length_filter_le p ys; omega
    · have := len_filter_lt h hp
      by_cases e : p y = true
      · rw [List.filter_cons_of_pos e, List.length_cons, List.length_cons]; omega
      · rw [List.filter_cons_of_neg e, List.length_cons]; omega
theorem rise_spec : ∀ (n : Nat) (xs : List (Int × Int)), xs.length ≤ n → (∀ x ∈ xs, Can x) → (∀ q, q ∈ rise n xs ↔ q ∈ xs) ∧ (rise n xs).Pairwise fun p q => p.1 * q.2 < q.1 * p.2
  | 0, xs, h, _ => by
    have : xs = [] := List.eq_nil_of_length_eq_zero (by omega)
    subst this; simp [rise]
  | n + 1, [], _, _ => by simp [rise]
  | n + 1, x :: xs, h, hc => by
    obtain ⟨h1, h2⟩ := mn_mem (x := x) (xs := xs) fun y hy => (hc y hy).1
    have hl : ((x :: xs).filter fun y => !decide (y = mn x (x :: xs))).length ≤ n := by
      have := len_filter_lt (p := fun y => !decide (y = mn x (x :: xs))) h1 (by simp)
      omega
    obtain ⟨h3, h4⟩ := rise_spec n _ hl (fun y hy => hc y (List.mem_filter.mp hy).1)
    constructor
    · intro q
      rw [rise, List.mem_cons, h3, List.mem_filter]
      constructor
      · rintro (rfl | ⟨h, _⟩)
        · exact h1
        · exact h
      · intro hq
        by_cases e : q = mn x (x :: xs)
        · exact .inl e
        · exact .inr ⟨hq, by simp [e]⟩
    · rw [rise, List.pairwise_cons]
      refine ⟨?_, h4⟩
      intro q hq
      obtain ⟨hq, hn⟩ := List.mem_filter.mp ((h3 q).mp hq)
      have hn : q ≠ mn x (x :: xs) := by simpa using hn
      have hle := h2 q hq
      rcases Int.lt_or_eq_of_le hle with h | h
      · exact h
      · exact absurd (can_eq (hc _ h1) (hc q hq) h).symm hn
/-! the search -/
def bs (P : Nat → Bool) : Nat → Nat → Nat → Nat
  | 0, lo, _ => lo
  | n + 1, lo, hi => if lo < hi then (if P ((lo + hi) / 2) then bs P n lo ((lo + hi) / 2) else bs P n ((lo + hi) / 2 + 1) hi) else lo
theorem bs_spec {P : Nat → Bool} {top : Nat} (hm : ∀ i j, i ≤ j → j ≤ top → P i = true → P j = true) : ∀ (n lo hi : Nat), hi ≤ lo + n → lo ≤ hi → hi ≤ top → P hi = true → (∀ j < lo, P j = false) →
    P (bs P n lo hi) = true ∧ (∀ j < bs P n lo hi, P j = false) ∧ bs P n lo hi ≤ top
  | 0, lo, hi, h, h2, h3, h4, h5 => by
    have : lo = hi := by omega
    subst this; exact ⟨h4, h5, h3⟩
  | n + 1, lo, hi, h, h2, h3, h4, h5 => by
    rw [bs]
    split
    · split
      · rename_i c d
        exact bs_spec hm n lo _ (by omega) (by omega) (by omega) d h5
      · rename_i c d
        refine bs_spec hm n _ hi (by omega) (by omega) h3 h4 ?_
        intro j hj
        by_cases e : P j = true
        · exact absurd (hm j ((lo + hi) / 2) (by omega) (by omega) e) d
        · simpa using e
    · have : lo = hi := by omega
      subst this; exact ⟨h4, h5, h3⟩
/-! speeds -/
def over (t : List (Nat × Nat)) (c c' : Ca) : Int := way t c.p c'.p - c.r - c'.r
def dh (c c' : Ca) : Nat := ((c'.h : Int) - c.h).natAbs
def Sp0 (v : Int × Int) : Prop := 0 ≤ v.1 ∧ 0 < v.2
theorem fit_iff {t : List (Nat × Nat)} {v : Int × Int} {c c' : Ca} : fit t v c c' = true ↔ over t c c' * v.2 ≤ v.1 * dh c c' := by
  simp only [fit, over, dh, decide_eq_true_eq, Int.sub_mul, Int.add_mul]
  omega
def thr (t : List (Nat × Nat)) (c c' : Ca) : List (Int × Int) := if 0 < over t c c' ∧ c'.h ≠ c.h then [low (over t c c') (dh c c')] else []
def thrs (t : List (Nat × Nat)) (cs : List Ca) (n : Nat) : List (Int × Int) := (List.range n).flatMap fun j => (List.range j).flatMap fun i => thr t (cAt cs i) (cAt cs j)
theorem mem_thrs {t : List (Nat × Nat)} {cs : List Ca} {n : Nat} {q : Int × Int} : q ∈ thrs t cs n ↔ ∃ i j, i < j ∧ j < n ∧ 0 < over t (cAt cs i) (cAt cs j) ∧ (cAt cs j).h ≠ (cAt cs i).h ∧ q = low (over t (cAt cs i) (cAt cs j)) (dh (cAt cs i) (cAt cs j)) := by
  simp only [thrs, List.mem_flatMap, List.mem_range]
  constructor
  · rintro ⟨j, hj, i, hi, h⟩
    unfold thr at h
    split at h
    · rename_i c
      simp at h
      exact ⟨i, j, hi, hj, c.1, c.2, h⟩
    · simp at h
  · rintro ⟨i, j, hi, hj, h1, h2, rfl⟩
    exact ⟨j, hj, i, hi, by simp [thr, h1, h2]⟩
theorem dh_pos {c c' : Ca} (h : c'.h ≠ c.h) : 0 < (dh c c' : Int) := by unfold dh; omega
theorem fit_step {t : List (Nat × Nat)} {cs : List Ca} {n : Nat} {u v : Int × Int} (hu : Sp0 u) (hv : Sp0 v) (hg : ∀ q ∈ thrs t cs n, q.1 * u.2 ≤ u.1 * q.2 → q.1 * v.2 ≤ v.1 * q.2) {i j : Nat} (hij : i < j) (hj : j < n) (h : Fv t cs u i j = true) : Fv t cs v i j = true := by
  unfold Fv at *
  rw [fit_iff] at *
  generalize hc : cAt cs i = c at *
  generalize hc' : cAt cs j = c' at *
  by_cases h0 : 0 < over t c c'
  · by_cases h1 : c'.h = c.h
    · have : dh c c' = 0 := by unfold dh; omega
      rw [this] at h
      have := Int.mul_pos h0 hu.2
      omega
    · have hd := dh_pos h1
      have := hg (low (over t c c') (dh c c')) (mem_thrs.mpr ⟨i, j, hij, hj, by rw [hc, hc']; exact h0, by rw [hc, hc']; exact h1, by rw [hc, hc']⟩)
      obtain ⟨g, g1, g2, g3⟩ := low_spec (a := over t c c') hd
      generalize low (over t c c') (dh c c') = q at *
      have hq := this (by
        refine Int.le_of_mul_le_mul_left (a := g) ?_ g1
        rw [g2, g3] at h
        grind)
      rw [g2, g3]
      have := Int.mul_le_mul_of_nonneg_left hq (Int.le_of_lt g1)
      grind
  · have a : over t c c' * v.2 ≤ 0 := Int.mul_nonpos_of_nonpos_of_nonneg (by omega) (Int.le_of_lt hv.2)
    have b : 0 ≤ v.1 * (dh c c' : Int) := Int.mul_nonneg hv.1 (by omega)
    omega
def Ts (t : List (Nat × Nat)) (cs : List Ca) : List (Int × Int) := (0, 1) :: thrs t cs cs.length
def Ss (t : List (Nat × Nat)) (cs : List Ca) : List (Int × Int) := rise (Ts t cs).length (Ts t cs)
def fewV (t : List (Nat × Nat)) (cs : List Ca) (v : Int × Int) : Nat := few (Fv t cs v) cs.length
theorem low01 : low 0 1 = (0, 1) := by decide
theorem can_Ts {t : List (Nat × Nat)} {cs : List Ca} : ∀ q ∈ Ts t cs, Can q ∧ Sp0 q := by
  intro q hq
  rcases List.mem_cons.mp hq with rfl | hq
  · exact ⟨⟨by decide, low01⟩, by decide, by decide⟩
  · obtain ⟨i, j, _, _, h1, h2, rfl⟩ := mem_thrs.mp hq
    have hd := dh_pos h2
    refine ⟨can_low hd, ?_, low_pos hd⟩
    obtain ⟨g, g1, g2, g3⟩ := low_spec (a := over t (cAt cs i) (cAt cs j)) hd
    rw [g2] at h1
    exact Int.le_of_lt (Int.pos_of_mul_pos_right h1 g1)
theorem Ss_spec {t : List (Nat × Nat)} {cs : List Ca} : (∀ q, q ∈ Ss t cs ↔ q ∈ Ts t cs) ∧ (Ss t cs).Pairwise fun p q => p.1 * q.2 < q.1 * p.2 := rise_spec _ _ (Nat.le_refl _) fun q hq => (can_Ts q hq).1
theorem few_step {t : List (Nat × Nat)} {cs : List Ca} {u v : Int × Int} (hu : Sp0 u) (hv : Sp0 v) (hg : ∀ q ∈ Ts t cs, q.1 * u.2 ≤ u.1 * q.2 → q.1 * v.2 ≤ v.1 * q.2) : fewV t cs v ≤ fewV t cs u :=
  few_mono fun _ _ h h2 h3 => fit_step hu hv (fun q hq => hg q (List.mem_cons_of_mem _ hq)) h h2 h3
theorem few_le {t : List (Nat × Nat)} {cs : List Ca} {u v : Int × Int} (hu : Sp0 u) (hv : Sp0 v) (h : u.1 * v.2 ≤ v.1 * u.2) : fewV t cs v ≤ fewV t cs u :=
  few_step hu hv fun q hq h2 => le_tr (can_Ts q hq).2.2 hu.2 hv.2 h2 h
def sAt (t : List (Nat × Nat)) (cs : List Ca) (i : Nat) : Int × Int := (Ss t cs).getD i (0, 1)
def leastV (t : List (Nat × Nat)) (cs : List Ca) (many : Nat) : Option (Int × Int) :=
  if many < fewV t cs (sAt t cs ((Ss t cs).length - 1)) then none
  else some (sAt t cs (bs (fun i => decide (fewV t cs (sAt t cs i) ≤ many)) 63 0 ((Ss t cs).length - 1)))
theorem Ss_pos {t : List (Nat × Nat)} {cs : List Ca} : 0 < (Ss t cs).length := by
  have : (0, 1) ∈ Ss t cs := (Ss_spec.1 _).mpr (by simp [Ts])
  exact List.length_pos_of_mem this
theorem sAt_get {t : List (Nat × Nat)} {cs : List Ca} {i : Nat} (h : i < (Ss t cs).length) : sAt t cs i = (Ss t cs)[i] := by
  rw [sAt, List.getD_eq_getElem?_getD, List.getElem?_eq_getElem h]; rfl
theorem sAt_mem {t : List (Nat × Nat)} {cs : List Ca} {i : Nat} (h : i < (Ss t cs).length) : sAt t cs i ∈ Ts t cs := by
  rw [sAt_get h]; exact (Ss_spec.1 _).mp (List.getElem_mem h)
theorem sAt_lt {t : List (Nat × Nat)} {cs : List Ca} {i j : Nat} (h : i < j) (h2 : j < (Ss t cs).length) : (sAt t cs i).1 * (sAt t cs j).2 < (sAt t cs j).1 * (sAt t cs i).2 := by
  rw [sAt_get h2, sAt_get (by omega)]
  exact List.pairwise_iff_getElem.mp Ss_spec.2 i j (by omega) h2 h
theorem sAt_le {t : List (Nat × Nat)} {cs : List Ca} {i j : Nat} (h : i ≤ j) (h2 : j < (Ss t cs).length) : (sAt t cs i).1 * (sAt t cs j).2 ≤ (sAt t cs j).1 * (sAt t cs i).2 := by
  by_cases e : i = j
  · subst e; exact Int.le_refl _
  · exact Int.le_of_lt (sAt_lt (by omega) h2)
theorem Ts_at {t : List (Nat × Nat)} {cs : List Ca} {q : Int × Int} (h : q ∈ Ts t cs) : ∃ i, i < (Ss t cs).length ∧ q = sAt t cs i := by
  obtain ⟨i, hi, e⟩ := List.mem_iff_getElem.mp ((Ss_spec.1 q).mpr h)
  exact ⟨i, hi, by rw [sAt_get hi, e]⟩
/-- what is told -/
def LeastIs (t : List (Nat × Nat)) (cs : List Ca) (many : Nat) : Option (Int × Int) → Prop
  | none => ∀ v, Sp0 v → many < fewV t cs v
  | some v => v ∈ Ts t cs ∧ fewV t cs v ≤ many ∧ ∀ u, Sp0 u → u.1 * v.2 < v.1 * u.2 → many < fewV t cs u
theorem least_is {t : List (Nat × Nat)} {cs : List Ca} {many : Nat} (hl : (Ss t cs).length ≤ 64) : LeastIs t cs many (leastV t cs many) := by
  have hp := Ss_pos (t := t) (cs := cs)
  unfold leastV
  split
  · rename_i c
    intro v hv
    refine Nat.lt_of_lt_of_le c (few_step hv (can_Ts _ (sAt_mem (by omega))).2 ?_)
    intro q hq _
    obtain ⟨i, hi, rfl⟩ := Ts_at hq
    exact sAt_le (by omega) (by omega)
  · rename_i c
    have hs := bs_spec (P := fun i => decide (fewV t cs (sAt t cs i) ≤ many)) (top := (Ss t cs).length - 1) (by
      intro i j hij hj h
      simp only [decide_eq_true_eq] at h ⊢
      exact Nat.le_trans (few_le (can_Ts _ (sAt_mem (by omega))).2 (can_Ts _ (sAt_mem (by omega))).2 (sAt_le hij (by omega))) h) 63 0 ((Ss t cs).length - 1) (by omega) (by omega) (by omega) (by simp; omega) (by simp)
    generalize bs (fun i => decide (fewV t cs (sAt t cs i) ≤ many)) 63 0 ((Ss t cs).length - 1) = k at hs
    obtain ⟨h1, h2, h3⟩ := hs
    simp only [decide_eq_true_eq, decide_eq_false_iff_not] at h1 h2
    refine ⟨sAt_mem (by omega), h1, ?_⟩
    intro u hu hlt
    by_cases hk : k = 0
    · exfalso
      subst hk
      obtain ⟨i, hi, e⟩ := Ts_at (t := t) (cs := cs) (q := (0, 1)) (by simp [Ts])
      have := sAt_le (Nat.zero_le i) hi
      rw [← e] at this
      simp at this
      have h0 := (can_Ts _ (sAt_mem (t := t) (cs := cs) (i := 0) (by omega))).2
      have a : 0 ≤ u.1 * (sAt t cs 0).2 := Int.mul_nonneg hu.1 (Int.le_of_lt h0.2)
      have b : (sAt t cs 0).1 * u.2 ≤ 0 := Int.mul_nonpos_of_nonpos_of_nonneg (by omega) (Int.le_of_lt hu.2)
      omega
    · have hh := h2 (k - 1) (by omega)
      refine Nat.lt_of_lt_of_le (Nat.lt_of_not_le hh) (few_step hu (can_Ts _ (sAt_mem (by omega))).2 ?_)
      intro q hq hqu
      obtain ⟨i, hi, rfl⟩ := Ts_at hq
      refine sAt_le ?_ (by omega)
      by_cases e : i ≤ k - 1
      · exact e
      · exfalso
        have := sAt_le (t := t) (cs := cs) (i := k) (j := i) (by omega) hi
        have q1 := (can_Ts _ (sAt_mem (t := t) (cs := cs) (i := i) hi)).2
        have q2 := (can_Ts _ (sAt_mem (t := t) (cs := cs) (i := k) (by omega))).2
        have := lt_le_tr (p := u) (q := sAt t cs k) (r := sAt t cs i) hu.2 q2.2 q1.2 hlt this
        omega
theorem least_one {t : List (Nat × Nat)} {cs : List Ca} {many : Nat} {u v : Int × Int} (hu : LeastIs t cs many (some u)) (hv : Can v) (hv0 : Sp0 v) (h1 : fewV t cs v ≤ many) (h2 : ∀ w, Sp0 w → w.1 * v.2 < v.1 * w.2 → many < fewV t cs w) : u = v := by
  have hu' := can_Ts u hu.1
  refine can_eq hu'.1 hv ?_
  have a : ¬ u.1 * v.2 < v.1 * u.2 := fun h => by have := h2 u hu'.2 h; have := hu.2.1; omega
  have b : ¬ v.1 * u.2 < u.1 * v.2 := fun h => by have := hu.2.2 v hv0 h; omega
  omega
end K91P

-- DlRepr
set_option Elab.async false
set_option linter.all false
set_option maxRecDepth 100000
set_option maxHeartbeats 1000000
/-! DlRepr: the guards of repr -/
namespace DL
open PySem PySem.Spec PyProof.Rows L2
mutual
/-- at least as long as the text -/
def bnd : PyData → Nat
  | .none => 4
  | .bool _ => 5
  | .int i => i.natAbs + 2
  | .str x => (reprText x).length
  | .list xs => bndAll xs + 4
  | .tuple xs => bndAll xs + 4
  | .dict _ => 0
def bndAll : List PyData → Nat
  | [] => 0
  | x :: xs => bnd x + 2 + bndAll xs
end
theorem listText_le (ts : List Str) : (listText ts).length ≤ piled ts + 2 := by
  cases ts with
  | nil => exact Nat.le_of_eq rfl
  | cons t r =>
    have h := textFrom_length_pos r 1 (("[" : Str) ++ (if (0 : Nat) > 0 then ", " else "" : String) ++ t) (Nat.succ_pos 0)
    have e : ((("[" : Str) ++ (if (0 : Nat) > 0 then ", " else "" : String) ++ t)).length = 1 + t.length := by
      rw [strLen_append, strLen_append]; rfl
    have hX : (listText (t :: r)).length = (textFrom 0 "[" (t :: r)).length + 1 := by
      show (textFrom 0 "[" (t :: r) ++ "]").length = _
      rw [strLen_append]; rfl
    have hY : (textFrom 0 "[" (t :: r)).length = (textFrom 1 (("[" : Str) ++ (if (0 : Nat) > 0 then ", " else "" : String) ++ t) r).length := rfl
    rw [piled_cons]
    omega
theorem tupleText_le (ts : List Str) : (tupleText ts).length ≤ piled ts + 4 := by
  unfold tupleText
  rw [strLen_append, strLen_append]
  have e1 : ((("(" : String) : Str)).length = 1 := rfl
  have e3 : (((if ts.length == 1 then ",)" else ")" : String) : Str)).length ≤ 2 := by split <;> decide
  rw [e1]
  cases ts with
  | nil =>
    have : (Str.join ", " ([] : List Str)).length = 0 := rfl
    omega
  | cons t r =>
    have := join_length_add (t :: r) (by simp)
    omega
mutual
theorem shown_le : ∀ p : PyData, p.hasDict = false → p.shown.length ≤ bnd p
  | .none, _ => by unfold PyData.shown bnd; decide
  | .bool b, _ => by unfold PyData.shown bnd; cases b <;> decide
  | .int i, _ => by
    unfold PyData.shown bnd
    have := len_str_of_int i
    omega
  | .str x, _ => by unfold PyData.shown bnd; exact Nat.le_refl _
  | .list xs, h => by
    unfold PyData.shown bnd
    have h1 := listText_le (PyData.shownAll xs)
    have h2 := shownAll_le xs (by simpa [PyData.hasDict] using h)
    omega
  | .tuple xs, h => by
    unfold PyData.shown bnd
    have h1 := tupleText_le (PyData.shownAll xs)
    have h2 := shownAll_le xs (by simpa [PyData.hasDict] using h)
    omega
  | .dict _, h => by simp [PyData.hasDict] at h
theorem shownAll_le : ∀ xs : List PyData, PyData.hasDictAll xs = false → piled (PyData.shownAll xs) ≤ bndAll xs
  | [], _ => by simp [PyData.shownAll, bndAll, piled]
  | x :: xs, h => by
    have h' : x.hasDict = false ∧ PyData.hasDictAll xs = false := by simpa [PyData.hasDictAll] using h
    have h1 := shown_le x h'.1
    have h2 := shownAll_le xs h'.2
    unfold PyData.shownAll bndAll
    rw [piled_cons]
    omega
end
/-- small enough to be shown -/
structure Sm (d B : Nat) (p : PyData) : Prop where
  s : p.showable = true
  h : p.hasDict = false
  d : p.depth ≤ d
  b : bnd p ≤ B
theorem Sm.mono {d d' B B' : Nat} {p : PyData} (h : Sm d B p) (hd : d ≤ d') (hB : B ≤ B') : Sm d' B' p := ⟨h.s, h.h, Nat.le_trans h.d hd, Nat.le_trans h.b hB⟩
theorem Sm.int {d : Nat} {B : Nat} {i : Int} (h : i.natAbs + 2 ≤ B) (hB : B ≤ 2 ^ 100) : Sm d B (.int i) := by
  refine ⟨?_, by simp [PyData.hasDict], by simp [PyData.depth], by simpa [bnd] using h⟩
  unfold PyData.showable
  rw [decide_eq_true_eq]
  by_cases h0 : i.natAbs = 0
  · rw [h0]; decide
  · rw [Nat.log2_lt h0]
    have : (2 : Nat) ^ 100 < 2 ^ 1920 := Nat.pow_lt_pow_right (by decide) (by decide)
    omega
theorem Sm.str {d B : Nat} {x : Str} (h : (reprText x).length ≤ B) : Sm d B (.str x) := ⟨by simp [PyData.showable], by simp [PyData.hasDict], by simp [PyData.depth], by simpa [bnd] using h⟩
theorem Sm.none {d B : Nat} (h : 4 ≤ B) : Sm d B .none := ⟨by simp [PyData.showable], by simp [PyData.hasDict], by simp [PyData.depth], by simpa [bnd] using h⟩
theorem sm_all {d B : Nat} : ∀ {ps : List PyData}, (∀ p ∈ ps, Sm d B p) → PyData.showableAll ps = true ∧ PyData.hasDictAll ps = false ∧ PyData.depthAll ps ≤ d ∧ bndAll ps ≤ ps.length * (B + 2)
  | [], _ => by simp [PyData.showableAll, PyData.hasDictAll, PyData.depthAll, bndAll]
  | p :: ps, h => by
    obtain ⟨h1, h2, h3, h4⟩ := sm_all fun q hq => h q (.tail _ hq)
    have k := h p (.head _)
    refine ⟨by simp [PyData.showableAll, k.s, h1], by simp [PyData.hasDictAll, k.h, h2], ?_, ?_⟩
    · unfold PyData.depthAll; exact Nat.max_le.mpr ⟨k.d, h3⟩
    · unfold bndAll
      have := k.b
      rw [List.length_cons, Nat.succ_mul]
      omega
theorem Sm.list {d B B' : Nat} {ps : List PyData} (h : ∀ p ∈ ps, Sm d B p) (hB : ps.length * (B + 2) + 4 ≤ B') : Sm (d + 1) B' (.list ps) := by
  obtain ⟨h1, h2, h3, h4⟩ := sm_all h
  refine ⟨by simpa [PyData.showable] using h1, by simpa [PyData.hasDict] using h2, ?_, ?_⟩
  · unfold PyData.depth; omega
  · unfold bnd; omega
theorem Sm.tuple {d B B' : Nat} {ps : List PyData} (h : ∀ p ∈ ps, Sm d B p) (hB : ps.length * (B + 2) + 4 ≤ B') : Sm (d + 1) B' (.tuple ps) := by
  obtain ⟨h1, h2, h3, h4⟩ := sm_all h
  refine ⟨by simpa [PyData.showable] using h1, by simpa [PyData.hasDict] using h2, ?_, ?_⟩
  · unfold PyData.depth; omega
  · unfold bnd; omega
theorem shOk_of {d B : Nat} {p : PyData} (h : Sm d B p) (hd : d ≤ 60) (hB : B ≤ 16777216) : shOk p = true := by
  unfold shOk
  have := shown_le p h.h
  have := h.b
  have := h.d
  simp only [h.s, h.h, Bool.not_false, Bool.and_true, Bool.true_and, Bool.and_eq_true, decide_eq_true_eq]
  exact ⟨by omega, by omega⟩
theorem repr_ok {d : D} {M : Mem} {p : PyData} {k B : Nat} (h : D.py M 12 d = some p) (hs : Sm k B p) (hk : k ≤ 60) (hB : B ≤ 16777216) : kRepr d M = .ok (.str p.shown) M := by
  unfold kRepr
  rw [h]
  simp only [shOk_of hs hk hB, if_true]
/-! data as values -/
section
variable {M : Mem} {n : Nat}
@[simp] theorem py_int (i : Int) : D.py M (n + 1) (.int i) = some (.int i) := by simp [D.py]
@[simp] theorem py_str (i : Str) : D.py M (n + 1) (.str i) = some (.str i) := by simp [D.py]
@[simp] theorem py_bl (i : Bool) : D.py M (n + 1) (.bl i) = some (.bool i) := by simp [D.py]
@[simp] theorem py_non : D.py M (n + 1) .non = some .none := by simp [D.py]
theorem py_tup (ds : List D) : D.py M (n + 1) (.tup ds) = (ds.mapM (D.py M n)).map .tuple := by simp [D.py]
theorem py_lst (ds : List D) : D.py M (n + 1) (.lst ds) = (ds.mapM (D.py M n)).map .list := by simp [D.py]
theorem py_ref (i : Nat) {ds : List D} (h : M[i]? = some (.lst ds)) : D.py M (n + 1) (.ref i) = (ds.mapM (D.py M n)).map .list := by simp [D.py, h]
theorem mapM_map {α β γ : Type} {f : β → Option γ} {e : α → β} {g : α → γ} : ∀ {xs : List α}, (∀ x ∈ xs, f (e x) = some (g x)) → (xs.map e).mapM f = some (xs.map g)
  | [], _ => rfl
  | x :: xs, h => by
    rw [List.map_cons, List.mapM_cons, h x (.head _), mapM_map fun y hy => h y (.tail _ hy)]; rfl
end
end DL

-- K91C
set_option Elab.async false
set_option linter.all false
set_option maxRecDepth 100000
set_option maxHeartbeats 1000000
namespace K91P
open PySem DL L2 K91
/-! contrary calls, the most of them -/
abbrev eLot (l : List Nat) : D := .lst (l.map eN)
abbrev eLots (x : Lots) : D := .lst (x.map eLot)
abbrev ePs (ps : List (Nat × Nat)) : D := .lst (ps.map eTie)
theorem fz_eLot {M : Mem} {k : Nat} {l : List Nat} : D.fz M (k + 2) (eLot l) = some (eLot l) := by simp
@[simp] theorem fz_eLots {M : Mem} {k : Nat} {x : Lots} : D.fz M (k + 3) (eLots x) = some (eLots x) := by
  rw [fz_lst, mapM_fz fun _ => fz_eLot]; rfl
@[simp] theorem fz_ePs {M : Mem} {k : Nat} {x : List (Nat × Nat)} : D.fz M (k + 3) (ePs x) = some (ePs x) := by
  rw [fz_lst, mapM_fz fun _ => fz_eTie]; rfl
@[simp] theorem blw_eLot {n : Nat} {l : List Nat} : D.blw n (eLot l) = true := by simp
@[simp] theorem blws_eLots {n : Nat} {x : Lots} : D.blws n (x.map eLot) = true := by simp
def tch (ps : List (Nat × Nat)) (l l2 : List Nat) : Bool := ps.any fun p => (l.contains p.1 && l2.contains p.2) || (l2.contains p.1 && l.contains p.2)
theorem touches_ok {ps : List (Nat × Nat)} {l l2 : List Nat} (h : ps.length ≤ 16777216) (M : Mem) : kPure m_touches [ePs ps, eLot l, eLot l2] M = .ok (.bl (tch ps l l2)) M := by
  refine pure_ok (es := [ePs ps, eLot l, eLot l2]) (by simp) ?_ (by simp)
  have := compL_map (own := [3, 4]) (t := .tup [(.name 3), (.name 4)]) (tt := tYesF) (f := (fOr (fAnd (f2 kIn (fVar 3) (fVar 1)) (f2 kIn (fVar 4) (fVar 2))) (fAnd (f2 kIn (fVar 3) (fVar 2)) (f2 kIn (fVar 4) (fVar 1))))) (env := [some (ePs ps), some (eLot l), some (eLot l2), none, none]) (e := eTie) (g := fun p => .bl ((l.contains p.1 && l2.contains p.2) || (l2.contains p.1 && l.contains p.2))) (M := []) ps (by
    intro x hx
    refine ⟨_, rfl, rfl, ?_⟩
    cases h1 : l.contains x.1 <;> cases h2 : l2.contains x.2 <;> cases h3 : l2.contains x.1 <;> cases h4 : l.contains x.2 <;> simp [wipeD] <;> simp_all)
  simp [m_touches, b_touches, this, kLst_ok, h]
  rw [kAny_map]; simp [tch]
def row (F : Nat → Nat → Bool) (j : Nat) : List (Nat × Nat) := ((List.range j).filter fun i => !F i j).map fun i => (i, j)
def prs (F : Nat → Nat → Bool) (n : Nat) : List (Nat × Nat) := (List.range n).flatMap (row F)
theorem prs_succ (F : Nat → Nat → Bool) (n : Nat) : prs F (n + 1) = prs F n ++ row F n := by simp [prs, List.range_succ]
theorem row_len (F : Nat → Nat → Bool) (j : Nat) : (row F j).length ≤ j := by
  unfold row; rw [List.length_map]; exact Nat.le_trans (List.length_filter_le _ _) (by simp)
theorem prs_len (F : Nat → Nat → Bool) : ∀ n, (prs F n).length ≤ n * n
  | 0 => by simp [prs]
  | n + 1 => by
    have := prs_len F n
    have := row_len F n
    rw [prs_succ, List.length_append]; grind
theorem mem_prs {F : Nat → Nat → Bool} {n : Nat} {p : Nat × Nat} : p ∈ prs F n ↔ p.1 < p.2 ∧ p.2 < n ∧ F p.1 p.2 = false := by
  obtain ⟨a, b⟩ := p
  simp only [prs, row, List.mem_flatMap, List.mem_map, List.mem_filter, List.mem_range, Prod.mk.injEq]
  constructor
  · rintro ⟨j, hj, i, ⟨hi, hf⟩, rfl, rfl⟩
    exact ⟨hi, hj, by simpa using hf⟩
  · rintro ⟨h1, h2, h3⟩
    exact ⟨b, h2, a, ⟨h1, by simp [h3]⟩, rfl, rfl⟩
/-- one call, and calls ahead of it -/
theorem tch_prs {F : Nat → Nat → Bool} {n k : Nat} {l : List Nat} (hk : k < n) (hl : ∀ a ∈ l, a < k) : tch (prs F n) l [k] = !(l.all fun a => F a k) := by
  rw [Bool.eq_iff_iff]
  simp only [tch, List.any_eq_true, Bool.or_eq_true, Bool.and_eq_true, List.contains_iff_mem, List.mem_singleton, Bool.not_eq_true', List.all_eq_false, mem_prs]
  constructor
  · rintro ⟨⟨a, b⟩, ⟨h1, h2, h3⟩, (⟨h4, h5⟩ | ⟨h4, h5⟩)⟩
    · simp only at *
      subst h5; exact ⟨a, h4, by simp [h3]⟩
    · simp only at *
      subst h4; have := hl b h5; omega
  · rintro ⟨a, ha, hf⟩
    exact ⟨(a, k), ⟨hl a ha, hk, by simpa using hf⟩, .inl ⟨ha, rfl⟩⟩
section
variable {t : List (Nat × Nat)} (g : GoodT t) {v : Int × Int} (hv : Sp v) {cs : List Ca} (hc : ∀ c ∈ cs, GoodC t c) (hn : cs.length ≤ 8)
include g hv hc hn
theorem contrary_in_ok (M : Mem) : kPure m_contrary_in [eTree t, eDay v cs] M = .ok (ePs (prs (Fv t cs v) cs.length)) M := by
  refine pure_ok (es := [eTree t, eDay v cs]) (by simp) ?_ (by simp)
  obtain ⟨env2, M2, h1, ⟨x, rfl⟩, rfl⟩ := for_ix (t := .name 3) (b := (sDrop (fBm kExtend (fVar 2) (aCons (fComp [4] (iOfA kRg1 (aCons (fVar 3) aNil)) (.name 4) (tNotF (tOf (fCall (kPur (shN 4) m_fit_in) (aCons (fVar 0) (aCons (fVar 1) (aCons (fVar 4) (aCons (fVar 3) aNil)))) aNil))) (fOf kTup (aCons (fVar 4) (aCons (fVar 3) aNil)))) aNil)))) (e := fun i : Nat => D.int i) (xs := List.range cs.length) (env := [some (eTree t), some (eDay v cs), some (.ref 0), none, none]) (M := [.lst []])
    (I := fun i env M => (∃ x, env = [some (eTree t), some (eDay v cs), some (.ref 0), x, none]) ∧ M = [.lst ((prs (Fv t cs v) i).map eTie)]) ⟨⟨_, rfl⟩, by simp [prs]⟩ (by
      rintro i hi env M ⟨⟨x, rfl⟩, rfl⟩
      simp at hi
      refine ⟨_, rfl, ?_⟩
      have e1 : kRg1 [.int (i : Int)] [.lst ((prs (Fv t cs v) i).map eTie)] = .ok ((List.range i).map fun i => D.int (i : Nat)) [.lst ((prs (Fv t cs v) i).map eTie)] := kRg1_nat i (by omega)
      have e2 := compL_filter (own := [4]) (t := .name 4) (tt := (tNotF (tOf (fCall (kPur (shN 4) m_fit_in) (aCons (fVar 0) (aCons (fVar 1) (aCons (fVar 4) (aCons (fVar 3) aNil)))) aNil)))) (f := (fOf kTup (aCons (fVar 4) (aCons (fVar 3) aNil)))) (env := [some (eTree t), some (eDay v cs), some (.ref 0), some (.int i), none]) (e := fun i : Nat => D.int i) (p := fun a => !Fv t cs v a i) (g := fun a => eTie (a, i)) (M := [.lst ((prs (Fv t cs v) i).map eTie)]) (List.range i) (by
        intro a ha
        simp at ha
        refine ⟨_, rfl, ?_, ?_⟩
        · simp [wipeD, fit_in_ok g hv hc (show a < cs.length by omega) hi]
        · intro _; simp [wipeD, eTie])
      have e3 := prs_len (Fv t cs v) i
      have e4 := row_len (Fv t cs v) i
      have e5 : i * i ≤ 64 := Nat.le_trans (Nat.mul_le_mul (show i ≤ 8 by omega) (show i ≤ 8 by omega)) (by decide)
      have e6 : ((List.range i).filter fun a => !Fv t cs v a i).length ≤ 16777216 := by unfold row at e4; rw [List.length_map] at e4; omega
      have e7 : (prs (Fv t cs v) i).length + ((List.range i).filter fun a => !Fv t cs v a i).length ≤ 16777216 := by unfold row at e4; rw [List.length_map] at e4; omega
      simp [e1, e2, kLst_ok, e6, e7]
      rw [prs_succ]; simp [row])
  have e1 : kRg1 [.int (cs.length : Int)] [.lst []] = .ok ((List.range cs.length).map fun i => D.int (i : Nat)) [.lst []] := kRg1_nat _ (by omega)
  simp [m_contrary_in, b_contrary_in, e1, h1]
  exact trim_ref rfl (by simp)
end
abbrev eS1 (a : Nat) : D := eLot [a]
abbrev eC (c : List Nat) : D := .lst (c.map eS1)
theorem nil_cl (F : Nat → Nat → Bool) : ∀ n, [] ∈ cl F n
  | 0 => by simp [cl]
  | n + 1 => by simp [cl, nil_cl F n]
theorem cl_len (F : Nat → Nat → Bool) : ∀ n, (cl F n).length ≤ 2 ^ n
  | 0 => by simp [cl]
  | n + 1 => by
    have := cl_len F n
    have h : ((cl F n).filter fun c => c.all fun a => !F a n).length ≤ (cl F n).length := List.length_filter_le _ _
    simp only [cl, List.length_append, List.length_map]
    rw [Nat.pow_succ]; omega
theorem fz_eS1s {M : Mem} {k : Nat} {c : List Nat} : D.fz M (k + 3) (eC c) = some (eC c) := by
  rw [fz_lst, mapM_fz fun _ => fz_eLot]; rfl
theorem frz_ok {f : FE} {env : DEnv} {M : Mem} {d : D} (h : f (env.map fun o => o.bind (D.fz M 8)) [] = .ok d []) (hb : d.blw 0 = true) : fFrz f env M = .ok d M := by
  unfold fFrz; rw [h]; simp [hb]
theorem lk_ok {i j : Nat} {f : FS} {env : DEnv} {M : Mem} {ds : List D} (h : env[i]? = some (some (.ref j))) (h2 : M[j]? = some (.lst ds)) : sLk i f env M = f (env.set i (some (.lst ds))) (M.set j .gone) := by
  unfold sLk lkS; simp [h, h2]
theorem lk_no {i : Nat} {f : FS} {env : DEnv} {M : Mem} {ds : List D} (h : env[i]? = some (some (.lst ds))) : sLk i f env M = f env M := by
  unfold sLk lkS; simp [h]
@[irreducible] def gComp : FE := (fFrz (fComp [3] (iOf kIt (fVar 5)) (.name 3) (tOf (fOf (k1 kAll) (aCons (fComp [6] (iOf kIt (fVar 3)) (.name 6) tYesF (fCall (kPur (shN 3) m_touches) (aCons (fVar 0) (aCons (fVar 6) (aCons (fVar 2) aNil))) aNil)) aNil))) (f2 kAdd (fVar 3) (fOf kLst (aCons (fVar 2) aNil)))))
theorem gComp_ok {F : Nat → Nat → Bool} {n i : Nat} (hn : n ≤ 8) (hi : i < n) (y z : Option D) : gComp [some (ePs (prs F n)), some (eC (List.range n)), some (eS1 i), y, some (eC []), some (.ref 0), z] [.lst ((cl F i).map eC)] = .ok (.lst (((cl F i).filter fun c => c.all fun a => !F a i).map fun c => eC (c ++ [i]))) [.lst ((cl F i).map eC)] := by
  have hp : (prs F n).length ≤ 16777216 := by
    have := prs_len F n
    have e5 : n * n ≤ 64 := Nat.le_trans (Nat.mul_le_mul hn hn) (by decide)
    omega
  have hlen := cl_len F i
  have hlen2 : 2 ^ i ≤ 2 ^ 8 := Nat.pow_le_pow_right (by decide) (by omega)
  unfold gComp
  refine frz_ok ?_ (by simp)
  have e2 := fun (y z : Option D) => compL_filter (own := [3]) (t := .name 3) (tt := (tOf (fOf (k1 kAll) (aCons (fComp [6] (iOf kIt (fVar 3)) (.name 6) tYesF (fCall (kPur (shN 3) m_touches) (aCons (fVar 0) (aCons (fVar 6) (aCons (fVar 2) aNil))) aNil)) aNil)))) (f := (f2 kAdd (fVar 3) (fOf kLst (aCons (fVar 2) aNil)))) (env := [some (ePs (prs F n)), some (eC (List.range n)), some (eS1 i), y, some (eC []), some (.bor ((cl F i).map eC)), z]) (e := eC) (p := fun c => c.all fun a => !F a i) (g := fun c => eC (c ++ [i])) (M := []) (cl F i) (by
        intro c hcm
        obtain ⟨q1, q2, q3⟩ := cl_ok i c hcm
        have q4 : c.length ≤ 16777216 := by omega
        have q5 : c.length + 1 ≤ 16777216 := by omega
        refine ⟨_, rfl, ?_, ?_⟩
        · have e3 := compL_map (own := [6]) (t := .name 6) (tt := tYesF) (f := (fCall (kPur (shN 3) m_touches) (aCons (fVar 0) (aCons (fVar 6) (aCons (fVar 2) aNil))) aNil)) (env := [some (ePs (prs F n)), some (eC (List.range n)), some (eS1 i), some (eC c), some (eC []), some (.bor ((cl F i).map eC)), z]) (e := eS1) (g := fun a => .bl (!F a i)) (M := []) c (by
            intro a ha
            refine ⟨_, rfl, rfl, ?_⟩
            have e4 := touches_ok (ps := prs F n) (l := [a]) (l2 := [i]) hp []
            rw [tch_prs hi (by intro b hb; simp at hb; subst hb; exact q2 b ha)] at e4
            simp at e4
            simp [wipeD, e4])
          simp [wipeD, e3, q4]
          rw [kAll_map]; rfl
        · intro _; simp [wipeD, q5])
  have e6 : ((cl F i).filter fun c => c.all fun a => !F a i).length ≤ (cl F i).length := List.length_filter_le _ _
  have e7 : ((cl F i).filter fun c => c.all fun a => !F a i).length ≤ 16777216 := by omega
  have z0 : D.fz [.lst ((cl F i).map eC)] 8 (eC []) = some (eC []) := fz_eS1s
  have z1 : D.fz [.lst ((cl F i).map eC)] 8 (eC (List.range n)) = some (eC (List.range n)) := fz_eS1s
  have z2 : D.fz [.lst ((cl F i).map eC)] 8 (.ref 0) = some (.bor ((cl F i).map eC)) := by
    rw [fz_ref (ds := (cl F i).map eC) rfl, mapM_fz fun _ => fz_eS1s]; rfl
  have z3 : D.fz [.lst ((cl F i).map eC)] 8 (eS1 i) = some (eS1 i) := fz_eLot
  simp only [List.map_cons, List.map_nil, Option.bind_some, z0, z1, z2, z3, fz_ePs]
  simp [e2, kLst_ok, e7]
theorem greatest_ok {F : Nat → Nat → Bool} {n : Nat} (hn : n ≤ 8) : ∃ c ∈ cl F n, ∀ M, kPure m_greatest_lots [ePs (prs F n), eC (List.range n)] M = .ok (eC c) M := by
  suffices h : ∃ c ∈ cl F n, m_greatest_lots [ePs (prs F n), eC (List.range n)] [] = .ok (eC c) [] by
    obtain ⟨c, h1, h2⟩ := h
    exact ⟨c, h1, fun M => pure_ok (es := [ePs (prs F n), eC (List.range n)]) (by simp [fz_eS1s]) h2 (by simp)⟩
  have hpow : ∀ k, k ≤ 8 → 2 ^ k ≤ 256 := fun k hk => Nat.le_trans (Nat.pow_le_pow_right (by decide) hk) (by decide)
  obtain ⟨env2, M2, h1, ⟨x, y, z, rfl⟩, rfl⟩ := for_ix (t := .name 2) (b := (sDrop (fBm kExtend (fVar 5) (aCons gComp aNil)))) (e := eS1) (xs := List.range n) (env := [some (ePs (prs F n)), some (eC (List.range n)), none, none, some (eC []), some (.ref 0), none]) (M := [.lst [eC []]])
    (I := fun i env M => (∃ x y z, env = [some (ePs (prs F n)), some (eC (List.range n)), x, y, some (eC []), some (.ref 0), z]) ∧ M = [.lst ((cl F i).map eC)]) ⟨⟨_, _, _, rfl⟩, by simp [cl]⟩ (by
      rintro i hi env M ⟨⟨x, y, z, rfl⟩, rfl⟩
      simp at hi
      refine ⟨_, rfl, ?_⟩
      have hlen := cl_len F i
      have hlen2 := hpow i (by omega)
      have e2 := gComp_ok (F := F) (i := i) hn hi y z
      have e6 : ((cl F i).filter fun c => c.all fun a => !F a i).length ≤ (cl F i).length := List.length_filter_le _ _
      have e8 : (cl F i).length + ((cl F i).filter fun c => c.all fun a => !F a i).length ≤ 16777216 := by omega
      have ei : (List.range n)[i] = i := by simp
      simp only [ei, List.set_cons_succ, List.set_cons_zero]
      simp [e2, e8]
      simp [cl])
  obtain ⟨env3, M3, h2, c, hc, ⟨x', rfl⟩, rfl⟩ := for_inv (t := .name 3) (b := (sSet 4 (fIf (tOf (f2 kGt (fOf (k1 kLen) (aCons (fVar 3) aNil)) (fOf (k1 kLen) (aCons (fVar 4) aNil)))) (fVar 3) (fVar 4)))) (e := eC) (xs := cl F n) (env := [some (ePs (prs F n)), some (eC (List.range n)), x, y, some (eC []), some (.lst ((cl F n).map eC)), z]) (M := [.gone])
    (I := fun pre env M => ∃ c, c ∈ cl F n ∧ (∃ x', env = [some (ePs (prs F n)), some (eC (List.range n)), x, x', some (eC c), some (.lst ((cl F n).map eC)), z]) ∧ M = [.gone]) ⟨[], nil_cl F n, ⟨_, rfl⟩, rfl⟩ (by
      rintro pre c post env M hx ⟨c', hc', ⟨x', rfl⟩, rfl⟩
      refine ⟨_, rfl, ?_⟩
      have hcm : c ∈ cl F n := by rw [hx]; simp
      by_cases q : c'.length < c.length
      · simp [q]; exact ⟨c, hcm, rfl⟩
      · simp [q]; exact ⟨c', hc', rfl⟩)
  refine ⟨c, hc, ?_⟩
  have ec : eC [] = D.lst [] := rfl
  have eb : b_greatest_lots = (sSeq (sPar2 4 5 (aCons (fOf kLst aNil) (aCons (fOf kOwn (aCons (fOf kLst aNil) aNil)) aNil)))
    (sSeq (sForI (iOf kIt (fVar 1)) (.name 2) (sDrop (fBm kExtend (fVar 5) (aCons gComp aNil))))
    (sSeq (sLk 5 (sForI (iOf kIt (fVar 5)) (.name 3) (sSet 4 (fIf (tOf (f2 kGt (fOf (k1 kLen) (aCons (fVar 3) aNil)) (fOf (k1 kLen) (aCons (fVar 4) aNil)))) (fVar 3) (fVar 4)))))
    (sRet (fVar 4))))) := by unfold b_greatest_lots gComp; rfl
  try simp only [List.length_range] at *
  rw [ec] at h1 h2
  simp only [m_greatest_lots, eb]
  simp [h1, h2, lk_ok (i := 5) (j := 0)]
  exact trim0b (by simp)
end K91P

-- K91S
set_option Elab.async false
set_option linter.all false
set_option maxRecDepth 100000
set_option maxHeartbeats 1000000
namespace K91P
open PySem DL L2 K91
/-! data as values: equal or not -/
structure Sd (M : Mem) (k : Nat) (d : D) (p : PyData) : Prop where
  py : ∀ n, k ≤ n → D.py M n d = some p
  la : p.canLay0 = true
  de : p.depth + 1 ≤ k
theorem Sd.mono {M : Mem} {k k' : Nat} {d : D} {p : PyData} (h : Sd M k d p) (hk : k ≤ k') : Sd M k' d p := ⟨fun n hn => h.py n (by omega), h.la, by have := h.de; omega⟩
theorem Sd.int {M : Mem} (i : Int) : Sd M 1 (.int i) (.int i) := ⟨fun n hn => by obtain ⟨m, rfl⟩ : ∃ m, n = m + 1 := ⟨n - 1, by omega⟩; simp, by simp [PyData.canLay0], by simp [PyData.depth]⟩
theorem Sd.str {M : Mem} (x : Str) (h : PyData.strOk x = true) : Sd M 1 (.str x) (.str x) := ⟨fun n hn => by obtain ⟨m, rfl⟩ : ∃ m, n = m + 1 := ⟨n - 1, by omega⟩; simp, by simpa [PyData.canLay0] using h, by simp [PyData.depth]⟩
theorem sd_all {M : Mem} {α : Type} {k : Nat} {e : α → D} {q : α → PyData} : ∀ {xs : List α}, 1 ≤ k → (∀ x ∈ xs, Sd M k (e x) (q x)) → (∀ n, k ≤ n → (xs.map e).mapM (D.py M n) = some (xs.map q)) ∧ PyData.canLayAll0 (xs.map q) = true ∧ PyData.depthAll (xs.map q) + 1 ≤ k
  | [], hk, _ => ⟨fun n _ => rfl, by simp [PyData.canLayAll0], by simp [PyData.depthAll]; exact hk⟩
  | x :: xs, hk, h => by
    obtain ⟨h1, h2, h3⟩ := sd_all (xs := xs) hk fun y hy => h y (.tail _ hy)
    have hx := h x (.head _)
    refine ⟨fun n hn => mapM_map fun y hy => (h y hy).py n hn, by simp [PyData.canLayAll0, hx.la, h2], ?_⟩
    have := hx.de
    simp only [List.map_cons, PyData.depthAll]
    omega
theorem Sd.tup {M : Mem} {α : Type} {k : Nat} {e : α → D} {q : α → PyData} {xs : List α} (hk : 1 ≤ k) (h : ∀ x ∈ xs, Sd M k (e x) (q x)) : Sd M (k + 1) (.tup (xs.map e)) (.tuple (xs.map q)) := by
  obtain ⟨h1, h2, h3⟩ := sd_all hk h
  refine ⟨fun n hn => ?_, by simpa [PyData.canLay0] using h2, by simp only [PyData.depth]; omega⟩
  obtain ⟨m, rfl⟩ : ∃ m, n = m + 1 := ⟨n - 1, by omega⟩
  rw [py_tup, h1 m (by omega)]; rfl
theorem Sd.lst {M : Mem} {α : Type} {k : Nat} {e : α → D} {q : α → PyData} {xs : List α} (hk : 1 ≤ k) (h : ∀ x ∈ xs, Sd M k (e x) (q x)) : Sd M (k + 1) (.lst (xs.map e)) (.list (xs.map q)) := by
  obtain ⟨h1, h2, h3⟩ := sd_all hk h
  refine ⟨fun n hn => ?_, by simpa [PyData.canLay0] using h2, by simp only [PyData.depth]; omega⟩
  obtain ⟨m, rfl⟩ : ∃ m, n = m + 1 := ⟨n - 1, by omega⟩
  rw [py_lst, h1 m (by omega)]; rfl
theorem Sd.ref {M : Mem} {α : Type} {k i : Nat} {e : α → D} {q : α → PyData} {xs : List α} (hm : M[i]? = some (.lst (xs.map e))) (hk : 1 ≤ k) (h : ∀ x ∈ xs, Sd M k (e x) (q x)) : Sd M (k + 1) (.ref i) (.list (xs.map q)) := by
  obtain ⟨h1, h2, h3⟩ := sd_all hk h
  refine ⟨fun n hn => ?_, by simpa [PyData.canLay0] using h2, by simp only [PyData.depth]; omega⟩
  obtain ⟨m, rfl⟩ : ∃ m, n = m + 1 := ⟨n - 1, by omega⟩
  rw [py_ref _ hm, h1 m (by omega)]; rfl
theorem Sd.tup2 {M : Mem} {k : Nat} {a b : D} {p q : PyData} (hk : 1 ≤ k) (h : Sd M k a p) (h2 : Sd M k b q) : Sd M (k + 1) (.tup [a, b]) (.tuple [p, q]) :=
  Sd.tup (e := (·.1)) (q := (·.2)) (xs := [(a, p), (b, q)]) hk (by intro x hx; simp at hx; rcases hx with rfl | rfl <;> assumption)
theorem deep_sd {M : Mem} {k l : Nat} {a b : D} {p q : PyData} (h : Sd M k a p) (h2 : Sd M l b q) (hk : k ≤ 12) (hl : l ≤ 12) : pyDeep M a b = some (p, q) := by
  unfold pyDeep
  have e1 := h.de
  have e2 := h2.de
  have s1 : SeqAt.shaped p = true := by unfold SeqAt.shaped; simp [h.la]; omega
  have s2 : SeqAt.shaped q = true := by unfold SeqAt.shaped; simp [h2.la]; omega
  rw [h.py 12 hk, h2.py 12 hl]
  simp [s1, s2]
/-- no scalar -/
def big : D → Bool
  | .tup _ => true
  | .lst _ => true
  | .ref _ => true
  | _ => false
theorem eqD_sd {M : Mem} {k l : Nat} {a b : D} {p q : PyData} (hb : big a = true) (h : Sd M k a p) (h2 : Sd M l b q) (hk : k ≤ 12) (hl : l ≤ 12) : eqD M a b = some (PyData.eqv p q) := by
  have e := deep_sd h h2 hk hl
  cases a <;> simp [big] at hb <;> (show (pyDeep M _ _).map _ = _) <;> rw [e] <;> rfl
theorem kEq_sd {M : Mem} {k l : Nat} {a b : D} {p q : PyData} (hb : big a = true) (h : Sd M k a p) (h2 : Sd M l b q) (hk : k ≤ 12) (hl : l ≤ 12) : kEq a b M = .ok (.bl (PyData.eqv p q)) M := by
  unfold kEq; rw [eqD_sd hb h h2 hk hl]; rfl
theorem kNe_sd {M : Mem} {k l : Nat} {a b : D} {p q : PyData} (hb : big a = true) (h : Sd M k a p) (h2 : Sd M l b q) (hk : k ≤ 12) (hl : l ≤ 12) : kNe a b M = .ok (.bl (!PyData.eqv p q)) M := by
  unfold kNe; rw [eqD_sd hb h h2 hk hl]; rfl
theorem sd_nil {M : Mem} : Sd M 2 (.lst []) (.list []) := Sd.lst (e := fun x : Nat => .int x) (q := fun x : Nat => .int x) (xs := []) (by omega) (by simp)
theorem eqv_nil (ps : List PyData) : PyData.eqv (.list ps) (.list []) = ps.isEmpty := by cases ps <;> simp [PyData.eqv, PyData.eqvAll]
theorem cut_take (ds : List D) (i : Nat) (h : i ≤ ds.length) : cutD' ds none (some (i : Int)) = ds.take i := by
  unfold cutD'
  rw [HT.sIx_nat, HT.sIx_none, Nat.min_eq_left h]; simp
theorem cut_drop (ds : List D) (i : Nat) (h : i ≤ ds.length) : cutD' ds (some (i : Int)) none = ds.drop i := by
  unfold cutD'
  rw [HT.sIx_nat, HT.sIx_none, Nat.min_eq_left h]
  rw [List.take_of_length_le (by simp)]
theorem rgDn_rev (n : Nat) : rgDn ((n : Int) - 1) n = (List.range n).reverse.map eN := by
  apply List.ext_getElem
  · simp [rgDn]
  · intro i h1 h2
    have hn : i < n := by simpa [rgDn] using h1
    simp [rgDn]
    omega
/-! the walk of the shares -/
abbrev eNode (p : Lots × Nat) : D := .tup [eLots p.1, .int p.2]
abbrev eShare (x : Lots) : D := .tup (x.map fun l => .tup (l.map eN))
theorem sd_eN {M : Mem} (i : Nat) : Sd M 1 (eN i) (.int i) := Sd.int _
theorem sd_eLot {M : Mem} (l : List Nat) : Sd M 2 (eLot l) (.list (l.map fun i : Nat => .int i)) := Sd.lst (by omega) fun x _ => sd_eN x
theorem sd_eLots {M : Mem} (x : Lots) : Sd M 3 (eLots x) (.list (x.map fun l => .list (l.map fun i : Nat => .int i))) := Sd.lst (by omega) fun l _ => sd_eLot l
theorem sd_node {M : Mem} (p : Lots × Nat) : Sd M 4 (eNode p) (.tuple [.list (p.1.map fun l => .list (l.map fun i : Nat => .int i)), .int p.2]) := Sd.tup2 (by omega) (sd_eLots p.1) ((Sd.int _).mono (by omega))
theorem kNe_wait {M : Mem} {W : List (Lots × Nat)} (h : M[0]? = some (.lst (W.map eNode))) : kNe (.ref 0) (.lst []) M = .ok (.bl (!W.isEmpty)) M := by
  rw [kNe_sd rfl (Sd.ref h (by omega) fun p _ => sd_node p) sd_nil (by omega) (by omega), eqv_nil]
  cases W <;> rfl
structure Lk (k : Nat) (x : Lots) : Prop where
  len : x.length ≤ k
  ll : ∀ lot ∈ x, lot.length ≤ k
  lt : ∀ lot ∈ x, ∀ a ∈ lot, a < k
theorem lk_nil : Lk 0 [] := ⟨by simp, by simp, by simp⟩
theorem Lk.kid {F : Nat → Nat → Bool} {m k : Nat} {x y : Lots} (h : Lk k x) (hy : y ∈ kids F m k x) : Lk (k + 1) y := by
  rcases mem_ext.mp (mem_kids.mp hy).1 with rfl | ⟨i, h1, h2, rfl⟩
  · refine ⟨by have := h.len; simp; omega, ?_, ?_⟩
    · intro lot hl; simp at hl; rcases hl with hl | rfl
      · have := h.ll lot hl; omega
      · simp
    · intro lot hl; simp at hl; rcases hl with hl | rfl
      · intro a ha; have := h.lt lot hl a ha; omega
      · simp
  · have gm := getD_mem h1
    refine ⟨by rw [putAt_len h1]; have := h.len; omega, ?_, ?_⟩
    · intro lot hl; rcases mem_putAt h1 hl with hl | rfl
      · have := h.ll lot hl; omega
      · have := h.ll _ gm; simp at this ⊢; omega
    · intro lot hl; rcases mem_putAt h1 hl with hl | rfl
      · intro a ha; have := h.lt lot hl a ha; omega
      · intro a ha
        rcases List.mem_append.mp ha with ha | ha
        · have := h.lt _ gm a ha; omega
        · simp at ha; omega
theorem oSome_ok {f : FE} {env : DEnv} {M M1 : Mem} {i : Int} (h : f env M = .ok (.int i) M1) : oSome f env M = .ok (some i) M1 := by
  unfold oSome; rw [h]; rfl
@[simp] theorem ev_oSomeV {v : Nat} {env : DEnv} {M : Mem} : oSome (fVar v) env M = (RV env[v]? M).bnd fun d M1 => (match d with
  | .int i => .ok (some i) M1
  | _ => .stuck) := nd rfl
@[simp] theorem ev_oSomeA {v : Nat} {c : Int} {env : DEnv} {M : Mem} : oSome (f2 kAdd (fVar v) (fC (.int c))) env M = (f2 kAdd (fVar v) (fC (.int c)) env M).bnd fun d M1 => (match d with
  | .int i => .ok (some i) M1
  | _ => .stuck) := nd rfl
@[irreducible] def fBody : FS := (sIf (tNotF (tOf (fCall (kPur (shN 3) m_touches) (aCons (fVar 0) (aCons (f2 kIx (fVar 5) (fVar 4)) (aCons (fOf kLst (aCons (fVar 6) aNil)) aNil))) aNil))) (sDrop (fBm kAppend (fVar 3) (aCons (fOf kTup (aCons (f2 kAdd (f2 kAdd (fSl (fVar 5) oNone (oSome (fVar 4))) (fOf kLst (aCons (f2 kAdd (f2 kIx (fVar 5) (fVar 4)) (fOf kLst (aCons (fVar 6) aNil))) aNil))) (fSl (fVar 5) (oSome (f2 kAdd (fVar 4) (fC (.int 1)))) oNone)) (aCons (f2 kAdd (fVar 6) (fC (.int 1))) aNil))) aNil))) sNil)
theorem eLots_getD {x : Lots} {i : Nat} (h : i < x.length) : (x.map eLot)[i]? = some (eLot (x.getD i [])) := by
  rw [List.getElem?_map, List.getD_eq_getElem?_getD, List.getElem?_eq_getElem h]; rfl
theorem fBody_ok {F : Nat → Nat → Bool} {n k : Nat} (hn : n ≤ 8) (hk : k < n) {x : Lots} (hx : Lk k x) {i : Nat} (hi : i < x.length) {W : List (Lots × Nat)} (hW : W.length < 16777216) (m : Nat) (y : Option D) :
    fBody [some (ePs (prs F n)), some (.int n), some (.int m), some (.ref 0), some (.int i), some (eLots x), some (.int k), y] [.lst (W.map eNode)] =
    .next [some (ePs (prs F n)), some (.int n), some (.int m), some (.ref 0), some (.int i), some (eLots x), some (.int k), y] [.lst ((if okAt F k x i = true then W ++ [(putAt x k i, k + 1)] else W).map eNode)] := by
  have hp : (prs F n).length ≤ 16777216 := by
    have := prs_len F n
    have e5 : n * n ≤ 64 := Nat.le_trans (Nat.mul_le_mul hn hn) (by decide)
    omega
  have gm := getD_mem hi
  have e4 := touches_ok (ps := prs F n) (l := x.getD i []) (l2 := [k]) hp [.lst (W.map eNode)]
  rw [tch_prs hk (hx.lt _ gm), show ((x.getD i []).all fun a => F a k) = okAt F k x i from rfl] at e4
  have e5 := eLots_getD hi
  have l1 := hx.len
  have l2 := hx.ll _ gm
  have e6 : cutD' (x.map eLot) (some ((i : Int) + 1)) none = (x.map eLot).drop (i + 1) := cut_drop _ (i + 1) (by simp; omega)
  have e7 : cutD' (x.map eLot) none (some (i : Int)) = (x.map eLot).take i := cut_take _ i (by simp; omega)
  generalize hq : x.getD i [] = q at *
  have hq' : x[i]?.getD [] = q := by rw [← hq, List.getD_eq_getElem?_getD]
  have e4 : kPure m_touches [ePs (prs F n), eLot q, .lst [.int k]] [.lst (W.map eNode)] = .ok (.bl !okAt F k x i) [.lst (W.map eNode)] := e4
  unfold fBody
  cases ho : okAt F k x i with
  | true =>
    rw [ho] at e4
    have g1 : min i x.length + 1 ≤ 16777216 := by omega
    have g2 : min i x.length + 1 + (x.length - (i + 1)) ≤ 16777216 := by omega
    have g3 : q.length + 1 ≤ 16777216 := by omega
    simp [atI_ofNat, e5, e4, e6, e7, g1, g2, g3, hW]
    simp [putAt, hq', List.map_take, List.map_drop]
  | false =>
    rw [ho] at e4
    simp [atI_ofNat, e5, e4]
theorem kRg3_ok {M : Mem} (l : Nat) (h : l < 2 ^ 60) : kRg3 [.int ((l : Int) - 1), .int (-1), .int (-1)] M = .ok ((List.range l).reverse.map eN) M := by
  unfold kRg3
  dsimp only
  rw [if_pos (by omega), show ((l : Int) - 1 - -1).toNat = l by omega, rgDn_rev]
@[irreducible] def sBody : FS := (sSeq (sAsg (.tup [(.name 5), (.name 6)]) (fBm kPop (fVar 3) aNil))
  (sSeq (sIf (tOf (f2 kEq (fVar 6) (fVar 1))) (sRet (fOf (k1 kTuple) (aCons (fComp [7] (iOf kIt (fVar 5)) (.name 7) tYesF (fOf (k1 kTuple) (aCons (fVar 7) aNil))) aNil))) sNil)
  (sSeq (sIf (tOf (f2 kLt (fOf (k1 kLen) (aCons (fVar 5) aNil)) (fVar 2))) (sDrop (fBm kAppend (fVar 3) (aCons (fOf kTup (aCons (f2 kAdd (fVar 5) (fOf kLst (aCons (fOf kLst (aCons (fVar 6) aNil)) aNil))) (aCons (f2 kAdd (fVar 6) (fC (.int 1))) aNil))) aNil))) sNil)
  (sForI (iOfA kRg3 (aCons (f2 kSub (fOf (k1 kLen) (aCons (fVar 5) aNil)) (fC (.int 1))) (aCons (f1 kNeg (fC (.int 1))) (aCons (f1 kNeg (fC (.int 1))) aNil)))) (.name 4) fBody))))
abbrev shEnv (F : Nat → Nat → Bool) (n m : Nat) (a b c y : Option D) : DEnv := [some (ePs (prs F n)), some (.int n), some (.int m), some (.ref 0), a, b, c, y]
theorem sBody_end {F : Nat → Nat → Bool} {n m : Nat} {V : List (Lots × Nat)} {x : Lots} (hx : x.length ≤ 100) (a b c y : Option D) : sBody (shEnv F n m a b c y) [.lst ((V ++ [(x, n)]).map eNode)] = .ret (eShare x) [.lst (V.map eNode)] := by
  have e1 := compL_map (own := [7]) (t := .name 7) (tt := tYesF) (f := (fOf (k1 kTuple) (aCons (fVar 7) aNil))) (env := [some (ePs (prs F n)), some (.int n), some (.int m), some (.ref 0), a, some (eLots x), some (.int n), y]) (e := eLot) (g := fun l => .tup (l.map eN)) (M := [.lst (V.map eNode)]) x (by
    intro l hl
    exact ⟨_, rfl, rfl, by simp [wipeD]⟩)
  have hx2 : x.length ≤ 16777216 := by omega
  unfold sBody
  simp [e1, kLst_ok, hx2]
theorem sBody_step {F : Nat → Nat → Bool} {n m k : Nat} (hn : n ≤ 8) (hk : k < n) {V : List (Lots × Nat)} (hV : V.length ≤ 10000) {x : Lots} (hx : Lk k x) (a b c y : Option D) : ∃ a', sBody (shEnv F n m a b c y) [.lst ((V ++ [(x, k)]).map eNode)] = .next (shEnv F n m a' (some (eLots x)) (some (.int k)) y) [.lst ((V ++ (kids F m k x).map fun z => (z, k + 1)).map eNode)] := by
  have l1 := hx.len
  have hW : ∀ B : List Lots, B.length ≤ 1 → ∃ a', sFor (.name 4) fBody ((List.range x.length).reverse.map eN) (shEnv F n m a (some (eLots x)) (some (.int k)) y) [.lst ((V ++ B.map fun z => (z, k + 1)).map eNode)] = .next (shEnv F n m a' (some (eLots x)) (some (.int k)) y) [.lst ((V ++ (B ++ ((List.range x.length).reverse.filter (okAt F k x)).map (putAt x k)).map fun z => (z, k + 1)).map eNode)] := by
    intro B hB
    obtain ⟨env2, M2, h1, ⟨a', rfl⟩, rfl⟩ := for_inv (t := .name 4) (b := fBody) (e := eN) (xs := (List.range x.length).reverse) (env := shEnv F n m a (some (eLots x)) (some (.int k)) y) (M := [.lst ((V ++ B.map fun z => (z, k + 1)).map eNode)])
      (I := fun pre env M => (∃ a', env = shEnv F n m a' (some (eLots x)) (some (.int k)) y) ∧ M = [.lst ((V ++ (B ++ (pre.filter (okAt F k x)).map (putAt x k)).map fun z => (z, k + 1)).map eNode)]) ⟨⟨_, rfl⟩, by simp⟩ (by
        rintro pre i post env M hxs ⟨⟨a', rfl⟩, rfl⟩
        refine ⟨_, rfl, ?_⟩
        have hi : i < x.length := by
          have : i ∈ (List.range x.length).reverse := by rw [hxs]; simp
          simpa using this
        have hpre : pre.length ≤ x.length := by
          have := congrArg List.length hxs
          simp at this; omega
        have hf : (pre.filter (okAt F k x)).length ≤ pre.length := List.length_filter_le _ _
        have hl : (V ++ (B ++ (pre.filter (okAt F k x)).map (putAt x k)).map fun z => (z, k + 1)).length < 16777216 := by simp; omega
        simp only [List.set_cons_succ, List.set_cons_zero, shEnv]
        rw [fBody_ok hn hk hx hi hl m y]
        simp only [RS.goes_next]
        refine ⟨⟨_, rfl⟩, ?_⟩
        cases ho : okAt F k x i <;> simp [ho, List.filter_append])
    exact ⟨a', h1⟩
  have e0 : ∀ M : Mem, kRg3 [.int ((x.length : Int) - 1), .int (-1), .int (-1)] M = .ok ((List.range x.length).reverse.map eN) M := fun M => kRg3_ok _ (by omega)
  have hkn : ¬ ((k : Int) = n) := by omega
  unfold sBody
  by_cases hm : x.length < m
  · obtain ⟨a', h1⟩ := hW [x ++ [[k]]] (by simp)
    refine ⟨a', ?_⟩
    have hx2 : x.length + 1 ≤ 16777216 := by omega
    have hV2 : V.length < 16777216 := by omega
    simp only [kids, if_pos hm]
    rw [← h1]
    simp [hkn, hm, hx2, hV2, e0, eNode, eLots]
    rfl
  · obtain ⟨a', h1⟩ := hW [] (by simp)
    refine ⟨a', ?_⟩
    simp only [kids, if_neg hm]
    rw [← h1]
    simp [hkn, hm, e0]
theorem lvs_app (F : Nat → Nat → Bool) (m n : Nat) (V W : List (Lots × Nat)) : lvs F m n (V ++ W) = lvs F m n V ++ lvs F m n W := by simp [lvs]
abbrev shCond : FT := (tOf (f2 kNe (fVar 3) (fOf kLst aNil)))
theorem share_loop {F : Nat → Nat → Bool} {n m : Nat} (hn : n ≤ 8) : ∀ (f : Nat) (W : List (Lots × Nat)) (a b c y : Option D), (∀ p ∈ W, Lk p.2 p.1 ∧ p.2 ≤ n) → tot n W < f → f ≤ 10000 →
    (∃ x ∈ lvs F m n W, ∃ M', sWhile shCond sBody f (shEnv F n m a b c y) [.lst (W.map eNode)] = .ret (eShare x) M') ∨ (lvs F m n W = [] ∧ ∃ env' M', sWhile shCond sBody f (shEnv F n m a b c y) [.lst (W.map eNode)] = .next env' M')
  | 0, W, a, b, c, y, _, h, _ => by omega
  | f + 1, W, a, b, c, y, hw, h, hf => by
    have ec : shCond (shEnv F n m a b c y) [.lst (W.map eNode)] = .ok (!W.isEmpty) [.lst (W.map eNode)] := by
      have := kNe_wait (M := [.lst (W.map eNode)]) (W := W) rfl
      simp [this]
    rcases List.eq_nil_or_concat W with rfl | ⟨V, ⟨x, k⟩, rfl⟩
    · refine .inr ⟨rfl, ?_⟩
      rw [while_end ec]
      exact ⟨_, _, rfl⟩
    · rw [List.concat_eq_append] at *
      have ec' : shCond (shEnv F n m a b c y) [.lst ((V ++ [(x, k)]).map eNode)] = .ok true [.lst ((V ++ [(x, k)]).map eNode)] := by rw [ec]; simp
      obtain ⟨hx, hkn⟩ := hw (x, k) (by simp)
      have htl := tot_len n (V ++ [(x, k)])
      rw [List.length_append] at htl
      by_cases hk : k = n
      · subst hk
        refine .inl ⟨x, by simp [lvs_app, lvs, desc], [.lst (V.map eNode)], ?_⟩
        rw [while_step, ec']
        simp only [RS.thn_ok, if_true]
        rw [sBody_end (by have := hx.len; simp at *; omega)]
        rfl
      · obtain ⟨a', hb⟩ := sBody_step (F := F) (m := m) hn (show k < n by simp at hkn; omega) (V := V) (by omega) hx a b c y
        rw [while_go ec' hb]
        have hd : desc F m (n - k) k x = (kids F m k x).flatMap (desc F m (n - (k + 1)) (k + 1)) := by
          obtain ⟨d, hd⟩ : ∃ d, n - k = d + 1 := ⟨n - k - 1, by simp at hkn; omega⟩
          rw [hd, show n - (k + 1) = d by omega]; rfl
        have hl : lvs F m n (V ++ [(x, k)]) = lvs F m n (V ++ (kids F m k x).map fun z => (z, k + 1)) := by
          rw [lvs_app, lvs_app]
          congr 1
          simp [lvs, hd, List.flatMap_map]
        rw [hl]
        refine share_loop hn f _ a' _ _ y ?_ ?_ (by omega)
        · intro p hp
          rcases List.mem_append.mp hp with hp | hp
          · exact hw p (by simp [hp])
          · obtain ⟨z, hz, rfl⟩ := List.mem_map.mp hp
            exact ⟨hx.kid hz, by simp at hkn ⊢; omega⟩
        · have := tot_kids (F := F) (m := m) (n := n) (k := k) (l := x) (by simp at hkn; omega)
          rw [tot_app] at h ⊢
          simp only [tot, List.map_cons, List.map_nil, List.sum_cons, List.sum_nil, Nat.add_zero] at h this ⊢
          omega
def eO : Option Lots → D
  | none => .non
  | some x => eShare x
def ShareIs (F : Nat → Nat → Bool) (n m : Nat) : Option Lots → Prop
  | none => ∀ x ∈ pts F n, m < x.length
  | some x => x ∈ pts F n ∧ x.length ≤ m
theorem share_in_ok {F : Nat → Nat → Bool} {n m : Nat} (hn : n ≤ 6) : ∃ o, ShareIs F n m o ∧ ∀ M, kPure m_share_in [ePs (prs F n), .int n, .int m] M = .ok (eO o) M := by
  suffices h : ∃ o, ShareIs F n m o ∧ m_share_in [ePs (prs F n), .int n, .int m] [] = .ok (eO o) [] by
    obtain ⟨o, h1, h2⟩ := h
    exact ⟨o, h1, fun M => pure_ok (es := [ePs (prs F n), .int n, .int m]) (by simp) h2 (by cases o <;> simp [eO])⟩
  have hB : Bd n 0 < 400 := by
    have : n = 0 ∨ n = 1 ∨ n = 2 ∨ n = 3 ∨ n = 4 ∨ n = 5 ∨ n = 6 := by omega
    rcases this with rfl | rfl | rfl | rfl | rfl | rfl | rfl <;> decide
  have eb : b_share_in = (sSeq (sSet 3 (fOf kOwn (aCons (fOf kTup (aCons (fOf kLst aNil) (aCons (fC (.int 0)) aNil))) aNil)))
    (sSeq (sWhile shCond sBody 400) (sRet (fC .non)))) := by unfold b_share_in sBody fBody; rfl
  have e0 : (D.tup [.lst [], .int 0]) = eNode ([], 0) := rfl
  have hlv : lvs F m n [([], 0)] = desc F m n 0 [] := by simp [lvs]
  rcases share_loop (F := F) (m := m) (show n ≤ 8 by omega) 400 [([], 0)] none none none none (by simp; exact lk_nil) (by simp [tot]; exact hB) (by omega) with ⟨x, hx, M', h1⟩ | ⟨hx, env', M', h1⟩
  · rw [hlv] at hx
    refine ⟨some x, desc_iff.mp hx, ?_⟩
    simp only [m_share_in, eb]
    simp only [List.map_cons, List.map_nil, shEnv, ← e0] at h1
    simp [h1, eO]
    exact trim0b (by simp)
  · rw [hlv] at hx
    refine ⟨none, ?_, ?_⟩
    · intro x hp
      by_cases q : x.length ≤ m
      · have := desc_iff.mpr ⟨hp, q⟩
        rw [hx] at this; simp at this
      · omega
    · simp only [m_share_in, eb]
      simp only [List.map_cons, List.map_nil, shEnv, ← e0] at h1
      simp [h1, eO]
      exact trim0b (by simp)
end K91P

-- K91E
set_option Elab.async false
set_option linter.all false
set_option maxRecDepth 100000
set_option maxHeartbeats 1000000
namespace K91P
open PySem DL L2 K91
/-! the fewest riders -/
abbrev fwC : FT := (tOf (f2 kIsN (fCall (kPur (shN 3) m_share_in) (aCons (fVar 3) (aCons (fVar 4) (aCons (fVar 2) aNil))) aNil) (fC .non)))
abbrev fwB : FS := (sAug 2 (fun i j => i + j) (fC (.int 1)))
theorem few_loop {F : Nat → Nat → Bool} {n : Nat} (hn : n ≤ 6) (a b z : Option D) (M : Mem) : ∀ (d m f : Nat), m + d = few F n → d < f →
    sWhile fwC fwB f [a, b, some (.int m), some (ePs (prs F n)), some (.int n), z] M = .next [a, b, some (.int (few F n)), some (ePs (prs F n)), some (.int n), z] M
  | 0, m, f, h, hf => by
    obtain ⟨f, rfl⟩ : ∃ k, f = k + 1 := ⟨f - 1, by omega⟩
    obtain ⟨o, h1, h2⟩ := share_in_ok (F := F) (m := m) hn
    cases o with
    | none =>
      obtain ⟨l, hl, hll⟩ := few_le_iff.mp (Nat.le_refl (few F n))
      have := h1 l hl
      omega
    | some x =>
      have : m = few F n := by omega
      subst this
      refine while_end ?_
      have h3 := h2 M
      simp [eO] at h3
      simp [h3, D.isNon]
  | d + 1, m, f, h, hf => by
    obtain ⟨f, rfl⟩ : ∃ k, f = k + 1 := ⟨f - 1, by omega⟩
    obtain ⟨o, h1, h2⟩ := share_in_ok (F := F) (m := m) hn
    cases o with
    | some x =>
      have := few_le_iff.mpr ⟨x, h1⟩
      omega
    | none =>
      have h3 := h2 M
      simp only [eO] at h3
      have e1 : fwC [a, b, some (.int m), some (ePs (prs F n)), some (.int n), z] M = .ok true M := by simp [h3, D.isNon]
      have e2 : fwB [a, b, some (.int m), some (ePs (prs F n)), some (.int n), z] M = .next [a, b, some (.int ((m + 1 : Nat) : Int)), some (ePs (prs F n)), some (.int n), z] M := rfl
      rw [while_go e1 e2]
      exact few_loop hn a b z M d (m + 1) f (by omega) (by omega)
section
variable {t : List (Nat × Nat)} (g : GoodT t) {v : Int × Int} (hv : Sp v) {cs : List Ca} (hc : ∀ c ∈ cs, GoodC t c) (hn : cs.length ≤ 6)
include g hv hc hn
theorem fewest_in_ok (M : Mem) : kPure m_fewest_in [eTree t, eDay v cs] M = .ok (.int (fewV t cs v)) M := by
  refine pure_ok (es := [eTree t, eDay v cs]) (by simp) ?_ (by simp)
  obtain ⟨c, hcl, h1⟩ := greatest_ok (F := Fv t cs v) (n := cs.length) (by omega)
  have e1 := contrary_in_ok g hv hc (show cs.length ≤ 8 by omega) []
  have e2 : kRg1 [.int (cs.length : Int)] [] = .ok ((List.range cs.length).map fun i => D.int (i : Nat)) [] := kRg1_nat _ (by omega)
  have e3 := compL_map (own := [5]) (t := .name 5) (tt := tYesF) (f := (fOf kLst (aCons (fVar 5) aNil))) (env := [some (eTree t), some (eDay v cs), none, some (ePs (prs (Fv t cs v) cs.length)), some (.int cs.length), none]) (e := fun i : Nat => D.int (i : Nat)) (g := eS1) (M := []) (List.range cs.length) (by
    intro i hi
    exact ⟨_, rfl, rfl, by simp [wipeD]⟩)
  have hle := cl_le hcl
  have e4 := few_loop (F := Fv t cs v) hn (some (eTree t)) (some (eDay v cs)) none [] (few (Fv t cs v) cs.length - c.length) c.length 64 (by omega) (by have := few_le_n (Fv t cs v) cs.length; omega)
  have hl : cs.length ≤ 16777216 := by omega
  simp [m_fewest_in, b_fewest_in, e1, e2, e3, hl, h1, e4]
  rfl
end
end K91P

-- K91L
set_option Elab.async false
set_option linter.all false
set_option maxRecDepth 100000
set_option maxHeartbeats 1000000
namespace K91P
open PySem DL L2 K91
/-! what is passed -/
theorem dataLt_iii (x y z x' y' z' : Int) : PySem.W.dataLt (.tuple [.int x, .int y, .int z]) (.tuple [.int x', .int y', .int z']) = decide (x < x' ∨ (x = x' ∧ (y < y' ∨ (y = y' ∧ z < z')))) := by
  rw [PySem.W.dataLt_tuple, PySem.W.dataLt_cons (by simp [PySem.W.alike]), PySem.W.dataLt_cons (by simp [PySem.W.alike]), PySem.W.dataLt_cons (by simp [PySem.W.alike]), PySem.W.dataLt_int, PySem.W.dataLt_int, PySem.W.dataLt_int]
  have e : PyProof.Rows.lexLt PyProof.Rows.itemOrd (PySem.W.keyToksAll []) (PySem.W.keyToksAll []) = false := PyProof.Rows.lex_irrefl _
  rw [e]
  simp only [PyData.eqv, beq_iff_eq]
  by_cases h1 : x = x' <;> by_cases h2 : y = y' <;> by_cases h3 : z = z' <;> simp [h1, h2, h3]
def ltC (c c' : Ca) : Prop := c.h < c'.h ∨ (c.h = c'.h ∧ (c.p < c'.p ∨ (c.p = c'.p ∧ c.r < c'.r)))
abbrev pCa (c : Ca) : PyData := .tuple [.int c.h, .int c.p, .int c.r]
theorem sd_eCa {M : Mem} (c : Ca) : Sd M 2 (eCa c) (pCa c) :=
  Sd.tup (e := fun i : Int => .int i) (q := fun i : Int => .int i) (xs := [(c.h : Int), c.p, c.r]) (by omega) (fun i _ => Sd.int i)
theorem kLtT_ok {M : Mem} {c c' : Ca} (h : ltC c c') : kLtT (eCa c) (eCa c') M = .ok (.bl true) M := by
  unfold kLtT
  rw [deep_sd (sd_eCa c) (sd_eCa c') (by omega) (by omega)]
  have e1 : PySem.W.alike (pCa c) (pCa c') = true := by simp [PySem.W.alike, PySem.W.alikeAll]
  have e2 : PySem.W.dataLt (pCa c) (pCa c') = true := by
    rw [dataLt_iii, decide_eq_true_eq]
    unfold ltC at h; omega
  dsimp only
  rw [if_pos e1, e2]
structure DayOk (t : List (Nat × Nat)) (v : Int × Int) (cs : List Ca) : Prop where
  can : Can v
  sp : Sp v
  gc : ∀ c ∈ cs, GoodC t c
  ne : 0 < cs.length
  le : cs.length ≤ 6
  ri : cs.Pairwise ltC
theorem can_gcd {v : Int × Int} (h : Can v) : Nat.gcd v.1.natAbs v.2.natAbs = 1 := by
  obtain ⟨h1, h2⟩ := h
  have h3 : v.2 / (Nat.gcd v.1.natAbs v.2.natAbs : Nat) = v.2 := congrArg Prod.snd h2
  have h4 : ((Nat.gcd v.1.natAbs v.2.natAbs : Nat) : Int) ∣ v.2 := Int.ofNat_dvd_left.mpr (Nat.gcd_dvd_right _ _)
  have h5 := Int.mul_ediv_cancel' h4
  rw [h3] at h5
  have h6 : ((Nat.gcd v.1.natAbs v.2.natAbs : Nat) : Int) * v.2 = 1 * v.2 := by rw [h5]; omega
  have := (Int.mul_eq_mul_right_iff (by omega)).mp h6
  omega
theorem is_ratio_ok {v : Int × Int} (h : Can v) (hs : Sp v) (M : Mem) : kPure m_is_ratio [eR v] M = .ok (.bl true) M := by
  refine pure_ok (es := [eR v]) (by simp) ?_ (by simp)
  have e1 : kPure m_is_row [eR v, .int 2] [] = .ok (.bl true) [] := is_rowP (n := 2) rfl (by simp)
  have e2 := can_gcd h
  obtain ⟨s1, s2, s3, s4⟩ := hs
  have e3 : ¬ v.2 < 1 := by omega
  have e4 : v.2 < (10 : Int) ^ 400 := Int.lt_of_lt_of_le s4 (by decide +kernel)
  have e5 : (v.1.natAbs : Int) < (10 : Int) ^ 400 := Int.lt_of_lt_of_le (show (v.1.natAbs : Int) < 2 ^ 40 by omega) (by decide +kernel)
  have q : (10 : Int) ^ 400 = 10000000000000000000000000000000000000000000000000000000000000000000000000000000000000000000000000000000000000000000000000000000000000000000000000000000000000000000000000000000000000000000000000000000000000000000000000000000000000000000000000000000000000000000000000000000000000000000000000000000000000000000000000000000000000000000000000000000000000000000000000000000000000000000000000000000000000000 := by decide +kernel
  rw [q] at e4 e5
  simp [m_is_ratio, b_is_ratio, e1, e3, kAbs_na, -kAbs_int, kGcd_int, e2, e4, e5]
theorem want_tree_ok {t : List (Nat × Nat)} (g : GoodT t) (M : Mem) : kPure m_want_tree [eTree t] M = .ok (eTree t) M := by
  refine pure_ok (es := [eTree t]) (by simp) ?_ (by simp)
  simp [m_want_tree, b_want_tree, is_tree_ok t g]
  exact trimR_same rfl (by simp)
theorem is_call_ok {t : List (Nat × Nat)} {c : Ca} (h : GoodC t c) (M : Mem) : kPure m_is_call [eTree t, eCa c] M = .ok (.bl true) M := by
  refine pure_ok (es := [eTree t, eCa c]) (by simp [fz_eCa]) ?_ (by simp)
  have e1 : kPure m_is_row [eCa c, .int 3] [] = .ok (.bl true) [] := is_rowP (n := 3) rfl (by simp)
  obtain ⟨h1, h2, h3⟩ := h
  have e2 := is_within_int (c.h : Int) 0 99 (by omega) []
  have e3 := is_within_int (c.r : Int) 0 9999 (by omega) []
  have e4 := is_within_int (c.p : Int) 0 (t.length : Int) (by omega) []
  simp [m_is_call, b_is_call, e1, e2, e3, e4]
theorem kAll_true {α : Type} (xs : List α) (M : Mem) : kAll (.lst (xs.map fun _ => D.bl true)) M = .ok (.bl true) M := by
  rw [kAll_map (g := fun _ => true)]; simp
theorem want_day_ok {t : List (Nat × Nat)} (g : GoodT t) {v : Int × Int} {cs : List Ca} (h : DayOk t v cs) (M : Mem) : kPure m_want_day [eTree t, eDay v cs] M = .ok .non M := by
  refine pure_ok (es := [eTree t, eDay v cs]) (by simp) ?_ (by simp)
  have e0 : kPure m_is_day_in [eTree t, eDay v cs] [] = .ok (.bl true) [] := by
    refine pure_ok (es := [eTree t, eDay v cs]) (by simp) ?_ (by simp)
    have e1 : kPure m_is_row [eDay v cs, .int 3] [] = .ok (.bl true) [] := is_rowP (n := 3) rfl (by simp)
    have e2 := is_ratio_ok h.can h.sp []
    have h1 := h.ne
    have h2 := h.le
    have e3 : (1 : Int) ≤ cs.length := by omega
    have e4 : (cs.length : Int) ≤ 8 := by omega
    have e5 : ¬ v.1 < 0 := by have := h.sp.1; omega
    have e6 := compL_map (own := [4]) (t := .name 4) (tt := tYesF) (f := (fCall (kPur (shN 2) m_is_call) (aCons (fVar 0) (aCons (fVar 4) aNil)) aNil)) (env := [some (eTree t), some (eDay v cs), none, none, none]) (e := eCa) (g := fun _ => .bl true) (M := []) cs (by
      intro c hc
      refine ⟨_, rfl, rfl, ?_⟩
      simp [wipeD, is_call_ok (h.gc c hc)])
    have e7 := compL_map (own := [2, 3]) (t := .tup [(.name 2), (.name 3)]) (tt := tYesF) (f := (f2 kLtT (fVar 2) (fVar 3))) (env := [some (eTree t), some (eDay v cs), none, none, none]) (e := fun p : Ca × Ca => .tup [eCa p.1, eCa p.2]) (g := fun _ => .bl true) (M := []) (cs.zip cs.tail) (by
      intro p hp
      refine ⟨_, rfl, rfl, ?_⟩
      have hlt : ltC p.1 p.2 := by
        obtain ⟨i, hi, rfl⟩ := List.mem_iff_getElem.mp hp
        simp at hi
        simp only [List.getElem_zip, List.getElem_tail]
        exact List.pairwise_iff_getElem.mp h.ri i (i + 1) (by omega) (by omega) (by omega)
      simp [wipeD, kLtT_ok hlt])
    have hl : cs.length ≤ 16777216 := by omega
    have hl2 : (cs.zip cs.tail).length ≤ 16777216 := by simp; omega
    simp [m_is_day_in, b_is_day_in, e1, e2, e3, e4, e5, e6, hl, kZp_tup, ← List.map_tail, zpF_map, e7, kAll_true]
    rw [kLst_ok (by simp; omega)]
    simp [kAll_true]
  simp [m_want_day, b_want_day, want_tree_ok g, e0]
end K91P

-- K91I
set_option Elab.async false
set_option linter.all false
set_option maxRecDepth 100000
set_option maxHeartbeats 1000000
namespace K91P
open PySem DL L2 K91
/-! speeds -/
def thrRow (t : List (Nat × Nat)) (cs : List Ca) (j : Nat) : List (Int × Int) := (List.range j).flatMap fun i => thr t (cAt cs i) (cAt cs j)
theorem thr_len (t : List (Nat × Nat)) (c c' : Ca) : (thr t c c').length ≤ 1 := by unfold thr; split <;> simp
theorem flat_len {α β : Type} (f : α → List β) (h : ∀ x, (f x).length ≤ 1) : ∀ xs : List α, (xs.flatMap f).length ≤ xs.length
  | [] => by simp
  | x :: xs => by
    have := flat_len f h xs
    have := h x
    rw [List.flatMap_cons, List.length_append, List.length_cons]; omega
theorem thrRow_len (t : List (Nat × Nat)) (cs : List Ca) (j : Nat) : (thrRow t cs j).length ≤ j := by
  have := flat_len (fun i => thr t (cAt cs i) (cAt cs j)) (fun i => thr_len _ _ _) (List.range j)
  rw [List.length_range] at this
  exact this
theorem thrs_succ (t : List (Nat × Nat)) (cs : List Ca) (n : Nat) : thrs t cs (n + 1) = thrs t cs n ++ thrRow t cs n := by simp [thrs, thrRow, List.range_succ]
theorem thrs_len (t : List (Nat × Nat)) (cs : List Ca) : ∀ n, (thrs t cs n).length ≤ n * n
  | 0 => by simp [thrs]
  | n + 1 => by
    have := thrs_len t cs n
    have := thrRow_len t cs n
    rw [thrs_succ, List.length_append]; grind
theorem rise_len : ∀ (n : Nat) (xs : List (Int × Int)), (rise n xs).length ≤ n
  | 0, _ => by simp [rise]
  | _ + 1, [] => by simp [rise]
  | n + 1, x :: xs => by have := rise_len n ((x :: xs).filter fun y => !decide (y = mn x (x :: xs))); simp [rise]; omega
theorem sd_eR {M : Mem} (v : Int × Int) : Sd M 2 (eR v) (.tuple [.int v.1, .int v.2]) :=
  Sd.tup (e := fun i : Int => .int i) (q := fun i : Int => .int i) (xs := [v.1, v.2]) (by omega) (fun i _ => Sd.int i)
theorem kNe_eR {M : Mem} (u v : Int × Int) : kNe (eR u) (eR v) M = .ok (.bl (!decide (u = v))) M := by
  rw [kNe_sd rfl (sd_eR u) (sd_eR v) (by omega) (by omega)]
  congr 2
  obtain ⟨a, b⟩ := u; obtain ⟨c, d⟩ := v
  by_cases h1 : a = c <;> by_cases h2 : b = d <;> simp [PyData.eqv, PyData.eqvAll, h1, h2]
theorem kEq_eR {M : Mem} (u v : Int × Int) : kEq (eR u) (eR v) M = .ok (.bl (decide (u = v))) M := by
  rw [kEq_sd rfl (sd_eR u) (sd_eR v) (by omega) (by omega)]
  congr 2
  obtain ⟨a, b⟩ := u; obtain ⟨c, d⟩ := v
  by_cases h1 : a = c <;> by_cases h2 : b = d <;> simp [PyData.eqv, PyData.eqvAll, h1, h2]
theorem kNe_eRs {M : Mem} (xs : List (Int × Int)) : kNe (.lst (xs.map eR)) (.lst []) M = .ok (.bl (!xs.isEmpty)) M := by
  rw [kNe_sd rfl (Sd.lst (by omega) fun p _ => sd_eR p) sd_nil (by omega) (by omega), eqv_nil]
  cases xs <;> rfl
section
variable {t : List (Nat × Nat)} (g : GoodT t) {cs : List Ca} (hc : ∀ c ∈ cs, GoodC t c)
include g hc
theorem over_b {i j : Nat} (hi : i < cs.length) (hj : j < cs.length) : -(2 ^ 21) < over t (cAt cs i) (cAt cs j) ∧ over t (cAt cs i) (cAt cs j) < 2 ^ 21 := by
  obtain ⟨a1, a2, a3⟩ := hc _ (cAt_mem hi)
  obtain ⟨b1, b2, b3⟩ := hc _ (cAt_mem hj)
  have := way_b g a2 b2
  unfold over
  omega
theorem dh_b {i j : Nat} (hi : i < cs.length) (hj : j < cs.length) : dh (cAt cs i) (cAt cs j) ≤ 99 := by
  obtain ⟨a1, a2, a3⟩ := hc _ (cAt_mem hi)
  obtain ⟨b1, b2, b3⟩ := hc _ (cAt_mem hj)
  unfold dh
  omega
theorem Ts_b : ∀ q ∈ Ts t cs, 0 ≤ q.1 ∧ q.1 < 2 ^ 21 ∧ 0 < q.2 ∧ q.2 ≤ 99 := by
  intro q hq
  have h2 := (can_Ts q hq).2
  rcases List.mem_cons.mp hq with rfl | hq
  · exact ⟨by simp, by simp, by simp, by simp⟩
  · obtain ⟨i, j, hij, hj, h0, h1, rfl⟩ := mem_thrs.mp hq
    have := over_b g hc (show i < cs.length by omega) hj
    have := dh_b g hc (show i < cs.length by omega) hj
    have := low_b (a := over t (cAt cs i) (cAt cs j)) (dh_pos h1)
    unfold Sp0 at h2
    omega
end
theorem rt_of {q : Int × Int} (h : 0 ≤ q.1 ∧ q.1 < 2 ^ 21 ∧ 0 < q.2 ∧ q.2 ≤ 99) : Rt q := by unfold Rt; omega
theorem sp_of {q : Int × Int} (h : 0 ≤ q.1 ∧ q.1 < 2 ^ 21 ∧ 0 < q.2 ∧ q.2 ≤ 99) : Sp q := by unfold Sp; omega
/-! the thresholds, as they are found -/
@[irreducible] def tBody : FS := (sSeq (sSet 13 (f2 kSub (f2 kSub (fCall (kPur (shN 3) m_way_in) (aCons (fVar 0) (aCons (fVar 11) (aCons (fVar 8) aNil))) aNil) (fVar 12)) (fVar 9)))
  (sIf (tAndF (tOf (f2 kGt (fVar 13) (fC (.int 0)))) (tOf (f2 kNe (fVar 7) (fVar 10)))) (sDrop (fBm kAppend (fVar 2) (aCons (fCall (kPur (shN 2) m_fraction) (aCons (fVar 13) (aCons (fOf (k1 kAbs) (aCons (f2 kSub (fVar 7) (fVar 10)) aNil)) aNil)) aNil) aNil))) sNil))
abbrev tEnv (t : List (Nat × Nat)) (v : Int × Int) (cs : List Ca) (j : Nat) (c : Ca) (x5 x6 a b r o : Option D) : DEnv := [some (eTree t), some (eDay v cs), some (.ref 0), none, some (.int j), x5, x6, some (.int c.h), some (.int c.p), some (.int c.r), a, b, r, o]
theorem tBody_ok {t : List (Nat × Nat)} (g : GoodT t) {v : Int × Int} {cs : List Ca} {c c' : Ca} (hc : GoodC t c) (hc' : GoodC t c') {j : Nat} {ts : List (Int × Int)} (hl : ts.length < 16777216) (x5 x6 o : Option D) :
    tBody (tEnv t v cs j c' x5 x6 (some (.int c.h)) (some (.int c.p)) (some (.int c.r)) o) [.lst (ts.map eR)] =
    .next (tEnv t v cs j c' x5 x6 (some (.int c.h)) (some (.int c.p)) (some (.int c.r)) (some (.int (over t c c')))) [.lst ((ts ++ thr t c c').map eR)] := by
  obtain ⟨a1, a2, a3⟩ := hc
  obtain ⟨b1, b2, b3⟩ := hc'
  have e1 := way_in_ok g a2 b2 [.lst (ts.map eR)]
  unfold tBody thr
  by_cases h0 : 0 < over t c c'
  · by_cases h1 : c'.h = c.h
    · have h0' : (c'.r : Int) < way t c.p c'.p - c.r := by unfold over at h0; omega
      simp [tEnv, e1, h0', h1, over]
    · have h0' : (c'.r : Int) < way t c.p c'.p - c.r := by unfold over at h0; omega
      have h1' : ¬ ((c'.h : Int) = c.h) := by omega
      have hd := dh_pos h1
      have e2 := fraction_ok (a := over t c c') hd (by unfold dh; omega) [.lst (ts.map eR)]
      simp only [over, dh] at e2
      simp [tEnv, e1, h0', h1, h1', kAbs_na, -kAbs_int, e2, hl, over, dh]
  · have h0' : ¬ (c'.r : Int) < way t c.p c'.p - c.r := by unfold over at h0; omega
    simp [tEnv, e1, h0', over]
section
variable {t : List (Nat × Nat)} (g : GoodT t) {v : Int × Int} {cs : List Ca} (hc : ∀ c ∈ cs, GoodC t c) (hn : cs.length ≤ 6)
include g hc hn
theorem take_cAt {i : Nat} (hi : i ≤ cs.length) : cs.take i = (List.range i).map (cAt cs) := by
  apply List.ext_getElem
  · simp; omega
  · intro k h1 h2
    simp at h1 h2
    simp [cAt, List.getD_eq_getElem?_getD, List.getElem?_eq_getElem (show k < cs.length by omega)]
theorem inner_ok {j : Nat} (hj : j < cs.length) {ts : List (Int × Int)} (hl : ts.length ≤ 1000) (x5 x6 a b r o : Option D) : ∃ a' b' r' o', sFor (.tup [(.name 10), (.name 11), (.name 12)]) tBody ((cs.take j).map eCa) (tEnv t v cs j (cAt cs j) x5 x6 a b r o) [.lst (ts.map eR)] = .next (tEnv t v cs j (cAt cs j) x5 x6 a' b' r' o') [.lst ((ts ++ thrRow t cs j).map eR)] := by
  obtain ⟨env2, M2, h1, ⟨a', b', r', o', rfl⟩, rfl⟩ := for_ix (t := .tup [(.name 10), (.name 11), (.name 12)]) (b := tBody) (e := eCa) (xs := cs.take j) (env := tEnv t v cs j (cAt cs j) x5 x6 a b r o) (M := [.lst (ts.map eR)])
    (I := fun i env M => (∃ a b r o, env = tEnv t v cs j (cAt cs j) x5 x6 a b r o) ∧ M = [.lst ((ts ++ (List.range i).flatMap fun k => thr t (cAt cs k) (cAt cs j)).map eR)]) ⟨⟨_, _, _, _, rfl⟩, by simp⟩ (by
      rintro i hi env M ⟨⟨a, b, r, o, rfl⟩, rfl⟩
      have hi' : i < j := by simp at hi; omega
      refine ⟨_, rfl, ?_⟩
      have ec : (cs.take j)[i] = cAt cs i := by
        simp [cAt, List.getD_eq_getElem?_getD, List.getElem?_eq_getElem (show i < cs.length by omega)]
      have hl2 := flat_len (fun k => thr t (cAt cs k) (cAt cs j)) (fun k => thr_len _ _ _) (List.range i)
      rw [List.length_range] at hl2
      have := tBody_ok (v := v) (cs := cs) g (hc _ (cAt_mem (show i < cs.length by omega))) (hc _ (cAt_mem hj)) (j := j) (ts := ts ++ (List.range i).flatMap fun k => thr t (cAt cs k) (cAt cs j)) (by rw [List.length_append]; omega) x5 x6 o
      simp only [tEnv, List.set_cons_succ, List.set_cons_zero, ec] at this ⊢
      rw [this]
      simp only [RS.goes_next]
      refine ⟨⟨_, _, _, _, rfl⟩, ?_⟩
      rw [List.range_succ]; simp)
  have e : (cs.take j).length = j := by simp; omega
  rw [e] at h1
  exact ⟨a', b', r', o', h1⟩
@[irreducible] def tFor : FS := (sForI (iOfA kEn (aCons (f2 kIx (fVar 1) (fC (.int 2))) aNil)) (.tup [(.name 4), (.tup [(.name 7), (.name 8), (.name 9)])]) (sForI (iOf kIt (fSl (f2 kIx (fVar 1) (fC (.int 2))) oNone (oSome (fVar 4)))) (.tup [(.name 10), (.name 11), (.name 12)]) tBody))
omit g hc hn in
theorem kEn_cs {M : Mem} : kEn [.tup (cs.map eCa)] M = .ok ((List.range cs.length).map fun i : Nat => D.tup [.int i, eCa (cAt cs i)]) M := by
  rw [kEn_tup]
  congr 1
  apply List.ext_getElem
  · simp
  · intro i h1 h2
    simp at h1
    simp [cAt, List.getD_eq_getElem?_getD, List.getElem?_eq_getElem h1]
theorem tFor_ok : ∃ env', tFor [some (eTree t), some (eDay v cs), some (.ref 0), none, none, none, none, none, none, none, none, none, none, none] [.lst [eR (0, 1)]] = .next env' [.lst ((Ts t cs).map eR)] ∧ ∃ a b c d e f g h k l, env' = [some (eTree t), some (eDay v cs), some (.ref 0), none, a, b, c, d, e, f, g, h, k, l] := by
  obtain ⟨env2, M2, h1, ⟨a, b, c, d, e, f, g', h, rfl⟩, rfl⟩ := for_ix (t := .tup [(.name 4), (.tup [(.name 7), (.name 8), (.name 9)])]) (b := (sForI (iOf kIt (fSl (f2 kIx (fVar 1) (fC (.int 2))) oNone (oSome (fVar 4)))) (.tup [(.name 10), (.name 11), (.name 12)]) tBody)) (e := fun i : Nat => D.tup [.int i, eCa (cAt cs i)]) (xs := List.range cs.length) (env := [some (eTree t), some (eDay v cs), some (.ref 0), none, none, none, none, none, none, none, none, none, none, none]) (M := [.lst [eR (0, 1)]])
    (I := fun i env M => (∃ a d e f g h k l, env = [some (eTree t), some (eDay v cs), some (.ref 0), none, a, none, none, d, e, f, g, h, k, l]) ∧ M = [.lst (((0, 1) :: thrs t cs i).map eR)]) ⟨⟨_, _, _, _, _, _, _, _, rfl⟩, by simp [thrs]⟩ (by
      rintro i hi env M ⟨⟨a, d, e, f, g', h, k, l, rfl⟩, rfl⟩
      simp at hi
      refine ⟨_, rfl, ?_⟩
      have hl := thrs_len t cs i
      have e5 : i * i ≤ 36 := Nat.le_trans (Nat.mul_le_mul (show i ≤ 6 by omega) (show i ≤ 6 by omega)) (by decide)
      obtain ⟨a', b', r', o', h2⟩ := inner_ok (v := v) g hc hn hi (ts := (0, 1) :: thrs t cs i) (by simp; omega) none none g' h k l
      have e6 : cutD' (cs.map eCa) none (some (i : Int)) = (cs.take i).map eCa := by rw [cut_take _ i (by simp; omega), List.map_take]
      have e7 : (List.range cs.length)[i] = i := by simp
      simp only [e7, List.set_cons_succ, List.set_cons_zero, tEnv] at h2 ⊢
      simp only [List.map_cons] at h2
      simp [e6, -List.map_take, h2]
      rw [thrs_succ]; simp)
  have e0 : ∀ M, kEn [.tup (cs.map eCa)] M = .ok ((List.range cs.length).map fun i : Nat => D.tup [.int i, eCa (cAt cs i)]) M := fun M => kEn_cs
  refine ⟨_, ?_, a, none, none, b, c, d, e, f, g', h, rfl⟩
  unfold tFor
  rw [List.length_range] at h1
  simp [e0, h1]
  rfl
end
/-! the rising list -/
abbrev rEnv (t : List (Nat × Nat)) (v : Int × Int) (cs : List Ca) (xs : List (Int × Int)) (a4 a5 a6 d e f h k l m : Option D) : DEnv := [some (eTree t), some (eDay v cs), some (.lst (xs.map eR)), some (.ref 1), a4, a5, a6, d, e, f, h, k, l, m]
@[irreducible] def rBody : FS := (sSeq (sSet 5 (f2 kIx (fVar 2) (fC (.int 0))))
  (sSeq (sForI (iOf kIt (fVar 2)) (.name 6) (sSet 5 (fIf (tOf (fCall (kPur (shN 2) m_is_less) (aCons (fVar 6) (aCons (fVar 5) aNil)) aNil)) (fVar 6) (fVar 5))))
  (sSeq (sDrop (fBm kAppend (fVar 3) (aCons (fVar 5) aNil)))
  (sSet 2 (fComp [6] (iOf kIt (fVar 2)) (.name 6) (tOf (f2 kNe (fVar 6) (fVar 5))) (fVar 6))))))
theorem mn_mem' {x : Int × Int} : ∀ (xs : List (Int × Int)) (m : Int × Int), mn m xs = m ∨ mn m xs ∈ xs
  | [], m => .inl rfl
  | y :: ys, m => by
    have e : mn m (y :: ys) = mn (if y.1 * m.2 < m.1 * y.2 then y else m) ys := rfl
    rw [e]
    split
    · rcases mn_mem' (x := x) ys y with h | h
      · exact .inr (by rw [h]; simp)
      · exact .inr (by simp [h])
    · rcases mn_mem' (x := x) ys m with h | h
      · exact .inl h
      · exact .inr (by simp [h])
theorem rBody_ok {t : List (Nat × Nat)} {v : Int × Int} {cs : List Ca} {x : Int × Int} {xs acc : List (Int × Int)} (hx : ∀ q ∈ x :: xs, Rt q) (hl : xs.length ≤ 1000) (ha : acc.length ≤ 1000) (a4 a5 a6 d e f h k l m : Option D) :
    ∃ a5' a6', rBody (rEnv t v cs (x :: xs) a4 a5 a6 d e f h k l m) [.gone, .lst (acc.map eR)] = .next (rEnv t v cs ((x :: xs).filter fun y => !decide (y = mn x (x :: xs))) a4 a5' a6' d e f h k l m) [.gone, .lst ((acc ++ [mn x (x :: xs)]).map eR)] := by
  obtain ⟨env2, M2, h1, ⟨a6', rfl⟩, rfl⟩ := for_inv (t := .name 6) (b := (sSet 5 (fIf (tOf (fCall (kPur (shN 2) m_is_less) (aCons (fVar 6) (aCons (fVar 5) aNil)) aNil)) (fVar 6) (fVar 5)))) (e := eR) (xs := x :: xs) (env := rEnv t v cs (x :: xs) a4 (some (eR x)) a6 d e f h k l m) (M := [.gone, .lst (acc.map eR)])
    (I := fun pre env M => (∃ a6', env = rEnv t v cs (x :: xs) a4 (some (eR (mn x pre))) a6' d e f h k l m) ∧ M = [.gone, .lst (acc.map eR)]) ⟨⟨_, rfl⟩, rfl⟩ (by
      rintro pre q post env M hq ⟨⟨a6', rfl⟩, rfl⟩
      refine ⟨_, rfl, ?_⟩
      have hq1 : Rt q := hx q (by rw [hq]; simp)
      have hm : Rt (mn x pre) := by
        rcases mn_mem' (x := x) pre x with hh | hh
        · rw [hh]; exact hx x (by simp)
        · exact hx _ (by rw [hq]; simp [hh])
      have e1 := is_less_ok hq1 hm [.gone, .lst (acc.map eR)]
      have e2 : mn x (pre ++ [q]) = if q.1 * (mn x pre).2 < (mn x pre).1 * q.2 then q else mn x pre := by unfold mn; rw [List.foldl_append]; rfl
      rw [e2]
      generalize mn x pre = w at *
      by_cases hh : q.1 * w.2 < w.1 * q.2
      · simp [e1, hh, rEnv]
      · simp [e1, hh, rEnv])
  have e3 := compL_filter (own := [6]) (t := .name 6) (tt := (tOf (f2 kNe (fVar 6) (fVar 5)))) (f := fVar 6) (env := rEnv t v cs (x :: xs) a4 (some (eR (mn x (x :: xs)))) a6' d e f h k l m) (e := eR) (p := fun y => !decide (y = mn x (x :: xs))) (g := eR) (M := [.gone, .lst ((acc ++ [mn x (x :: xs)]).map eR)]) (x :: xs) (by
    intro y hy
    refine ⟨_, rfl, ?_, ?_⟩
    · simp [wipeD, kNe_eR, rEnv]
    · intro _; simp [wipeD, rEnv])
  refine ⟨some (eR (mn x (x :: xs))), a6', ?_⟩
  have hf : ((x :: xs).filter fun y => !decide (y = mn x (x :: xs))).length ≤ (x :: xs).length := List.length_filter_le _ _
  have hl2 : ((x :: xs).filter fun y => !decide (y = mn x (x :: xs))).length ≤ 16777216 := by simp only [List.length_cons] at hf; omega
  have ha2 : acc.length < 16777216 := by omega
  generalize mn x (x :: xs) = w at *
  unfold rBody
  simp only [List.map_cons, rEnv] at h1 e3
  simp only [List.map_append, List.map_cons, List.map_nil] at e3
  simp [rEnv, h1, ha2, e3, hl2]
theorem rise_loop {t : List (Nat × Nat)} {v : Int × Int} {cs : List Ca} : ∀ (n f : Nat) (xs acc : List (Int × Int)) (a4 a5 a6 d e g h k l m : Option D), xs.length ≤ n → n < f → f ≤ 100 → (∀ q ∈ xs, Rt q) → acc.length + n ≤ 1000 →
    ∃ env', sWhile (tOf (f2 kNe (fVar 2) (fOf kLst aNil))) rBody f (rEnv t v cs xs a4 a5 a6 d e g h k l m) [.gone, .lst (acc.map eR)] = .next env' [.gone, .lst ((acc ++ rise n xs).map eR)] ∧ ∃ a b q2 a4 a5 a6 d e g h k l m, env' = [a, b, q2, some (.ref 1), a4, a5, a6, d, e, g, h, k, l, m]
  | 0, f, xs, acc, a4, a5, a6, d, e, g, h, k, l, m, hl, hf, _, _, _ => by
    obtain ⟨f, rfl⟩ : ∃ z, f = z + 1 := ⟨f - 1, by omega⟩
    have : xs = [] := List.eq_nil_of_length_eq_zero (by omega)
    subst this
    refine ⟨rEnv t v cs [] a4 a5 a6 d e g h k l m, ?_, _, _, _, _, _, _, _, _, _, _, _, _, _, rfl⟩
    rw [while_end (M1 := [.gone, .lst (acc.map eR)])]
    · simp only [rise, List.append_nil]
    · have := kNe_eRs (M := [.gone, .lst (acc.map eR)]) []
      simp at this
      simp [rEnv, this]
  | n + 1, f, [], acc, a4, a5, a6, d, e, g, h, k, l, m, hl, hf, _, _, _ => by
    obtain ⟨f, rfl⟩ : ∃ z, f = z + 1 := ⟨f - 1, by omega⟩
    refine ⟨rEnv t v cs [] a4 a5 a6 d e g h k l m, ?_, _, _, _, _, _, _, _, _, _, _, _, _, _, rfl⟩
    rw [while_end (M1 := [.gone, .lst (acc.map eR)])]
    · simp only [rise, List.append_nil]
    · have := kNe_eRs (M := [.gone, .lst (acc.map eR)]) []
      simp at this
      simp [rEnv, this]
  | n + 1, f, x :: xs, acc, a4, a5, a6, d, e, g, h, k, l, m, hl, hf, hf2, hx, hacc => by
    obtain ⟨f, rfl⟩ : ∃ z, f = z + 1 := ⟨f - 1, by omega⟩
    simp only [List.length_cons] at hl
    obtain ⟨a5', a6', hb⟩ := rBody_ok (t := t) (v := v) (cs := cs) hx (by omega) (acc := acc) (by omega) a4 a5 a6 d e g h k l m
    have ec : (tOf (f2 kNe (fVar 2) (fOf kLst aNil))) (rEnv t v cs (x :: xs) a4 a5 a6 d e g h k l m) [.gone, .lst (acc.map eR)] = .ok true [.gone, .lst (acc.map eR)] := by
      have := kNe_eRs (M := [.gone, .lst (acc.map eR)]) (x :: xs)
      simp at this
      simp [rEnv, this]
    rw [while_go ec hb]
    have hm := mn_mem (x := x) (xs := xs) fun y hy => (hx y hy).1
    have hlt := len_filter_lt (p := fun y => !decide (y = mn x (x :: xs))) hm.1 (by simp)
    simp only [List.length_cons] at hlt
    obtain ⟨env', h1, h2⟩ := rise_loop (t := t) (v := v) (cs := cs) n f (acc ++ [mn x (x :: xs)]) a4 a5' a6' d e g h k l m (xs := (x :: xs).filter fun y => !decide (y = mn x (x :: xs))) (by omega) (by omega) (by omega) (fun q hq => hx q (List.mem_filter.mp hq).1) (by simp; omega)
    refine ⟨env', ?_, h2⟩
    rw [h1, rise]
    simp
section
variable {t : List (Nat × Nat)} (g : GoodT t) {v : Int × Int} {cs : List Ca} (hc : ∀ c ∈ cs, GoodC t c) (hn : cs.length ≤ 6)
include g hc hn
theorem Ts_len : (Ts t cs).length ≤ 37 := by
  have := thrs_len t cs cs.length
  have e5 : cs.length * cs.length ≤ 36 := Nat.le_trans (Nat.mul_le_mul hn hn) (by decide)
  simp [Ts]; omega
theorem Ss_len : (Ss t cs).length ≤ 37 := Nat.le_trans (rise_len _ _) (Ts_len g hc hn)
theorem speeds_in_ok (M : Mem) : kPure m_speeds_in [eTree t, eDay v cs] M = .ok (.lst ((Ss t cs).map eR)) M := by
  refine pure_ok (es := [eTree t, eDay v cs]) (by simp) ?_ (by simp)
  obtain ⟨env', h1, a, b, c, d, e, f, g', h, k, l, rfl⟩ := tFor_ok (v := v) g hc hn
  have hl := Ts_len g hc hn
  obtain ⟨env2, h2, a2, b2, q2, a4, a5, a6, d2, e2, g2, hh2, k2, l2, m2, rfl⟩ := rise_loop (t := t) (v := v) (cs := cs) (Ts t cs).length 64 (Ts t cs) [] a b c d e f g' h k l (Nat.le_refl _) (by omega) (by omega) (fun q hq => rt_of (Ts_b g hc q hq)) (by simp; omega)
  have eb : b_speeds_in = (sSeq (sSet 2 (fOf kOwn (aCons (fC (.tup (([0, 1] : List Int).map D.int))) aNil)))
    (sSeq tFor
    (sSeq (sSet 3 (fOf kOwn aNil))
    (sSeq (sLk 2 (sWhile (tOf (f2 kNe (fVar 2) (fOf kLst aNil))) rBody 64))
    (sRet (fVar 3)))))) := by unfold b_speeds_in tFor tBody rBody; rfl
  have e0 : (D.tup (([0, 1] : List Int).map D.int)) = eR (0, 1) := rfl
  simp only [m_speeds_in, eb, e0]
  simp only [rEnv, List.map_nil] at h2
  have er : rise (Ts t cs).length (Ts t cs) = Ss t cs := rfl
  simp [h1, lk_ok (i := 2) (j := 0), h2, er]
  exact trim_ref (i := 1) rfl (by simp)
end
end K91P

-- K91K
set_option Elab.async false
set_option linter.all false
set_option maxRecDepth 100000
set_option maxHeartbeats 1000000
namespace K91P
open PySem DL L2 K91
theorem at_speed_ok {v u : Int × Int} {cs : List Ca} (M : Mem) : kPure m_at_speed [eDay v cs, eR u] M = .ok (eDay u cs) M := by
  refine pure_ok (es := [eDay v cs, eR u]) (by simp) ?_ (by simp)
  simp [m_at_speed, b_at_speed]
  exact trim0b (by simp)
def eV : Option (Int × Int) → D
  | none => .non
  | some v => eR v
@[irreducible] def lsBody : FS := (sSeq (sSet 6 (f2 kFdiv (f2 kAdd (fVar 4) (fVar 5)) (fC (.int 2))))
  (sIf (tOf (f2 kGt (fCall (kPur (shN 2) m_fewest_in) (aCons (fVar 0) (aCons (fCall (kPur (shN 2) m_at_speed) (aCons (fVar 1) (aCons (f2 kIx (fVar 3) (fVar 6)) aNil)) aNil) aNil)) aNil) (fVar 2))) (sSet 4 (f2 kAdd (fVar 6) (fC (.int 1)))) (sSet 5 (fVar 6))))
section
variable {t : List (Nat × Nat)} (g : GoodT t) {v : Int × Int} {cs : List Ca} (hc : ∀ c ∈ cs, GoodC t c) (hn : cs.length ≤ 6)
include g hc hn
theorem few_at {i : Nat} (hi : i < (Ss t cs).length) (M : Mem) : kPure m_fewest_in [eTree t, eDay (sAt t cs i) cs] M = .ok (.int (fewV t cs (sAt t cs i))) M :=
  fewest_in_ok g (sp_of (Ts_b g hc _ (sAt_mem hi))) hc hn M
abbrev lsEnv (t : List (Nat × Nat)) (v : Int × Int) (cs : List Ca) (many lo hi : Nat) (a : Option D) : DEnv := [some (eTree t), some (eDay v cs), some (.int many), some (.lst ((Ss t cs).map eR)), some (.int lo), some (.int hi), a]
omit g hc hn in
theorem sAt_ix {i : Nat} (hi : i < (Ss t cs).length) : ((Ss t cs).map eR)[i]? = some (eR (sAt t cs i)) := by
  rw [List.getElem?_map, List.getElem?_eq_getElem hi, sAt_get hi]; rfl
theorem ls_loop (many : Nat) (M : Mem) : ∀ (m f lo hi : Nat) (a : Option D), hi ≤ lo + m → m < f → lo ≤ hi → hi < (Ss t cs).length →
    ∃ hi' a', sWhile (tOf (f2 kLt (fVar 4) (fVar 5))) lsBody f (lsEnv t v cs many lo hi a) M = .next (lsEnv t v cs many (bs (fun i => decide (fewV t cs (sAt t cs i) ≤ many)) m lo hi) hi' a') M
  | 0, f, lo, hi, a, h, hf, hl, hh => by
    obtain ⟨f, rfl⟩ : ∃ z, f = z + 1 := ⟨f - 1, by omega⟩
    refine ⟨hi, a, ?_⟩
    rw [while_end (M1 := M)]
    · rfl
    · have : ¬ (lo : Int) < hi := by omega
      simp [lsEnv, this]
  | m + 1, f, lo, hi, a, h, hf, hl, hh => by
    obtain ⟨f, rfl⟩ : ∃ z, f = z + 1 := ⟨f - 1, by omega⟩
    by_cases hlt : lo < hi
    · have ec : (tOf (f2 kLt (fVar 4) (fVar 5))) (lsEnv t v cs many lo hi a) M = .ok true M := by
        have : (lo : Int) < hi := by omega
        simp [lsEnv, this]
      have hk : (lo + hi) / 2 < (Ss t cs).length := by omega
      have e1 := few_at g hc hn hk M
      have e2 := at_speed_ok (v := v) (u := sAt t cs ((lo + hi) / 2)) (cs := cs) M
      have e3 : ∀ M, kFdiv (.int ((lo : Int) + hi)) (.int 2) M = .ok (.int (((lo + hi) / 2 : Nat) : Int)) M := fun M => by
        rw [kFdiv_int _ _ (by decide)]; congr 2
      have e4 := sAt_ix (t := t) (cs := cs) hk
      rw [bs, if_pos hlt]
      by_cases hp : fewV t cs (sAt t cs ((lo + hi) / 2)) ≤ many
      · have hb : lsBody (lsEnv t v cs many lo hi a) M = .next (lsEnv t v cs many lo ((lo + hi) / 2) (some (.int ((lo + hi) / 2 : Nat)))) M := by
          have hp' : ¬ (many : Int) < fewV t cs (sAt t cs ((lo + hi) / 2)) := by omega
          generalize (lo + hi) / 2 = k at *
          unfold lsBody
          simp [lsEnv, e3, atI_ofNat, e4, e2, e1, hp']
        rw [while_go ec hb, if_pos (by simpa using hp)]
        exact ls_loop many M m f lo _ _ (by omega) (by omega) (by omega) hk
      · have hb : lsBody (lsEnv t v cs many lo hi a) M = .next (lsEnv t v cs many ((lo + hi) / 2 + 1) hi (some (.int ((lo + hi) / 2 : Nat)))) M := by
          have hp' : (many : Int) < fewV t cs (sAt t cs ((lo + hi) / 2)) := by omega
          generalize (lo + hi) / 2 = k at *
          unfold lsBody
          simp [lsEnv, e3, atI_ofNat, e4, e2, e1, hp']
        rw [while_go ec hb, if_neg (by simpa using hp)]
        exact ls_loop many M m f _ hi _ (by omega) (by omega) (by omega) hh
    · refine ⟨hi, a, ?_⟩
      rw [bs, if_neg hlt, while_end (M1 := M)]
      have : ¬ (lo : Int) < hi := by omega
      simp [lsEnv, this]
theorem least_in_ok (many : Nat) (M : Mem) : kPure m_least_in [eTree t, eDay v cs, .int many] M = .ok (eV (leastV t cs many)) M := by
  have hpos := Ss_pos (t := t) (cs := cs)
  have hlen := Ss_len g hc hn
  have hk : (Ss t cs).length - 1 < (Ss t cs).length := by omega
  have e1 := speeds_in_ok (v := v) g hc hn []
  have e2 := few_at g hc hn hk []
  have e3 := at_speed_ok (v := v) (u := sAt t cs ((Ss t cs).length - 1)) (cs := cs) []
  have e4 : atI ((Ss t cs).map eR) (-1) = some (eR (sAt t cs ((Ss t cs).length - 1))) := by
    rw [show (-1 : Int) = -((1 : Nat) : Int) by rfl, atI_neg _ _ (by omega) (by simp; omega), List.length_map, sAt_ix hk]
  have eb : b_least_in = (sSeq (sSet 3 (fCall (kPur (shN 2) m_speeds_in) (aCons (fVar 0) (aCons (fVar 1) aNil)) aNil))
    (sSeq (sIf (tOf (f2 kGt (fCall (kPur (shN 2) m_fewest_in) (aCons (fVar 0) (aCons (fCall (kPur (shN 2) m_at_speed) (aCons (fVar 1) (aCons (f2 kIx (fVar 3) (f1 kNeg (fC (.int 1)))) aNil)) aNil) aNil)) aNil) (fVar 2))) (sRet (fC .non)) sNil)
    (sSeq (sPar2 4 5 (aCons (fC (.int 0)) (aCons (f2 kSub (fOf (k1 kLen) (aCons (fVar 3) aNil)) (fC (.int 1))) aNil)))
    (sSeq (sWhile (tOf (f2 kLt (fVar 4) (fVar 5))) lsBody 64)
    (sRet (f2 kIx (fVar 3) (fVar 4))))))) := by unfold b_least_in lsBody; rfl
  unfold leastV
  by_cases h0 : many < fewV t cs (sAt t cs ((Ss t cs).length - 1))
  · rw [if_pos h0]
    refine pure_ok (es := [eTree t, eDay v cs, .int many]) (by simp) ?_ (by simp [eV])
    have h0' : (many : Int) < fewV t cs (sAt t cs ((Ss t cs).length - 1)) := by omega
    simp [m_least_in, eb, e1, e2, e3, e4, h0', eV]
  · rw [if_neg h0]
    refine pure_ok (es := [eTree t, eDay v cs, .int many]) (by simp) ?_ (by simp [eV])
    have h0' : ¬ (many : Int) < fewV t cs (sAt t cs ((Ss t cs).length - 1)) := by omega
    obtain ⟨hi', a', h1⟩ := ls_loop (v := v) g hc hn many [] 63 64 0 ((Ss t cs).length - 1) none (by omega) (by omega) (by omega) hk
    have hs := bs_spec (P := fun i => decide (fewV t cs (sAt t cs i) ≤ many)) (top := (Ss t cs).length - 1) (by
      intro i j hij hj h
      simp only [decide_eq_true_eq] at h ⊢
      exact Nat.le_trans (few_le (can_Ts _ (sAt_mem (by omega))).2 (can_Ts _ (sAt_mem (by omega))).2 (sAt_le hij (by omega))) h) 63 0 ((Ss t cs).length - 1) (by omega) (by omega) (by omega) (by simp; omega) (by simp)
    generalize hkk : bs (fun i => decide (fewV t cs (sAt t cs i) ≤ many)) 63 0 ((Ss t cs).length - 1) = k at *
    have e5 := sAt_ix (t := t) (cs := cs) (i := k) (by omega)
    have e6 : (((Ss t cs).length : Int) - 1) = ((Ss t cs).length - 1 : Nat) := by omega
    simp only [lsEnv, Int.natCast_zero] at h1
    simp [m_least_in, eb, e1, e2, e3, e4, h0', e6, h1, atI_ofNat, e5, eV]
    exact trim0b (by simp)
end
end K91P

-- K91B
set_option Elab.async false
set_option linter.all false
set_option maxRecDepth 100000
set_option maxHeartbeats 1000000
namespace K91P
open PySem DL L2 K91
/-! shares, papers, from outside -/
theorem want_many_ok {many : Nat} (h : many ≤ 99) (M : Mem) : kPure m_want_many [.int many] M = .ok .non M := by
  refine pure_ok (es := [.int many]) (by simp) ?_ (by simp)
  have e := is_within_int (many : Int) 0 99 (by omega) []
  simp [m_want_many, b_want_many, e]
theorem shown_ok {v : Int × Int} (hs : Sp v) (M : Mem) : kPure m_shown [eR v] M = .ok (eR v) M := by
  refine pure_ok (es := [eR v]) (by simp) ?_ (by simp)
  obtain ⟨s1, s2, s3, s4⟩ := hs
  have e4 : v.2 < (10 : Int) ^ 400 := Int.lt_of_lt_of_le s4 (by decide +kernel)
  have e5 : (v.1.natAbs : Int) < (10 : Int) ^ 400 := Int.lt_of_lt_of_le (show (v.1.natAbs : Int) < 2 ^ 40 by omega) (by decide +kernel)
  have q : (10 : Int) ^ 400 = 10000000000000000000000000000000000000000000000000000000000000000000000000000000000000000000000000000000000000000000000000000000000000000000000000000000000000000000000000000000000000000000000000000000000000000000000000000000000000000000000000000000000000000000000000000000000000000000000000000000000000000000000000000000000000000000000000000000000000000000000000000000000000000000000000000000000000000 := by decide +kernel
  rw [q] at e4 e5
  have e4' := Int.not_le.mpr e4
  have e5' := Int.not_le.mpr e5
  simp [m_shown, b_shown, kAbs_na, -kAbs_int, e4', e5']
  exact trim0b (by simp)
theorem kRgL_lst {M : Mem} (k : Nat) (hk : k ≤ 2 ^ 24) : kRgL false (.int k) M = .ok (.lst ((List.range k).map eN)) M := by
  unfold kRgL
  have : rgOk 0 (k : Int) = true := by unfold rgOk; simp; omega
  simp only [this, if_true]
  simp [rgD]
theorem eqvAll_refl {α : Type} (f : α → PyData) (h : ∀ x, PyData.eqv (f x) (f x) = true) : ∀ xs : List α, PyData.eqvAll (xs.map f) (xs.map f) = true
  | [] => by simp [PyData.eqvAll]
  | x :: xs => by simp [PyData.eqvAll, h, eqvAll_refl f h xs]
theorem kEq_Ns {M : Mem} (xs : List Nat) : kEq (.lst (xs.map eN)) (.lst (xs.map eN)) M = .ok (.bl true) M := by
  rw [kEq_sd rfl (sd_eLot xs) (sd_eLot xs) (by omega) (by omega)]
  have : PyData.eqv (.list (xs.map fun i : Nat => .int i)) (.list (xs.map fun i : Nat => .int i)) = true := by
    simp only [PyData.eqv]
    exact eqvAll_refl _ (fun x => by simp [PyData.eqv]) xs
  rw [this]
theorem sorted_perm {M : Mem} {xs : List Nat} {n : Nat} (h : xs.Perm (List.range n)) : kSorted (.lst (xs.map eN)) M = .ok (.lst ((List.range n).map eN)) M := by
  have e : xs.map eN = (xs.map fun i : Nat => (i : Int)).map D.int := by simp
  rw [e, kSorted_lst, ← sortI_eq (ns' := (List.range n).map fun i : Nat => (i : Int)) (h.symm.map _)]
  · simp
  · rw [List.pairwise_map]
    exact List.pairwise_le_range.imp fun hab => by omega
abbrev eLt (l : List Nat) : D := .tup (l.map eN)
@[simp] theorem fz_eLt {M : Mem} {k : Nat} {l : List Nat} : D.fz M (k + 2) (eLt l) = some (eLt l) := by
  rw [fz_tup, mapM_fz fun _ => fz_eN]; rfl
@[simp] theorem fz_eShare {M : Mem} {k : Nat} {x : Lots} : D.fz M (k + 3) (eShare x) = some (eShare x) := by
  rw [fz_tup, mapM_fz (e := eLt) fun _ => fz_eLt]; rfl
theorem is_rising_ok {l : List Nat} (h : l.Pairwise (· < ·)) (hl : l.length ≤ 1000) (M : Mem) : kPure m_is_rising [eLt l] M = .ok (.bl true) M := by
  refine pure_ok (es := [eLt l]) (by simp) ?_ (by simp)
  have e7 := compL_map (own := [1, 2]) (t := .tup [(.name 1), (.name 2)]) (tt := tYesF) (f := (f2 kLt (fVar 1) (fVar 2))) (env := [some (eLt l), none, none]) (e := fun p : Nat × Nat => .tup [eN p.1, eN p.2]) (g := fun _ => .bl true) (M := []) (l.zip l.tail) (by
    intro p hp
    refine ⟨_, rfl, rfl, ?_⟩
    have hlt : p.1 < p.2 := by
      obtain ⟨i, hi, rfl⟩ := List.mem_iff_getElem.mp hp
      simp at hi
      simp only [List.getElem_zip, List.getElem_tail]
      exact List.pairwise_iff_getElem.mp h i (i + 1) (by omega) (by omega) (by omega)
    simp [wipeD]
    omega)
  simp [m_is_rising, b_is_rising, kZp_tup, ← List.map_tail, zpF_map, e7]
  rw [kLst_ok (by simp; omega)]
  simp [kAll_true]
theorem are_places_ok {l : List Nat} {n : Nat} (h : l.Pairwise (· < ·)) (hn : ∀ a ∈ l, a < n) (hl : l.length ≤ 1000) (M : Mem) : kPure m_are_places_of [eLt l, .int n] M = .ok (.bl true) M := by
  refine pure_ok (es := [eLt l, .int n]) (by simp) ?_ (by simp)
  have e6 := compL_map (own := [2]) (t := .name 2) (tt := tYesF) (f := (fCall (kPur (shN 3) m_is_within) (aCons (fVar 2) (aCons (fC (.int 0)) (aCons (f2 kSub (fVar 1) (fC (.int 1))) aNil))) aNil)) (env := [some (eLt l), some (.int n), none]) (e := eN) (g := fun _ => .bl true) (M := []) l (by
    intro c hc
    refine ⟨_, rfl, rfl, ?_⟩
    have := hn c hc
    have e := is_within_int (c : Int) 0 ((n : Int) - 1) (by omega) []
    simp [wipeD, e])
  have hl2 : l.length ≤ 16777216 := by omega
  simp [m_are_places_of, b_are_places_of, e6, hl2, kAll_true, is_rising_ok h hl]
section
variable {t : List (Nat × Nat)} (g : GoodT t) {v : Int × Int} (hv : Sp v) {cs : List Ca} (hc : ∀ c ∈ cs, GoodC t c)
include g hv hc
theorem do_all_fit_ok {l : List Nat} (hl : l.length ≤ 1000) (hlt : ∀ a ∈ l, a < cs.length) (hf : l.Pairwise fun a b => Fv t cs v a b = true) (M : Mem) : kPure m_do_all_fit [eTree t, eDay v cs, eLt l] M = .ok (.bl true) M := by
  refine pure_ok (es := [eTree t, eDay v cs, eLt l]) (by simp) ?_ (by simp)
  obtain ⟨env2, M2, h1, ⟨a, b, c, rfl⟩, rfl⟩ := for_ix (t := .tup [(.name 3), (.name 4)]) (b := (sIf (tNotF (tOf (fOf (k1 kAll) (aCons (fComp [5] (iOf kIt (fSl (fVar 2) oNone (oSome (fVar 3)))) (.name 5) tYesF (fCall (kPur (shN 4) m_fit_in) (aCons (fVar 0) (aCons (fVar 1) (aCons (fVar 5) (aCons (fVar 4) aNil)))) aNil)) aNil)))) (sRet (fC (.bl false))) sNil)) (e := fun p : Nat × Nat => D.tup [.int p.2, eN p.1]) (xs := l.zipIdx) (env := [some (eTree t), some (eDay v cs), some (eLt l), none, none, none]) (M := [])
    (I := fun i env M => (∃ a b c, env = [some (eTree t), some (eDay v cs), some (eLt l), a, b, c]) ∧ M = []) ⟨⟨_, _, _, rfl⟩, rfl⟩ (by
      rintro i hi env M ⟨⟨a, b, c, rfl⟩, rfl⟩
      refine ⟨_, rfl, ?_⟩
      have hi' : i < l.length := by simpa using hi
      have e0 : l.zipIdx[i] = (l[i], i) := by simp
      have e1 : cutD' (l.map eN) none (some (i : Int)) = (l.take i).map eN := by rw [cut_take _ i (by simp; omega), List.map_take]
      have e2 := compL_map (own := [5]) (t := .name 5) (tt := tYesF) (f := (fCall (kPur (shN 4) m_fit_in) (aCons (fVar 0) (aCons (fVar 1) (aCons (fVar 5) (aCons (fVar 4) aNil)))) aNil)) (env := [some (eTree t), some (eDay v cs), some (eLt l), some (.int i), some (eN l[i]), c]) (e := eN) (g := fun _ => .bl true) (M := []) (l.take i) (by
        intro x hx
        refine ⟨_, rfl, rfl, ?_⟩
        obtain ⟨k, hk, rfl⟩ := List.mem_iff_getElem.mp hx
        simp at hk
        have hf2 := List.pairwise_iff_getElem.mp hf k i (by omega) hi' (by omega)
        have h3 := fit_in_ok g hv hc (hlt _ (List.getElem_mem (show k < l.length by omega))) (hlt _ (List.getElem_mem hi')) []
        rw [hf2] at h3
        simp [wipeD, h3])
      simp only [e0, List.set_cons_succ, List.set_cons_zero]
      have hl3 : min i l.length ≤ 16777216 := by omega
      simp [e1, -List.map_take, e2, hl3, kAll_true])
  simp [m_do_all_fit, b_do_all_fit, kEn_tup, h1]
end
theorem fz_rid {M : Mem} {x : Lots} : D.fz M 8 (.tup [.str "riders", eShare x]) = some (.tup [.str "riders", eShare x]) := by
  rw [fz_tup]; simp
theorem comp2_flat {own vs1 : List Nat} {i j : Nat} {tt tt1 : FT} {fe f : FE} {env : DEnv} {M : Mem} (h : ∀ lot : List Nat, tt ((wipeD env own).set i (some (eLt lot))) M = .ok true M ∧ fe ((wipeD env own).set i (some (eLt lot))) M = .ok (eLt lot) M ∧ compL vs1 (.name j) tt1 f ((wipeD env own).set i (some (eLt lot))) (lot.map eN) M = .ok (lot.map eN) M) :
    ∀ x : Lots, compL2 own vs1 (.name i) tt fe (.name j) tt1 f env (x.map eLt) M = .ok (x.flatten.map eN) M
  | [] => rfl
  | lot :: x => by
    obtain ⟨h1, h2, h3⟩ := h lot
    have ih := comp2_flat h x
    rw [List.map_cons, compL2]
    simp only [bind_name]
    rw [h1]
    simp only [h2, itD, h3, ih]
    simp
section
variable {t : List (Nat × Nat)} (g : GoodT t) {v : Int × Int} {cs : List Ca} (hd : DayOk t v cs)
include g hd
theorem is_share_ok {x : Lots} (hx : x ∈ pts (Fv t cs v) cs.length) (M : Mem) : kPure m_is_share [eTree t, eDay v cs, eShare x] M = .ok (.bl true) M := by
  refine pure_ok (es := [eTree t, eDay v cs, eShare x]) (by simp) ?_ (by simp)
  have hg := good_parts _ x hx
  have h1 := hd.le
  have hxl := hg.len
  have hx2 : x.length ≤ 16777216 := by omega
  have e1 := compL_map (own := [4]) (t := .name 4) (tt := tYesF) (f := (fAnd (fCall (kPur (shN 2) m_are_places_of) (aCons (fVar 4) (aCons (fOf (k1 kLen) (aCons (f2 kIx (fVar 1) (fC (.int 2))) aNil)) aNil)) aNil) (f2 kGt (fOf (k1 kLen) (aCons (fVar 4) aNil)) (fC (.int 0))))) (env := [some (eTree t), some (eDay v cs), some (eShare x), none, none, none]) (e := eLt) (g := fun _ => .bl true) (M := []) x (by
    intro lot hl
    refine ⟨_, rfl, rfl, ?_⟩
    have a1 := are_places_ok (hg.ri lot hl) (hg.lt lot hl) (by have := hg.ll lot hl; omega) []
    have a2 : 0 < lot.length := List.length_pos_iff.mpr (hg.ne lot hl)
    simp [wipeD, a1, a2])
  have e2 := comp2_flat (own := [4, 5]) (vs1 := [5]) (i := 4) (j := 5) (tt := tYesF) (tt1 := tYesF) (fe := fVar 4) (f := fVar 5) (env := [some (eTree t), some (eDay v cs), some (eShare x), none, none, none]) (M := []) (by
    intro lot
    refine ⟨rfl, by simp [wipeD], ?_⟩
    exact compL_map _ _ _ _ _ _ _ _ _ fun a ha => ⟨_, rfl, rfl, by simp [wipeD]⟩) x
  have e3 := compL_map (own := [4]) (t := .name 4) (tt := tYesF) (f := (fCall (kPur (shN 3) m_do_all_fit) (aCons (fVar 0) (aCons (fVar 1) (aCons (fVar 4) aNil))) aNil)) (env := [some (eTree t), some (eDay v cs), some (eShare x), some (.lst (x.flatten.map eN)), none, none]) (e := eLt) (g := fun _ => .bl true) (M := []) x (by
    intro lot hl
    refine ⟨_, rfl, rfl, ?_⟩
    have a1 := do_all_fit_ok g hd.sp hd.gc (l := lot) (by have := hg.ll lot hl; omega) (hg.lt lot hl) (hg.fi lot hl) []
    simp [wipeD, a1])
  have e4 := sorted_perm (M := []) hg.pe
  have e5 := kRgL_lst (M := []) cs.length (by omega)
  have e6 := kEq_Ns (M := []) (List.range cs.length)
  have e7 : x.flatten.length ≤ 16777216 := by have := hg.pe.length_eq; simp at this ⊢; omega
  have e8 : fComp2 [4, 5] [5] (iOf kIt (fVar 2)) (.name 4) tYesF (fVar 4) (.name 5) tYesF (fVar 5) [some (eTree t), some (eDay v cs), some (eShare x), none, none, none] [] = .ok (.lst (x.flatten.map eN)) [] := by
    show (aComp2 _ _ _ _ _ _ _ _ _ _ _).bind kLst = _
    unfold aComp2
    have : (iOf kIt (fVar 2)) [some (eTree t), some (eDay v cs), some (eShare x), none, none, none] [] = .ok (x.map eLt) [] := by simp
    rw [this]
    simp only [R.bind_ok, e2]
    exact kLst_ok (by rw [List.length_map]; exact e7)
  simp only [m_is_share, b_is_share, ev_trimM, ev_mOf]
  simp [e1, kAll_true, hx2, e8, e4, e5, e6, e3, -List.map_flatten]
theorem riders_paper_ok {many : Nat} (hm : many ≤ 99) (hf : fewV t cs v ≤ many) : ∃ x ∈ pts (Fv t cs v) cs.length, x.length ≤ many ∧ ∀ M, kPure m_riders_paper [eTree t, eDay v cs, .int many] M = .ok (.tup [.str "riders", eShare x]) M := by
  obtain ⟨o, h1, h2⟩ := share_in_ok (F := Fv t cs v) (m := many) hd.le
  cases o with
  | none =>
    obtain ⟨l, hl, hll⟩ := few_le_iff.mp hf
    have := h1 l hl
    omega
  | some x =>
    refine ⟨x, h1.1, h1.2, fun M => pure_ok (es := [eTree t, eDay v cs, .int many]) (by simp) ?_ (by simp)⟩
    have e1 := contrary_in_ok g hd.sp hd.gc (show cs.length ≤ 8 by have := hd.le; omega) []
    have e2 := h2 []
    simp only [eO] at e2
    simp [m_riders_paper, b_riders_paper, want_day_ok g hd, want_many_ok hm, e1, e2, D.isNon]
    exact trim0b (by simp)
theorem is_riders_paper_ok {many : Nat} (hm : many ≤ 99) {x : Lots} (hx : x ∈ pts (Fv t cs v) cs.length) (hl : x.length ≤ many) (M : Mem) : kPure m_is_riders_paper [eTree t, eDay v cs, .int many, .tup [.str "riders", eShare x]] M = .ok (.bl true) M := by
  refine pure_ok (es := [eTree t, eDay v cs, .int many, .tup [.str "riders", eShare x]]) (by simp [fz_rid]) ?_ (by simp)
  have e1 : kPure m_is_row [.tup [.str "riders", eShare x], .int 2] [] = .ok (.bl true) [] := is_rowP (n := 2) rfl (by simp)
  have e2 := is_share_ok g hd hx []
  have e3 : (x.length : Int) ≤ many := by omega
  simp [m_is_riders_paper, b_is_riders_paper, want_day_ok g hd, want_many_ok hm, e1, e2, e3]
theorem fewest_riders_ok (M : Mem) : kPure m_fewest_riders [eTree t, eDay v cs] M = .ok (.int (fewV t cs v)) M := by
  refine pure_ok (es := [eTree t, eDay v cs]) (by simp) ?_ (by simp)
  simp [m_fewest_riders, b_fewest_riders, want_day_ok g hd, fewest_in_ok g hd.sp hd.gc hd.le]
theorem least_speed_ok {many : Nat} (hm : many ≤ 99) (M : Mem) : kPure m_least_speed [eTree t, eDay v cs, .int many] M = .ok (eV (leastV t cs many)) M := by
  refine pure_ok (es := [eTree t, eDay v cs, .int many]) (by simp) ?_ (by cases leastV t cs many <;> simp [eV])
  have e1 := least_in_ok (v := v) g hd.gc hd.le many []
  have hi := least_is (t := t) (cs := cs) (many := many) (by have := Ss_len g hd.gc hd.le; omega)
  cases h : leastV t cs many with
  | none =>
    rw [h] at e1
    simp only [eV] at e1 ⊢
    simp [m_least_speed, b_least_speed, want_day_ok g hd, want_many_ok hm, e1, D.isNon]
  | some u =>
    rw [h] at e1 hi
    simp only [eV] at e1 ⊢
    have e2 := shown_ok (sp_of (Ts_b g hd.gc u hi.1)) []
    simp [m_least_speed, b_least_speed, want_day_ok g hd, want_many_ok hm, e1, e2, D.isNon]
    exact trim0b (by simp)
end
end K91P

-- K91X
set_option Elab.async false
set_option linter.all false
set_option maxRecDepth 100000
set_option maxHeartbeats 1000000
namespace K91P
open PySem DL L2 K91
def clp (t : List (Nat × Nat)) (p y : Nat) : Key × D := (.inl (y : Int), .int ((dep t p : Int) - dep t y))
def clk (t : List (Nat × Nat)) (p : Nat) : List (Key × D) := (up t p).map (clp t p)
theorem climb_loop {t : List (Nat × Nat)} (g : GoodT t) (p : Nat) : ∀ (q : Nat) (pre : List Nat) (f : Nat) (M : Mem) (x y : Option D), q < f → q ≤ t.length → pre.length + q < 1000 → (∀ z ∈ pre, q < z) →
    ∃ x' y' z' w', sWhile (tOf (f2 kNe (fVar 1) (fC (.int 0)))) (sSeq (sAsg (.tup [(.name 4), (.name 5)]) (f2 kIx (f2 kIx (fVar 0) (fC (.int 1))) (f2 kSub (fVar 1) (fC (.int 1)))))
      (sSeq (sPar2 1 3 (aCons (fVar 4) (aCons (f2 kAdd (fVar 3) (fVar 5)) aNil)))
      (sAsgG (gIx (fVar 2) (fVar 1)) (fVar 3)))) f
      [some (eTree t), some (.int q), some (.ref M.length), some (.int ((dep t p : Int) - dep t q)), x, y] (M ++ [.dk ((pre ++ [q]).map (clp t p))]) = .next [some (eTree t), z', some (.ref M.length), w', x', y'] (M ++ [.dk ((pre ++ up t q).map (clp t p))]) := by
  intro q
  induction q using Nat.strongRecOn with
  | _ q ih =>
    intro pre f M x y hf hq hl hz
    obtain ⟨f, rfl⟩ : ∃ k, f = k + 1 := ⟨f - 1, by omega⟩
    rw [while_step]
    by_cases h0 : q = 0
    · subst h0
      exact ⟨x, y, some (.int 0), some (.int ((dep t p : Int) - dep t 0)), by simp [up_zero]⟩
    · have hfa := fa_lt g (show 0 < q by omega) hq
      obtain ⟨x', y', z', w', e⟩ := ih (fa t q) hfa (pre ++ [q]) f M (some (.int (fa t q))) (some (.int (ln t q))) (by omega) (by omega) (by simp; omega) (by
        intro z hz'; simp at hz'; rcases hz' with h | rfl
        · have := hz z h; omega
        · omega)
      refine ⟨x', y', z', w', ?_⟩
      have hd : (dep t p : Int) - dep t q + ln t q = dep t p - dep t (fa t q) := by
        have := dep_pos g (show 0 < q by omega) hq; omega
      have hp : kPut (.ref M.length) (.int (fa t q)) (.int ((dep t p : Int) - dep t (fa t q))) (M ++ [.dk ((pre ++ [q]).map (clp t p))]) = some (M ++ [.dk ((pre ++ [q] ++ [fa t q]).map (clp t p))]) := by
        rw [kPut_dk (kvs := (pre ++ [q]).map (clp t p)) (by simp) (by simp; omega)]
        · simp [clp]
        · intro kv hkv
          obtain ⟨z, hz', rfl⟩ := List.mem_map.mp hkv
          simp [clp]
          simp at hz'
          rcases hz' with h | rfl
          · have := hz z h; omega
          · omega
      simp at e hp
      simp [h0, atI_pred, show 0 < q by omega, tie_at (show 0 < q by omega) hq, eTie, up_pos g (show 0 < q by omega) hq, hd, hp, e]
theorem climbed_ok {t : List (Nat × Nat)} (g : GoodT t) {p : Nat} (hp : p ≤ t.length) (M : Mem) : m__law_climbed [eTree t, .int p] M = .ok (.ref M.length) (M ++ [.dk (clk t p)]) := by
  have := g.1
  obtain ⟨x', y', z', w', h⟩ := climb_loop g p p [] 64 M none none (by omega) hp (by simp; omega) (by simp)
  simp [clp] at h
  simp [m__law_climbed, b__law_climbed, dict1K_int, h]
  simp [clk, clp]
theorem find_nat (y : Nat) : ∀ l : List Nat, (l.find? fun x : Nat => decide ((Sum.inl (x : Int) : Key) = .inl (y : Int))) = if l.contains y then some y else none
  | [] => rfl
  | x :: l => by
    rw [List.find?_cons, find_nat y l]
    by_cases h : x = y
    · subst h; simp
    · have h2 : ¬ ((x : Int) = (y : Int)) := by omega
      have h3 : ¬ (y = x) := fun e => h e.symm
      simp [h2, h3]
theorem valD_cl (t : List (Nat × Nat)) (p y : Nat) : valD (clk t p) (.inl (y : Int)) = if (up t p).contains y then some (.int ((dep t p : Int) - dep t y)) else none := by
  show valD ((up t p).map fun y : Nat => ((.inl (y : Int) : Key), D.int ((dep t p : Int) - dep t y))) _ = _
  rw [valD_map, find_nat]
  split <;> rfl
theorem keys_cl (t : List (Nat × Nat)) (p : Nat) : ((clk t p).map fun kv => keyV kv.1) = (up t p).map eN := by
  unfold clk; rw [List.map_map]; rfl
theorem dep_mono {t : List (Nat × Nat)} (g : GoodT t) : ∀ (a : Nat), a ≤ t.length → ∀ y ∈ up t a, dep t y ≤ dep t a := by
  intro a
  induction a using Nat.strongRecOn with
  | _ a ih =>
    intro ha y hy
    by_cases h0 : a = 0
    · subst h0; rw [up_zero] at hy; simp at hy; rw [hy]; omega
    · rw [up_pos g (by omega) ha] at hy
      have := fa_lt g (show 0 < a by omega) ha
      rcases List.mem_cons.mp hy with rfl | hy
      · omega
      · have := ih _ this (by omega) y hy
        rw [dep_pos g (by omega) ha]; omega
def com (t : List (Nat × Nat)) (a b : Nat) : List Nat := (up t a).filter fun y => (up t b).contains y
theorem com_eq {t : List (Nat × Nat)} (g : GoodT t) {a b : Nat} (ha : a ≤ t.length) (hb : b ≤ t.length) : com t a b = up t (lcp t a b) := by
  obtain ⟨h1, h2, h3⟩ := up_parts g ha hb
  unfold com
  rw [h1, List.filter_append, List.filter_eq_nil_iff.mpr, List.nil_append, List.filter_eq_self.mpr]
  · intro y hy; rw [h2]; simp [hy]
  · intro y hy; unfold ua at hy; simp at hy ⊢; exact hy.2
theorem kMin_ints {M : Mem} {ns : List Int} {m : Int} (h : m ∈ ns) (h2 : ∀ y ∈ ns, m ≤ y) : kMin [.lst (ns.map D.int)] M = .ok (.int m) M := by
  show kMin1 _ _ = _
  unfold kMin1 lsI lsD lx
  simp only [Option.bind_some, intsD_map]
  have : ns.min? = some m := by
    rw [List.min?_eq_some_iff]
    exact ⟨h, h2⟩
  rw [this]; rfl
theorem way_ok {t : List (Nat × Nat)} (g : GoodT t) {a b : Nat} (ha : a ≤ t.length) (hb : b ≤ t.length) (M : Mem) : kPure m__law_way [eTree t, .int a, .int b] M = .ok (.int (way t a b)) M := by
  refine pure_ok (es := [eTree t, .int a, .int b]) (by simp) ?_ (by simp)
  have hl := up_len g a ha
  have hl2 := g.1
  have c1 : compL [5] (.name 5) (tOf (f2 kIn (fVar 5) (fVar 4))) (f2 kAdd (f2 kIx (fVar 3) (fVar 5)) (f2 kIx (fVar 4) (fVar 5))) [some (eTree t), some (.int a), some (.int b), some (.fdk (clk t a)), some (.fdk (clk t b)), none] ((up t a).map eN) [.gone, .gone] =
      .ok ((com t a b).map fun y => .int (((dep t a : Int) - dep t y) + ((dep t b : Int) - dep t y))) [.gone, .gone] := by
    refine compL_filter _ _ _ _ _ _ _ _ _ _ fun x hx => ⟨_, rfl, ?_, fun hp => ?_⟩
    · simp [valD_cl, -List.contains_eq_mem]
      cases h : (up t b).contains x <;> simp
    · have hx' : (up t a).contains x = true := by simpa using hx
      simp [valD_cl, hp, hx', -List.contains_eq_mem]
  have hc := com_eq g ha hb
  obtain ⟨Q, hq⟩ := up_head t (lcp t a b)
  have hlc : (com t a b).length ≤ 16777216 := by
    have : (com t a b).length ≤ (up t a).length := List.length_filter_le _ _
    omega
  have hm : kMin [.lst ((com t a b).map fun y => .int (((dep t a : Int) - dep t y) + ((dep t b : Int) - dep t y)))] [.gone, .gone] = .ok (.int (way t a b)) [.gone, .gone] := by
    rw [show ((com t a b).map fun y : Nat => D.int (((dep t a : Int) - dep t y) + ((dep t b : Int) - dep t y))) = ((com t a b).map fun y : Nat => (((dep t a : Int) - dep t y) + ((dep t b : Int) - dep t y))).map D.int by rw [List.map_map]; rfl]
    refine kMin_ints (List.mem_map.mpr ⟨lcp t a b, by rw [hc, hq]; simp, by unfold way; omega⟩) fun z hz => ?_
    obtain ⟨y, hy, rfl⟩ := List.mem_map.mp hz
    rw [hc] at hy
    have := dep_mono g _ (up_parts g ha hb).2.2 y hy
    unfold way; omega
  simp [m__law_way, b__law_way, climbed_ok g ha, climbed_ok g hb, kLockO_ref, keys_cl, c1, hlc, hm]
  exact trim0b (by simp)
structure Pot where
  a : Int
  b : Int
  ha : 0 ≤ a
  hb : 0 ≤ b
  hb2 : b < 2 ^ 31
def pt (p : Pot) : MO := .lst [.int p.a, .int p.b]
theorem draw_ok (p : Pot) (n : Int) (h : 0 < n) (h2 : n < 1073741824) : ∃ (d : Nat) (q : Pot), (d : Int) < n ∧ ∀ Mr, m__law_draw [.ref 0, .int n] (pt p :: Mr) = .ok (.int d) (pt q :: Mr) := by
  by_cases ha : 0 < p.a
  · have h3 := Int.emod_nonneg p.a (show n ≠ 0 by omega)
    have h4 := Int.emod_lt_of_pos p.a h
    refine ⟨(p.a % n).toNat, ⟨p.a / n, p.b, Int.ediv_nonneg p.ha (by omega), p.hb, p.hb2⟩, by omega, fun Mr => ?_⟩
    have e : (((p.a % n).toNat : Nat) : Int) = p.a % n := Int.toNat_of_nonneg h3
    rw [e]
    simp [m__law_draw, b__law_draw, pt, ha, kDivmod_int _ _ ⟨h, h2⟩, kPut, ixN]
  · have h1 := Int.emod_nonneg (p.b * 40692 + 8627) (show (2147483587 : Int) ≠ 0 by omega)
    have h2' := Int.emod_lt_of_pos (p.b * 40692 + 8627) (show (0 : Int) < 2147483587 by omega)
    obtain ⟨q, k3, k4⟩ : ∃ q : Pot, (p.b * 40692 + 8627) % 2147483587 = q.b ∧ q.a = p.a := ⟨⟨p.a, (p.b * 40692 + 8627) % 2147483587, p.ha, h1, by omega⟩, rfl, rfl⟩
    have h3 := Int.emod_nonneg (q.b * q.b % 2147483549 / 17) (show n ≠ 0 by omega)
    have h4 := Int.emod_lt_of_pos (q.b * q.b % 2147483549 / 17) h
    refine ⟨((q.b * q.b % 2147483549 / 17) % n).toNat, q, by omega, fun Mr => ?_⟩
    have e : ((((q.b * q.b % 2147483549 / 17) % n).toNat : Nat) : Int) = (q.b * q.b % 2147483549 / 17) % n := Int.toNat_of_nonneg h3
    rw [e]
    have hq1 := q.hb
    have hq2 := q.hb2
    have k1 : kMulI (.int p.b) (.int 40692) = fun M => .ok (.int (p.b * 40692)) M := funext fun M => kMulI_int _ _ (by omega)
    have k2 : kMulI (.int q.b) (.int q.b) = fun M => .ok (.int (q.b * q.b)) M := funext fun M => kMulI_int _ _ (by omega)
    have k5 : ∀ i : Int, kMod (.int i) (.int n) = fun M => .ok (.int (i % n)) M := fun i => funext fun M => kMod_int _ _ h
    simp [m__law_draw, b__law_draw, pt, ha, k1, k2, kMod_int, kFdiv_int, kPut, ixN, k3, k4, k5]
theorem pick_lst (p : Pot) {α : Type} (e : α → D) (xs : List α) (h : xs ≠ []) (h2 : xs.length < 1073741824) (Mr : Mem) :
    ∃ y ∈ xs, ∃ q : Pot, m__law_pick [.ref 0, .lst (xs.map e)] (pt p :: Mr) = .ok (e y) (pt q :: Mr) := by
  have h3 : 0 < xs.length := List.length_pos_iff.mpr h
  obtain ⟨d, q, hd, e1⟩ := draw_ok p xs.length (by omega) (by omega)
  have hd' : d < xs.length := by omega
  refine ⟨xs[d], List.getElem_mem _, q, ?_⟩
  simp [m__law_pick, b__law_pick, e1, hd', atI_ofNat]
theorem pick_ref (p : Pot) {α : Type} (e : α → D) (xs : List α) (h : xs ≠ []) (h2 : xs.length < 1073741824) (n : Nat) (Mr : Mem) (hM : Mr[n]? = some (.lst (xs.map e))) :
    ∃ y ∈ xs, ∃ q : Pot, m__law_pick [.ref 0, .ref (n + 1)] (pt p :: Mr) = .ok (e y) (pt q :: Mr) := by
  have h3 : 0 < xs.length := List.length_pos_iff.mpr h
  obtain ⟨d, q, hd, e1⟩ := draw_ok p xs.length (by omega) (by omega)
  have hd' : d < xs.length := by omega
  refine ⟨xs[d], List.getElem_mem _, q, ?_⟩
  simp [m__law_pick, b__law_pick, hM, e1, hd', atI_ofNat]
theorem pot_ok (ns : List Int) : ∃ p : Pot, m__law_pot [.scr ns, .int 0] [] = .ok (.ref 0) [pt p] := by
  have key : ∀ c : Int, ∃ p : Pot, pt p = .lst [.int (if c - 10 ^ 18 > 0 then c - 10 ^ 18 else 0), .int (((c % 2147483549) * 40014 + 4639 * 0 + 1021) % 2147483563 + 1)] := fun c => by
    have h1 := Int.emod_nonneg ((c % 2147483549) * 40014 + 4639 * 0 + 1021) (show (2147483563 : Int) ≠ 0 by omega)
    have h2 := Int.emod_lt_of_pos ((c % 2147483549) * 40014 + 4639 * 0 + 1021) (show (0 : Int) < 2147483563 by omega)
    exact ⟨⟨if c - 10 ^ 18 > 0 then c - 10 ^ 18 else 0, ((c % 2147483549) * 40014 + 4639 * 0 + 1021) % 2147483563 + 1, by split <;> omega, by omega, by omega⟩, rfl⟩
  have k1 : ∀ i : Int, kMulI (.int i) (.int 40014) = fun M => .ok (.int (i * 40014)) M := fun i => funext fun M => kMulI_int _ _ (by omega)
  cases ns with
  | nil =>
    obtain ⟨p, hp⟩ := key 373
    refine ⟨p, ?_⟩
    rw [hp]
    simp [m__law_pot, b__law_pot, kMulI_int, kPow_int, kMod_int]
  | cons n ns =>
    obtain ⟨p, hp⟩ := key (if n < 0 then -n else n)
    refine ⟨p, ?_⟩
    rw [hp]
    have e0 : (0 : Int) < (ns.length : Int) + 1 := by omega
    simp [m__law_pot, b__law_pot, kMulI_int, kPow_int, kMod_int, kIx_scr, e0, k1]
def TreeIs (t : List (Nat × Nat)) : Prop := ∀ (i : Nat) (p : Nat × Nat), t[i]? = some p → p.1 ≤ i ∧ 1 ≤ p.2 ∧ p.2 ≤ 9
theorem blw_pt {p : Pot} {n : Nat} : MO.blw n (pt p) = true := by simp [pt, MO.blw]
theorem tree_ok (p : Pot) (m : Int) (h : 0 < m) (h2 : m ≤ 24) : ∃ (t : List (Nat × Nat)) (q : Pot), (t.length : Int) < m ∧ TreeIs t ∧ m__law_tree [.ref 0, .int m] [pt p] = .ok (eTree t) [pt q] := by
  obtain ⟨k, p1, hk, e1⟩ := draw_ok p m h (by omega)
  obtain ⟨env2, M2, h3, ⟨x, y⟩, t, q, rfl, rfl, ht, hl⟩ := for_ix (t := .name 3) (b := (sSeq (sSet 4 (f2 kSub (fVar 3) (fCall (kImp (shN 2) m__law_draw) (aCons (fVar 0) (aCons (fOf (kMin) (aCons (f2 kAdd (fVar 3) (fC (.int 1))) (aCons (fCall (kImp (shN 2) m__law_pick) (aCons (fVar 0) (aCons (fOf kLst (aCons (fC (.int 1)) (aCons (fC (.int 2)) (aCons (fC (.int 9)) aNil)))) aNil)) aNil) aNil))) aNil)) aNil)))
      (sDrop (fBm kAppend (fVar 2) (aCons (fOf kTup (aCons (fVar 4) (aCons (f2 kAdd (fC (.int 1)) (fCall (kImp (shN 2) m__law_draw) (aCons (fVar 0) (aCons (fC (.int 9)) aNil)) aNil)) aNil))) aNil))))) (e := fun i : Nat => D.int i) (xs := List.range k)
    (env := [some (.ref 0), some (.int m), some (.ref 1), none, none]) (M := [pt p1, .lst []])
    (fun i env M => ∃ (xy : Option D × Option D) (t : List (Nat × Nat)) (q : Pot), env = [some (.ref 0), some (.int m), some (.ref 1), xy.1, xy.2] ∧ M = [pt q, .lst (t.map eTie)] ∧ TreeIs t ∧ t.length = i) ⟨(none, none), [], p1, rfl, rfl, fun i p h => by simp at h, rfl⟩ (by
      rintro i hi env M ⟨⟨x, y⟩, t, q, rfl, rfl, ht, hl⟩
      refine ⟨_, rfl, ?_⟩
      simp at hi
      obtain ⟨c, hc, q1, e2⟩ := pick_lst q (fun i : Int => D.int i) [1, 2, 9] (by simp) (by simp) [.lst (t.map eTie)]
      have hc0 : 0 < c := by simp at hc; omega
      obtain ⟨f, q2, hf, e3⟩ := draw_ok q1 (if c < (i : Int) + 1 then c else (i : Int) + 1) (by split <;> omega) (by split <;> omega)
      obtain ⟨l, q3, hl9, e4⟩ := draw_ok q2 9 (by omega) (by omega)
      have hfi : f ≤ i := by split at hf <;> omega
      have hlt : t.length < 16777216 := by omega
      simp at e2
      simp [e2, e3, e4, hlt]
      refine ⟨t ++ [(i - f, 1 + l)], ⟨⟨q3, rfl⟩, ?_⟩, ?_, by simp [hl]⟩
      · simp [eTie]; omega
      · intro j p hj
        rw [List.getElem?_append] at hj
        split at hj
        · exact ht j p hj
        · rename_i hjl
          have : j = t.length := by
            rcases Nat.lt_or_ge j (t.length + 1) with h | h
            · omega
            · rw [List.getElem?_eq_none (by simp; omega)] at hj; cases hj
          subst this
          simp at hj
          subst hj
          simp; omega)
  simp at hl
  refine ⟨t, q, by omega, ht, ?_⟩
  simp [m__law_tree, b__law_tree, e1, kRg1_nat k (by omega), h3]
  exact trim_blw (by simp [blw_pt]) (by simp)
end K91P

-- K91Y
set_option Elab.async false
set_option linter.all false
set_option maxRecDepth 100000
set_option maxHeartbeats 1000000
namespace K91P
open PySem DL L2 K91
/-! the law's own fractions -/
abbrev euB : FS := (sPar2 2 3 (aCons (fVar 3) (aCons (f2 kMod (fOf (k1 kInt) (aCons (fVar 2) aNil)) (fVar 3)) aNil)))
abbrev euC : FT := (tOf (f2 kGt (fVar 3) (fC (.int 0))))
theorem eu_step {a b : D} {x y f : Nat} {M : Mem} (h : 0 < y) : sWhile euC euB (f + 1) [some a, some b, some (.int x), some (.int y)] M = sWhile euC euB f [some a, some b, some (.int y), some (.int ((x % y : Nat) : Int))] M := by
  refine while_go (M1 := M) ?_ ?_
  · simp [h]
  · have e := kMod_int (M := M) (x : Int) (y : Int) (by omega)
    simp [e]
theorem eu_loop {a b : D} {M : Mem} : ∀ (k f x y : Nat), y < 2 ^ k → 2 * k + 1 ≤ f → sWhile euC euB f [some a, some b, some (.int x), some (.int y)] M = .next [some a, some b, some (.int (Nat.gcd x y : Nat)), some (.int 0)] M := by
  have ends : ∀ (f x : Nat), sWhile euC euB (f + 1) [some a, some b, some (.int x), some (.int (0 : Nat))] M = .next [some a, some b, some (.int x), some (.int 0)] M := fun f x => while_end (M1 := M) (by simp)
  intro k
  induction k with
  | zero =>
    intro f x y hy hf
    obtain ⟨f, rfl⟩ : ∃ z, f = z + 1 := ⟨f - 1, by omega⟩
    have : y = 0 := by simpa using hy
    subst this
    rw [ends]; simp
  | succ k ih =>
    intro f x y hy hf
    obtain ⟨f, rfl⟩ : ∃ z, f = z + 2 := ⟨f - 2, by omega⟩
    by_cases h0 : y = 0
    · subst h0; rw [ends]; simp
    · rw [eu_step (by omega)]
      have e1 : Nat.gcd x y = Nat.gcd y (x % y) := by rw [Nat.gcd_comm, Nat.gcd_rec, Nat.gcd_comm]
      have hr : x % y < y := Nat.mod_lt _ (by omega)
      rw [e1]
      generalize x % y = r at *
      by_cases h1 : r = 0
      · subst h1
        rw [ends]; simp
      · rw [eu_step (by omega)]
        have e2 : Nat.gcd y r = Nat.gcd r (y % r) := by rw [Nat.gcd_comm, Nat.gcd_rec, Nat.gcd_comm]
        rw [e2]
        refine ih f r (y % r) ?_ (by omega)
        have h2 : y % r < r := Nat.mod_lt _ (by omega)
        have h3 := Nat.div_add_mod y r
        have h4 : 1 ≤ y / r := Nat.div_pos (by omega) (by omega)
        have h5 : r * 1 ≤ r * (y / r) := Nat.mul_le_mul_left _ h4
        rw [Nat.pow_succ] at hy
        omega
theorem law_low_ok {a b : Int} (hb : 0 < b) (hm : b < 2 ^ 31) (M : Mem) : kPure m__law_low [.int a, .int b] M = .ok (eR (low a b)) M := by
  refine pure_ok (es := [.int a, .int b]) (by simp) ?_ (by simp)
  obtain ⟨n, rfl⟩ : ∃ n : Nat, b = n := ⟨b.toNat, by omega⟩
  have hg : 0 < (Nat.gcd a.natAbs n : Int) := by
    have : 0 < Nat.gcd a.natAbs n := Nat.gcd_pos_of_pos_right _ (by omega)
    omega
  have hg2 : (Nat.gcd a.natAbs n : Int) < 2 ^ 200 := by
    have : Nat.gcd a.natAbs n ≤ n := Nat.gcd_le_right _ (by omega)
    omega
  have e1 : ∀ x : Int, kFdiv (.int x) (.int (Nat.gcd a.natAbs n : Nat)) [] = .ok (.int (x / (Nat.gcd a.natAbs n : Nat))) [] := fun x => kFdiv_int _ _ ⟨hg, hg2⟩
  have e2 := eu_loop (a := .int a) (b := .int (n : Int)) (M := []) 31 64 a.natAbs n (by omega) (by omega)
  simp [m__law_low, b__law_low, kAbs_na, -kAbs_int, e2, e1, low]
  rfl
section
variable {p q : Int × Int} (hp : Rt p) (hq : Rt q) (hm : p.2 * q.2 < 2 ^ 31)
include hp hq
theorem muls : (∀ M, kMulI (.int p.1) (.int q.2) M = .ok (.int (p.1 * q.2)) M) ∧ (∀ M, kMulI (.int q.1) (.int p.2) M = .ok (.int (q.1 * p.2)) M) ∧ (∀ M, kMulI (.int p.2) (.int q.2) M = .ok (.int (p.2 * q.2)) M) ∧ (∀ M, kMulI (.int p.1) (.int q.1) M = .ok (.int (p.1 * q.1)) M) := by
  obtain ⟨p1, p2, p3, p4⟩ := hp
  obtain ⟨q1, q2, q3, q4⟩ := hq
  exact ⟨fun M => kMulI_int _ _ (by omega), fun M => kMulI_int _ _ (by omega), fun M => kMulI_int _ _ (by omega), fun M => kMulI_int _ _ (by omega)⟩
include hm
theorem law_plus_ok (M : Mem) : kPure m__law_plus [eR p, eR q] M = .ok (eR (low (p.1 * q.2 + q.1 * p.2) (p.2 * q.2))) M := by
  refine pure_ok (es := [eR p, eR q]) (by simp) ?_ (by simp)
  obtain ⟨e1, e2, e3, e4⟩ := muls hp hq
  simp [m__law_plus, b__law_plus, e1, e2, e3, law_low_ok (Int.mul_pos hp.1 hq.1) hm]
  rfl
theorem law_minus_ok (M : Mem) : kPure m__law_minus [eR p, eR q] M = .ok (eR (low (p.1 * q.2 - q.1 * p.2) (p.2 * q.2))) M := by
  refine pure_ok (es := [eR p, eR q]) (by simp) ?_ (by simp)
  obtain ⟨e1, e2, e3, e4⟩ := muls hp hq
  simp [m__law_minus, b__law_minus, e1, e2, e3, law_low_ok (Int.mul_pos hp.1 hq.1) hm]
  rfl
theorem law_times_ok (M : Mem) : kPure m__law_times [eR p, eR q] M = .ok (eR (low (p.1 * q.1) (p.2 * q.2))) M := by
  refine pure_ok (es := [eR p, eR q]) (by simp) ?_ (by simp)
  obtain ⟨e1, e2, e3, e4⟩ := muls hp hq
  simp [m__law_times, b__law_times, e3, e4, law_low_ok (Int.mul_pos hp.1 hq.1) hm]
  rfl
omit hm in
theorem law_less_ok (M : Mem) : kPure m__law_less [eR p, eR q] M = .ok (.bl (decide (p.1 * q.2 < q.1 * p.2))) M := by
  refine pure_ok (es := [eR p, eR q]) (by simp) ?_ (by simp)
  obtain ⟨e1, e2, e3, e4⟩ := muls hp hq
  simp [m__law_less, b__law_less, e1, e2]
end
theorem law_do_fit_ok {t : List (Nat × Nat)} (g : GoodT t) {v : Int × Int} (hv : Sp v) (hv2 : v.2 < 2 ^ 30) {cs : List Ca} (hc : ∀ c ∈ cs, GoodC t c) {i j : Nat} (hi : i < cs.length) (hj : j < cs.length) (M : Mem) :
    kPure m__law_do_fit [eTree t, eDay v cs, .int i, .int j] M = .ok (.bl (Fv t cs v i j)) M := by
  refine pure_ok (es := [eTree t, eDay v cs, .int i, .int j]) (by simp) ?_ (by simp)
  obtain ⟨a1, a2, a3⟩ := hc _ (cAt_mem hi)
  obtain ⟨b1, b2, b3⟩ := hc _ (cAt_mem hj)
  have hi' := cAt_get hi
  have hj' := cAt_get hj
  unfold Fv
  generalize cAt cs i = c at *
  generalize cAt cs j = c' at *
  have hd : (((c'.h : Int) - c.h).natAbs) ≤ 99 := by omega
  have hw := way_b g a2 b2
  obtain ⟨r1, r2, r3, r4⟩ := room_rt hv hd
  have r6 : (low (v.1 * (((c'.h : Int) - c.h).natAbs : Int)) v.2).2 < 2 ^ 30 := by
    have := (low_b (a := v.1 * (((c'.h : Int) - c.h).natAbs : Int)) hv.2.2.1).1
    omega
  have r5 := room2_rt r1 r2 r3 r4 (r := (c.r : Int) + c'.r) (by omega) (by omega)
  have e1 : kPure m__law_times [eR v, eR ((((c'.h : Int) - c.h).natAbs : Int), 1)] [] = .ok (eR (low (v.1 * (((c'.h : Int) - c.h).natAbs : Int)) v.2)) [] := by
    have := law_times_ok (p := v) (q := ((((c'.h : Int) - c.h).natAbs : Int), 1)) ⟨hv.2.2.1, by have := hv.2.2.2; omega, by have := hv.1; omega, by have := hv.2.1; omega⟩ ⟨by simp, by simp, by simp; omega, by simp; omega⟩ (by simp; omega) []
    simpa using this
  have e2 := law_plus_ok (p := ((c.r : Int) + c'.r, 1)) (q := low (v.1 * (((c'.h : Int) - c.h).natAbs : Int)) v.2) ⟨by simp, by simp, by simp; omega, by simp; omega⟩ r1 (by simp; omega) []
  have e3 := law_less_ok (p := low (((c.r : Int) + c'.r) * (low (v.1 * (((c'.h : Int) - c.h).natAbs : Int)) v.2).2 + (low (v.1 * (((c'.h : Int) - c.h).natAbs : Int)) v.2).1 * 1) (1 * (low (v.1 * (((c'.h : Int) - c.h).natAbs : Int)) v.2).2)) (q := (way t c.p c'.p, 1)) r5 ⟨by simp, by simp, by simp; omega, by simp; omega⟩ []
  have e4 := fit_low (t := t) hv.2.2.1 c c' _ rfl _ rfl
  simp only at e1 e2 e3
  rw [← e4]
  generalize low (v.1 * (((c'.h : Int) - c.h).natAbs : Int)) v.2 = q at *
  generalize low (((c.r : Int) + c'.r) * q.2 + q.1 * 1) (1 * q.2) = R at *
  simp only [Int.mul_one] at e3 ⊢
  simp [m__law_do_fit, b__law_do_fit, atI_ofNat, hi', hj', kAbs_na, -kAbs_int, e1, e2, e3, way_ok g a2 b2]
/-! ways are the same from both ends -/
theorem lcp_le {t : List (Nat × Nat)} (g : GoodT t) {a b : Nat} (ha : a ≤ t.length) (hb : b ≤ t.length) : lcp t a b ≤ lcp t b a := by
  have h1 := com_eq g ha hb
  have h2 := com_eq g hb ha
  obtain ⟨Q, hQ⟩ := up_head t (lcp t a b)
  have h3 : lcp t a b ∈ com t a b := by rw [h1, hQ]; simp
  have h4 : lcp t a b ∈ com t b a := by
    simp only [com, List.mem_filter, List.contains_iff_mem] at h3 ⊢
    exact ⟨h3.2, h3.1⟩
  rw [h2] at h4
  exact up_le g _ (up_parts g hb ha).2.2 _ h4
theorem way_comm {t : List (Nat × Nat)} (g : GoodT t) {a b : Nat} (ha : a ≤ t.length) (hb : b ≤ t.length) : way t a b = way t b a := by
  have : lcp t a b = lcp t b a := Nat.le_antisymm (lcp_le g ha hb) (lcp_le g hb ha)
  unfold way
  rw [this]; omega
theorem Fv_comm {t : List (Nat × Nat)} (g : GoodT t) {v : Int × Int} {cs : List Ca} (hc : ∀ c ∈ cs, GoodC t c) {i j : Nat} (hi : i < cs.length) (hj : j < cs.length) : Fv t cs v i j = Fv t cs v j i := by
  have a2 := (hc _ (cAt_mem hi)).2.1
  have b2 := (hc _ (cAt_mem hj)).2.1
  unfold Fv fit
  rw [way_comm g a2 b2, Int.add_comm ((cAt cs i).r : Int), show (((cAt cs j).h : Int) - (cAt cs i).h).natAbs = (((cAt cs i).h : Int) - (cAt cs j).h).natAbs by omega]
end K91P

-- K91W
set_option Elab.async false
set_option linter.all false
set_option maxRecDepth 100000
set_option maxHeartbeats 1000000
namespace K91P
open PySem DL L2 K91
/-! the law's own fewest -/
theorem ext_length (F : Nat → Nat → Bool) (k : Nat) (l : Lots) : (ext F k l).length ≤ l.length + 1 := by
  have : ((List.range l.length).filter (okAt F k l)).length ≤ l.length := by
    have := List.length_filter_le (okAt F k l) (List.range l.length)
    simpa using this
  simp [ext]; omega
theorem flat_ext (F : Nat → Nat → Bool) (k : Nat) : ∀ X : List Lots, (∀ l ∈ X, l.length ≤ k) → (X.flatMap (ext F k)).length ≤ (k + 1) * X.length
  | [], _ => by simp
  | l :: X, h => by
    have h1 := flat_ext F k X fun y hy => h y (by simp [hy])
    have h2 := ext_length F k l
    have h3 := h l (by simp)
    rw [List.flatMap_cons, List.length_append, List.length_cons, Nat.mul_add]
    omega
theorem pts_length (F : Nat → Nat → Bool) : ∀ k, k ≤ 6 → (pts F k).length ≤ 7 ^ k
  | 0, _ => by simp [pts]
  | k + 1, h => by
    have h1 := pts_length F k (by omega)
    have h2 := flat_ext F k (pts F k) fun l hl => (good_parts k l hl).len
    have h3 : (k + 1) * (pts F k).length ≤ 7 * (pts F k).length := Nat.mul_le_mul_right _ (by omega)
    rw [pts, Nat.pow_succ]
    omega
theorem pts_small {F : Nat → Nat → Bool} {k : Nat} (h : k ≤ 6) : (pts F k).length ≤ 120000 := by
  have := pts_length F k h
  have h2 : 7 ^ k ≤ 7 ^ 6 := Nat.pow_le_pow_right (by decide) h
  have : (7 : Nat) ^ 6 = 117649 := by decide
  omega
@[irreducible] def gIf : FS := (sIf (tOf (fOf (k1 kAll) (aCons (fComp [8] (iOf kIt (fVar 7)) (.name 8) tYesF (fCall (kPur (shN 4) m__law_do_fit) (aCons (fVar 0) (aCons (fVar 1) (aCons (fVar 3) (aCons (fVar 8) aNil)))) aNil)) aNil))) (sDrop (fBm kAppend (fVar 4) (aCons (f2 kAdd (f2 kAdd (fSl (fVar 5) oNone (oSome (fVar 6))) (fOf kLst (aCons (f2 kAdd (fVar 7) (fOf kLst (aCons (fVar 3) aNil))) aNil))) (fSl (fVar 5) (oSome (f2 kAdd (fVar 6) (fC (.int 1)))) oNone)) aNil))) sNil)
abbrev gEnv (t : List (Nat × Nat)) (v : Int × Int) (cs : List Ca) (some_ : D) (k r : Nat) (x : Lots) (a b c : Option D) : DEnv := [some (eTree t), some (eDay v cs), some some_, some (.int k), some (.ref r), some (eLots x), a, b, c]
section
variable {t : List (Nat × Nat)} (g : GoodT t) {v : Int × Int} (hv : Sp v) (hv2 : v.2 < 2 ^ 30) {cs : List Ca} (hc : ∀ c ∈ cs, GoodC t c) (hn : cs.length ≤ 6)
include g hv hv2 hc hn
theorem gIf_ok {k : Nat} (hk : k < cs.length) {x : Lots} (hx : Lk k x) {i : Nat} (hi : i < x.length) {sm : D} {A : Mem} {Y : List Lots} (hY : Y.length ≤ 1000000) (c : Option D) : ∃ c', gIf (gEnv t v cs sm k A.length x (some (.int i)) (some (eLot (x.getD i []))) c) (A ++ [.lst (Y.map eLots)]) =
    .next (gEnv t v cs sm k A.length x (some (.int i)) (some (eLot (x.getD i []))) c') (A ++ [.lst ((if okAt (Fv t cs v) k x i = true then Y ++ [putAt x k i] else Y).map eLots)]) := by
  refine ⟨c, ?_⟩
  have gm := getD_mem hi
  have l1 := hx.len
  have l2 := hx.ll _ gm
  have e1 := compL_map (own := [8]) (t := .name 8) (tt := tYesF) (f := (fCall (kPur (shN 4) m__law_do_fit) (aCons (fVar 0) (aCons (fVar 1) (aCons (fVar 3) (aCons (fVar 8) aNil)))) aNil)) (env := gEnv t v cs sm k A.length x (some (.int i)) (some (eLot (x.getD i []))) c) (e := eN) (g := fun a => .bl (Fv t cs v a k)) (M := A ++ [.lst (Y.map eLots)]) (x.getD i []) (by
    intro a ha
    refine ⟨_, rfl, rfl, ?_⟩
    have hlt := hx.lt _ gm a ha
    have e := law_do_fit_ok g hv hv2 hc hk (show a < cs.length by omega) (A ++ [.lst (Y.map eLots)])
    rw [Fv_comm g hc hk (show a < cs.length by omega)] at e
    simp [wipeD, gEnv, e])
  have e2 : ∀ M, kAll (.lst ((x.getD i []).map fun a => .bl (Fv t cs v a k))) M = .ok (.bl (okAt (Fv t cs v) k x i)) M := fun M => by
    rw [kAll_map]; rfl
  have e6 : cutD' (x.map eLot) (some ((i : Int) + 1)) none = (x.map eLot).drop (i + 1) := cut_drop _ (i + 1) (by simp; omega)
  have e7 : cutD' (x.map eLot) none (some (i : Int)) = (x.map eLot).take i := cut_take _ i (by simp; omega)
  generalize hq : x.getD i [] = q at *
  have hq' : x[i]?.getD [] = q := by rw [← hq, List.getD_eq_getElem?_getD]
  have g1 : min i x.length + 1 ≤ 16777216 := by omega
  have g2 : min i x.length + 1 + (x.length - (i + 1)) ≤ 16777216 := by omega
  have g3 : q.length + 1 ≤ 16777216 := by omega
  have g4 : q.length ≤ 16777216 := by omega
  have g5 : Y.length < 16777216 := by omega
  simp only [gEnv] at e1
  unfold gIf
  cases ho : okAt (Fv t cs v) k x i with
  | true =>
    rw [ho] at e2
    simp [gEnv, e1, e2, e6, e7, g1, g2, g3, g4, g5]
    simp [putAt, hq', List.map_take, List.map_drop]
  | false =>
    rw [ho] at e2
    simp [gEnv, e1, e2, g4]
end
@[irreducible] def gOne : FS := (sSeq (sDrop (fBm kAppend (fVar 4) (aCons (f2 kAdd (fVar 5) (fOf kLst (aCons (fOf kLst (aCons (fVar 3) aNil)) aNil))) aNil)))
  (sForI (iOfA kEn (aCons (fVar 5) aNil)) (.tup [(.name 6), (.name 7)]) gIf))
theorem kEn_lst {M : Mem} {α : Type} (xs : List α) (e : α → D) : kEn [.lst (xs.map e)] M = .ok (xs.zipIdx.map fun p => D.tup [.int p.2, e p.1]) M := by
  show R.of (some (enF _)) M = _
  rw [enF_map]; rfl
section
variable {t : List (Nat × Nat)} (g : GoodT t) {v : Int × Int} (hv : Sp v) (hv2 : v.2 < 2 ^ 30) {cs : List Ca} (hc : ∀ c ∈ cs, GoodC t c) (hn : cs.length ≤ 6)
include g hv hv2 hc hn
theorem gOne_ok {k : Nat} (hk : k < cs.length) {x : Lots} (hx : Lk k x) {sm : D} {A : Mem} {Y : List Lots} (hY : Y.length ≤ 900000) (a b c : Option D) : ∃ a' b' c', gOne (gEnv t v cs sm k A.length x a b c) (A ++ [.lst (Y.map eLots)]) =
    .next (gEnv t v cs sm k A.length x a' b' c') (A ++ [.lst ((Y ++ ext (Fv t cs v) k x).map eLots)]) := by
  have l1 := hx.len
  obtain ⟨env2, M2, h1, ⟨a', b', c', rfl⟩, rfl⟩ := for_ix (t := .tup [(.name 6), (.name 7)]) (b := gIf) (e := fun p : List Nat × Nat => D.tup [.int p.2, eLot p.1]) (xs := x.zipIdx) (env := gEnv t v cs sm k A.length x a b c) (M := A ++ [.lst ((Y ++ [x ++ [[k]]]).map eLots)])
    (I := fun i env M => (∃ a b c, env = gEnv t v cs sm k A.length x a b c) ∧ M = A ++ [.lst ((Y ++ (x ++ [[k]]) :: ((List.range i).filter (okAt (Fv t cs v) k x)).map (putAt x k)).map eLots)]) ⟨⟨_, _, _, rfl⟩, by simp⟩ (by
      rintro i hi env M ⟨⟨a, b, c, rfl⟩, rfl⟩
      have hi' : i < x.length := by simpa using hi
      refine ⟨_, rfl, ?_⟩
      have e0 : x.zipIdx[i] = (x.getD i [], i) := by
        simp [List.getD_eq_getElem?_getD, List.getElem?_eq_getElem hi']
      have hf : ((List.range i).filter (okAt (Fv t cs v) k x)).length ≤ i := by
        have := List.length_filter_le (okAt (Fv t cs v) k x) (List.range i)
        simpa using this
      obtain ⟨c', h2⟩ := gIf_ok g hv hv2 hc hn hk hx hi' (sm := sm) (A := A) (Y := Y ++ (x ++ [[k]]) :: ((List.range i).filter (okAt (Fv t cs v) k x)).map (putAt x k)) (by simp; omega) c
      simp only [e0, List.set_cons_succ, List.set_cons_zero, gEnv] at h2 ⊢
      rw [h2]
      simp only [RS.goes_next]
      refine ⟨⟨_, _, _, rfl⟩, ?_⟩
      rw [List.range_succ]
      cases ho : okAt (Fv t cs v) k x i <;> simp [ho, List.filter_append])
  refine ⟨a', b', c', ?_⟩
  have g1 : x.length + 1 ≤ 16777216 := by omega
  have g2 : Y.length < 16777216 := by omega
  have el : x.zipIdx.length = x.length := by simp
  have ee : ext (Fv t cs v) k x = (x ++ [[k]]) :: ((List.range x.length).filter (okAt (Fv t cs v) k x)).map (putAt x k) := rfl
  have e3 : ∀ M, kEn [eLots x] M = .ok (x.zipIdx.map fun p => D.tup [.int p.2, eLot p.1]) M := fun M => kEn_lst x eLot
  rw [ee, ← el]
  rw [← h1]
  have e9 : eLots (x ++ [[k]]) = .lst (x.map eLot ++ [.lst [.int k]]) := by simp [eLots]
  unfold gOne
  simp [gEnv, g1, g2, e3, e9]
theorem gFor_ok {k : Nat} (hk : k < cs.length) {sm : D} {A : Mem} (a b c d : Option D) : ∃ a' b' c' d', sFor (.name 5) gOne ((pts (Fv t cs v) k).map eLots) [some (eTree t), some (eDay v cs), some sm, some (.int k), some (.ref A.length), d, a, b, c] (A ++ [.lst []]) =
    .next [some (eTree t), some (eDay v cs), some sm, some (.int k), some (.ref A.length), d', a', b', c'] (A ++ [.lst ((pts (Fv t cs v) (k + 1)).map eLots)]) := by
  obtain ⟨env2, M2, h1, ⟨a', b', c', d', rfl⟩, rfl⟩ := for_inv (t := .name 5) (b := gOne) (e := eLots) (xs := pts (Fv t cs v) k) (env := [some (eTree t), some (eDay v cs), some sm, some (.int k), some (.ref A.length), d, a, b, c]) (M := A ++ [.lst []])
    (I := fun pre env M => (∃ a b c d, env = [some (eTree t), some (eDay v cs), some sm, some (.int k), some (.ref A.length), d, a, b, c]) ∧ M = A ++ [.lst ((pre.flatMap (ext (Fv t cs v) k)).map eLots)]) ⟨⟨_, _, _, _, rfl⟩, by simp⟩ (by
      rintro pre x post env M hxs ⟨⟨a, b, c, d, rfl⟩, rfl⟩
      refine ⟨_, rfl, ?_⟩
      have hx : x ∈ pts (Fv t cs v) k := by rw [hxs]; simp
      have hgd := good_parts _ x hx
      have h6 := pts_small (F := Fv t cs v) (show k ≤ 6 by omega)
      have hpre : pre.length ≤ (pts (Fv t cs v) k).length := by rw [hxs]; simp
      have h7 := flat_ext (Fv t cs v) k pre fun l hl => (good_parts _ l (by rw [hxs]; simp [hl])).len
      have h8 : (k + 1) * pre.length ≤ 7 * 120000 := Nat.mul_le_mul (by omega) (by omega)
      obtain ⟨a', b', c', h2⟩ := gOne_ok g hv hv2 hc hn hk ⟨hgd.len, hgd.ll, hgd.lt⟩ (sm := sm) (A := A) (Y := pre.flatMap (ext (Fv t cs v) k)) (by omega) a b c
      simp only [List.set_cons_succ, List.set_cons_zero, gEnv] at h2 ⊢
      rw [h2]
      simp only [RS.goes_next]
      refine ⟨⟨_, _, _, _, rfl⟩, ?_⟩
      rw [List.flatMap_append]; simp)
  exact ⟨a', b', c', d', h1⟩
/-- the store ahead of a call -/
def gM (F : Nat → Nat → Bool) : Nat → Mem
  | 0 => []
  | k + 1 => List.replicate k .gone ++ [.lst ((pts F (k + 1)).map eLots)]
def gS (F : Nat → Nat → Bool) : Nat → D
  | 0 => .lst ((pts F 0).map eLots)
  | k + 1 => .ref k
@[irreducible] def gBody : FS := (sSeq (sSet 4 (fOf kOwn aNil))
  (sSeq (sLk 2 (sForI (iOf kIt (fVar 2)) (.name 5) gOne))
  (sSet 2 (fVar 4))))
theorem gBody_ok {k : Nat} (hk : k < cs.length) (a b c d e : Option D) : ∃ a' b' c' d', gBody [some (eTree t), some (eDay v cs), some (gS (Fv t cs v) k), some (.int k), e, d, a, b, c] (gM (Fv t cs v) k) =
    .next [some (eTree t), some (eDay v cs), some (gS (Fv t cs v) (k + 1)), some (.int k), some (.ref k), d', a', b', c'] (gM (Fv t cs v) (k + 1)) := by
  obtain ⟨a', b', c', d', h1⟩ := gFor_ok g hv hv2 hc hn hk (sm := .lst ((pts (Fv t cs v) k).map eLots)) (A := List.replicate k .gone) a b c d
  refine ⟨a', b', c', d', ?_⟩
  rw [List.length_replicate] at h1
  unfold gBody
  cases k with
  | zero =>
    simp only [gS, gM]
    have h1' := h1
    simp only [List.replicate_zero, List.nil_append, Int.natCast_zero] at h1' ⊢
    have e1 : ∀ env : DEnv, env[2]? = some (some (.lst ((pts (Fv t cs v) 0).map eLots))) → ∀ f M, sLk 2 f env M = f env M := fun env he f M => lk_no he
    simp [e1, h1']
  | succ k =>
    simp only [gS, gM]
    have e2 : (List.replicate k MO.gone ++ [MO.lst ((pts (Fv t cs v) (k + 1)).map eLots)] ++ [MO.lst []])[k]? = some (.lst ((pts (Fv t cs v) (k + 1)).map eLots)) := by simp
    have e3 : (List.replicate k MO.gone ++ [MO.lst ((pts (Fv t cs v) (k + 1)).map eLots)] ++ [MO.lst []]).set k .gone = List.replicate (k + 1) .gone ++ [MO.lst []] := by
      rw [List.append_assoc, List.set_append_right _ _ (by simp)]
      simp [List.replicate_succ']
    have e4 : ∀ (x y z w u : Option D) (f : FS), sLk 2 f [x, y, some (.ref k), z, w, u, a, b, c] (List.replicate k MO.gone ++ [MO.lst ((pts (Fv t cs v) (k + 1)).map eLots)] ++ [MO.lst []]) = f [x, y, some (.lst ((pts (Fv t cs v) (k + 1)).map eLots)), z, w, u, a, b, c] (List.replicate (k + 1) .gone ++ [MO.lst []]) := fun x y z w u f => by
      rw [lk_ok (i := 2) (j := k) rfl e2, e3]; rfl
    have e5 : (List.replicate k MO.gone ++ [MO.lst ((pts (Fv t cs v) (k + 1)).map eLots)]).length = k + 1 := by simp
    have e6 : sSet 4 (fOf kOwn aNil) [some (eTree t), some (eDay v cs), some (.ref k), some (.int ((k + 1 : Nat) : Int)), e, d, a, b, c] (List.replicate k MO.gone ++ [MO.lst ((pts (Fv t cs v) (k + 1)).map eLots)]) = .next [some (eTree t), some (eDay v cs), some (.ref k), some (.int ((k + 1 : Nat) : Int)), some (.ref (k + 1)), d, a, b, c] (List.replicate k MO.gone ++ [MO.lst ((pts (Fv t cs v) (k + 1)).map eLots)] ++ [MO.lst []]) := by
      simp
    show RS.seq (sSet 4 (fOf kOwn aNil) _ _) _ = _
    rw [e6, RS.seq_next]
    show RS.seq (sLk 2 _ _ _) _ = _
    rw [e4]
    simp at h1
    simp [h1]
theorem law_fewest_ok (hpos : 0 < cs.length) (M : Mem) : kPure m__law_fewest [eTree t, eDay v cs] M = .ok (.int (fewV t cs v)) M := by
  refine pure_ok (es := [eTree t, eDay v cs]) (by simp) ?_ (by simp)
  obtain ⟨env2, M2, h1, ⟨x, a, b, c, d, e, rfl⟩, rfl⟩ := for_ix (t := .name 3) (b := gBody) (e := fun i : Nat => D.int i) (xs := List.range cs.length) (env := [some (eTree t), some (eDay v cs), some (gS (Fv t cs v) 0), none, none, none, none, none, none]) (M := gM (Fv t cs v) 0)
    (I := fun i env M => (∃ x a b c d e, env = [some (eTree t), some (eDay v cs), some (gS (Fv t cs v) i), x, e, d, a, b, c]) ∧ M = gM (Fv t cs v) i) ⟨⟨_, _, _, _, _, _, rfl⟩, rfl⟩ (by
      rintro i hi env M ⟨⟨x, a, b, c, d, e, rfl⟩, rfl⟩
      have hi' : i < cs.length := by simpa using hi
      refine ⟨_, rfl, ?_⟩
      have e0 : (List.range cs.length)[i] = i := by simp
      obtain ⟨a', b', c', d', h2⟩ := gBody_ok g hv hv2 hc hn hi' a b c d e
      simp only [e0, List.set_cons_succ, List.set_cons_zero]
      rw [h2]
      exact ⟨⟨_, _, _, _, _, _, rfl⟩, rfl⟩)
  have eb : b__law_fewest = (sSeq (sSet 2 (fOf kLst (aCons (fOf kLst aNil) aNil)))
    (sSeq (sForI (iOfA kRg1 (aCons (fOf (k1 kLen) (aCons (f2 kIx (fVar 1) (fC (.int 2))) aNil)) aNil)) (.name 3) gBody)
    (sLk 2 (sRet (fOf (kMin) (aCons (fComp [5] (iOf kIt (fVar 2)) (.name 5) tYesF (fOf (k1 kLen) (aCons (fVar 5) aNil))) aNil)))))) := by unfold b__law_fewest gBody gOne gIf; rfl
  obtain ⟨n, hcn⟩ : ∃ n, cs.length = n + 1 := ⟨cs.length - 1, by omega⟩
  have e1 : kRg1 [.int (cs.length : Int)] [] = .ok ((List.range cs.length).map fun i : Nat => D.int i) [] := kRg1_nat _ (by omega)
  have e2 := compL_map (own := [5]) (t := .name 5) (tt := tYesF) (f := (fOf (k1 kLen) (aCons (fVar 5) aNil))) (env := [some (eTree t), some (eDay v cs), some (.lst ((pts (Fv t cs v) cs.length).map eLots)), x, e, d, a, b, c]) (e := eLots) (g := fun l => eN l.length) (M := List.replicate n .gone ++ [.gone]) (pts (Fv t cs v) cs.length) (by
    intro l hl
    exact ⟨_, rfl, rfl, by simp [wipeD]⟩)
  have hmin := List.min?_eq_some_iff.mp (few_min (Fv t cs v) cs.length)
  have e3 : ∀ M, kMin [.lst ((pts (Fv t cs v) cs.length).map fun l => eN l.length)] M = .ok (.int (few (Fv t cs v) cs.length : Nat)) M := fun M => by
    rw [show ((pts (Fv t cs v) cs.length).map fun l => eN l.length) = ((pts (Fv t cs v) cs.length).map List.length).map eN by simp]
    exact kMin_of hmin.1 hmin.2
  have h6 := pts_small (F := Fv t cs v) hn
  have h7 : (pts (Fv t cs v) cs.length).length ≤ 16777216 := by omega
  rw [List.length_range] at h1
  have h8 : gM (Fv t cs v) cs.length = List.replicate n .gone ++ [.lst ((pts (Fv t cs v) cs.length).map eLots)] := by rw [hcn]; rfl
  have h9 : gS (Fv t cs v) cs.length = .ref n := by rw [hcn]; rfl
  rw [h8, h9] at h1
  have e5 : (List.replicate n MO.gone ++ [MO.lst ((pts (Fv t cs v) cs.length).map eLots)]).set n MO.gone = List.replicate n .gone ++ [.gone] := by
    rw [List.set_append_right _ _ (by simp)]; simp
  have e4 : ∀ (f : FS), sLk 2 f [some (eTree t), some (eDay v cs), some (.ref n), x, e, d, a, b, c] (List.replicate n MO.gone ++ [.lst ((pts (Fv t cs v) cs.length).map eLots)]) = f [some (eTree t), some (eDay v cs), some (.lst ((pts (Fv t cs v) cs.length).map eLots)), x, e, d, a, b, c] (List.replicate n MO.gone ++ [.gone]) := fun f => by
    rw [lk_ok (i := 2) (j := n) (ds := (pts (Fv t cs v) cs.length).map eLots) rfl (by simp), e5]
    simp only [List.set_cons_succ, List.set_cons_zero]
  simp only [gS, gM] at h1
  have hz : (pts (Fv t cs v) 0).map eLots = [.lst []] := rfl
  rw [hz] at h1
  simp only [m__law_fewest, eb]
  simp [e1, h1, e4, e2, h7, e3]
  exact trim0b (by simp)
end
end K91P

-- K91A
set_option Elab.async false
set_option linter.all false
set_option maxRecDepth 100000
set_option maxHeartbeats 1000000
namespace K91P
open PySem DL L2 K91
/-! the drawn day -/
theorem eqv_pCa (a b : Ca) : PyData.eqv (pCa a) (pCa b) = true ↔ a = b := by
  obtain ⟨h, p, r⟩ := a; obtain ⟨h', p', r'⟩ := b
  simp [PyData.eqv, PyData.eqvAll]
  omega
theorem kNotIn_Ca {M : Mem} {n : Nat} {cs : List Ca} {c : Ca} (h : M[n]? = some (.lst (cs.map eCa))) : ∃ b : Bool, (b = true ↔ c ∉ cs) ∧ kNotIn (eCa c) (.ref n) M = .ok (.bl b) M := by
  refine ⟨!((cs.map pCa).any fun z => PyData.eqv z (pCa c)), ?_, ?_⟩
  · simp only [Bool.not_eq_true', List.any_eq_false, List.mem_map]
    constructor
    · intro hz hc
      exact hz (pCa c) ⟨c, hc, rfl⟩ ((eqv_pCa c c).mpr rfl)
    · rintro hc _ ⟨z, hz, rfl⟩ he
      rw [eqv_pCa] at he
      subst he; exact hc hz
  · have e1 : dkD M (.ref n) = none := dkD_ref h
    have e2 : lsD M (.ref n) = some (cs.map eCa) := lsD_ref h
    have e3 : (eCa c).flat = false := rfl
    have e4 := deep_sd (sd_eCa (M := M) c) (Sd.lst (M := M) (k := 2) (xs := cs) (by omega) fun z _ => sd_eCa z) (by omega) (by omega)
    unfold kNotIn inD
    rw [e1, e2]
    simp only [e3, Bool.false_and, Bool.false_eq_true, if_false, e4, Option.bind_some]
    rfl
def leC (a b : Ca) : Bool := !PySem.W.dataLt (pCa b) (pCa a)
theorem leC_iff {a b : Ca} : leC a b = true ↔ ¬ ltC b a := by
  unfold leC ltC
  rw [dataLt_iii]
  simp only [Bool.not_eq_true', decide_eq_false_iff_not]
  omega
theorem pysD_Ca {M : Mem} : ∀ cs : List Ca, pysD M (cs.map eCa) = some (cs.map pCa)
  | [] => rfl
  | c :: cs => by
    rw [List.map_cons, pysD, (sd_eCa (M := M) c).py 12 (by omega)]
    simp [pysD_Ca cs]
theorem kSortT_Ca {M : Mem} {n : Nat} {cs : List Ca} (h : M[n]? = some (.lst (cs.map eCa))) : kSortT (.ref n) M = .ok (.lst ((cs.mergeSort leC).map eCa)) M := by
  have e2 : lsD M (.ref n) = some (cs.map eCa) := lsD_ref h
  unfold kSortT
  rw [e2]
  simp only [pysD_Ca]
  have e3 : sortKey (cs.map pCa) = true := by
    unfold sortKey
    simp [PySem.W.alike, PySem.W.alikeAll, PyData.depth, PyData.depthAll]
  rw [if_pos e3]
  congr 2
  have e4 : (cs.map eCa).zip (cs.map pCa) = cs.map fun c => (eCa c, pCa c) := by
    rw [List.zip_map', ]
  rw [e4, ← List.map_mergeSort (r := leC) (f := fun c => (eCa c, pCa c))]
  · rw [List.map_map]; rfl
  · intro a _ b _; rfl
theorem sort_ri {cs : List Ca} (h : cs.Nodup) : (cs.mergeSort leC).Pairwise ltC := by
  have h1 := List.pairwise_mergeSort (le := leC) (fun a b c h1 h2 => by rw [leC_iff] at *; unfold ltC at *; omega) (fun a b => by
    rw [Bool.or_eq_true, leC_iff, leC_iff]; unfold ltC; omega) cs
  have h2 : (cs.mergeSort leC).Nodup := (List.mergeSort_perm cs leC).nodup_iff.mpr h
  refine (h1.and h2).imp ?_
  rintro ⟨h, p, r⟩ ⟨h', p', r'⟩ ⟨h1, h2⟩
  rw [leC_iff] at h1
  simp at h2
  unfold ltC at *
  simp at *
  omega
structure DayD (t : List (Nat × Nat)) (v : Int × Int) (cs : List Ca) : Prop where
  ok : DayOk t v cs
  v1 : v.1 ≤ 8
  v2 : v.2 ≤ 3
  h4 : ∀ c ∈ cs, c.h ≤ 4
  r5 : ∀ c ∈ cs, c.r ≤ 5
@[irreducible] def dyB : FS := (sSeq (sSet 5 (fOf kTup (aCons (fCall (kImp (shN 2) m__law_draw) (aCons (fVar 0) (aCons (fC (.int 5)) aNil)) aNil) (aCons (fCall (kImp (shN 2) m__law_draw) (aCons (fVar 0) (aCons (f2 kAdd (fOf (k1 kLen) (aCons (f2 kIx (fVar 1) (fC (.int 1))) aNil)) (fC (.int 1))) aNil)) aNil) (aCons (fCall (kImp (shN 2) m__law_draw) (aCons (fVar 0) (aCons (fC (.int 6)) aNil)) aNil) aNil)))))
  (sDrop (fBm kExtend (fVar 3) (aCons (fIf (tOf (f2 kNotIn (fVar 5) (fVar 3))) (fOf kLst (aCons (fVar 5) aNil)) (fOf kLst aNil)) aNil))))
structure Cs (t : List (Nat × Nat)) (i : Nat) (cs : List Ca) : Prop where
  nd : cs.Nodup
  le : cs.length ≤ i
  ge : 0 < i → 0 < cs.length
  b : ∀ c ∈ cs, c.h ≤ 4 ∧ c.p ≤ t.length ∧ c.r ≤ 5
theorem dyB_ok {t : List (Nat × Nat)} (hl : t.length ≤ 23) {i : Nat} (hi : i ≤ 1000) {cs : List Ca} (h : Cs t i cs) (p : Pot) (n : Int) (x5 : Option D) : ∃ cs' q x5', Cs t (i + 1) cs' ∧ dyB [some (.ref 0), some (eTree t), some (.int n), some (.ref 1), some (.int i), x5] [pt p, .lst (cs.map eCa)] =
    .next [some (.ref 0), some (eTree t), some (.int n), some (.ref 1), some (.int i), x5'] [pt q, .lst (cs'.map eCa)] := by
  obtain ⟨d1, q1, h1, e1⟩ := draw_ok p 5 (by omega) (by omega)
  obtain ⟨d2, q2, h2, e2⟩ := draw_ok q1 ((t.length : Int) + 1) (by omega) (by omega)
  obtain ⟨d3, q3, h3, e3⟩ := draw_ok q2 6 (by omega) (by omega)
  obtain ⟨b, hb, e4⟩ := kNotIn_Ca (M := [pt q3, .lst (cs.map eCa)]) (n := 1) (cs := cs) (c := ⟨d1, d2, d3⟩) rfl
  have hle := h.le
  have g1 : cs.length + 1 ≤ 16777216 := by omega
  have g2 : cs.length ≤ 16777216 := by omega
  simp only [eCa] at e4
  cases b with
  | true =>
    refine ⟨cs ++ [⟨d1, d2, d3⟩], q3, some (eCa ⟨d1, d2, d3⟩), ⟨?_, by simp; omega, by simp, ?_⟩, ?_⟩
    · rw [List.nodup_append]
      refine ⟨h.nd, by simp, ?_⟩
      intro a ha b' hb' hab
      simp at hb'
      subst hb' hab
      exact hb.mp rfl ha
    · intro c hc
      rcases List.mem_append.mp hc with hc | hc
      · exact h.b c hc
      · simp at hc; subst hc
        exact ⟨by simp; omega, by simp; omega, by simp; omega⟩
    · unfold dyB
      simp [e1, e2, e3, e4, g1]
  | false =>
    have hc : (⟨d1, d2, d3⟩ : Ca) ∈ cs := by
      by_cases hm : (⟨d1, d2, d3⟩ : Ca) ∈ cs
      · exact hm
      · exact absurd (hb.mpr hm) (by simp)
    refine ⟨cs, q3, some (eCa ⟨d1, d2, d3⟩), ⟨h.nd, by omega, fun _ => List.length_pos_of_mem hc, h.b⟩, ?_⟩
    unfold dyB
    simp [e1, e2, e3, e4, g2]
theorem day_ok (p : Pot) {t : List (Nat × Nat)} (hl : t.length ≤ 23) : ∃ v cs q, DayD t v cs ∧ m__law_day [.ref 0, eTree t, .int 6] [pt p] = .ok (eDay v cs) [pt q] := by
  obtain ⟨k, p1, hk, e1⟩ := draw_ok p 6 (by omega) (by omega)
  obtain ⟨env2, M2, h3, cs, q, ⟨x, y, rfl⟩, rfl, hcs⟩ := for_ix (t := .name 4) (b := dyB) (e := fun i : Nat => D.int i) (xs := List.range (k + 1)) (env := [some (.ref 0), some (eTree t), some (.int 6), some (.ref 1), none, none]) (M := [pt p1, .lst []])
    (I := fun i env M => ∃ cs q, (∃ x y, env = [some (.ref 0), some (eTree t), some (.int 6), some (.ref 1), x, y]) ∧ M = [pt q, .lst (cs.map eCa)] ∧ Cs t i cs) ⟨[], p1, ⟨_, _, rfl⟩, rfl, ⟨by simp, by simp, by simp, by simp⟩⟩ (by
      rintro i hi env M ⟨cs, q, ⟨x, y, rfl⟩, rfl, hcs⟩
      simp at hi
      refine ⟨_, rfl, ?_⟩
      have e0 : (List.range (k + 1))[i]'(by simpa using hi) = i := by simp
      obtain ⟨cs', q', x5', h1, h2⟩ := dyB_ok hl (show i ≤ 1000 by omega) hcs q 6 y
      simp only [e0, List.set_cons_succ, List.set_cons_zero]
      rw [h2]
      exact ⟨cs', q', ⟨_, _, rfl⟩, rfl, h1⟩)
  obtain ⟨d1, q1, h1, e2⟩ := draw_ok q 9 (by omega) (by omega)
  obtain ⟨d2, q2, h2, e3⟩ := draw_ok q1 3 (by omega) (by omega)
  rw [List.length_range] at hcs
  have hlow := low_b (a := (d1 : Int)) (b := 1 + (d2 : Int)) (by omega)
  have hlp := low_pos (a := (d1 : Int)) (b := 1 + (d2 : Int)) (by omega)
  have hl0 : 0 ≤ (low (d1 : Int) (1 + (d2 : Int))).1 := Int.ediv_nonneg (by omega) (by omega)
  have hperm := List.mergeSort_perm cs leC
  have hmem : ∀ c, c ∈ cs.mergeSort leC ↔ c ∈ cs := fun c => hperm.mem_iff
  have hlen : (cs.mergeSort leC).length = cs.length := hperm.length_eq
  refine ⟨low (d1 : Int) (1 + (d2 : Int)), cs.mergeSort leC, q2, ⟨⟨can_low (by omega), ⟨hl0, by omega, hlp, by omega⟩, ?_, ?_, ?_, sort_ri hcs.nd⟩, by omega, by omega, ?_, ?_⟩, ?_⟩
  · intro c hc
    have := hcs.b c ((hmem c).mp hc)
    exact ⟨by omega, by omega, by omega⟩
  · rw [hlen]; exact hcs.ge (by omega)
  · rw [hlen]; have := hcs.le; omega
  · intro c hc; exact (hcs.b c ((hmem c).mp hc)).1
  · intro c hc; exact (hcs.b c ((hmem c).mp hc)).2.2
  · have eb : b__law_day = (sSeq (sSet 3 (fOf kOwn aNil))
      (sSeq (sForI (iOfA kRg1 (aCons (f2 kAdd (fC (.int 1)) (fCall (kImp (shN 2) m__law_draw) (aCons (fVar 0) (aCons (fVar 2) aNil)) aNil)) aNil)) (.name 4) dyB)
      (sRet (fOf kTup (aCons (fC (.str "day")) (aCons (fCall (kPur (shN 2) m__law_low) (aCons (fCall (kImp (shN 2) m__law_draw) (aCons (fVar 0) (aCons (fC (.int 9)) aNil)) aNil) (aCons (f2 kAdd (fC (.int 1)) (fCall (kImp (shN 2) m__law_draw) (aCons (fVar 0) (aCons (fC (.int 3)) aNil)) aNil)) aNil)) aNil) (aCons (fOf (k1 kTuple) (aCons (fOf (k1 kSortT) (aCons (fVar 3) aNil)) aNil)) aNil))))))) := by unfold b__law_day dyB; rfl
    have e5 : kRg1 [.int (1 + (k : Int))] [pt p1, .lst []] = .ok ((List.range (k + 1)).map fun i : Nat => D.int i) [pt p1, .lst []] := by
      rw [show 1 + (k : Int) = ((k + 1 : Nat) : Int) by omega, kRg1_nat _ (by omega)]
    have e6 := law_low_ok (a := (d1 : Int)) (b := 1 + (d2 : Int)) (by omega) (by omega) [pt q2, .lst (cs.map eCa)]
    have e7 := kSortT_Ca (M := [pt q2, .lst (cs.map eCa)]) (n := 1) (cs := cs) rfl
    simp only [m__law_day, eb]
    simp [e1, e5, h3, e2, e3, e6, e7]
    exact trim_blw (by simp [blw_pt]) (by simp)
end K91P

-- K91O
set_option Elab.async false
set_option linter.all false
set_option maxRecDepth 100000
set_option maxHeartbeats 1000000
namespace K91P
open PySem DL L2 K91
/-! twice as long -/
def dblP (p : Nat × Nat) : Nat × Nat := (p.1, 2 * p.2)
def dblT (t : List (Nat × Nat)) : List (Nat × Nat) := t.map dblP
def dblC (c : Ca) : Ca := ⟨c.h, c.p, 2 * c.r⟩
theorem getD_dbl (t : List (Nat × Nat)) (i : Nat) : (dblT t).getD i (0, 0) = dblP (t.getD i (0, 0)) := by
  unfold dblT
  rw [List.getD_eq_getElem?_getD, List.getD_eq_getElem?_getD, List.getElem?_map]
  cases t[i]? <;> rfl
theorem fa_dbl (t : List (Nat × Nat)) (p : Nat) : fa (dblT t) p = fa t p := by unfold fa; rw [getD_dbl]; rfl
theorem ln_dbl (t : List (Nat × Nat)) (p : Nat) : ln (dblT t) p = 2 * ln t p := by unfold ln; rw [getD_dbl]; rfl
theorem up_dbl (t : List (Nat × Nat)) : ∀ p, up (dblT t) p = up t p := by
  intro p
  induction p using Nat.strongRecOn with
  | _ p ih =>
    by_cases h : p = 0
    · subst h; rw [up_zero, up_zero]
    · have e1 : up (dblT t) p = p :: up (dblT t) (min (fa (dblT t) p) (p - 1)) := by rw [up, dif_neg h]
      have e2 : up t p = p :: up t (min (fa t p) (p - 1)) := by rw [up, dif_neg h]
      rw [e1, e2, fa_dbl, ih _ (by omega)]
theorem dep_dbl (t : List (Nat × Nat)) : ∀ p, dep (dblT t) p = 2 * dep t p := by
  intro p
  induction p using Nat.strongRecOn with
  | _ p ih =>
    by_cases h : p = 0
    · subst h; rw [dep_zero, dep_zero]
    · have e1 : dep (dblT t) p = dep (dblT t) (min (fa (dblT t) p) (p - 1)) + ln (dblT t) p := by rw [dep, dif_neg h]
      have e2 : dep t p = dep t (min (fa t p) (p - 1)) + ln t p := by rw [dep, dif_neg h]
      rw [e1, e2, fa_dbl, ln_dbl, ih _ (by omega)]; omega
theorem way_dbl (t : List (Nat × Nat)) (a b : Nat) : way (dblT t) a b = 2 * way t a b := by
  unfold way lcp
  rw [up_dbl, up_dbl, dep_dbl, dep_dbl, dep_dbl]
  omega
theorem cAt_dbl (cs : List Ca) (i : Nat) : cAt (cs.map dblC) i = dblC (cAt cs i) := by
  unfold cAt
  rw [List.getD_eq_getElem?_getD, List.getD_eq_getElem?_getD, List.getElem?_map]
  cases cs[i]? <;> rfl
theorem over_dbl (t : List (Nat × Nat)) (c c' : Ca) : over (dblT t) (dblC c) (dblC c') = 2 * over t c c' := by
  unfold over dblC
  simp only [way_dbl]
  omega
theorem Fv_dbl (t : List (Nat × Nat)) (cs : List Ca) (w : Int × Int) (i j : Nat) : Fv (dblT t) (cs.map dblC) w i j = Fv t cs (w.1, 2 * w.2) i j := by
  rw [Bool.eq_iff_iff]
  unfold Fv
  rw [fit_iff, fit_iff, cAt_dbl, cAt_dbl, over_dbl]
  have e : dh (dblC (cAt cs i)) (dblC (cAt cs j)) = dh (cAt cs i) (cAt cs j) := rfl
  rw [e]
  have e2 : 2 * over t (cAt cs i) (cAt cs j) * w.2 = over t (cAt cs i) (cAt cs j) * (2 * w.2) := by grind
  rw [e2]
theorem few_dbl (t : List (Nat × Nat)) (cs : List Ca) (w : Int × Int) : fewV (dblT t) (cs.map dblC) w = fewV t cs (w.1, 2 * w.2) := by
  unfold fewV
  rw [List.length_map]
  exact few_congr fun a b _ _ => (Fv_dbl t cs w a b).symm
theorem few_same {t : List (Nat × Nat)} {cs : List Ca} {u v : Int × Int} (hu : Sp0 u) (hv : Sp0 v) (h : u.1 * v.2 = v.1 * u.2) : fewV t cs u = fewV t cs v :=
  Nat.le_antisymm (few_le hv hu (by omega)) (few_le hu hv (by omega))
theorem least_dbl {t : List (Nat × Nat)} {cs : List Ca} {many : Nat} {u : Int × Int} (hl : (Ss t cs).length ≤ 64) (hl2 : (Ss (dblT t) (cs.map dblC)).length ≤ 64) (h : leastV t cs many = some u) : leastV (dblT t) (cs.map dblC) many = some (low (2 * u.1) u.2) := by
  have h1 := least_is (t := t) (cs := cs) (many := many) hl
  rw [h] at h1
  obtain ⟨hT, hf, hlt⟩ := h1
  have hu := (can_Ts u hT).2
  have hc := can_low (a := 2 * u.1) hu.2
  obtain ⟨k, k1, k2, k3⟩ := low_spec (a := 2 * u.1) hu.2
  have hs : Sp0 (low (2 * u.1) u.2) := ⟨Int.ediv_nonneg (by have := hu.1; omega) (by omega), hc.1⟩
  generalize low (2 * u.1) u.2 = l at *
  have e1 : fewV (dblT t) (cs.map dblC) l = fewV t cs u := by
    rw [few_dbl]
    refine few_same ⟨hs.1, by have := hs.2; simp; omega⟩ hu ?_
    refine Int.eq_of_mul_eq_mul_left (a := 2) (by decide) ?_
    have : 2 * (u.1 * (2 * l.2)) = (2 * u.1) * (2 * l.2) := by grind
    simp only
    rw [this, k2, k3]
    grind
  have h2 := least_is (t := dblT t) (cs := cs.map dblC) (many := many) hl2
  cases ho : leastV (dblT t) (cs.map dblC) many with
  | none =>
    rw [ho] at h2
    have := h2 l hs
    omega
  | some w =>
    rw [ho] at h2
    congr 1
    refine least_one h2 hc hs (by omega) ?_
    intro x hx hxl
    rw [few_dbl]
    refine hlt _ ⟨hx.1, by have := hx.2; simp; omega⟩ ?_
    simp only
    have a := Int.mul_lt_mul_of_pos_left hxl k1
    have e2 : k * (x.1 * l.2) = x.1 * u.2 := by rw [k3]; grind
    have e3 : k * (l.1 * x.2) = u.1 * (2 * x.2) := by
      have : k * (l.1 * x.2) = (k * l.1) * x.2 := by grind
      rw [this, ← k2]; grind
    rw [e2, e3] at a
    exact a
end K91P

-- K91F
set_option Elab.async false
set_option linter.all false
set_option maxRecDepth 100000
set_option maxHeartbeats 1000000
namespace K91P
open PySem DL L2 K91
/-! the law -/
theorem kPur_R3 {ks : List Str} {m : List D → Mem → R D} {a b c : D} {M : Mem} (h : ks.length = 3) : kPur (shR 0 ks) m [] [a, b, c] M = kPure m [c, b, a] M := by
  rw [kPur_ok ⟨rfl, by simp [shR, h]⟩]; rfl
theorem Sd.p12 {M : Mem} {k : Nat} {d : D} {p : PyData} (h : Sd M k d p) (hk : k ≤ 12) : D.py M 12 d = some p := h.py 12 hk
theorem sd_eV {M : Mem} (o : Option (Int × Int)) : ∃ p, Sd M 2 (eV o) p ∧ ((∀ u, o = some u → 0 ≤ u.1 ∧ u.1 < 2 ^ 21 ∧ 0 < u.2 ∧ u.2 ≤ 99) → Sm 1 (2 ^ 22 + 100) p) := by
  cases o with
  | none =>
    refine ⟨.none, ⟨fun n hn => ?_, by simp [PyData.canLay0], by simp [PyData.depth]⟩, fun _ => Sm.none (by omega)⟩
    obtain ⟨m, rfl⟩ : ∃ m, n = m + 1 := ⟨n - 1, by omega⟩
    simp [eV]
  | some u =>
    refine ⟨_, sd_eR u, fun h => ?_⟩
    obtain ⟨h1, h2, h3, h4⟩ := h u rfl
    refine Sm.tuple (d := 0) (B := 2 ^ 21 + 2) ?_ (by simp)
    intro p hp
    simp at hp
    rcases hp with rfl | rfl
    · exact Sm.int (by omega) (by decide +kernel)
    · exact Sm.int (by omega) (by decide +kernel)
theorem repr_told (o : Option (Int × Int)) (h : ∀ u, o = some u → 0 ≤ u.1 ∧ u.1 < 2 ^ 21 ∧ 0 < u.2 ∧ u.2 ≤ 99) : ∃ x : Str, ∀ M, kRepr (.lst [eV o, eV o]) M = .ok (.str x) M := by
  have hp : ∀ M, Sd M 2 (eV o) (sd_eV (M := []) o).choose := by
    intro M
    have := (sd_eV (M := []) o).choose_spec.1
    refine ⟨fun n hn => ?_, this.la, this.de⟩
    have h2 := this.py n hn
    cases o with
    | none => obtain ⟨m, rfl⟩ : ∃ m, n = m + 1 := ⟨n - 1, by omega⟩; simpa [eV] using h2
    | some u =>
      obtain ⟨m, rfl⟩ : ∃ m, n = m + 2 := ⟨n - 2, by omega⟩
      simp only [eV, py_tup, List.mapM_cons, py_int] at h2 ⊢
      exact h2
  have hs := (sd_eV (M := []) o).choose_spec.2 h
  generalize (sd_eV (M := []) o).choose = p at hp hs
  refine ⟨(PyData.list [p, p]).shown, fun M => ?_⟩
  refine repr_ok (k := 2) (B := 2 * (2 ^ 22 + 100 + 2) + 4) (Sd.p12 (Sd.lst (e := fun _ : Bool => eV o) (q := fun _ => p) (xs := [true, true]) (k := 2) (by omega) fun _ _ => hp M) (by omega)) ?_ (by omega) (by omega)
  refine Sm.list (d := 1) (B := 2 ^ 22 + 100) ?_ (by simp)
  intro q hq
  simp at hq
  subst hq; exact hs
theorem good_of {t : List (Nat × Nat)} (hT : TreeIs t) (hl : t.length < 24) : GoodT t := ⟨hl, fun i p h => by obtain ⟨h1, h2, h3⟩ := hT i p h; exact ⟨h1, h2, by omega⟩⟩
theorem good_dbl {t : List (Nat × Nat)} (hT : TreeIs t) (hl : t.length < 24) : GoodT (dblT t) := by
  refine ⟨by simp [dblT]; exact hl, fun i p h => ?_⟩
  unfold dblT at h
  rw [List.getElem?_map] at h
  obtain ⟨q, hq, rfl⟩ := Option.map_eq_some_iff.mp h
  obtain ⟨h1, h2, h3⟩ := hT i q hq
  exact ⟨h1, by simp [dblP]; omega, by simp [dblP]; omega⟩
theorem day_dbl {t : List (Nat × Nat)} {v : Int × Int} {cs : List Ca} (h : DayD t v cs) : DayOk (dblT t) v (cs.map dblC) := by
  refine ⟨h.ok.can, h.ok.sp, ?_, by simp; exact h.ok.ne, by simp; exact h.ok.le, ?_⟩
  · intro c hc
    obtain ⟨c', hc', rfl⟩ := List.mem_map.mp hc
    obtain ⟨a1, a2, a3⟩ := h.ok.gc c' hc'
    have := h.r5 c' hc'
    exact ⟨a1, by simp [dblC, dblT]; exact a2, by simp [dblC]; omega⟩
  · rw [List.pairwise_map]
    refine h.ok.ri.imp ?_
    intro a b hab
    unfold ltC dblC at *
    simp only
    omega
theorem day_at {t : List (Nat × Nat)} {v u : Int × Int} {cs : List Ca} (h : DayOk t v cs) (hc : Can u) (hs : Sp u) : DayOk t u cs := ⟨hc, hs, h.gc, h.ne, h.le, h.ri⟩
theorem Ts_d {t : List (Nat × Nat)} {v : Int × Int} {cs : List Ca} (h : DayD t v cs) {u : Int × Int} (hu : u ∈ Ts t cs) (h0 : u ≠ (0, 1)) : 0 < u.1 ∧ u.2 ≤ 4 := by
  rcases List.mem_cons.mp hu with rfl | hu
  · exact absurd rfl h0
  · obtain ⟨i, j, hij, hj, h1, h2, rfl⟩ := mem_thrs.mp hu
    have hd := dh_pos h2
    obtain ⟨g, g1, g2, g3⟩ := low_spec (a := over t (cAt cs i) (cAt cs j)) hd
    have a1 := h.h4 _ (cAt_mem (show i < cs.length by omega))
    have a2 := h.h4 _ (cAt_mem hj)
    have hb := (low_b (a := over t (cAt cs i) (cAt cs j)) hd).1
    refine ⟨?_, ?_⟩
    · rw [g2] at h1
      exact Int.pos_of_mul_pos_right h1 g1
    · unfold dh at hb
      unfold dh
      omega
section
variable {t : List (Nat × Nat)} (hT : TreeIs t) (hl : t.length < 24) {v : Int × Int} {cs : List Ca} (hD : DayD t v cs) {many : Nat} (hm : many ≤ 99)
include hT hl hD hm
theorem told_b {u : Int × Int} (h : leastV t cs many = some u) : u ∈ Ts t cs ∧ (0 ≤ u.1 ∧ u.1 < 2 ^ 21 ∧ 0 < u.2 ∧ u.2 ≤ 99) ∧ fewV t cs u ≤ many ∧ ∀ w, Sp0 w → w.1 * u.2 < u.1 * w.2 → many < fewV t cs w := by
  have g := good_of hT hl
  have hi := least_is (t := t) (cs := cs) (many := many) (by have := Ss_len g hD.ok.gc hD.ok.le; omega)
  rw [h] at hi
  exact ⟨hi.1, Ts_b g hD.ok.gc u hi.1, hi.2.1, hi.2.2⟩
theorem many_none (p : Pot) (h : leastV t cs many = none) : ∃ q, m__law_many_right [.ref 0, eTree t, eDay v cs, .int many] [pt p] = .ok (.bl true) [pt q] := by
  have g := good_of hT hl
  obtain ⟨d, q, hd, e1⟩ := draw_ok p 40 (by omega) (by omega)
  refine ⟨q, ?_⟩
  have hlow := low_b (a := (d : Int)) (b := 7) (by omega)
  have hlp := low_pos (a := (d : Int)) (b := 7) (by omega)
  have hl0 : 0 ≤ (low (d : Int) 7).1 := Int.ediv_nonneg (by omega) (by omega)
  have f1 := fun M => least_speed_ok g hD.ok hm M
  have f2 := fun M => law_low_ok (a := (d : Int)) (b := 7) (by omega) (by omega) M
  have f3 := fun M => least_speed_ok g (day_at hD.ok (can_low (a := (d : Int)) (b := 7) (by omega)) ⟨hl0, by omega, hlp, by omega⟩) hm M
  obtain ⟨x, f4⟩ := repr_told (leastV t cs many) (by rw [h]; simp)
  have f5 := fun M => law_fewest_ok g (v := (1000000, 1)) ⟨by simp, by simp, by simp, by simp⟩ (by simp) hD.ok.gc hD.ok.le hD.ok.ne M
  have f6 : ∀ M, kPow (.int 10) (.int 6) M = .ok (.int 1000000) M := fun M => by rw [kPow_int _ _ (by decide)]; rfl
  have hi := least_is (t := t) (cs := cs) (many := many) (by have := Ss_len g hD.ok.gc hD.ok.le; omega)
  rw [h] at hi f1 f3 f4
  have f7 : (many : Int) < fewV t cs (1000000, 1) := by
    have := hi (1000000, 1) ⟨by simp, by simp⟩
    omega
  simp only [eV] at f1 f3 f4 f5
  simp [m__law_many_right, b__law_many_right, f1, e1, f2, f3, kPur_R3, f4, f5, f6, f7, D.isNon]
  exact trim_blw (by simp [blw_pt]) (by simp)
end
theorem cmp_t {t : List (Nat × Nat)} {x0 x1 x2 x3 x4 x5 x6 x7 x8 x9 x10 x11 x12 x13 x14 : Option D} {M : Mem} : compL [10, 11] (.tup [(.name 10), (.name 11)]) tYesF (fOf kTup (aCons (fVar 10) (aCons (f2 kMulI (fC (.int 2)) (fVar 11)) aNil))) [x0, x1, x2, x3, x4, x5, x6, x7, x8, x9, x10, x11, x12, x13, x14] (t.map eTie) M = .ok (t.map fun p => eTie (dblP p)) M := by
  refine compL_map _ _ _ _ _ _ _ _ _ fun p hp => ⟨_, rfl, rfl, ?_⟩
  have e := kMulI_int (M := M) 2 (p.2 : Int) (by omega)
  simp [wipeD, e, eTie, dblP]
theorem cmp_c {cs : List Ca} {x0 x1 x2 x3 x4 x5 x6 x7 x8 x9 x10 x11 x12 x13 x14 : Option D} {M : Mem} : compL [12, 13, 14] (.tup [(.name 12), (.name 13), (.name 14)]) tYesF (fOf kTup (aCons (fVar 12) (aCons (fVar 13) (aCons (f2 kMulI (fC (.int 2)) (fVar 14)) aNil)))) [x0, x1, x2, x3, x4, x5, x6, x7, x8, x9, x10, x11, x12, x13, x14] (cs.map eCa) M = .ok (cs.map fun c => eCa (dblC c)) M := by
  refine compL_map _ _ _ _ _ _ _ _ _ fun c hc => ⟨_, rfl, rfl, ?_⟩
  have e := kMulI_int (M := M) 2 (c.r : Int) (by omega)
  simp [wipeD, e, eCa, dblC]
section
variable {t : List (Nat × Nat)} (hT : TreeIs t) (hl : t.length < 24) {v : Int × Int} {cs : List Ca} (hD : DayD t v cs) {many : Nat} (hm : many ≤ 99)
include hT hl hD hm
theorem many_some (p : Pot) {u : Int × Int} (h : leastV t cs many = some u) : ∃ q, m__law_many_right [.ref 0, eTree t, eDay v cs, .int many] [pt p] = .ok (.bl true) [pt q] := by
  have g := good_of hT hl
  obtain ⟨d, q, hd, e1⟩ := draw_ok p 40 (by omega) (by omega)
  refine ⟨q, ?_⟩
  obtain ⟨hT', ⟨b1, b2, b3, b4⟩, hfew, hless⟩ := told_b hT hl hD hm h
  have hcu := can_Ts u hT'
  have hsu : Sp u := sp_of ⟨b1, b2, b3, b4⟩
  have hlow := low_b (a := (d : Int)) (b := 7) (by omega)
  have hlp := low_pos (a := (d : Int)) (b := 7) (by omega)
  have hl0 : 0 ≤ (low (d : Int) 7).1 := Int.ediv_nonneg (by omega) (by omega)
  have f1 := fun M => least_speed_ok g hD.ok hm M
  have f2 := fun M => law_low_ok (a := (d : Int)) (b := 7) (by omega) (by omega) M
  have f3 := fun M => least_speed_ok g (day_at hD.ok (can_low (a := (d : Int)) (b := 7) (by omega)) ⟨hl0, by omega, hlp, by omega⟩) hm M
  obtain ⟨x, f4⟩ := repr_told (leastV t cs many) (by rw [h]; intro w hw; cases hw; exact ⟨b1, b2, b3, b4⟩)
  have f5 := fun M => law_fewest_ok g hsu (by omega) hD.ok.gc hD.ok.le hD.ok.ne M
  have f6 := fun M => fewest_riders_ok g (day_at hD.ok hcu.1 hsu) M
  obtain ⟨y, hy, hyl, f7⟩ := riders_paper_ok g (day_at hD.ok hcu.1 hsu) hm hfew
  have f8 := fun M => is_riders_paper_ok g (day_at hD.ok hcu.1 hsu) hm hy hyl M
  have f9 : ¬ (many : Int) < fewV t cs u := by omega
  have f10 : ∀ M, kNe (eR u) (.tup [.int 0, .int 1]) M = .ok (.bl (!decide (u = (0, 1)))) M := fun M => kNe_eR u (0, 1)
  have hle1 : (Ss t cs).length ≤ 64 := by have := Ss_len g hD.ok.gc hD.ok.le; omega
  have hdd := day_dbl hD
  have hle2 : (Ss (dblT t) (cs.map dblC)).length ≤ 64 := by have := Ss_len (good_dbl hT hl) hdd.gc hdd.le; omega
  have f11 : ∀ M, kPure m_least_speed [.tup [.str "tree", .tup (t.map fun p => eTie (dblP p))], .tup [.str "day", eR v, .tup (cs.map fun c => eCa (dblC c))], .int many] M = .ok (eR (low (2 * u.1) u.2)) M := fun M => by
    have := least_speed_ok (good_dbl hT hl) hdd hm M
    rw [least_dbl hle1 hle2 h] at this
    rw [show (t.map fun p => eTie (dblP p)) = (dblT t).map eTie by simp [dblT], show (cs.map fun c => eCa (dblC c)) = (cs.map dblC).map eCa by simp]
    exact this
  have f12 : ∀ M, kPure m__law_times [eR u, .tup [.int 2, .int 1]] M = .ok (eR (low (2 * u.1) u.2)) M := fun M => by
    have := law_times_ok (p := u) (q := (2, 1)) (rt_of ⟨b1, b2, b3, b4⟩) ⟨by simp, by simp, by simp, by simp⟩ (by simp; omega) M
    simp only [Int.mul_one] at this
    rw [Int.mul_comm 2 u.1]
    exact this
  have f13 : ∀ M, kEq (eR (low (2 * u.1) u.2)) (eR (low (2 * u.1) u.2)) M = .ok (.bl true) M := fun M => by rw [kEq_eR]; simp
  have g1 : t.length ≤ 16777216 := by omega
  have g2 : cs.length ≤ 16777216 := by have := hD.ok.le; omega
  rw [h] at f1 f3 f4
  simp only [eV] at f1 f3 f4
  have f14 : ∀ M, kPow (.int 10) (.int 4) M = .ok (.int 10000) M := fun M => by rw [kPow_int _ _ (by decide)]; rfl
  by_cases h0 : u = (0, 1)
  · generalize low (2 * u.1) u.2 = w at f11 f12 f13
    have f15 : (u = (0, 1)) = True := eq_true h0
    clear h0
    simp [m__law_many_right, b__law_many_right, f1, e1, f2, f3, kPur_R3, f4, f5, f6, f7, f8, f9, f10, f15, cmp_t, cmp_c, f11, f12, f13, g1, g2, D.isNon, kNotB]
    exact trim_blw (by simp [blw_pt]) (by simp)
  · obtain ⟨u1, u2⟩ := Ts_d hD hT' h0
    have a1 := low_b (a := u.1 * 10000 - 1 * u.2) (b := u.2 * 10000) (by omega)
    have a2 := low_pos (a := u.1 * 10000 - 1 * u.2) (b := u.2 * 10000) (by omega)
    have a3 : 0 ≤ (low (u.1 * 10000 - 1 * u.2) (u.2 * 10000)).1 := Int.ediv_nonneg (by omega) (by omega)
    have a4 : (low (u.1 * 10000 - 1 * u.2) (u.2 * 10000)).1 * u.2 < u.1 * (low (u.1 * 10000 - 1 * u.2) (u.2 * 10000)).2 := by
      obtain ⟨k, k1, k2, k3⟩ := low_spec (a := u.1 * 10000 - 1 * u.2) (b := u.2 * 10000) (by omega)
      generalize low (u.1 * 10000 - 1 * u.2) (u.2 * 10000) = l at *
      refine Int.lt_of_mul_lt_mul_left (a := k) ?_ (Int.le_of_lt k1)
      have e5 : k * (l.1 * u.2) = (u.1 * 10000 - 1 * u.2) * u.2 := by rw [k2]; grind
      have e6 : k * (u.1 * l.2) = u.1 * (u.2 * 10000) := by rw [k3]; grind
      rw [e5, e6]
      have e7 : (u.1 * 10000 - 1 * u.2) * u.2 = u.1 * (u.2 * 10000) - u.2 * u.2 := by grind
      have e8 := Int.mul_pos b3 b3
      omega
    have f15 := fun M => law_minus_ok (p := u) (q := (1, 10000)) (rt_of ⟨b1, b2, b3, b4⟩) ⟨by simp, by simp, by simp, by simp⟩ (by simp; omega) M
    simp only at f15
    generalize low (u.1 * 10000 - 1 * u.2) (u.2 * 10000) = l at *
    have f16 := fun M => law_fewest_ok g (v := l) ⟨a3, by omega, a2, by omega⟩ (by omega) hD.ok.gc hD.ok.le hD.ok.ne M
    have f17 := hless l ⟨a3, a2⟩ a4
    have f18 : ¬ (fewV t cs l : Int) ≤ many := by omega
    have f19 : ∀ M, kMulI (.int u.1) (.int 10000) M = .ok (.int (u.1 * 10000)) M := fun M => kMulI_int _ _ (by omega)
    have f20 : ¬ u.1 * 10000 ≤ u.2 := by omega
    have f21 : (u = (0, 1)) = False := eq_false h0
    clear h0
    generalize low (2 * u.1) u.2 = w at f11 f12 f13
    simp [m__law_many_right, b__law_many_right, f1, e1, f2, f3, kPur_R3, f4, f5, f6, f7, f8, f9, f10, f14, f15, f16, f18, f19, f20, f21, cmp_t, cmp_c, f11, f12, f13, g1, g2, D.isNon, kNotB]
    exact trim_blw (by simp [blw_pt]) (by simp)
end
/-! the whole law -/
abbrev pTie (p : Nat × Nat) : PyData := .tuple [.int p.1, .int p.2]
abbrev pTree (t : List (Nat × Nat)) : PyData := .tuple [.str "tree", .tuple (t.map pTie)]
abbrev pDay (v : Int × Int) (cs : List Ca) : PyData := .tuple [.str "day", .tuple [.int v.1, .int v.2], .tuple (cs.map pCa)]
theorem sd_eTie {M : Mem} (p : Nat × Nat) : Sd M 2 (eTie p) (pTie p) := Sd.tup2 (by omega) (Sd.int _) (Sd.int _)
theorem sd_tree {M : Mem} (t : List (Nat × Nat)) : Sd M 4 (eTree t) (pTree t) :=
  Sd.tup2 (by omega) ((Sd.str _ (by decide +kernel)).mono (by omega)) (Sd.tup (by omega) fun p _ => sd_eTie p)
theorem sd_day {M : Mem} (v : Int × Int) (cs : List Ca) : Sd M 4 (eDay v cs) (pDay v cs) :=
  Sd.tup (e := (·.1)) (q := (·.2)) (xs := [((D.str "day" : D), (PyData.str "day" : PyData)), (eR v, .tuple [.int v.1, .int v.2]), (.tup (cs.map eCa), .tuple (cs.map pCa))]) (k := 3) (by omega) (by
    intro x hx
    simp only [List.mem_cons, List.not_mem_nil, or_false] at hx
    rcases hx with rfl | rfl | rfl
    · exact (Sd.str _ (by decide +kernel)).mono (by omega)
    · exact (sd_eR v).mono (by omega)
    · exact Sd.tup (by omega) fun c _ => sd_eCa c)
theorem repr_both {t : List (Nat × Nat)} (hT : TreeIs t) (hl : t.length ≤ 8) {v : Int × Int} {cs : List Ca} (hD : DayD t v cs) : ∃ x : Str, ∀ M, kRepr (.lst [eTree t, eDay v cs]) M = .ok (.str x) M := by
  refine ⟨(PyData.list [pTree t, pDay v cs]).shown, fun M => ?_⟩
  have h1 : Sm 3 35000 (pTree t) := by
    refine Sm.tuple (d := 2) (B := 17000) ?_ (by simp)
    intro p hp
    simp only [List.mem_cons, List.not_mem_nil, or_false] at hp
    rcases hp with rfl | rfl
    · exact Sm.str (by decide +kernel)
    · refine Sm.tuple (d := 1) (B := 2010) ?_ (by simp; omega)
      intro p hp
      obtain ⟨q, hq, rfl⟩ := List.mem_map.mp hp
      obtain ⟨i, hi⟩ := List.mem_iff_getElem?.mp hq
      have hit : i < t.length := (List.getElem?_eq_some_iff.mp hi).1
      obtain ⟨a1, a2, a3⟩ := hT i q hi
      refine Sm.tuple (d := 0) (B := 1001) ?_ (by simp)
      intro p hp
      simp only [List.mem_cons, List.not_mem_nil, or_false] at hp
      rcases hp with rfl | rfl
      · exact Sm.int (by omega) (by decide +kernel)
      · exact Sm.int (by omega) (by decide +kernel)
  have h2 : Sm 3 35000 (pDay v cs) := by
    refine Sm.tuple (d := 2) (B := 1000) ?_ (by simp)
    intro p hp
    have hsp := hD.ok.sp
    have hv1 := hD.v1
    have hv2 := hD.v2
    unfold Sp at hsp
    simp only [List.mem_cons, List.not_mem_nil, or_false] at hp
    rcases hp with rfl | rfl | rfl
    · exact Sm.str (by decide +kernel)
    · refine Sm.tuple (d := 1) (B := 100) ?_ (by simp)
      intro p hp
      simp only [List.mem_cons, List.not_mem_nil, or_false] at hp
      rcases hp with rfl | rfl
      · exact Sm.int (by omega) (by decide +kernel)
      · exact Sm.int (by omega) (by decide +kernel)
    · have hle := hD.ok.le
      refine Sm.tuple (d := 1) (B := 120) ?_ (by simp; omega)
      intro p hp
      obtain ⟨c, hc, rfl⟩ := List.mem_map.mp hp
      have a1 := hD.h4 c hc
      have a2 := (hD.ok.gc c hc).2.1
      have a3 := hD.r5 c hc
      refine Sm.tuple (d := 0) (B := 30) ?_ (by simp)
      intro p hp
      simp only [List.mem_cons, List.not_mem_nil, or_false] at hp
      rcases hp with rfl | rfl | rfl
      · exact Sm.int (by omega) (by decide +kernel)
      · exact Sm.int (by omega) (by decide +kernel)
      · exact Sm.int (by omega) (by decide +kernel)
  have hsd : Sd M 5 (.lst [eTree t, eDay v cs]) (.list [pTree t, pDay v cs]) :=
    Sd.lst (e := (·.1)) (q := (·.2)) (xs := [(eTree t, pTree t), (eDay v cs, pDay v cs)]) (k := 4) (by omega) (by
      intro x hx
      simp only [List.mem_cons, List.not_mem_nil, or_false] at hx
      rcases hx with rfl | rfl
      · exact sd_tree t
      · exact sd_day v cs)
  refine repr_ok (k := 4) (B := 70100) (hsd.p12 (by omega)) ?_ (by omega) (by omega)
  refine Sm.list (d := 3) (B := 35000) ?_ (by simp)
  intro q hq
  simp only [List.mem_cons, List.not_mem_nil, or_false] at hq
  rcases hq with rfl | rfl
  · exact h1
  · exact h2
theorem many_ok {t : List (Nat × Nat)} (hT : TreeIs t) (hl : t.length < 24) {v : Int × Int} {cs : List Ca} (hD : DayD t v cs) {many : Nat} (hm : many ≤ 99) (p : Pot) : ∃ q, m__law_many_right [.ref 0, eTree t, eDay v cs, .int many] [pt p] = .ok (.bl true) [pt q] := by
  cases h : leastV t cs many with
  | none => exact many_none hT hl hD hm p h
  | some u => exact many_some hT hl hD hm p h
@[irreducible] def rgB : FS := (sIf (tNotF (tOf (fCall (kImp (shN 4) m__law_many_right) (aCons (fVar 0) (aCons (fVar 1) (aCons (fVar 2) (aCons (fVar 4) aNil)))) aNil))) (sRet (fC (.bl false))) sNil)
theorem right_ok (p : Pot) : ∃ q, m__law_right [.ref 0] [pt p] = .ok (.bl true) [pt q] := by
  obtain ⟨t, p1, hta, hT, e1⟩ := tree_ok p 9 (by omega) (by omega)
  obtain ⟨v, cs, p2, hD, e2⟩ := day_ok p1 (t := t) (by omega)
  obtain ⟨x, e3⟩ := repr_both hT (by omega) hD
  obtain ⟨d, p3, hd, e4⟩ := draw_ok p2 5 (by omega) (by omega)
  have hle := hD.ok.le
  obtain ⟨env2, M2, h1, q, ⟨y, rfl⟩, rfl⟩ := for_inv (t := .name 4) (b := rgB) (e := fun i : Nat => D.int i) (xs := [0, 1, 2, 1 + d, cs.length]) (env := [some (.ref 0), some (eTree t), some (eDay v cs), some (.str x), none]) (M := [pt p3])
    (I := fun pre env M => ∃ q, (∃ y, env = [some (.ref 0), some (eTree t), some (eDay v cs), some (.str x), y]) ∧ M = [pt q]) ⟨p3, ⟨_, rfl⟩, rfl⟩ (by
      rintro pre m post env M hxs ⟨q, ⟨y, rfl⟩, rfl⟩
      refine ⟨_, rfl, ?_⟩
      have hm : m ≤ 99 := by
        have : m ∈ [0, 1, 2, 1 + d, cs.length] := by rw [hxs]; simp
        simp at this
        omega
      obtain ⟨q', h2⟩ := many_ok hT (by omega) hD hm q
      simp only [List.set_cons_succ, List.set_cons_zero]
      unfold rgB
      simp [h2]
      exact ⟨q', rfl⟩)
  refine ⟨q, ?_⟩
  have eb : b__law_right = (sSeq (sSet 1 (fCall (kImp (shN 2) m__law_tree) (aCons (fVar 0) (aCons (fC (.int 9)) aNil)) aNil))
    (sSeq (sSet 2 (fCall (kImp (shN 3) m__law_day) (aCons (fVar 0) (aCons (fVar 1) (aCons (fC (.int 6)) aNil))) aNil))
    (sSeq (sSet 3 (fOf (k1 kRepr) (aCons (fOf kLst (aCons (fVar 1) (aCons (fVar 2) aNil))) aNil)))
    (sSeq (sForI (iOf kIt (fOf kLst (aCons (fC (.int 0)) (aCons (fC (.int 1)) (aCons (fC (.int 2)) (aCons (f2 kAdd (fC (.int 1)) (fCall (kImp (shN 2) m__law_draw) (aCons (fVar 0) (aCons (fC (.int 5)) aNil)) aNil)) (aCons (fOf (k1 kLen) (aCons (f2 kIx (fVar 2) (fC (.int 2))) aNil)) aNil))))))) (.name 4) rgB)
    (sRet (f2 kEq (fOf (k1 kRepr) (aCons (fOf kLst (aCons (fVar 1) (aCons (fVar 2) aNil))) aNil)) (fVar 3))))))) := by unfold b__law_right rgB; rfl
  have h3 : [D.int 0, .int 1, .int 2, .int (1 + (d : Int)), .int cs.length] = [0, 1, 2, 1 + d, cs.length].map fun i : Nat => D.int i := by simp
  simp only [m__law_right, eb]
  rw [← h3] at h1
  simp [e1, e2, e3, e4, h1]
  exact trim_blw (by simp [blw_pt]) (by simp)
theorem plain (ns : List Int) : ∃ M, m_law [.scr ns] [] = .ok (.bl true) M := by
  obtain ⟨p, e1⟩ := pot_ok ns
  obtain ⟨q, e2⟩ := right_ok p
  refine ⟨[], ?_⟩
  simp [m_law, b_law, e1, e2]
  exact trim0b (by simp)
end K91P

-- K91M
set_option Elab.async false
set_option linter.all false
set_option maxRecDepth 100000
set_option maxHeartbeats 1000000
/-! the defs of k91 do so (printed by gen.py) -/
namespace K91
open PySem PySem.Spec PyProof.Rows L2 LamX DL
open K91N
/-- what the head must give -/
structure Tx (b : G0) : Prop where
  n_bool : b.mg "bool" = none
  n_isinstance : b.mg "isinstance" = none
  n_int : b.mg "int" = none
  f_is_integer : ∃ fd, FunD b.K "is_integer" "is_integer" (defArgs (top 9)) (defBody (top 9)) (defScope (top 9)) [] [] (He.fAd b.K ("is_integer", none)) fd
  g_is_integer : b.mg "is_integer" = some (.ref (He.fAd b.K ("is_integer", none)))
  f_is_within : ∃ fd, FunD b.K "is_within" "is_within" (defArgs (top 10)) (defBody (top 10)) (defScope (top 10)) [] [] (He.fAd b.K ("is_within", none)) fd
  n_len : b.mg "len" = none
  n_tuple : b.mg "tuple" = none
  f_is_row : ∃ fd, FunD b.K "is_row" "is_row" (defArgs (top 11)) (defBody (top 11)) (defScope (top 11)) [] [] (He.fAd b.K ("is_row", none)) fd
  n_zip : b.mg "zip" = none
  n_all : b.mg "all" = none
  f_is_rising : ∃ fd, FunD b.K "is_rising" "is_rising" (defArgs (top 12)) (defBody (top 12)) (defScope (top 12)) [] [] (He.fAd b.K ("is_rising", none)) fd
  g_is_within : b.mg "is_within" = some (.ref (He.fAd b.K ("is_within", none)))
  g_is_rising : b.mg "is_rising" = some (.ref (He.fAd b.K ("is_rising", none)))
  f_are_places_of : ∃ fd, FunD b.K "are_places_of" "are_places_of" (defArgs (top 13)) (defBody (top 13)) (defScope (top 13)) [] [] (He.fAd b.K ("are_places_of", none)) fd
  b_gcd : b.mg "gcd" = some (.builtin "math.gcd")
  f_fraction : ∃ fd, FunD b.K "fraction" "fraction" (defArgs (top 18)) (defBody (top 18)) (defScope (top 18)) [] [] (He.fAd b.K ("fraction", none)) fd
  f_whole : ∃ fd, FunD b.K "whole" "whole" (defArgs (top 19)) (defBody (top 19)) (defScope (top 19)) [] [] (He.fAd b.K ("whole", none)) fd
  g_fraction : b.mg "fraction" = some (.ref (He.fAd b.K ("fraction", none)))
  f_plus : ∃ fd, FunD b.K "plus" "plus" (defArgs (top 20)) (defBody (top 20)) (defScope (top 20)) [] [] (He.fAd b.K ("plus", none)) fd
  f_product : ∃ fd, FunD b.K "product" "product" (defArgs (top 21)) (defBody (top 21)) (defScope (top 21)) [] [] (He.fAd b.K ("product", none)) fd
  f_is_less : ∃ fd, FunD b.K "is_less" "is_less" (defArgs (top 22)) (defBody (top 22)) (defScope (top 22)) [] [] (He.fAd b.K ("is_less", none)) fd
  i_LIMIT : ∃ t, b.mg "LIMIT" = some (.int 10000000000000000000000000000000000000000000000000000000000000000000000000000000000000000000000000000000000000000000000000000000000000000000000000000000000000000000000000000000000000000000000000000000000000000000000000000000000000000000000000000000000000000000000000000000000000000000000000000000000000000000000000000000000000000000000000000000000000000000000000000000000000000000000000000000000000000 t)
  n_abs : b.mg "abs" = none
  f_shown : ∃ fd, FunD b.K "shown" "shown" (defArgs (top 23)) (defBody (top 23)) (defScope (top 23)) [] [] (He.fAd b.K ("shown", none)) fd
  g_is_row : b.mg "is_row" = some (.ref (He.fAd b.K ("is_row", none)))
  f_is_ratio : ∃ fd, FunD b.K "is_ratio" "is_ratio" (defArgs (top 24)) (defBody (top 24)) (defScope (top 24)) [] [] (He.fAd b.K ("is_ratio", none)) fd
  i_MOST_LENGTH : ∃ t, b.mg "MOST_LENGTH" = some (.int 999 t)
  f_is_tie : ∃ fd, FunD b.K "is_tie" "is_tie" (defArgs (top 28)) (defBody (top 28)) (defScope (top 28)) [] [] (He.fAd b.K ("is_tie", none)) fd
  n_str : b.mg "str" = none
  i_MOST_PLACES : ∃ t, b.mg "MOST_PLACES" = some (.int 24 t)
  n_enumerate : b.mg "enumerate" = none
  g_is_tie : b.mg "is_tie" = some (.ref (He.fAd b.K ("is_tie", none)))
  f_is_tree : ∃ fd, FunD b.K "is_tree" "is_tree" (defArgs (top 29)) (defBody (top 29)) (defScope (top 29)) [] [] (He.fAd b.K ("is_tree", none)) fd
  g_is_tree : b.mg "is_tree" = some (.ref (He.fAd b.K ("is_tree", none)))
  c_InvalidTree : b.mg "InvalidTree" = some (.ref (b.ca "InvalidTree"))
  e_InvalidTree : Rk b 1 (b.ca "InvalidTree") ["value"]
  f_want_tree : ∃ fd, FunD b.K "want_tree" "want_tree" (defArgs (top 30)) (defBody (top 30)) (defScope (top 30)) [] [] (He.fAd b.K ("want_tree", none)) fd
  f_place_count : ∃ fd, FunD b.K "place_count" "place_count" (defArgs (top 31)) (defBody (top 31)) (defScope (top 31)) [] [] (He.fAd b.K ("place_count", none)) fd
  f_father_of : ∃ fd, FunD b.K "father_of" "father_of" (defArgs (top 32)) (defBody (top 32)) (defScope (top 32)) [] [] (He.fAd b.K ("father_of", none)) fd
  g_father_of : b.mg "father_of" = some (.ref (He.fAd b.K ("father_of", none)))
  f_path_up : ∃ fd, FunD b.K "path_up" "path_up" (defArgs (top 33)) (defBody (top 33)) (defScope (top 33)) [] [] (He.fAd b.K ("path_up", none)) fd
  f_depths_in : ∃ fd, FunD b.K "depths_in" "depths_in" (defArgs (top 34)) (defBody (top 34)) (defScope (top 34)) [] [] (He.fAd b.K ("depths_in", none)) fd
  g_path_up : b.mg "path_up" = some (.ref (He.fAd b.K ("path_up", none)))
  f_path_in : ∃ fd, FunD b.K "path_in" "path_in" (defArgs (top 35)) (defBody (top 35)) (defScope (top 35)) [] [] (He.fAd b.K ("path_in", none)) fd
  g_path_in : b.mg "path_in" = some (.ref (He.fAd b.K ("path_in", none)))
  n_min : b.mg "min" = none
  f_top_in : ∃ fd, FunD b.K "top_in" "top_in" (defArgs (top 36)) (defBody (top 36)) (defScope (top 36)) [] [] (He.fAd b.K ("top_in", none)) fd
  g_depths_in : b.mg "depths_in" = some (.ref (He.fAd b.K ("depths_in", none)))
  g_top_in : b.mg "top_in" = some (.ref (He.fAd b.K ("top_in", none)))
  f_way_in : ∃ fd, FunD b.K "way_in" "way_in" (defArgs (top 37)) (defBody (top 37)) (defScope (top 37)) [] [] (He.fAd b.K ("way_in", none)) fd
  i_MOST_MANY : ∃ t, b.mg "MOST_MANY" = some (.int 99 t)
  c_InvalidMany : b.mg "InvalidMany" = some (.ref (b.ca "InvalidMany"))
  e_InvalidMany : Rk b 1 (b.ca "InvalidMany") ["value"]
  f_want_many : ∃ fd, FunD b.K "want_many" "want_many" (defArgs (top 40)) (defBody (top 40)) (defScope (top 40)) [] [] (He.fAd b.K ("want_many", none)) fd
  i_MOST_REACH : ∃ t, b.mg "MOST_REACH" = some (.int 9999 t)
  i_MOST_HOUR : ∃ t, b.mg "MOST_HOUR" = some (.int 99 t)
  g_place_count : b.mg "place_count" = some (.ref (He.fAd b.K ("place_count", none)))
  f_is_call : ∃ fd, FunD b.K "is_call" "is_call" (defArgs (top 45)) (defBody (top 45)) (defScope (top 45)) [] [] (He.fAd b.K ("is_call", none)) fd
  g_is_ratio : b.mg "is_ratio" = some (.ref (He.fAd b.K ("is_ratio", none)))
  g_is_call : b.mg "is_call" = some (.ref (He.fAd b.K ("is_call", none)))
  i_MOST_CALLS : ∃ t, b.mg "MOST_CALLS" = some (.int 8 t)
  f_is_day_in : ∃ fd, FunD b.K "is_day_in" "is_day_in" (defArgs (top 46)) (defBody (top 46)) (defScope (top 46)) [] [] (He.fAd b.K ("is_day_in", none)) fd
  g_want_tree : b.mg "want_tree" = some (.ref (He.fAd b.K ("want_tree", none)))
  g_is_day_in : b.mg "is_day_in" = some (.ref (He.fAd b.K ("is_day_in", none)))
  c_InvalidDay : b.mg "InvalidDay" = some (.ref (b.ca "InvalidDay"))
  e_InvalidDay : Rk b 1 (b.ca "InvalidDay") ["value"]
  f_want_day : ∃ fd, FunD b.K "want_day" "want_day" (defArgs (top 47)) (defBody (top 47)) (defScope (top 47)) [] [] (He.fAd b.K ("want_day", none)) fd
  g_whole : b.mg "whole" = some (.ref (He.fAd b.K ("whole", none)))
  g_product : b.mg "product" = some (.ref (He.fAd b.K ("product", none)))
  g_plus : b.mg "plus" = some (.ref (He.fAd b.K ("plus", none)))
  g_way_in : b.mg "way_in" = some (.ref (He.fAd b.K ("way_in", none)))
  g_is_less : b.mg "is_less" = some (.ref (He.fAd b.K ("is_less", none)))
  f_fit_in : ∃ fd, FunD b.K "fit_in" "fit_in" (defArgs (top 48)) (defBody (top 48)) (defScope (top 48)) [] [] (He.fAd b.K ("fit_in", none)) fd
  g_fit_in : b.mg "fit_in" = some (.ref (He.fAd b.K ("fit_in", none)))
  f_do_all_fit : ∃ fd, FunD b.K "do_all_fit" "do_all_fit" (defArgs (top 49)) (defBody (top 49)) (defScope (top 49)) [] [] (He.fAd b.K ("do_all_fit", none)) fd
  n_range : b.mg "range" = none
  f_contrary_in : ∃ fd, FunD b.K "contrary_in" "contrary_in" (defArgs (top 57)) (defBody (top 57)) (defScope (top 57)) [] [] (He.fAd b.K ("contrary_in", none)) fd
  n_any : b.mg "any" = none
  f_touches : ∃ fd, FunD b.K "touches" "touches" (defArgs (top 59)) (defBody (top 59)) (defScope (top 59)) [] [] (He.fAd b.K ("touches", none)) fd
  f_are_all_contrary : ∃ fd, FunD b.K "are_all_contrary" "are_all_contrary" (defArgs (top 58)) (defBody (top 58)) (defScope (top 58)) [] [] (He.fAd b.K ("are_all_contrary", none)) fd
  g_touches : b.mg "touches" = some (.ref (He.fAd b.K ("touches", none)))
  f_greatest_lots : ∃ fd, FunD b.K "greatest_lots" "greatest_lots" (defArgs (top 60)) (defBody (top 60)) (defScope (top 60)) [] [] (He.fAd b.K ("greatest_lots", none)) fd
  f_share_in : ∃ fd, FunD b.K "share_in" "share_in" (defArgs (top 61)) (defBody (top 61)) (defScope (top 61)) [] [] (He.fAd b.K ("share_in", none)) fd
  g_contrary_in : b.mg "contrary_in" = some (.ref (He.fAd b.K ("contrary_in", none)))
  g_greatest_lots : b.mg "greatest_lots" = some (.ref (He.fAd b.K ("greatest_lots", none)))
  g_share_in : b.mg "share_in" = some (.ref (He.fAd b.K ("share_in", none)))
  f_fewest_in : ∃ fd, FunD b.K "fewest_in" "fewest_in" (defArgs (top 62)) (defBody (top 62)) (defScope (top 62)) [] [] (He.fAd b.K ("fewest_in", none)) fd
  f_best_split : ∃ fd, FunD b.K "best_split" "best_split" (defArgs (top 63)) (defBody (top 63)) (defScope (top 63)) [] [] (He.fAd b.K ("best_split", none)) fd
  f_cases_in : ∃ fd, FunD b.K "cases_in" "cases_in" (defArgs (top 64)) (defBody (top 64)) (defScope (top 64)) [] [] (He.fAd b.K ("cases_in", none)) fd
  f_lot_of : ∃ fd, FunD b.K "lot_of" "lot_of" (defArgs (top 65)) (defBody (top 65)) (defScope (top 65)) [] [] (He.fAd b.K ("lot_of", none)) fd
  f_is_end : ∃ fd, FunD b.K "is_end" "is_end" (defArgs (top 66)) (defBody (top 66)) (defScope (top 66)) [] [] (He.fAd b.K ("is_end", none)) fd
  f_is_node : ∃ fd, FunD b.K "is_node" "is_node" (defArgs (top 67)) (defBody (top 67)) (defScope (top 67)) [] [] (He.fAd b.K ("is_node", none)) fd
  f_are_nodes : ∃ fd, FunD b.K "are_nodes" "are_nodes" (defArgs (top 68)) (defBody (top 68)) (defScope (top 68)) [] [] (He.fAd b.K ("are_nodes", none)) fd
  f_are_cases : ∃ fd, FunD b.K "are_cases" "are_cases" (defArgs (top 69)) (defBody (top 69)) (defScope (top 69)) [] [] (He.fAd b.K ("are_cases", none)) fd
  g_are_places_of : b.mg "are_places_of" = some (.ref (He.fAd b.K ("are_places_of", none)))
  g_do_all_fit : b.mg "do_all_fit" = some (.ref (He.fAd b.K ("do_all_fit", none)))
  n_sorted : b.mg "sorted" = none
  n_list : b.mg "list" = none
  f_is_share : ∃ fd, FunD b.K "is_share" "is_share" (defArgs (top 70)) (defBody (top 70)) (defScope (top 70)) [] [] (He.fAd b.K ("is_share", none)) fd
  f_at_speed : ∃ fd, FunD b.K "at_speed" "at_speed" (defArgs (top 71)) (defBody (top 71)) (defScope (top 71)) [] [] (He.fAd b.K ("at_speed", none)) fd
  t_NOUGHT : ∃ a, b.mg "NOUGHT" = some (.ref a) ∧ ∀ H : Hp, SqT b.K H a (([0, 1] : List Int).map V.int)
  f_speeds_in : ∃ fd, FunD b.K "speeds_in" "speeds_in" (defArgs (top 72)) (defBody (top 72)) (defScope (top 72)) [] [] (He.fAd b.K ("speeds_in", none)) fd
  g_speeds_in : b.mg "speeds_in" = some (.ref (He.fAd b.K ("speeds_in", none)))
  g_at_speed : b.mg "at_speed" = some (.ref (He.fAd b.K ("at_speed", none)))
  g_fewest_in : b.mg "fewest_in" = some (.ref (He.fAd b.K ("fewest_in", none)))
  f_least_in : ∃ fd, FunD b.K "least_in" "least_in" (defArgs (top 73)) (defBody (top 73)) (defScope (top 73)) [] [] (He.fAd b.K ("least_in", none)) fd
  g_want_day : b.mg "want_day" = some (.ref (He.fAd b.K ("want_day", none)))
  f_fewest_riders : ∃ fd, FunD b.K "fewest_riders" "fewest_riders" (defArgs (top 74)) (defBody (top 74)) (defScope (top 74)) [] [] (He.fAd b.K ("fewest_riders", none)) fd
  g_want_many : b.mg "want_many" = some (.ref (He.fAd b.K ("want_many", none)))
  s_RIDERS : ∃ t, b.mg "RIDERS" = some (.str "riders" t)
  g_cases_in : b.mg "cases_in" = some (.ref (He.fAd b.K ("cases_in", none)))
  s_MORE : ∃ t, b.mg "MORE" = some (.str "more" t)
  f_riders_paper : ∃ fd, FunD b.K "riders_paper" "riders_paper" (defArgs (top 75)) (defBody (top 75)) (defScope (top 75)) [] [] (He.fAd b.K ("riders_paper", none)) fd
  g_is_share : b.mg "is_share" = some (.ref (He.fAd b.K ("is_share", none)))
  g_are_cases : b.mg "are_cases" = some (.ref (He.fAd b.K ("are_cases", none)))
  g_are_nodes : b.mg "are_nodes" = some (.ref (He.fAd b.K ("are_nodes", none)))
  f_is_riders_paper : ∃ fd, FunD b.K "is_riders_paper" "is_riders_paper" (defArgs (top 76)) (defBody (top 76)) (defScope (top 76)) [] [] (He.fAd b.K ("is_riders_paper", none)) fd
  g_least_in : b.mg "least_in" = some (.ref (He.fAd b.K ("least_in", none)))
  g_shown : b.mg "shown" = some (.ref (He.fAd b.K ("shown", none)))
  f_least_speed : ∃ fd, FunD b.K "least_speed" "least_speed" (defArgs (top 77)) (defBody (top 77)) (defScope (top 77)) [] [] (He.fAd b.K ("least_speed", none)) fd
  n_max : b.mg "max" = none
  f__law_pot : ∃ fd, FunD b.K "_law_pot" "_law_pot" (defArgs (top 79)) (defBody (top 79)) (defScope (top 79)) [] [] (He.fAd b.K ("_law_pot", none)) fd
  n_divmod : b.mg "divmod" = none
  f__law_draw : ∃ fd, FunD b.K "_law_draw" "_law_draw" (defArgs (top 80)) (defBody (top 80)) (defScope (top 80)) [] [] (He.fAd b.K ("_law_draw", none)) fd
  g__law_draw : b.mg "_law_draw" = some (.ref (He.fAd b.K ("_law_draw", none)))
  f__law_pick : ∃ fd, FunD b.K "_law_pick" "_law_pick" (defArgs (top 81)) (defBody (top 81)) (defScope (top 81)) [] [] (He.fAd b.K ("_law_pick", none)) fd
  f__law_low : ∃ fd, FunD b.K "_law_low" "_law_low" (defArgs (top 82)) (defBody (top 82)) (defScope (top 82)) [] [] (He.fAd b.K ("_law_low", none)) fd
  g__law_low : b.mg "_law_low" = some (.ref (He.fAd b.K ("_law_low", none)))
  f__law_plus : ∃ fd, FunD b.K "_law_plus" "_law_plus" (defArgs (top 83)) (defBody (top 83)) (defScope (top 83)) [] [] (He.fAd b.K ("_law_plus", none)) fd
  f__law_minus : ∃ fd, FunD b.K "_law_minus" "_law_minus" (defArgs (top 84)) (defBody (top 84)) (defScope (top 84)) [] [] (He.fAd b.K ("_law_minus", none)) fd
  f__law_times : ∃ fd, FunD b.K "_law_times" "_law_times" (defArgs (top 85)) (defBody (top 85)) (defScope (top 85)) [] [] (He.fAd b.K ("_law_times", none)) fd
  f__law_less : ∃ fd, FunD b.K "_law_less" "_law_less" (defArgs (top 86)) (defBody (top 86)) (defScope (top 86)) [] [] (He.fAd b.K ("_law_less", none)) fd
  f__law_climbed : ∃ fd, FunD b.K "_law_climbed" "_law_climbed" (defArgs (top 87)) (defBody (top 87)) (defScope (top 87)) [] [] (He.fAd b.K ("_law_climbed", none)) fd
  g__law_climbed : b.mg "_law_climbed" = some (.ref (He.fAd b.K ("_law_climbed", none)))
  f__law_way : ∃ fd, FunD b.K "_law_way" "_law_way" (defArgs (top 88)) (defBody (top 88)) (defScope (top 88)) [] [] (He.fAd b.K ("_law_way", none)) fd
  g__law_pick : b.mg "_law_pick" = some (.ref (He.fAd b.K ("_law_pick", none)))
  f__law_tree : ∃ fd, FunD b.K "_law_tree" "_law_tree" (defArgs (top 89)) (defBody (top 89)) (defScope (top 89)) [] [] (He.fAd b.K ("_law_tree", none)) fd
  f__law_day : ∃ fd, FunD b.K "_law_day" "_law_day" (defArgs (top 90)) (defBody (top 90)) (defScope (top 90)) [] [] (He.fAd b.K ("_law_day", none)) fd
  g__law_times : b.mg "_law_times" = some (.ref (He.fAd b.K ("_law_times", none)))
  g__law_plus : b.mg "_law_plus" = some (.ref (He.fAd b.K ("_law_plus", none)))
  g__law_way : b.mg "_law_way" = some (.ref (He.fAd b.K ("_law_way", none)))
  g__law_less : b.mg "_law_less" = some (.ref (He.fAd b.K ("_law_less", none)))
  f__law_do_fit : ∃ fd, FunD b.K "_law_do_fit" "_law_do_fit" (defArgs (top 91)) (defBody (top 91)) (defScope (top 91)) [] [] (He.fAd b.K ("_law_do_fit", none)) fd
  g__law_do_fit : b.mg "_law_do_fit" = some (.ref (He.fAd b.K ("_law_do_fit", none)))
  f__law_fewest : ∃ fd, FunD b.K "_law_fewest" "_law_fewest" (defArgs (top 92)) (defBody (top 92)) (defScope (top 92)) [] [] (He.fAd b.K ("_law_fewest", none)) fd
  g_least_speed : b.mg "least_speed" = some (.ref (He.fAd b.K ("least_speed", none)))
  n_repr : b.mg "repr" = none
  g__law_fewest : b.mg "_law_fewest" = some (.ref (He.fAd b.K ("_law_fewest", none)))
  g_riders_paper : b.mg "riders_paper" = some (.ref (He.fAd b.K ("riders_paper", none)))
  g_is_riders_paper : b.mg "is_riders_paper" = some (.ref (He.fAd b.K ("is_riders_paper", none)))
  g_fewest_riders : b.mg "fewest_riders" = some (.ref (He.fAd b.K ("fewest_riders", none)))
  g__law_minus : b.mg "_law_minus" = some (.ref (He.fAd b.K ("_law_minus", none)))
  f__law_many_right : ∃ fd, FunD b.K "_law_many_right" "_law_many_right" (defArgs (top 93)) (defBody (top 93)) (defScope (top 93)) [] [] (He.fAd b.K ("_law_many_right", none)) fd
  g__law_tree : b.mg "_law_tree" = some (.ref (He.fAd b.K ("_law_tree", none)))
  g__law_day : b.mg "_law_day" = some (.ref (He.fAd b.K ("_law_day", none)))
  g__law_many_right : b.mg "_law_many_right" = some (.ref (He.fAd b.K ("_law_many_right", none)))
  f__law_right : ∃ fd, FunD b.K "_law_right" "_law_right" (defArgs (top 94)) (defBody (top 94)) (defScope (top 94)) [] [] (He.fAd b.K ("_law_right", none)) fd
  g__law_pot : b.mg "_law_pot" = some (.ref (He.fAd b.K ("_law_pot", none)))
  g__law_right : b.mg "_law_right" = some (.ref (He.fAd b.K ("_law_right", none)))
  f_law : ∃ fd, FunD b.K "law" "law" (defArgs (top 95)) (defBody (top 95)) (defScope (top 95)) [] [] (He.fAd b.K ("law", none)) fd
  g_law : b.mg "law" = some (.ref (He.fAd b.K ("law", none)))
section
variable {b : G0}
theorem sc_is_integer : FnScope ["value"] ["value"] (defScope (top 9)) := ⟨rfl, rfl, rfl, by decide +kernel, rfl, by decide +kernel, by decide +kernel⟩
theorem k_is_integer (T : Tx b) : Fk b 1 (He.fAd b.K ("is_integer", none)) [shN 1] m_is_integer := by
  obtain ⟨fd, FF⟩ := T.f_is_integer
  have h := fn_ok (b := b) (N := ["value"]) (ps := ["value"]) (k := 0) (bd := b_is_integer) FF sc_is_integer
  refine Fk.trim ⟨fd, ["value"], h (fun F' B' cdv A outer s H E hcd o => ?_), FF.kp, (sh_1 (q := shN 1) (bd_N FF fun _ _ _ _ _ _ us hl => match us, hl with | [_], _ => rfl))⟩
  exact (dss_one (ds_ret (d_and (x_isi o T.n_isinstance (da_cons (x_v 0) (da_cons (d_ty (n := "int") o.toOkB rfl T.n_int rfl) da_nil))) (d_one (d_not (x_isi o T.n_isinstance (da_cons (x_v 0) (da_cons (d_ty (n := "bool") o.toOkB rfl T.n_bool rfl) da_nil))))))))
theorem sc_is_within : FnScope ["value", "low", "high"] ["value", "low", "high"] (defScope (top 10)) := ⟨rfl, rfl, rfl, by decide +kernel, rfl, by decide +kernel, by decide +kernel⟩
theorem k_is_within (T : Tx b) : Fk b 2 (He.fAd b.K ("is_within", none)) [shN 3] m_is_within := by
  obtain ⟨fd, FF⟩ := T.f_is_within
  have h := fn_ok (b := b) (N := ["value", "low", "high"]) (ps := ["value", "low", "high"]) (k := 1) (bd := b_is_within) FF sc_is_within
  refine Fk.trim ⟨fd, ["value", "low", "high"], h (fun F' B' cdv A outer s H E hcd o => ?_), FF.kp, (sh_1 (q := shN 3) (bd_N FF fun _ _ _ _ _ _ us hl => match us, hl with | [_, _, _], _ => rfl))⟩
  exact (dss_one (ds_ret (d_and (d_callP o (k_is_integer T) (by decide) (shN 1) (.head _) rfl T.g_is_integer (dc_pos (da_cons (x_v 0) da_nil))) (d_one (x_lele (x_v 1) (x_v 0) (x_v 2))))))
theorem sc_is_row : FnScope ["value", "many"] ["value", "many"] (defScope (top 11)) := ⟨rfl, rfl, rfl, by decide +kernel, rfl, by decide +kernel, by decide +kernel⟩
theorem k_is_row (T : Tx b) : Fk b 1 (He.fAd b.K ("is_row", none)) [shN 2] m_is_row := by
  obtain ⟨fd, FF⟩ := T.f_is_row
  have h := fn_ok (b := b) (N := ["value", "many"]) (ps := ["value", "many"]) (k := 0) (bd := b_is_row) FF sc_is_row
  refine Fk.trim ⟨fd, ["value", "many"], h (fun F' B' cdv A outer s H E hcd o => ?_), FF.kp, (sh_1 (q := shN 2) (bd_N FF fun _ _ _ _ _ _ us hl => match us, hl with | [_, _], _ => rfl))⟩
  exact (dss_one (ds_ret (d_and (x_isi o T.n_isinstance (da_cons (x_v 0) (da_cons (d_ty (n := "tuple") o.toOkB rfl T.n_tuple rfl) da_nil))) (d_one (x_eq o (x_len o T.n_len (da_cons (x_v 0) da_nil)) (x_v 1))))))
theorem sc_is_rising : FnScope ["values", "near", "far"] ["values"] (defScope (top 12)) := ⟨rfl, rfl, rfl, by decide +kernel, rfl, by decide +kernel, by decide +kernel⟩
theorem k_is_rising (T : Tx b) : Fk b 1 (He.fAd b.K ("is_rising", none)) [shN 1] m_is_rising := by
  obtain ⟨fd, FF⟩ := T.f_is_rising
  have h := fn_ok (b := b) (N := ["values", "near", "far"]) (ps := ["values"]) (k := 0) (bd := b_is_rising) FF sc_is_rising
  refine Fk.trim ⟨fd, ["values"], h (fun F' B' cdv A outer s H E hcd o => ?_), FF.kp, (sh_1 (q := shN 1) (bd_N FF fun _ _ _ _ _ _ us hl => match us, hl with | [_], _ => rfl))⟩
  exact (dss_one (ds_ret (x_all o T.n_all (da_cons (d_comp (own := [("near", 1), ("far", 2)]) o (di_zip o.toOkB rfl T.n_zip (da_cons (x_v 0) (da_cons (d_sl (x_v 0) (do_some d_int) do_none o.K) da_nil))) (blkOk_by (by first | (show blkC ["values", "near", "far"] (defScope (top 12)) _ _ = true; decide +kernel) | kernel_rfl)) (by decide) (fun s H C cl fp => (dg_tup o.K o.calm (dgs_cons (dg_name o.nd rfl (by first | exact .inl rfl | exact .inr rfl)) (dgs_cons (dg_name o.nd rfl (by first | exact .inl rfl | exact .inr rfl)) dgs_nil)))) (fun Fq s H C cl fp o => dts_nil) (fun Fq s H C cl fp o => (x_lt (x_v 1) (x_v 2)))) da_nil))))
theorem sc_are_places_of : FnScope ["value", "many", "one"] ["value", "many"] (defScope (top 13)) := ⟨rfl, rfl, rfl, by decide +kernel, rfl, by decide +kernel, by decide +kernel⟩
theorem k_are_places_of (T : Tx b) : Fk b 3 (He.fAd b.K ("are_places_of", none)) [shN 2] m_are_places_of := by
  obtain ⟨fd, FF⟩ := T.f_are_places_of
  have h := fn_ok (b := b) (N := ["value", "many", "one"]) (ps := ["value", "many"]) (k := 2) (bd := b_are_places_of) FF sc_are_places_of
  refine Fk.trim ⟨fd, ["value", "many"], h (fun F' B' cdv A outer s H E hcd o => ?_), FF.kp, (sh_1 (q := shN 2) (bd_N FF fun _ _ _ _ _ _ us hl => match us, hl with | [_, _], _ => rfl))⟩
  exact (dss_cons (ds_if (dt_w (dw_or (dt_not (dt_val (x_isi o T.n_isinstance (da_cons (x_v 0) (da_cons (d_ty (n := "tuple") o.toOkB rfl T.n_tuple rfl) da_nil))))) (dw_or1 (dt_not (dt_val (x_all o T.n_all (da_cons (d_comp (own := [("one", 2)]) o (di_sq o.K (x_v 0)) (blkOk_by (by first | (show blkC ["value", "many", "one"] (defScope (top 13)) _ _ = true; decide +kernel) | kernel_rfl)) (by decide) (fun s H C cl fp => (dg_name o.nd rfl (by first | exact .inl rfl | exact .inr rfl))) (fun Fq s H C cl fp o => dts_nil) (fun Fq s H C cl fp o => (d_callP o (k_is_within T) (by decide) (shN 3) (.head _) rfl T.g_is_within (dc_pos (da_cons (x_v 2) (da_cons d_int (da_cons (x_sub (x_v 1) d_int) da_nil))))))) da_nil))))))) (dss_one (ds_ret d_bl)) dss_nil)
    (dss_one (ds_ret (d_callP o (k_is_rising T) (by decide) (shN 1) (.head _) rfl T.g_is_rising (dc_pos (da_cons (x_v 0) da_nil))))))
theorem sc_fraction : FnScope ["number", "under", "divisor"] ["number", "under"] (defScope (top 18)) := ⟨rfl, rfl, rfl, by decide +kernel, rfl, by decide +kernel, by decide +kernel⟩
theorem k_fraction (T : Tx b) : Fk b 1 (He.fAd b.K ("fraction", none)) [shN 2] m_fraction := by
  obtain ⟨fd, FF⟩ := T.f_fraction
  have h := fn_ok (b := b) (N := ["number", "under", "divisor"]) (ps := ["number", "under"]) (k := 0) (bd := b_fraction) FF sc_fraction
  refine Fk.trim ⟨fd, ["number", "under"], h (fun F' B' cdv A outer s H E hcd o => ?_), FF.kp, (sh_1 (q := shN 2) (bd_N FF fun _ _ _ _ _ _ us hl => match us, hl with | [_, _], _ => rfl))⟩
  exact (dss_cons (ds_if (y_lt (x_v 1) d_int) (dss_one (ds_par2 (n := 0) (m := 1) o rfl rfl (by decide) rfl rfl (da_cons (x_neg (x_v 0)) (da_cons (x_neg (x_v 1)) da_nil)))) dss_nil)
    (dss_cons (ds_set (i := 2) o.toOkB rfl (by first | exact .inl rfl | exact .inr rfl) (x_gcd o T.b_gcd (da_cons (x_v 0) (da_cons (x_v 1) da_nil))))
    (dss_one (ds_ret (d_tup (da_cons (x_fdiv (x_v 0) (x_v 2)) (da_cons (x_fdiv (x_v 1) (x_v 2)) da_nil)))))))
theorem sc_whole : FnScope ["number"] ["number"] (defScope (top 19)) := ⟨rfl, rfl, rfl, by decide +kernel, rfl, by decide +kernel, by decide +kernel⟩
theorem k_whole (T : Tx b) : Fk b 1 (He.fAd b.K ("whole", none)) [shN 1] m_whole := by
  obtain ⟨fd, FF⟩ := T.f_whole
  have h := fn_ok (b := b) (N := ["number"]) (ps := ["number"]) (k := 0) (bd := b_whole) FF sc_whole
  refine Fk.trim ⟨fd, ["number"], h (fun F' B' cdv A outer s H E hcd o => ?_), FF.kp, (sh_1 (q := shN 1) (bd_N FF fun _ _ _ _ _ _ us hl => match us, hl with | [_], _ => rfl))⟩
  exact (dss_one (ds_ret (d_tup (da_cons (x_v 0) (da_cons d_int da_nil)))))
theorem sc_plus : FnScope ["near", "far"] ["near", "far"] (defScope (top 20)) := ⟨rfl, rfl, rfl, by decide +kernel, rfl, by decide +kernel, by decide +kernel⟩
theorem k_plus (T : Tx b) : Fk b 2 (He.fAd b.K ("plus", none)) [shN 2] m_plus := by
  obtain ⟨fd, FF⟩ := T.f_plus
  have h := fn_ok (b := b) (N := ["near", "far"]) (ps := ["near", "far"]) (k := 1) (bd := b_plus) FF sc_plus
  refine Fk.trim ⟨fd, ["near", "far"], h (fun F' B' cdv A outer s H E hcd o => ?_), FF.kp, (sh_1 (q := shN 2) (bd_N FF fun _ _ _ _ _ _ us hl => match us, hl with | [_, _], _ => rfl))⟩
  exact (dss_one (ds_ret (d_callP o (k_fraction T) (by decide) (shN 2) (.head _) rfl T.g_fraction (dc_pos (da_cons (x_add o.toOkB (x_mul (x_ix o (x_v 0) d_int) (x_ix o (x_v 1) d_int)) (x_mul (x_ix o (x_v 1) d_int) (x_ix o (x_v 0) d_int))) (da_cons (x_mul (x_ix o (x_v 0) d_int) (x_ix o (x_v 1) d_int)) da_nil))))))
theorem sc_product : FnScope ["near", "far"] ["near", "far"] (defScope (top 21)) := ⟨rfl, rfl, rfl, by decide +kernel, rfl, by decide +kernel, by decide +kernel⟩
theorem k_product (T : Tx b) : Fk b 2 (He.fAd b.K ("product", none)) [shN 2] m_product := by
  obtain ⟨fd, FF⟩ := T.f_product
  have h := fn_ok (b := b) (N := ["near", "far"]) (ps := ["near", "far"]) (k := 1) (bd := b_product) FF sc_product
  refine Fk.trim ⟨fd, ["near", "far"], h (fun F' B' cdv A outer s H E hcd o => ?_), FF.kp, (sh_1 (q := shN 2) (bd_N FF fun _ _ _ _ _ _ us hl => match us, hl with | [_, _], _ => rfl))⟩
  exact (dss_one (ds_ret (d_callP o (k_fraction T) (by decide) (shN 2) (.head _) rfl T.g_fraction (dc_pos (da_cons (x_mul (x_ix o (x_v 0) d_int) (x_ix o (x_v 1) d_int)) (da_cons (x_mul (x_ix o (x_v 0) d_int) (x_ix o (x_v 1) d_int)) da_nil))))))
theorem sc_is_less : FnScope ["near", "far"] ["near", "far"] (defScope (top 22)) := ⟨rfl, rfl, rfl, by decide +kernel, rfl, by decide +kernel, by decide +kernel⟩
theorem k_is_less (T : Tx b) : Fk b 1 (He.fAd b.K ("is_less", none)) [shN 2] m_is_less := by
  obtain ⟨fd, FF⟩ := T.f_is_less
  have h := fn_ok (b := b) (N := ["near", "far"]) (ps := ["near", "far"]) (k := 0) (bd := b_is_less) FF sc_is_less
  refine Fk.trim ⟨fd, ["near", "far"], h (fun F' B' cdv A outer s H E hcd o => ?_), FF.kp, (sh_1 (q := shN 2) (bd_N FF fun _ _ _ _ _ _ us hl => match us, hl with | [_, _], _ => rfl))⟩
  exact (dss_one (ds_ret (x_lt (x_mul (x_ix o (x_v 0) d_int) (x_ix o (x_v 1) d_int)) (x_mul (x_ix o (x_v 1) d_int) (x_ix o (x_v 0) d_int)))))
theorem sc_shown : FnScope ["ratio"] ["ratio"] (defScope (top 23)) := ⟨rfl, rfl, rfl, by decide +kernel, rfl, by decide +kernel, by decide +kernel⟩
theorem k_shown (T : Tx b) : Fk b 1 (He.fAd b.K ("shown", none)) [shN 1] m_shown := by
  obtain ⟨fd, FF⟩ := T.f_shown
  have h := fn_ok (b := b) (N := ["ratio"]) (ps := ["ratio"]) (k := 0) (bd := b_shown) FF sc_shown
  refine Fk.trim ⟨fd, ["ratio"], h (fun F' B' cdv A outer s H E hcd o => ?_), FF.kp, (sh_1 (q := shN 1) (bd_N FF fun _ _ _ _ _ _ us hl => match us, hl with | [_], _ => rfl))⟩
  exact (dss_cons (ds_if (dt_w (dw_or (y_ge (x_abs o T.n_abs (da_cons (x_ix o (x_v 0) d_int) da_nil)) (x_gint (i := 10000000000000000000000000000000000000000000000000000000000000000000000000000000000000000000000000000000000000000000000000000000000000000000000000000000000000000000000000000000000000000000000000000000000000000000000000000000000000000000000000000000000000000000000000000000000000000000000000000000000000000000000000000000000000000000000000000000000000000000000000000000000000000000000000000000000000000) o.toOkB T.i_LIMIT)) (dw_or1 (y_ge (x_ix o (x_v 0) d_int) (x_gint (i := 10000000000000000000000000000000000000000000000000000000000000000000000000000000000000000000000000000000000000000000000000000000000000000000000000000000000000000000000000000000000000000000000000000000000000000000000000000000000000000000000000000000000000000000000000000000000000000000000000000000000000000000000000000000000000000000000000000000000000000000000000000000000000000000000000000000000000000) o.toOkB T.i_LIMIT))))) (dss_one ds_stub) dss_nil)
    (dss_one (ds_ret (x_v 0))))
theorem sc_is_ratio : FnScope ["value"] ["value"] (defScope (top 24)) := ⟨rfl, rfl, rfl, by decide +kernel, rfl, by decide +kernel, by decide +kernel⟩
theorem k_is_ratio (T : Tx b) : Fk b 2 (He.fAd b.K ("is_ratio", none)) [shN 1] m_is_ratio := by
  obtain ⟨fd, FF⟩ := T.f_is_ratio
  have h := fn_ok (b := b) (N := ["value"]) (ps := ["value"]) (k := 1) (bd := b_is_ratio) FF sc_is_ratio
  refine Fk.trim ⟨fd, ["value"], h (fun F' B' cdv A outer s H E hcd o => ?_), FF.kp, (sh_1 (q := shN 1) (bd_N FF fun _ _ _ _ _ _ us hl => match us, hl with | [_], _ => rfl))⟩
  exact (dss_cons (ds_if (dt_w (dw_or (dt_not (dt_val (d_callP o (k_is_row T) (by decide) (shN 2) (.head _) rfl T.g_is_row (dc_pos (da_cons (x_v 0) (da_cons d_int da_nil)))))) (dw_or (dt_not (dt_val (d_callP o (k_is_integer T) (by decide) (shN 1) (.head _) rfl T.g_is_integer (dc_pos (da_cons (x_ix o (x_v 0) d_int) da_nil))))) (dw_or (dt_not (dt_val (d_callP o (k_is_integer T) (by decide) (shN 1) (.head _) rfl T.g_is_integer (dc_pos (da_cons (x_ix o (x_v 0) d_int) da_nil))))) (dw_or1 (y_lt (x_ix o (x_v 0) d_int) d_int)))))) (dss_one (ds_ret d_bl)) dss_nil)
    (dss_one (ds_ret (d_and (x_lt (x_abs o T.n_abs (da_cons (x_ix o (x_v 0) d_int) da_nil)) (x_gint (i := 10000000000000000000000000000000000000000000000000000000000000000000000000000000000000000000000000000000000000000000000000000000000000000000000000000000000000000000000000000000000000000000000000000000000000000000000000000000000000000000000000000000000000000000000000000000000000000000000000000000000000000000000000000000000000000000000000000000000000000000000000000000000000000000000000000000000000000) o.toOkB T.i_LIMIT)) (d_and (x_lt (x_ix o (x_v 0) d_int) (x_gint (i := 10000000000000000000000000000000000000000000000000000000000000000000000000000000000000000000000000000000000000000000000000000000000000000000000000000000000000000000000000000000000000000000000000000000000000000000000000000000000000000000000000000000000000000000000000000000000000000000000000000000000000000000000000000000000000000000000000000000000000000000000000000000000000000000000000000000000000000) o.toOkB T.i_LIMIT)) (d_one (x_eq o (x_gcd o T.b_gcd (da_cons (x_ix o (x_v 0) d_int) (da_cons (x_ix o (x_v 0) d_int) da_nil))) d_int)))))))
theorem sc_is_tie : FnScope ["value", "number"] ["value", "number"] (defScope (top 28)) := ⟨rfl, rfl, rfl, by decide +kernel, rfl, by decide +kernel, by decide +kernel⟩
theorem k_is_tie (T : Tx b) : Fk b 3 (He.fAd b.K ("is_tie", none)) [shN 2] m_is_tie := by
  obtain ⟨fd, FF⟩ := T.f_is_tie
  have h := fn_ok (b := b) (N := ["value", "number"]) (ps := ["value", "number"]) (k := 2) (bd := b_is_tie) FF sc_is_tie
  refine Fk.trim ⟨fd, ["value", "number"], h (fun F' B' cdv A outer s H E hcd o => ?_), FF.kp, (sh_1 (q := shN 2) (bd_N FF fun _ _ _ _ _ _ us hl => match us, hl with | [_, _], _ => rfl))⟩
  exact (dss_one (ds_ret (d_and (d_callP o (k_is_row T) (by decide) (shN 2) (.head _) rfl T.g_is_row (dc_pos (da_cons (x_v 0) (da_cons d_int da_nil)))) (d_and (d_callP o (k_is_within T) (by decide) (shN 3) (.head _) rfl T.g_is_within (dc_pos (da_cons (x_ix o (x_v 0) d_int) (da_cons d_int (da_cons (x_v 1) da_nil))))) (d_one (d_callP o (k_is_within T) (by decide) (shN 3) (.head _) rfl T.g_is_within (dc_pos (da_cons (x_ix o (x_v 0) d_int) (da_cons d_int (da_cons (x_gint (i := 999) o.toOkB T.i_MOST_LENGTH) da_nil))))))))))
theorem sc_is_tree : FnScope ["value", "number", "tie"] ["value"] (defScope (top 29)) := ⟨rfl, rfl, rfl, by decide +kernel, rfl, by decide +kernel, by decide +kernel⟩
theorem k_is_tree (T : Tx b) : Fk b 4 (He.fAd b.K ("is_tree", none)) [shN 1] m_is_tree := by
  obtain ⟨fd, FF⟩ := T.f_is_tree
  have h := fn_ok (b := b) (N := ["value", "number", "tie"]) (ps := ["value"]) (k := 3) (bd := b_is_tree) FF sc_is_tree
  refine Fk.trim ⟨fd, ["value"], h (fun F' B' cdv A outer s H E hcd o => ?_), FF.kp, (sh_1 (q := shN 1) (bd_N FF fun _ _ _ _ _ _ us hl => match us, hl with | [_], _ => rfl))⟩
  exact (dss_cons (ds_if (dt_w (dw_or (dt_not (dt_val (d_callP o (k_is_row T) (by decide) (shN 2) (.head _) rfl T.g_is_row (dc_pos (da_cons (x_v 0) (da_cons d_int da_nil)))))) (dw_or (dt_not (dt_val (x_isi o T.n_isinstance (da_cons (x_ix o (x_v 0) d_int) (da_cons (d_ty (n := "str") o.toOkB rfl T.n_str rfl) da_nil))))) (dw_or1 (y_ne o (x_ix o (x_v 0) d_int) d_str))))) (dss_one (ds_ret d_bl)) dss_nil)
    (dss_cons (ds_if (dt_w (dw_or (dt_not (dt_val (x_isi o T.n_isinstance (da_cons (x_ix o (x_v 0) d_int) (da_cons (d_ty (n := "tuple") o.toOkB rfl T.n_tuple rfl) da_nil))))) (dw_or1 (y_ge (x_len o T.n_len (da_cons (x_ix o (x_v 0) d_int) da_nil)) (x_gint (i := 24) o.toOkB T.i_MOST_PLACES))))) (dss_one (ds_ret d_bl)) dss_nil)
    (dss_one (ds_ret (x_all o T.n_all (da_cons (d_comp (own := [("number", 1), ("tie", 2)]) o (di_enum o.toOkB rfl T.n_enumerate (da_cons (x_ix o (x_v 0) d_int) da_nil)) (blkOk_by (by first | (show blkC ["value", "number", "tie"] (defScope (top 29)) _ _ = true; decide +kernel) | kernel_rfl)) (by decide) (fun s H C cl fp => (dg_tup o.K o.calm (dgs_cons (dg_name o.nd rfl (by first | exact .inl rfl | exact .inr rfl)) (dgs_cons (dg_name o.nd rfl (by first | exact .inl rfl | exact .inr rfl)) dgs_nil)))) (fun Fq s H C cl fp o => dts_nil) (fun Fq s H C cl fp o => (d_callP o (k_is_tie T) (by decide) (shN 2) (.head _) rfl T.g_is_tie (dc_pos (da_cons (x_v 2) (da_cons (x_v 1) da_nil)))))) da_nil))))))
theorem sc_want_tree : FnScope ["value"] ["value"] (defScope (top 30)) := ⟨rfl, rfl, rfl, by decide +kernel, rfl, by decide +kernel, by decide +kernel⟩
theorem k_want_tree (T : Tx b) : Fk b 5 (He.fAd b.K ("want_tree", none)) [shN 1] m_want_tree := by
  obtain ⟨fd, FF⟩ := T.f_want_tree
  have h := fn_ok (b := b) (N := ["value"]) (ps := ["value"]) (k := 4) (bd := b_want_tree) FF sc_want_tree
  refine Fk.trim ⟨fd, ["value"], h (fun F' B' cdv A outer s H E hcd o => ?_), FF.kp, (sh_1 (q := shN 1) (bd_N FF fun _ _ _ _ _ _ us hl => match us, hl with | [_], _ => rfl))⟩
  exact (dss_cons (ds_if (dt_not (dt_val (d_callP o (k_is_tree T) (by decide) (shN 1) (.head _) rfl T.g_is_tree (dc_pos (da_cons (x_v 0) da_nil))))) (dss_one (ds_raise o rfl T.e_InvalidTree (by decide) rfl T.c_InvalidTree (da_cons (x_v 0) da_nil))) dss_nil)
    (dss_one (ds_ret (x_v 0))))
theorem sc_place_count : FnScope ["tree"] ["tree"] (defScope (top 31)) := ⟨rfl, rfl, rfl, by decide +kernel, rfl, by decide +kernel, by decide +kernel⟩
theorem k_place_count (T : Tx b) : Fk b 1 (He.fAd b.K ("place_count", none)) [shN 1] m_place_count := by
  obtain ⟨fd, FF⟩ := T.f_place_count
  have h := fn_ok (b := b) (N := ["tree"]) (ps := ["tree"]) (k := 0) (bd := b_place_count) FF sc_place_count
  refine Fk.trim ⟨fd, ["tree"], h (fun F' B' cdv A outer s H E hcd o => ?_), FF.kp, (sh_1 (q := shN 1) (bd_N FF fun _ _ _ _ _ _ us hl => match us, hl with | [_], _ => rfl))⟩
  exact (dss_one (ds_ret (x_add o.toOkB (x_len o T.n_len (da_cons (x_ix o (x_v 0) d_int) da_nil)) d_int)))
theorem sc_father_of : FnScope ["tree", "place"] ["tree", "place"] (defScope (top 32)) := ⟨rfl, rfl, rfl, by decide +kernel, rfl, by decide +kernel, by decide +kernel⟩
theorem k_father_of (T : Tx b) : Fk b 1 (He.fAd b.K ("father_of", none)) [shN 2] m_father_of := by
  obtain ⟨fd, FF⟩ := T.f_father_of
  have h := fn_ok (b := b) (N := ["tree", "place"]) (ps := ["tree", "place"]) (k := 0) (bd := b_father_of) FF sc_father_of
  refine Fk.trim ⟨fd, ["tree", "place"], h (fun F' B' cdv A outer s H E hcd o => ?_), FF.kp, (sh_1 (q := shN 2) (bd_N FF fun _ _ _ _ _ _ us hl => match us, hl with | [_, _], _ => rfl))⟩
  exact (dss_one (ds_ret (x_ix o (x_ix o (x_ix o (x_v 0) d_int) (x_sub (x_v 1) d_int)) d_int)))
theorem sc_path_up : FnScope ["tree", "place", "found"] ["tree", "place"] (defScope (top 33)) := ⟨rfl, rfl, rfl, by decide +kernel, rfl, by decide +kernel, by decide +kernel⟩
theorem k_path_up (T : Tx b) : Fk b 2 (He.fAd b.K ("path_up", none)) [shN 2] m_path_up := by
  obtain ⟨fd, FF⟩ := T.f_path_up
  have h := fn_ok (b := b) (N := ["tree", "place", "found"]) (ps := ["tree", "place"]) (k := 1) (bd := b_path_up) FF sc_path_up
  refine ⟨fd, ["tree", "place"], h (fun F' B' cdv A outer s H E hcd o => ?_), FF.kp, (sh_1 (q := shN 2) (bd_N FF fun _ _ _ _ _ _ us hl => match us, hl with | [_, _], _ => rfl))⟩
  exact (dss_cons (ds_set (i := 2) o.toOkB rfl (by first | exact .inl rfl | exact .inr rfl) (d_own (da_cons (x_v 1) da_nil)))
    (dss_cons (ds_while 64 o (y_ne o (x_ix o (x_v 2) (x_neg d_int)) d_int) (dss_one (ds_expr (d_bm o.K F.slot_list_append F.type_list_append mt_append m_append (x_v 2) (da_cons (d_callP o (k_father_of T) (by decide) (shN 2) (.head _) rfl T.g_father_of (dc_pos (da_cons (x_v 0) (da_cons (x_ix o (x_v 2) (x_neg d_int)) da_nil)))) da_nil)))))
    (dss_one (ds_ret (x_v 2)))))
theorem sc_depths_in : FnScope ["tree", "found", "father", "length"] ["tree"] (defScope (top 34)) := ⟨rfl, rfl, rfl, by decide +kernel, rfl, by decide +kernel, by decide +kernel⟩
theorem k_depths_in (T : Tx b) : Fk b 1 (He.fAd b.K ("depths_in", none)) [shN 1] m_depths_in := by
  obtain ⟨fd, FF⟩ := T.f_depths_in
  have h := fn_ok (b := b) (N := ["tree", "found", "father", "length"]) (ps := ["tree"]) (k := 0) (bd := b_depths_in) FF sc_depths_in
  refine Fk.trim ⟨fd, ["tree"], h (fun F' B' cdv A outer s H E hcd o => ?_), FF.kp, (sh_1 (q := shN 1) (bd_N FF fun _ _ _ _ _ _ us hl => match us, hl with | [_], _ => rfl))⟩
  exact (dss_cons (ds_set (i := 1) o.toOkB rfl (by first | exact .inl rfl | exact .inr rfl) (d_own (da_cons d_int da_nil)))
    (dss_cons (ds_for o (di_sq o.K (x_ix o (x_v 0) d_int)) (dg_tup o.K o.calm (dgs_cons (dg_name o.nd rfl (by first | exact .inl rfl | exact .inr rfl)) (dgs_cons (dg_name o.nd rfl (by first | exact .inl rfl | exact .inr rfl)) dgs_nil))) (dss_one (ds_expr (d_bm o.K F.slot_list_append F.type_list_append mt_append m_append (x_v 1) (da_cons (x_add o.toOkB (x_ix o (x_v 1) (x_v 2)) (x_v 3)) da_nil)))))
    (dss_one (ds_ret (x_v 1)))))
theorem sc_path_in : FnScope ["tree", "place", "other", "up", "down"] ["tree", "place", "other"] (defScope (top 35)) := ⟨rfl, rfl, rfl, by decide +kernel, rfl, by decide +kernel, by decide +kernel⟩
theorem k_path_in (T : Tx b) : Fk b 3 (He.fAd b.K ("path_in", none)) [shN 3] m_path_in := by
  obtain ⟨fd, FF⟩ := T.f_path_in
  have h := fn_ok (b := b) (N := ["tree", "place", "other", "up", "down"]) (ps := ["tree", "place", "other"]) (k := 2) (bd := b_path_in) FF sc_path_in
  refine Fk.trim ⟨fd, ["tree", "place", "other"], h (fun F' B' cdv A outer s H E hcd o => ?_), FF.kp, (sh_1 (q := shN 3) (bd_N FF fun _ _ _ _ _ _ us hl => match us, hl with | [_, _, _], _ => rfl))⟩
  exact (dss_cons (ds_par2 (n := 3) (m := 4) o rfl rfl (by decide) rfl rfl (da_cons (d_callI o (k_path_up T) (by decide) (shN 2) (.head _) rfl T.g_path_up (dc_pos (da_cons (x_v 0) (da_cons (x_v 1) da_nil)))) (da_cons (d_callI o (k_path_up T) (by decide) (shN 2) (.head _) rfl T.g_path_up (dc_pos (da_cons (x_v 0) (da_cons (x_v 2) da_nil)))) da_nil)))
    (dss_cons (ds_while 64 o (dt_w (dw_and (y_gt (x_len o T.n_len (da_cons (x_v 3) da_nil)) d_int) (dw_and (y_gt (x_len o T.n_len (da_cons (x_v 4) da_nil)) d_int) (dw_and1 (y_eq o (x_ix o (x_v 3) (x_neg d_int)) (x_ix o (x_v 4) (x_neg d_int))))))) (dss_cons (ds_expr (d_bm0 o.K F.slot_list_pop F.type_list_pop mt_pop m_pop (x_v 3)))
    (dss_one (ds_expr (d_bm0 o.K F.slot_list_pop F.type_list_pop mt_pop m_pop (x_v 4))))))
    (dss_one (ds_ret (x_add o.toOkB (x_v 3) (d_sl (d_rev (x_v 4) o.K) (do_some d_int) do_none o.K))))))
theorem sc_top_in : FnScope ["tree", "place", "other"] ["tree", "place", "other"] (defScope (top 36)) := ⟨rfl, rfl, rfl, by decide +kernel, rfl, by decide +kernel, by decide +kernel⟩
theorem k_top_in (T : Tx b) : Fk b 4 (He.fAd b.K ("top_in", none)) [shN 3] m_top_in := by
  obtain ⟨fd, FF⟩ := T.f_top_in
  have h := fn_ok (b := b) (N := ["tree", "place", "other"]) (ps := ["tree", "place", "other"]) (k := 3) (bd := b_top_in) FF sc_top_in
  refine Fk.trim ⟨fd, ["tree", "place", "other"], h (fun F' B' cdv A outer s H E hcd o => ?_), FF.kp, (sh_1 (q := shN 3) (bd_N FF fun _ _ _ _ _ _ us hl => match us, hl with | [_, _, _], _ => rfl))⟩
  exact (dss_one (ds_ret (x_min o T.n_min (da_cons (d_callP o (k_path_in T) (by decide) (shN 3) (.head _) rfl T.g_path_in (dc_pos (da_cons (x_v 0) (da_cons (x_v 1) (da_cons (x_v 2) da_nil))))) da_nil))))
theorem sc_way_in : FnScope ["tree", "place", "other", "depths"] ["tree", "place", "other"] (defScope (top 37)) := ⟨rfl, rfl, rfl, by decide +kernel, rfl, by decide +kernel, by decide +kernel⟩
theorem k_way_in (T : Tx b) : Fk b 5 (He.fAd b.K ("way_in", none)) [shN 3] m_way_in := by
  obtain ⟨fd, FF⟩ := T.f_way_in
  have h := fn_ok (b := b) (N := ["tree", "place", "other", "depths"]) (ps := ["tree", "place", "other"]) (k := 4) (bd := b_way_in) FF sc_way_in
  refine Fk.trim ⟨fd, ["tree", "place", "other"], h (fun F' B' cdv A outer s H E hcd o => ?_), FF.kp, (sh_1 (q := shN 3) (bd_N FF fun _ _ _ _ _ _ us hl => match us, hl with | [_, _, _], _ => rfl))⟩
  exact (dss_cons (ds_set (i := 3) o.toOkB rfl (by first | exact .inl rfl | exact .inr rfl) (d_callP o (k_depths_in T) (by decide) (shN 1) (.head _) rfl T.g_depths_in (dc_pos (da_cons (x_v 0) da_nil))))
    (dss_one (ds_ret (x_sub (x_add o.toOkB (x_ix o (x_v 3) (x_v 1)) (x_ix o (x_v 3) (x_v 2))) (x_mul d_int (x_ix o (x_v 3) (d_callP o (k_top_in T) (by decide) (shN 3) (.head _) rfl T.g_top_in (dc_pos (da_cons (x_v 0) (da_cons (x_v 1) (da_cons (x_v 2) da_nil)))))))))))
theorem sc_want_many : FnScope ["value"] ["value"] (defScope (top 40)) := ⟨rfl, rfl, rfl, by decide +kernel, rfl, by decide +kernel, by decide +kernel⟩
theorem k_want_many (T : Tx b) : Fk b 3 (He.fAd b.K ("want_many", none)) [shN 1] m_want_many := by
  obtain ⟨fd, FF⟩ := T.f_want_many
  have h := fn_ok (b := b) (N := ["value"]) (ps := ["value"]) (k := 2) (bd := b_want_many) FF sc_want_many
  refine Fk.trim ⟨fd, ["value"], h (fun F' B' cdv A outer s H E hcd o => ?_), FF.kp, (sh_1 (q := shN 1) (bd_N FF fun _ _ _ _ _ _ us hl => match us, hl with | [_], _ => rfl))⟩
  exact (dss_one (ds_if (dt_not (dt_val (d_callP o (k_is_within T) (by decide) (shN 3) (.head _) rfl T.g_is_within (dc_pos (da_cons (x_v 0) (da_cons d_int (da_cons (x_gint (i := 99) o.toOkB T.i_MOST_MANY) da_nil))))))) (dss_one (ds_raise o rfl T.e_InvalidMany (by decide) rfl T.c_InvalidMany (da_cons (x_v 0) da_nil))) dss_nil))
theorem sc_is_call : FnScope ["tree", "value"] ["tree", "value"] (defScope (top 45)) := ⟨rfl, rfl, rfl, by decide +kernel, rfl, by decide +kernel, by decide +kernel⟩
theorem k_is_call (T : Tx b) : Fk b 3 (He.fAd b.K ("is_call", none)) [shN 2] m_is_call := by
  obtain ⟨fd, FF⟩ := T.f_is_call
  have h := fn_ok (b := b) (N := ["tree", "value"]) (ps := ["tree", "value"]) (k := 2) (bd := b_is_call) FF sc_is_call
  refine Fk.trim ⟨fd, ["tree", "value"], h (fun F' B' cdv A outer s H E hcd o => ?_), FF.kp, (sh_1 (q := shN 2) (bd_N FF fun _ _ _ _ _ _ us hl => match us, hl with | [_, _], _ => rfl))⟩
  exact (dss_cons (ds_if (dt_w (dw_or (dt_not (dt_val (d_callP o (k_is_row T) (by decide) (shN 2) (.head _) rfl T.g_is_row (dc_pos (da_cons (x_v 1) (da_cons d_int da_nil)))))) (dw_or (dt_not (dt_val (d_callP o (k_is_within T) (by decide) (shN 3) (.head _) rfl T.g_is_within (dc_pos (da_cons (x_ix o (x_v 1) d_int) (da_cons d_int (da_cons (x_gint (i := 99) o.toOkB T.i_MOST_HOUR) da_nil))))))) (dw_or1 (dt_not (dt_val (d_callP o (k_is_within T) (by decide) (shN 3) (.head _) rfl T.g_is_within (dc_pos (da_cons (x_ix o (x_v 1) d_int) (da_cons d_int (da_cons (x_gint (i := 9999) o.toOkB T.i_MOST_REACH) da_nil))))))))))) (dss_one (ds_ret d_bl)) dss_nil)
    (dss_one (ds_ret (d_callP o (k_is_within T) (by decide) (shN 3) (.head _) rfl T.g_is_within (dc_pos (da_cons (x_ix o (x_v 1) d_int) (da_cons d_int (da_cons (x_sub (d_callP o (k_place_count T) (by decide) (shN 1) (.head _) rfl T.g_place_count (dc_pos (da_cons (x_v 0) da_nil))) d_int) da_nil))))))))
theorem sc_is_day_in : FnScope ["tree", "value", "near", "far", "call"] ["tree", "value"] (defScope (top 46)) := ⟨rfl, rfl, rfl, by decide +kernel, rfl, by decide +kernel, by decide +kernel⟩
theorem k_is_day_in (T : Tx b) : Fk b 4 (He.fAd b.K ("is_day_in", none)) [shN 2] m_is_day_in := by
  obtain ⟨fd, FF⟩ := T.f_is_day_in
  have h := fn_ok (b := b) (N := ["tree", "value", "near", "far", "call"]) (ps := ["tree", "value"]) (k := 3) (bd := b_is_day_in) FF sc_is_day_in
  refine Fk.trim ⟨fd, ["tree", "value"], h (fun F' B' cdv A outer s H E hcd o => ?_), FF.kp, (sh_1 (q := shN 2) (bd_N FF fun _ _ _ _ _ _ us hl => match us, hl with | [_, _], _ => rfl))⟩
  exact (dss_cons (ds_if (dt_w (dw_or (dt_not (dt_val (d_callP o (k_is_row T) (by decide) (shN 2) (.head _) rfl T.g_is_row (dc_pos (da_cons (x_v 1) (da_cons d_int da_nil)))))) (dw_or (dt_not (dt_val (x_isi o T.n_isinstance (da_cons (x_ix o (x_v 1) d_int) (da_cons (d_ty (n := "str") o.toOkB rfl T.n_str rfl) da_nil))))) (dw_or1 (y_ne o (x_ix o (x_v 1) d_int) d_str))))) (dss_one (ds_ret d_bl)) dss_nil)
    (dss_cons (ds_if (dt_w (dw_or (dt_not (dt_val (d_callP o (k_is_ratio T) (by decide) (shN 1) (.head _) rfl T.g_is_ratio (dc_pos (da_cons (x_ix o (x_v 1) d_int) da_nil))))) (dw_or (y_lt (x_ix o (x_ix o (x_v 1) d_int) d_int) d_int) (dw_or1 (dt_not (dt_val (x_isi o T.n_isinstance (da_cons (x_ix o (x_v 1) d_int) (da_cons (d_ty (n := "tuple") o.toOkB rfl T.n_tuple rfl) da_nil))))))))) (dss_one (ds_ret d_bl)) dss_nil)
    (dss_cons (ds_if (dt_w (dw_or (dt_not (y_lele d_int (x_len o T.n_len (da_cons (x_ix o (x_v 1) d_int) da_nil)) (x_gint (i := 8) o.toOkB T.i_MOST_CALLS))) (dw_or1 (dt_not (dt_val (x_all o T.n_all (da_cons (d_comp (own := [("call", 4)]) o (di_sq o.K (x_ix o (x_v 1) d_int)) (blkOk_by (by first | (show blkC ["tree", "value", "near", "far", "call"] (defScope (top 46)) _ _ = true; decide +kernel) | kernel_rfl)) (by decide) (fun s H C cl fp => (dg_name o.nd rfl (by first | exact .inl rfl | exact .inr rfl))) (fun Fq s H C cl fp o => dts_nil) (fun Fq s H C cl fp o => (d_callP o (k_is_call T) (by decide) (shN 2) (.head _) rfl T.g_is_call (dc_pos (da_cons (x_v 0) (da_cons (x_v 4) da_nil)))))) da_nil))))))) (dss_one (ds_ret d_bl)) dss_nil)
    (dss_one (ds_ret (x_all o T.n_all (da_cons (d_comp (own := [("near", 2), ("far", 3)]) o (di_zip o.toOkB rfl T.n_zip (da_cons (x_ix o (x_v 1) d_int) (da_cons (d_sl (x_ix o (x_v 1) d_int) (do_some d_int) do_none o.K) da_nil))) (blkOk_by (by first | (show blkC ["tree", "value", "near", "far", "call"] (defScope (top 46)) _ _ = true; decide +kernel) | kernel_rfl)) (by decide) (fun s H C cl fp => (dg_tup o.K o.calm (dgs_cons (dg_name o.nd rfl (by first | exact .inl rfl | exact .inr rfl)) (dgs_cons (dg_name o.nd rfl (by first | exact .inl rfl | exact .inr rfl)) dgs_nil)))) (fun Fq s H C cl fp o => dts_nil) (fun Fq s H C cl fp o => (x_ltT o (x_v 2) (x_v 3)))) da_nil)))))))
theorem sc_want_day : FnScope ["tree", "value"] ["tree", "value"] (defScope (top 47)) := ⟨rfl, rfl, rfl, by decide +kernel, rfl, by decide +kernel, by decide +kernel⟩
theorem k_want_day (T : Tx b) : Fk b 6 (He.fAd b.K ("want_day", none)) [shN 2] m_want_day := by
  obtain ⟨fd, FF⟩ := T.f_want_day
  have h := fn_ok (b := b) (N := ["tree", "value"]) (ps := ["tree", "value"]) (k := 5) (bd := b_want_day) FF sc_want_day
  refine Fk.trim ⟨fd, ["tree", "value"], h (fun F' B' cdv A outer s H E hcd o => ?_), FF.kp, (sh_1 (q := shN 2) (bd_N FF fun _ _ _ _ _ _ us hl => match us, hl with | [_, _], _ => rfl))⟩
  exact (dss_one (ds_if (dt_not (dt_val (d_callP o (k_is_day_in T) (by decide) (shN 2) (.head _) rfl T.g_is_day_in (dc_pos (da_cons (d_callP o (k_want_tree T) (by decide) (shN 1) (.head _) rfl T.g_want_tree (dc_pos (da_cons (x_v 0) da_nil))) (da_cons (x_v 1) da_nil)))))) (dss_one (ds_raise o rfl T.e_InvalidDay (by decide) rfl T.c_InvalidDay (da_cons (x_v 1) da_nil))) dss_nil))
theorem sc_fit_in : FnScope ["tree", "day", "call", "other", "room", "hour", "place", "reach", "late", "goal", "far"] ["tree", "day", "call", "other"] (defScope (top 48)) := ⟨rfl, rfl, rfl, by decide +kernel, rfl, by decide +kernel, by decide +kernel⟩
theorem k_fit_in (T : Tx b) : Fk b 6 (He.fAd b.K ("fit_in", none)) [shN 4] m_fit_in := by
  obtain ⟨fd, FF⟩ := T.f_fit_in
  have h := fn_ok (b := b) (N := ["tree", "day", "call", "other", "room", "hour", "place", "reach", "late", "goal", "far"]) (ps := ["tree", "day", "call", "other"]) (k := 5) (bd := b_fit_in) FF sc_fit_in
  refine Fk.trim ⟨fd, ["tree", "day", "call", "other"], h (fun F' B' cdv A outer s H E hcd o => ?_), FF.kp, (sh_1 (q := shN 4) (bd_N FF fun _ _ _ _ _ _ us hl => match us, hl with | [_, _, _, _], _ => rfl))⟩
  exact (dss_cons (ds_asg (d_tup (da_cons (x_ix o (x_ix o (x_v 1) d_int) (x_v 2)) (da_cons (x_ix o (x_ix o (x_v 1) d_int) (x_v 3)) da_nil))) (dg_tup o.K o.calm (dgs_cons (dg_tup o.K o.calm (dgs_cons (dg_name o.nd rfl (by first | exact .inl rfl | exact .inr rfl)) (dgs_cons (dg_name o.nd rfl (by first | exact .inl rfl | exact .inr rfl)) (dgs_cons (dg_name o.nd rfl (by first | exact .inl rfl | exact .inr rfl)) dgs_nil)))) (dgs_cons (dg_tup o.K o.calm (dgs_cons (dg_name o.nd rfl (by first | exact .inl rfl | exact .inr rfl)) (dgs_cons (dg_name o.nd rfl (by first | exact .inl rfl | exact .inr rfl)) (dgs_cons (dg_name o.nd rfl (by first | exact .inl rfl | exact .inr rfl)) dgs_nil)))) dgs_nil))))
    (dss_cons (ds_set (i := 4) o.toOkB rfl (by first | exact .inl rfl | exact .inr rfl) (d_callP o (k_plus T) (by decide) (shN 2) (.head _) rfl T.g_plus (dc_pos (da_cons (d_callP o (k_whole T) (by decide) (shN 1) (.head _) rfl T.g_whole (dc_pos (da_cons (x_add o.toOkB (x_v 7) (x_v 10)) da_nil))) (da_cons (d_callP o (k_product T) (by decide) (shN 2) (.head _) rfl T.g_product (dc_pos (da_cons (x_ix o (x_v 1) d_int) (da_cons (d_callP o (k_whole T) (by decide) (shN 1) (.head _) rfl T.g_whole (dc_pos (da_cons (x_abs o T.n_abs (da_cons (x_sub (x_v 8) (x_v 5)) da_nil)) da_nil))) da_nil)))) da_nil)))))
    (dss_one (ds_ret (d_not (d_callP o (k_is_less T) (by decide) (shN 2) (.head _) rfl T.g_is_less (dc_pos (da_cons (x_v 4) (da_cons (d_callP o (k_whole T) (by decide) (shN 1) (.head _) rfl T.g_whole (dc_pos (da_cons (d_callP o (k_way_in T) (by decide) (shN 3) (.head _) rfl T.g_way_in (dc_pos (da_cons (x_v 0) (da_cons (x_v 6) (da_cons (x_v 9) da_nil))))) da_nil))) da_nil)))))))))
theorem sc_do_all_fit : FnScope ["tree", "day", "lot", "at", "call", "other"] ["tree", "day", "lot"] (defScope (top 49)) := ⟨rfl, rfl, rfl, by decide +kernel, rfl, by decide +kernel, by decide +kernel⟩
theorem k_do_all_fit (T : Tx b) : Fk b 7 (He.fAd b.K ("do_all_fit", none)) [shN 3] m_do_all_fit := by
  obtain ⟨fd, FF⟩ := T.f_do_all_fit
  have h := fn_ok (b := b) (N := ["tree", "day", "lot", "at", "call", "other"]) (ps := ["tree", "day", "lot"]) (k := 6) (bd := b_do_all_fit) FF sc_do_all_fit
  refine Fk.trim ⟨fd, ["tree", "day", "lot"], h (fun F' B' cdv A outer s H E hcd o => ?_), FF.kp, (sh_1 (q := shN 3) (bd_N FF fun _ _ _ _ _ _ us hl => match us, hl with | [_, _, _], _ => rfl))⟩
  exact (dss_cons (ds_for o (di_enum o.toOkB rfl T.n_enumerate (da_cons (x_v 2) da_nil)) (dg_tup o.K o.calm (dgs_cons (dg_name o.nd rfl (by first | exact .inl rfl | exact .inr rfl)) (dgs_cons (dg_name o.nd rfl (by first | exact .inl rfl | exact .inr rfl)) dgs_nil))) (dss_one (ds_if (dt_not (dt_val (x_all o T.n_all (da_cons (d_comp (own := [("other", 5)]) o (di_sq o.K (d_sl (x_v 2) do_none (do_some (x_v 3)) o.K)) (blkOk_by (by first | (show blkC ["tree", "day", "lot", "at", "call", "other"] (defScope (top 49)) _ _ = true; decide +kernel) | kernel_rfl)) (by decide) (fun s H C cl fp => (dg_name o.nd rfl (by first | exact .inl rfl | exact .inr rfl))) (fun Fq s H C cl fp o => dts_nil) (fun Fq s H C cl fp o => (d_callP o (k_fit_in T) (by decide) (shN 4) (.head _) rfl T.g_fit_in (dc_pos (da_cons (x_v 0) (da_cons (x_v 1) (da_cons (x_v 5) (da_cons (x_v 4) da_nil)))))))) da_nil)))) (dss_one (ds_ret d_bl)) dss_nil)))
    (dss_one (ds_ret d_bl)))
theorem sc_contrary_in : FnScope ["tree", "day", "found", "call", "other"] ["tree", "day"] (defScope (top 57)) := ⟨rfl, rfl, rfl, by decide +kernel, rfl, by decide +kernel, by decide +kernel⟩
theorem k_contrary_in (T : Tx b) : Fk b 7 (He.fAd b.K ("contrary_in", none)) [shN 2] m_contrary_in := by
  obtain ⟨fd, FF⟩ := T.f_contrary_in
  have h := fn_ok (b := b) (N := ["tree", "day", "found", "call", "other"]) (ps := ["tree", "day"]) (k := 6) (bd := b_contrary_in) FF sc_contrary_in
  refine Fk.trim ⟨fd, ["tree", "day"], h (fun F' B' cdv A outer s H E hcd o => ?_), FF.kp, (sh_1 (q := shN 2) (bd_N FF fun _ _ _ _ _ _ us hl => match us, hl with | [_, _], _ => rfl))⟩
  exact (dss_cons (ds_set (i := 2) o.toOkB rfl (by first | exact .inl rfl | exact .inr rfl) (d_own da_nil))
    (dss_cons (ds_for o (di_range1 o.toOkB rfl T.n_range (da_cons (x_len o T.n_len (da_cons (x_ix o (x_v 1) d_int) da_nil)) da_nil)) (dg_name o.nd rfl (by first | exact .inl rfl | exact .inr rfl)) (dss_one (ds_expr (d_bm o.K F.slot_list_extend F.type_list_extend mt_extend m_extend (x_v 2) (da_cons (d_comp (own := [("other", 4)]) o (di_range1 o.toOkB rfl T.n_range (da_cons (x_v 3) da_nil)) (blkOk_by (by first | (show blkC ["tree", "day", "found", "call", "other"] (defScope (top 57)) _ _ = true; decide +kernel) | kernel_rfl)) (by decide) (fun s H C cl fp => (dg_name o.nd rfl (by first | exact .inl rfl | exact .inr rfl))) (fun Fq s H C cl fp o => (dts_one (dt_not (dt_val (d_callP o (k_fit_in T) (by decide) (shN 4) (.head _) rfl T.g_fit_in (dc_pos (da_cons (x_v 0) (da_cons (x_v 1) (da_cons (x_v 4) (da_cons (x_v 3) da_nil)))))))))) (fun Fq s H C cl fp o => (d_tup (da_cons (x_v 4) (da_cons (x_v 3) da_nil))))) da_nil)))))
    (dss_one (ds_ret (x_v 2)))))
theorem sc_touches : FnScope ["pairs", "lot", "other", "near", "far"] ["pairs", "lot", "other"] (defScope (top 59)) := ⟨rfl, rfl, rfl, by decide +kernel, rfl, by decide +kernel, by decide +kernel⟩
theorem k_touches (T : Tx b) : Fk b 1 (He.fAd b.K ("touches", none)) [shN 3] m_touches := by
  obtain ⟨fd, FF⟩ := T.f_touches
  have h := fn_ok (b := b) (N := ["pairs", "lot", "other", "near", "far"]) (ps := ["pairs", "lot", "other"]) (k := 0) (bd := b_touches) FF sc_touches
  refine Fk.trim ⟨fd, ["pairs", "lot", "other"], h (fun F' B' cdv A outer s H E hcd o => ?_), FF.kp, (sh_1 (q := shN 3) (bd_N FF fun _ _ _ _ _ _ us hl => match us, hl with | [_, _, _], _ => rfl))⟩
  exact (dss_one (ds_ret (x_any o T.n_any (da_cons (d_comp (own := [("near", 3), ("far", 4)]) o (di_sq o.K (x_v 0)) (blkOk_by (by first | (show blkC ["pairs", "lot", "other", "near", "far"] (defScope (top 59)) _ _ = true; decide +kernel) | kernel_rfl)) (by decide) (fun s H C cl fp => (dg_tup o.K o.calm (dgs_cons (dg_name o.nd rfl (by first | exact .inl rfl | exact .inr rfl)) (dgs_cons (dg_name o.nd rfl (by first | exact .inl rfl | exact .inr rfl)) dgs_nil)))) (fun Fq s H C cl fp o => dts_nil) (fun Fq s H C cl fp o => (d_or (d_and (x_in o (x_v 3) (x_v 1)) (d_one (x_in o (x_v 4) (x_v 2)))) (d_one (d_and (x_in o (x_v 3) (x_v 2)) (d_one (x_in o (x_v 4) (x_v 1)))))))) da_nil))))
theorem sc_are_all_contrary : FnScope ["pairs", "lots", "at", "lot", "other"] ["pairs", "lots"] (defScope (top 58)) := ⟨rfl, rfl, rfl, by decide +kernel, rfl, by decide +kernel, by decide +kernel⟩
theorem k_are_all_contrary (T : Tx b) : Fk b 1 (He.fAd b.K ("are_all_contrary", none)) [shN 2] m_are_all_contrary := by
  obtain ⟨fd, FF⟩ := T.f_are_all_contrary
  have h := fn_ok (b := b) (N := ["pairs", "lots", "at", "lot", "other"]) (ps := ["pairs", "lots"]) (k := 0) (bd := b_are_all_contrary) FF sc_are_all_contrary
  refine Fk.trim ⟨fd, ["pairs", "lots"], h (fun F' B' cdv A outer s H E hcd o => ?_), FF.kp, (sh_1 (q := shN 2) (bd_N FF fun _ _ _ _ _ _ us hl => match us, hl with | [_, _], _ => rfl))⟩
  exact dss_stub
theorem sc_greatest_lots : FnScope ["pairs", "lots", "lot", "one", "found", "some", "other"] ["pairs", "lots"] (defScope (top 60)) := ⟨rfl, rfl, rfl, by decide +kernel, rfl, by decide +kernel, by decide +kernel⟩
theorem k_greatest_lots (T : Tx b) : Fk b 2 (He.fAd b.K ("greatest_lots", none)) [shN 2] m_greatest_lots := by
  obtain ⟨fd, FF⟩ := T.f_greatest_lots
  have h := fn_ok (b := b) (N := ["pairs", "lots", "lot", "one", "found", "some", "other"]) (ps := ["pairs", "lots"]) (k := 1) (bd := b_greatest_lots) FF sc_greatest_lots
  refine Fk.trim ⟨fd, ["pairs", "lots"], h (fun F' B' cdv A outer s H E hcd o => ?_), FF.kp, (sh_1 (q := shN 2) (bd_N FF fun _ _ _ _ _ _ us hl => match us, hl with | [_, _], _ => rfl))⟩
  exact (dss_cons (ds_par2 (n := 4) (m := 5) o rfl rfl (by decide) rfl rfl (da_cons (d_lst da_nil) (da_cons (d_own (da_cons (d_lst da_nil) da_nil)) da_nil)))
    (dss_cons (ds_for o (di_sq o.K (x_v 1)) (dg_name o.nd rfl (by first | exact .inl rfl | exact .inr rfl)) (dss_one (ds_expr (d_bm o.K F.slot_list_extend F.type_list_extend mt_extend m_extend (x_v 5) (da_cons (d_frz fun Fq Bq => have o := o.frz Fq Bq; (d_comp (own := [("one", 3)]) o (di_sq o.K (x_v 5)) (blkOk_by (by first | (show blkC ["pairs", "lots", "lot", "one", "found", "some", "other"] (defScope (top 60)) _ _ = true; decide +kernel) | kernel_rfl)) (by decide) (fun s H C cl fp => (dg_name o.nd rfl (by first | exact .inl rfl | exact .inr rfl))) (fun Fq s H C cl fp o => (dts_one (dt_val (x_all o T.n_all (da_cons (d_comp (own := [("other", 6)]) o (di_sq o.K (x_v 3)) (blkOk_by (by first | (show blkC ["pairs", "lots", "lot", "one", "found", "some", "other"] (defScope (top 60)) _ _ = true; decide +kernel) | kernel_rfl)) (by decide) (fun s H C cl fp => (dg_name o.nd rfl (by first | exact .inl rfl | exact .inr rfl))) (fun Fq s H C cl fp o => dts_nil) (fun Fq s H C cl fp o => (d_callP o (k_touches T) (by decide) (shN 3) (.head _) rfl T.g_touches (dc_pos (da_cons (x_v 0) (da_cons (x_v 6) (da_cons (x_v 2) da_nil))))))) da_nil))))) (fun Fq s H C cl fp o => (x_add o.toOkB (x_v 3) (d_lst (da_cons (x_v 2) da_nil)))))) da_nil)))))
    (dss_cons (ds_lk 5 (ds_for o (di_sq o.K (x_v 5)) (dg_name o.nd rfl (by first | exact .inl rfl | exact .inr rfl)) (dss_one (ds_set (i := 4) o.toOkB rfl (by first | exact .inl rfl | exact .inr rfl) (d_if (y_gt (x_len o T.n_len (da_cons (x_v 3) da_nil)) (x_len o T.n_len (da_cons (x_v 4) da_nil))) (x_v 3) (x_v 4))))))
    (dss_one (ds_ret (x_v 4))))))
theorem sc_share_in : FnScope ["pairs", "calls", "many", "waiting", "at", "lots", "call", "lot"] ["pairs", "calls", "many"] (defScope (top 61)) := ⟨rfl, rfl, rfl, by decide +kernel, rfl, by decide +kernel, by decide +kernel⟩
theorem k_share_in (T : Tx b) : Fk b 2 (He.fAd b.K ("share_in", none)) [shN 3] m_share_in := by
  obtain ⟨fd, FF⟩ := T.f_share_in
  have h := fn_ok (b := b) (N := ["pairs", "calls", "many", "waiting", "at", "lots", "call", "lot"]) (ps := ["pairs", "calls", "many"]) (k := 1) (bd := b_share_in) FF sc_share_in
  refine Fk.trim ⟨fd, ["pairs", "calls", "many"], h (fun F' B' cdv A outer s H E hcd o => ?_), FF.kp, (sh_1 (q := shN 3) (bd_N FF fun _ _ _ _ _ _ us hl => match us, hl with | [_, _, _], _ => rfl))⟩
  exact (dss_cons (ds_set (i := 3) o.toOkB rfl (by first | exact .inl rfl | exact .inr rfl) (d_own (da_cons (d_tup (da_cons (d_lst da_nil) (da_cons d_int da_nil))) da_nil)))
    (dss_cons (ds_while 400 o (y_ne o (x_v 3) (d_lst da_nil)) (dss_cons (ds_asg (d_bm0 o.K F.slot_list_pop F.type_list_pop mt_pop m_pop (x_v 3)) (dg_tup o.K o.calm (dgs_cons (dg_name o.nd rfl (by first | exact .inl rfl | exact .inr rfl)) (dgs_cons (dg_name o.nd rfl (by first | exact .inl rfl | exact .inr rfl)) dgs_nil))))
    (dss_cons (ds_if (y_eq o (x_v 6) (x_v 1)) (dss_one (ds_ret (x_tuple o T.n_tuple (da_cons (d_comp (own := [("lot", 7)]) o (di_sq o.K (x_v 5)) (blkOk_by (by first | (show blkC ["pairs", "calls", "many", "waiting", "at", "lots", "call", "lot"] (defScope (top 61)) _ _ = true; decide +kernel) | kernel_rfl)) (by decide) (fun s H C cl fp => (dg_name o.nd rfl (by first | exact .inl rfl | exact .inr rfl))) (fun Fq s H C cl fp o => dts_nil) (fun Fq s H C cl fp o => (x_tuple o T.n_tuple (da_cons (x_v 7) da_nil)))) da_nil)))) dss_nil)
    (dss_cons (ds_if (y_lt (x_len o T.n_len (da_cons (x_v 5) da_nil)) (x_v 2)) (dss_one (ds_expr (d_bm o.K F.slot_list_append F.type_list_append mt_append m_append (x_v 3) (da_cons (d_tup (da_cons (x_add o.toOkB (x_v 5) (d_lst (da_cons (d_lst (da_cons (x_v 6) da_nil)) da_nil))) (da_cons (x_add o.toOkB (x_v 6) d_int) da_nil))) da_nil)))) dss_nil)
    (dss_one (ds_for o (di_range3 o.toOkB rfl T.n_range (da_cons (x_sub (x_len o T.n_len (da_cons (x_v 5) da_nil)) d_int) (da_cons (x_neg d_int) (da_cons (x_neg d_int) da_nil)))) (dg_name o.nd rfl (by first | exact .inl rfl | exact .inr rfl)) (dss_one (ds_if (dt_not (dt_val (d_callP o (k_touches T) (by decide) (shN 3) (.head _) rfl T.g_touches (dc_pos (da_cons (x_v 0) (da_cons (x_ix o (x_v 5) (x_v 4)) (da_cons (d_lst (da_cons (x_v 6) da_nil)) da_nil))))))) (dss_one (ds_expr (d_bm o.K F.slot_list_append F.type_list_append mt_append m_append (x_v 3) (da_cons (d_tup (da_cons (x_add o.toOkB (x_add o.toOkB (d_sl (x_v 5) do_none (do_some (x_v 4)) o.K) (d_lst (da_cons (x_add o.toOkB (x_ix o (x_v 5) (x_v 4)) (d_lst (da_cons (x_v 6) da_nil))) da_nil))) (d_sl (x_v 5) (do_some (x_add o.toOkB (x_v 4) d_int)) do_none o.K)) (da_cons (x_add o.toOkB (x_v 6) d_int) da_nil))) da_nil)))) dss_nil))))))))
    (dss_one (ds_ret d_non))))
theorem sc_fewest_in : FnScope ["tree", "day", "many", "pairs", "calls", "call"] ["tree", "day"] (defScope (top 62)) := ⟨rfl, rfl, rfl, by decide +kernel, rfl, by decide +kernel, by decide +kernel⟩
theorem k_fewest_in (T : Tx b) : Fk b 8 (He.fAd b.K ("fewest_in", none)) [shN 2] m_fewest_in := by
  obtain ⟨fd, FF⟩ := T.f_fewest_in
  have h := fn_ok (b := b) (N := ["tree", "day", "many", "pairs", "calls", "call"]) (ps := ["tree", "day"]) (k := 7) (bd := b_fewest_in) FF sc_fewest_in
  refine Fk.trim ⟨fd, ["tree", "day"], h (fun F' B' cdv A outer s H E hcd o => ?_), FF.kp, (sh_1 (q := shN 2) (bd_N FF fun _ _ _ _ _ _ us hl => match us, hl with | [_, _], _ => rfl))⟩
  exact (dss_cons (ds_par2 (n := 3) (m := 4) o rfl rfl (by decide) rfl rfl (da_cons (d_callP o (k_contrary_in T) (by decide) (shN 2) (.head _) rfl T.g_contrary_in (dc_pos (da_cons (x_v 0) (da_cons (x_v 1) da_nil)))) (da_cons (x_len o T.n_len (da_cons (x_ix o (x_v 1) d_int) da_nil)) da_nil)))
    (dss_cons (ds_set (i := 2) o.toOkB rfl (by first | exact .inl rfl | exact .inr rfl) (x_len o T.n_len (da_cons (d_callP o (k_greatest_lots T) (by decide) (shN 2) (.head _) rfl T.g_greatest_lots (dc_pos (da_cons (x_v 3) (da_cons (d_comp (own := [("call", 5)]) o (di_range1 o.toOkB rfl T.n_range (da_cons (x_v 4) da_nil)) (blkOk_by (by first | (show blkC ["tree", "day", "many", "pairs", "calls", "call"] (defScope (top 62)) _ _ = true; decide +kernel) | kernel_rfl)) (by decide) (fun s H C cl fp => (dg_name o.nd rfl (by first | exact .inl rfl | exact .inr rfl))) (fun Fq s H C cl fp o => dts_nil) (fun Fq s H C cl fp o => (d_lst (da_cons (x_v 5) da_nil)))) da_nil)))) da_nil)))
    (dss_cons (ds_while 64 o (y_is (d_callP o (k_share_in T) (by decide) (shN 3) (.head _) rfl T.g_share_in (dc_pos (da_cons (x_v 3) (da_cons (x_v 4) (da_cons (x_v 2) da_nil))))) d_non) (dss_one (ds_aug (n := 2) o.toOkB ip_add rfl (by first | exact .inl rfl | exact .inr rfl) d_int)))
    (dss_one (ds_ret (x_v 2))))))
theorem sc_best_split : FnScope ["pairs", "lots", "found", "best", "at", "lot", "other", "common", "one"] ["pairs", "lots"] (defScope (top 63)) := ⟨rfl, rfl, rfl, by decide +kernel, rfl, by decide +kernel, by decide +kernel⟩
theorem k_best_split (T : Tx b) : Fk b 1 (He.fAd b.K ("best_split", none)) [shN 2] m_best_split := by
  obtain ⟨fd, FF⟩ := T.f_best_split
  have h := fn_ok (b := b) (N := ["pairs", "lots", "found", "best", "at", "lot", "other", "common", "one"]) (ps := ["pairs", "lots"]) (k := 0) (bd := b_best_split) FF sc_best_split
  refine Fk.trim ⟨fd, ["pairs", "lots"], h (fun F' B' cdv A outer s H E hcd o => ?_), FF.kp, (sh_1 (q := shN 2) (bd_N FF fun _ _ _ _ _ _ us hl => match us, hl with | [_, _], _ => rfl))⟩
  exact dss_stub
theorem sc_cases_in : FnScope ["pairs", "calls", "many", "nodes", "waiting", "most", "rest", "number", "told", "lots", "near", "far", "lot", "call"] ["pairs", "calls", "many"] (defScope (top 64)) := ⟨rfl, rfl, rfl, by decide +kernel, rfl, by decide +kernel, by decide +kernel⟩
theorem k_cases_in (T : Tx b) : Fk b 1 (He.fAd b.K ("cases_in", none)) [shN 3] m_cases_in := by
  obtain ⟨fd, FF⟩ := T.f_cases_in
  have h := fn_ok (b := b) (N := ["pairs", "calls", "many", "nodes", "waiting", "most", "rest", "number", "told", "lots", "near", "far", "lot", "call"]) (ps := ["pairs", "calls", "many"]) (k := 0) (bd := b_cases_in) FF sc_cases_in
  refine Fk.trim ⟨fd, ["pairs", "calls", "many"], h (fun F' B' cdv A outer s H E hcd o => ?_), FF.kp, (sh_1 (q := shN 3) (bd_N FF fun _ _ _ _ _ _ us hl => match us, hl with | [_, _, _], _ => rfl))⟩
  exact dss_stub
theorem sc_lot_of : FnScope ["lots", "call", "lot"] ["lots", "call"] (defScope (top 65)) := ⟨rfl, rfl, rfl, by decide +kernel, rfl, by decide +kernel, by decide +kernel⟩
theorem k_lot_of (T : Tx b) : Fk b 1 (He.fAd b.K ("lot_of", none)) [shN 2] m_lot_of := by
  obtain ⟨fd, FF⟩ := T.f_lot_of
  have h := fn_ok (b := b) (N := ["lots", "call", "lot"]) (ps := ["lots", "call"]) (k := 0) (bd := b_lot_of) FF sc_lot_of
  refine Fk.trim ⟨fd, ["lots", "call"], h (fun F' B' cdv A outer s H E hcd o => ?_), FF.kp, (sh_1 (q := shN 2) (bd_N FF fun _ _ _ _ _ _ us hl => match us, hl with | [_, _], _ => rfl))⟩
  exact dss_stub
theorem sc_is_end : FnScope ["node", "pairs", "lots", "many", "some", "lot", "call"] ["node", "pairs", "lots", "many"] (defScope (top 66)) := ⟨rfl, rfl, rfl, by decide +kernel, rfl, by decide +kernel, by decide +kernel⟩
theorem k_is_end (T : Tx b) : Fk b 1 (He.fAd b.K ("is_end", none)) [shN 4] m_is_end := by
  obtain ⟨fd, FF⟩ := T.f_is_end
  have h := fn_ok (b := b) (N := ["node", "pairs", "lots", "many", "some", "lot", "call"]) (ps := ["node", "pairs", "lots", "many"]) (k := 0) (bd := b_is_end) FF sc_is_end
  refine Fk.trim ⟨fd, ["node", "pairs", "lots", "many"], h (fun F' B' cdv A outer s H E hcd o => ?_), FF.kp, (sh_1 (q := shN 4) (bd_N FF fun _ _ _ _ _ _ us hl => match us, hl with | [_, _, _, _], _ => rfl))⟩
  exact dss_stub
theorem sc_is_node : FnScope ["value", "calls", "number", "many_nodes", "one"] ["value", "calls", "number", "many_nodes"] (defScope (top 67)) := ⟨rfl, rfl, rfl, by decide +kernel, rfl, by decide +kernel, by decide +kernel⟩
theorem k_is_node (T : Tx b) : Fk b 1 (He.fAd b.K ("is_node", none)) [shN 4] m_is_node := by
  obtain ⟨fd, FF⟩ := T.f_is_node
  have h := fn_ok (b := b) (N := ["value", "calls", "number", "many_nodes", "one"]) (ps := ["value", "calls", "number", "many_nodes"]) (k := 0) (bd := b_is_node) FF sc_is_node
  refine Fk.trim ⟨fd, ["value", "calls", "number", "many_nodes"], h (fun F' B' cdv A outer s H E hcd o => ?_), FF.kp, (sh_1 (q := shN 4) (bd_N FF fun _ _ _ _ _ _ us hl => match us, hl with | [_, _, _, _], _ => rfl))⟩
  exact dss_stub
theorem sc_are_nodes : FnScope ["value", "calls", "later", "node", "number"] ["value", "calls"] (defScope (top 68)) := ⟨rfl, rfl, rfl, by decide +kernel, rfl, by decide +kernel, by decide +kernel⟩
theorem k_are_nodes (T : Tx b) : Fk b 1 (He.fAd b.K ("are_nodes", none)) [shN 2] m_are_nodes := by
  obtain ⟨fd, FF⟩ := T.f_are_nodes
  have h := fn_ok (b := b) (N := ["value", "calls", "later", "node", "number"]) (ps := ["value", "calls"]) (k := 0) (bd := b_are_nodes) FF sc_are_nodes
  refine Fk.trim ⟨fd, ["value", "calls"], h (fun F' B' cdv A outer s H E hcd o => ?_), FF.kp, (sh_1 (q := shN 2) (bd_N FF fun _ _ _ _ _ _ us hl => match us, hl with | [_, _], _ => rfl))⟩
  exact dss_stub
theorem sc_are_cases : FnScope ["pairs", "calls", "many", "nodes", "waiting", "node", "rest", "number", "told", "lots", "near", "far", "lot", "call"] ["pairs", "calls", "many", "nodes"] (defScope (top 69)) := ⟨rfl, rfl, rfl, by decide +kernel, rfl, by decide +kernel, by decide +kernel⟩
theorem k_are_cases (T : Tx b) : Fk b 1 (He.fAd b.K ("are_cases", none)) [shN 4] m_are_cases := by
  obtain ⟨fd, FF⟩ := T.f_are_cases
  have h := fn_ok (b := b) (N := ["pairs", "calls", "many", "nodes", "waiting", "node", "rest", "number", "told", "lots", "near", "far", "lot", "call"]) (ps := ["pairs", "calls", "many", "nodes"]) (k := 0) (bd := b_are_cases) FF sc_are_cases
  refine Fk.trim ⟨fd, ["pairs", "calls", "many", "nodes"], h (fun F' B' cdv A outer s H E hcd o => ?_), FF.kp, (sh_1 (q := shN 4) (bd_N FF fun _ _ _ _ _ _ us hl => match us, hl with | [_, _, _, _], _ => rfl))⟩
  exact dss_stub
theorem sc_is_share : FnScope ["tree", "day", "value", "calls", "lot", "call"] ["tree", "day", "value"] (defScope (top 70)) := ⟨rfl, rfl, rfl, by decide +kernel, rfl, by decide +kernel, by decide +kernel⟩
theorem k_is_share (T : Tx b) : Fk b 8 (He.fAd b.K ("is_share", none)) [shN 3] m_is_share := by
  obtain ⟨fd, FF⟩ := T.f_is_share
  have h := fn_ok (b := b) (N := ["tree", "day", "value", "calls", "lot", "call"]) (ps := ["tree", "day", "value"]) (k := 7) (bd := b_is_share) FF sc_is_share
  refine Fk.trim ⟨fd, ["tree", "day", "value"], h (fun F' B' cdv A outer s H E hcd o => ?_), FF.kp, (sh_1 (q := shN 3) (bd_N FF fun _ _ _ _ _ _ us hl => match us, hl with | [_, _, _], _ => rfl))⟩
  exact (dss_cons (ds_if (dt_w (dw_or (dt_not (dt_val (x_isi o T.n_isinstance (da_cons (x_v 2) (da_cons (d_ty (n := "tuple") o.toOkB rfl T.n_tuple rfl) da_nil))))) (dw_or1 (dt_not (dt_val (x_all o T.n_all (da_cons (d_comp (own := [("lot", 4)]) o (di_sq o.K (x_v 2)) (blkOk_by (by first | (show blkC ["tree", "day", "value", "calls", "lot", "call"] (defScope (top 70)) _ _ = true; decide +kernel) | kernel_rfl)) (by decide) (fun s H C cl fp => (dg_name o.nd rfl (by first | exact .inl rfl | exact .inr rfl))) (fun Fq s H C cl fp o => dts_nil) (fun Fq s H C cl fp o => (d_and (d_callP o (k_are_places_of T) (by decide) (shN 2) (.head _) rfl T.g_are_places_of (dc_pos (da_cons (x_v 4) (da_cons (x_len o T.n_len (da_cons (x_ix o (x_v 1) d_int) da_nil)) da_nil)))) (d_one (x_gt (x_len o T.n_len (da_cons (x_v 4) da_nil)) d_int))))) da_nil))))))) (dss_one (ds_ret d_bl)) dss_nil)
    (dss_cons (ds_setC2 (i := 3) (own := [("lot", 4), ("call", 5)]) o [5] rfl rfl (di_sq o.K (x_v 2)) (blkOk_by (by first | (show blkC ["tree", "day", "value", "calls", "lot", "call"] (defScope (top 70)) _ _ = true; decide +kernel) | kernel_rfl)) (by decide) (by decide) (by decide) (fun s H C cl fp => (dg_name o.nd rfl (by first | exact .inl rfl | exact .inr rfl))) (fun Fq s H C cl fp o => dts_nil) (fun Fq s H C cl fp o => (x_v 4)) (fun s H C cl fp => (dg_name o.nd rfl (by first | exact .inl rfl | exact .inr rfl))) (fun Fq s H C cl fp o => dts_nil) (fun Fq s H C cl fp o => (x_v 5)))
    (dss_one (ds_ret (d_and (x_eq o (x_sorted o T.n_sorted (da_cons (x_v 3) da_nil)) (x_listRg false o T.n_list T.n_range (x_len o T.n_len (da_cons (x_ix o (x_v 1) d_int) da_nil)))) (d_one (x_all o T.n_all (da_cons (d_comp (own := [("lot", 4)]) o (di_sq o.K (x_v 2)) (blkOk_by (by first | (show blkC ["tree", "day", "value", "calls", "lot", "call"] (defScope (top 70)) _ _ = true; decide +kernel) | kernel_rfl)) (by decide) (fun s H C cl fp => (dg_name o.nd rfl (by first | exact .inl rfl | exact .inr rfl))) (fun Fq s H C cl fp o => dts_nil) (fun Fq s H C cl fp o => (d_callP o (k_do_all_fit T) (by decide) (shN 3) (.head _) rfl T.g_do_all_fit (dc_pos (da_cons (x_v 0) (da_cons (x_v 1) (da_cons (x_v 4) da_nil))))))) da_nil))))))))
theorem sc_at_speed : FnScope ["day", "speed"] ["day", "speed"] (defScope (top 71)) := ⟨rfl, rfl, rfl, by decide +kernel, rfl, by decide +kernel, by decide +kernel⟩
theorem k_at_speed (T : Tx b) : Fk b 1 (He.fAd b.K ("at_speed", none)) [shN 2] m_at_speed := by
  obtain ⟨fd, FF⟩ := T.f_at_speed
  have h := fn_ok (b := b) (N := ["day", "speed"]) (ps := ["day", "speed"]) (k := 0) (bd := b_at_speed) FF sc_at_speed
  refine Fk.trim ⟨fd, ["day", "speed"], h (fun F' B' cdv A outer s H E hcd o => ?_), FF.kp, (sh_1 (q := shN 2) (bd_N FF fun _ _ _ _ _ _ us hl => match us, hl with | [_, _], _ => rfl))⟩
  exact (dss_one (ds_ret (d_tup (da_cons (x_ix o (x_v 0) d_int) (da_cons (x_v 1) (da_cons (x_ix o (x_v 0) d_int) da_nil))))))
theorem sc_speeds_in : FnScope ["tree", "day", "found", "rising", "at", "least", "one", "late", "goal", "far", "hour", "place", "reach", "over"] ["tree", "day"] (defScope (top 72)) := ⟨rfl, rfl, rfl, by decide +kernel, rfl, by decide +kernel, by decide +kernel⟩
theorem k_speeds_in (T : Tx b) : Fk b 6 (He.fAd b.K ("speeds_in", none)) [shN 2] m_speeds_in := by
  obtain ⟨fd, FF⟩ := T.f_speeds_in
  have h := fn_ok (b := b) (N := ["tree", "day", "found", "rising", "at", "least", "one", "late", "goal", "far", "hour", "place", "reach", "over"]) (ps := ["tree", "day"]) (k := 5) (bd := b_speeds_in) FF sc_speeds_in
  refine Fk.trim ⟨fd, ["tree", "day"], h (fun F' B' cdv A outer s H E hcd o => ?_), FF.kp, (sh_1 (q := shN 2) (bd_N FF fun _ _ _ _ _ _ us hl => match us, hl with | [_, _], _ => rfl))⟩
  exact (dss_cons (ds_set (i := 2) o.toOkB rfl (by first | exact .inl rfl | exact .inr rfl) (d_own (da_cons (x_gtupE o.toOkB T.t_NOUGHT) da_nil)))
    (dss_cons (ds_for o (di_enum o.toOkB rfl T.n_enumerate (da_cons (x_ix o (x_v 1) d_int) da_nil)) (dg_tup o.K o.calm (dgs_cons (dg_name o.nd rfl (by first | exact .inl rfl | exact .inr rfl)) (dgs_cons (dg_tup o.K o.calm (dgs_cons (dg_name o.nd rfl (by first | exact .inl rfl | exact .inr rfl)) (dgs_cons (dg_name o.nd rfl (by first | exact .inl rfl | exact .inr rfl)) (dgs_cons (dg_name o.nd rfl (by first | exact .inl rfl | exact .inr rfl)) dgs_nil)))) dgs_nil))) (dss_one (ds_for o (di_sq o.K (d_sl (x_ix o (x_v 1) d_int) do_none (do_some (x_v 4)) o.K)) (dg_tup o.K o.calm (dgs_cons (dg_name o.nd rfl (by first | exact .inl rfl | exact .inr rfl)) (dgs_cons (dg_name o.nd rfl (by first | exact .inl rfl | exact .inr rfl)) (dgs_cons (dg_name o.nd rfl (by first | exact .inl rfl | exact .inr rfl)) dgs_nil)))) (dss_cons (ds_set (i := 13) o.toOkB rfl (by first | exact .inl rfl | exact .inr rfl) (x_sub (x_sub (d_callP o (k_way_in T) (by decide) (shN 3) (.head _) rfl T.g_way_in (dc_pos (da_cons (x_v 0) (da_cons (x_v 11) (da_cons (x_v 8) da_nil))))) (x_v 12)) (x_v 9)))
    (dss_one (ds_if (dt_w (dw_and (y_gt (x_v 13) d_int) (dw_and1 (y_ne o (x_v 7) (x_v 10))))) (dss_one (ds_expr (d_bm o.K F.slot_list_append F.type_list_append mt_append m_append (x_v 2) (da_cons (d_callP o (k_fraction T) (by decide) (shN 2) (.head _) rfl T.g_fraction (dc_pos (da_cons (x_v 13) (da_cons (x_abs o T.n_abs (da_cons (x_sub (x_v 7) (x_v 10)) da_nil)) da_nil)))) da_nil)))) dss_nil))))))
    (dss_cons (ds_set (i := 3) o.toOkB rfl (by first | exact .inl rfl | exact .inr rfl) (d_own da_nil))
    (dss_cons (ds_lk 2 (ds_while 64 o (y_ne o (x_v 2) (d_lst da_nil)) (dss_cons (ds_set (i := 5) o.toOkB rfl (by first | exact .inl rfl | exact .inr rfl) (x_ix o (x_v 2) d_int))
    (dss_cons (ds_for o (di_sq o.K (x_v 2)) (dg_name o.nd rfl (by first | exact .inl rfl | exact .inr rfl)) (dss_one (ds_set (i := 5) o.toOkB rfl (by first | exact .inl rfl | exact .inr rfl) (d_if (dt_val (d_callP o (k_is_less T) (by decide) (shN 2) (.head _) rfl T.g_is_less (dc_pos (da_cons (x_v 6) (da_cons (x_v 5) da_nil))))) (x_v 6) (x_v 5)))))
    (dss_cons (ds_expr (d_bm o.K F.slot_list_append F.type_list_append mt_append m_append (x_v 3) (da_cons (x_v 5) da_nil)))
    (dss_one (ds_setC (i := 2) (own := [("one", 6)]) o rfl rfl (di_sq o.K (x_v 2)) (blkOk_by (by first | (show blkC ["tree", "day", "found", "rising", "at", "least", "one", "late", "goal", "far", "hour", "place", "reach", "over"] (defScope (top 72)) _ _ = true; decide +kernel) | kernel_rfl)) (by decide) (fun s H C cl fp => (dg_name o.nd rfl (by first | exact .inl rfl | exact .inr rfl))) (fun Fq s H C cl fp o => (dts_one (y_ne o (x_v 6) (x_v 5)))) (fun Fq s H C cl fp o => (x_v 6)))))))))
    (dss_one (ds_ret (x_v 3)))))))
theorem sc_least_in : FnScope ["tree", "day", "many", "speeds", "low", "high", "middle"] ["tree", "day", "many"] (defScope (top 73)) := ⟨rfl, rfl, rfl, by decide +kernel, rfl, by decide +kernel, by decide +kernel⟩
theorem k_least_in (T : Tx b) : Fk b 9 (He.fAd b.K ("least_in", none)) [shN 3] m_least_in := by
  obtain ⟨fd, FF⟩ := T.f_least_in
  have h := fn_ok (b := b) (N := ["tree", "day", "many", "speeds", "low", "high", "middle"]) (ps := ["tree", "day", "many"]) (k := 8) (bd := b_least_in) FF sc_least_in
  refine Fk.trim ⟨fd, ["tree", "day", "many"], h (fun F' B' cdv A outer s H E hcd o => ?_), FF.kp, (sh_1 (q := shN 3) (bd_N FF fun _ _ _ _ _ _ us hl => match us, hl with | [_, _, _], _ => rfl))⟩
  exact (dss_cons (ds_set (i := 3) o.toOkB rfl (by first | exact .inl rfl | exact .inr rfl) (d_callP o (k_speeds_in T) (by decide) (shN 2) (.head _) rfl T.g_speeds_in (dc_pos (da_cons (x_v 0) (da_cons (x_v 1) da_nil)))))
    (dss_cons (ds_if (y_gt (d_callP o (k_fewest_in T) (by decide) (shN 2) (.head _) rfl T.g_fewest_in (dc_pos (da_cons (x_v 0) (da_cons (d_callP o (k_at_speed T) (by decide) (shN 2) (.head _) rfl T.g_at_speed (dc_pos (da_cons (x_v 1) (da_cons (x_ix o (x_v 3) (x_neg d_int)) da_nil)))) da_nil)))) (x_v 2)) (dss_one (ds_ret d_non)) dss_nil)
    (dss_cons (ds_par2 (n := 4) (m := 5) o rfl rfl (by decide) rfl rfl (da_cons d_int (da_cons (x_sub (x_len o T.n_len (da_cons (x_v 3) da_nil)) d_int) da_nil)))
    (dss_cons (ds_while 64 o (y_lt (x_v 4) (x_v 5)) (dss_cons (ds_set (i := 6) o.toOkB rfl (by first | exact .inl rfl | exact .inr rfl) (x_fdiv (x_add o.toOkB (x_v 4) (x_v 5)) d_int))
    (dss_one (ds_if (y_gt (d_callP o (k_fewest_in T) (by decide) (shN 2) (.head _) rfl T.g_fewest_in (dc_pos (da_cons (x_v 0) (da_cons (d_callP o (k_at_speed T) (by decide) (shN 2) (.head _) rfl T.g_at_speed (dc_pos (da_cons (x_v 1) (da_cons (x_ix o (x_v 3) (x_v 6)) da_nil)))) da_nil)))) (x_v 2)) (dss_one (ds_set (i := 4) o.toOkB rfl (by first | exact .inl rfl | exact .inr rfl) (x_add o.toOkB (x_v 6) d_int))) (dss_one (ds_set (i := 5) o.toOkB rfl (by first | exact .inl rfl | exact .inr rfl) (x_v 6)))))))
    (dss_one (ds_ret (x_ix o (x_v 3) (x_v 4))))))))
theorem sc_fewest_riders : FnScope ["tree", "day"] ["tree", "day"] (defScope (top 74)) := ⟨rfl, rfl, rfl, by decide +kernel, rfl, by decide +kernel, by decide +kernel⟩
theorem k_fewest_riders (T : Tx b) : Fk b 9 (He.fAd b.K ("fewest_riders", none)) [shN 2] m_fewest_riders := by
  obtain ⟨fd, FF⟩ := T.f_fewest_riders
  have h := fn_ok (b := b) (N := ["tree", "day"]) (ps := ["tree", "day"]) (k := 8) (bd := b_fewest_riders) FF sc_fewest_riders
  refine Fk.trim ⟨fd, ["tree", "day"], h (fun F' B' cdv A outer s H E hcd o => ?_), FF.kp, (sh_1 (q := shN 2) (bd_N FF fun _ _ _ _ _ _ us hl => match us, hl with | [_, _], _ => rfl))⟩
  exact (dss_cons (ds_expr (d_callP o (k_want_day T) (by decide) (shN 2) (.head _) rfl T.g_want_day (dc_pos (da_cons (x_v 0) (da_cons (x_v 1) da_nil)))))
    (dss_one (ds_ret (d_callP o (k_fewest_in T) (by decide) (shN 2) (.head _) rfl T.g_fewest_in (dc_pos (da_cons (x_v 0) (da_cons (x_v 1) da_nil)))))))
theorem sc_riders_paper : FnScope ["tree", "day", "many", "share", "pairs", "calls"] ["tree", "day", "many"] (defScope (top 75)) := ⟨rfl, rfl, rfl, by decide +kernel, rfl, by decide +kernel, by decide +kernel⟩
theorem k_riders_paper (T : Tx b) : Fk b 8 (He.fAd b.K ("riders_paper", none)) [shN 3] m_riders_paper := by
  obtain ⟨fd, FF⟩ := T.f_riders_paper
  have h := fn_ok (b := b) (N := ["tree", "day", "many", "share", "pairs", "calls"]) (ps := ["tree", "day", "many"]) (k := 7) (bd := b_riders_paper) FF sc_riders_paper
  refine Fk.trim ⟨fd, ["tree", "day", "many"], h (fun F' B' cdv A outer s H E hcd o => ?_), FF.kp, (sh_1 (q := shN 3) (bd_N FF fun _ _ _ _ _ _ us hl => match us, hl with | [_, _, _], _ => rfl))⟩
  exact (dss_cons (ds_expr (d_callP o (k_want_day T) (by decide) (shN 2) (.head _) rfl T.g_want_day (dc_pos (da_cons (x_v 0) (da_cons (x_v 1) da_nil)))))
    (dss_cons (ds_expr (d_callP o (k_want_many T) (by decide) (shN 1) (.head _) rfl T.g_want_many (dc_pos (da_cons (x_v 2) da_nil))))
    (dss_cons (ds_par2 (n := 4) (m := 5) o rfl rfl (by decide) rfl rfl (da_cons (d_callP o (k_contrary_in T) (by decide) (shN 2) (.head _) rfl T.g_contrary_in (dc_pos (da_cons (x_v 0) (da_cons (x_v 1) da_nil)))) (da_cons (x_len o T.n_len (da_cons (x_ix o (x_v 1) d_int) da_nil)) da_nil)))
    (dss_cons (ds_set (i := 3) o.toOkB rfl (by first | exact .inl rfl | exact .inr rfl) (d_callP o (k_share_in T) (by decide) (shN 3) (.head _) rfl T.g_share_in (dc_pos (da_cons (x_v 4) (da_cons (x_v 5) (da_cons (x_v 2) da_nil))))))
    (dss_one (ds_ret (d_if (y_isNot (x_v 3) d_non) (d_tup (da_cons (x_gstr (z := "riders") o.toOkB T.s_RIDERS) (da_cons (x_v 3) da_nil))) (d_tup (da_cons (x_gstr (z := "more") o.toOkB T.s_MORE) (da_cons (d_callP o (k_cases_in T) (by decide) (shN 3) (.head _) rfl T.g_cases_in (dc_pos (da_cons (x_v 4) (da_cons (x_v 5) (da_cons (x_v 2) da_nil))))) da_nil))))))))))
theorem sc_is_riders_paper : FnScope ["tree", "day", "many", "value", "calls"] ["tree", "day", "many", "value"] (defScope (top 76)) := ⟨rfl, rfl, rfl, by decide +kernel, rfl, by decide +kernel, by decide +kernel⟩
theorem k_is_riders_paper (T : Tx b) : Fk b 9 (He.fAd b.K ("is_riders_paper", none)) [shN 4] m_is_riders_paper := by
  obtain ⟨fd, FF⟩ := T.f_is_riders_paper
  have h := fn_ok (b := b) (N := ["tree", "day", "many", "value", "calls"]) (ps := ["tree", "day", "many", "value"]) (k := 8) (bd := b_is_riders_paper) FF sc_is_riders_paper
  refine Fk.trim ⟨fd, ["tree", "day", "many", "value"], h (fun F' B' cdv A outer s H E hcd o => ?_), FF.kp, (sh_1 (q := shN 4) (bd_N FF fun _ _ _ _ _ _ us hl => match us, hl with | [_, _, _, _], _ => rfl))⟩
  exact (dss_cons (ds_expr (d_callP o (k_want_day T) (by decide) (shN 2) (.head _) rfl T.g_want_day (dc_pos (da_cons (x_v 0) (da_cons (x_v 1) da_nil)))))
    (dss_cons (ds_expr (d_callP o (k_want_many T) (by decide) (shN 1) (.head _) rfl T.g_want_many (dc_pos (da_cons (x_v 2) da_nil))))
    (dss_cons (ds_if (dt_w (dw_or (dt_not (dt_val (d_callP o (k_is_row T) (by decide) (shN 2) (.head _) rfl T.g_is_row (dc_pos (da_cons (x_v 3) (da_cons d_int da_nil)))))) (dw_or1 (dt_not (dt_val (x_isi o T.n_isinstance (da_cons (x_ix o (x_v 3) d_int) (da_cons (d_ty (n := "str") o.toOkB rfl T.n_str rfl) da_nil)))))))) (dss_one (ds_ret d_bl)) dss_nil)
    (dss_cons (ds_if (y_eq o (x_ix o (x_v 3) d_int) (x_gstr (z := "riders") o.toOkB T.s_RIDERS)) (dss_one (ds_ret (d_and (d_callP o (k_is_share T) (by decide) (shN 3) (.head _) rfl T.g_is_share (dc_pos (da_cons (x_v 0) (da_cons (x_v 1) (da_cons (x_ix o (x_v 3) d_int) da_nil))))) (d_one (x_le (x_len o T.n_len (da_cons (x_ix o (x_v 3) d_int) da_nil)) (x_v 2)))))) dss_nil)
    (dss_cons (ds_set (i := 4) o.toOkB rfl (by first | exact .inl rfl | exact .inr rfl) (x_len o T.n_len (da_cons (x_ix o (x_v 1) d_int) da_nil)))
    (dss_one (ds_ret (d_and (x_eq o (x_ix o (x_v 3) d_int) (x_gstr (z := "more") o.toOkB T.s_MORE)) (d_and (d_callP o (k_are_nodes T) (by decide) (shN 2) (.head _) rfl T.g_are_nodes (dc_pos (da_cons (x_ix o (x_v 3) d_int) (da_cons (x_v 4) da_nil)))) (d_one (d_callP o (k_are_cases T) (by decide) (shN 4) (.head _) rfl T.g_are_cases (dc_pos (da_cons (d_callP o (k_contrary_in T) (by decide) (shN 2) (.head _) rfl T.g_contrary_in (dc_pos (da_cons (x_v 0) (da_cons (x_v 1) da_nil)))) (da_cons (x_v 4) (da_cons (x_v 2) (da_cons (x_ix o (x_v 3) d_int) da_nil))))))))))))))))
theorem sc_least_speed : FnScope ["tree", "day", "many", "found"] ["tree", "day", "many"] (defScope (top 77)) := ⟨rfl, rfl, rfl, by decide +kernel, rfl, by decide +kernel, by decide +kernel⟩
theorem k_least_speed (T : Tx b) : Fk b 10 (He.fAd b.K ("least_speed", none)) [shN 3, shR 0 ["many", "day", "tree"]] m_least_speed := by
  obtain ⟨fd, FF⟩ := T.f_least_speed
  have h := fn_ok (b := b) (N := ["tree", "day", "many", "found"]) (ps := ["tree", "day", "many"]) (k := 9) (bd := b_least_speed) FF sc_least_speed
  refine Fk.trim ⟨fd, ["tree", "day", "many"], h (fun F' B' cdv A outer s H E hcd o => ?_), FF.kp, (sh_c (q := shN 3) (bd_N FF fun _ _ _ _ _ _ us hl => match us, hl with | [_, _, _], _ => rfl) (sh_1 (q := shR 0 ["many", "day", "tree"]) (bd_KR FF 0 ["many", "day", "tree"] rfl fun _ _ _ _ _ _ us ws hl hl2 => match us, hl, ws, hl2 with | [], _, [_, _, _], _ => rfl)))⟩
  exact (dss_cons (ds_expr (d_callP o (k_want_day T) (by decide) (shN 2) (.head _) rfl T.g_want_day (dc_pos (da_cons (x_v 0) (da_cons (x_v 1) da_nil)))))
    (dss_cons (ds_expr (d_callP o (k_want_many T) (by decide) (shN 1) (.head _) rfl T.g_want_many (dc_pos (da_cons (x_v 2) da_nil))))
    (dss_cons (ds_set (i := 3) o.toOkB rfl (by first | exact .inl rfl | exact .inr rfl) (d_callP o (k_least_in T) (by decide) (shN 3) (.head _) rfl T.g_least_in (dc_pos (da_cons (x_v 0) (da_cons (x_v 1) (da_cons (x_v 2) da_nil))))))
    (dss_one (ds_ret (d_if (y_is (x_v 3) d_non) d_non (d_callP o (k_shown T) (by decide) (shN 1) (.head _) rfl T.g_shown (dc_pos (da_cons (x_v 3) da_nil)))))))))
theorem sc__law_pot : FnScope ["script", "k", "cell"] ["script", "k"] (defScope (top 79)) := ⟨rfl, rfl, rfl, by decide +kernel, rfl, by decide +kernel, by decide +kernel⟩
theorem k__law_pot (T : Tx b) : Fk b 1 (He.fAd b.K ("_law_pot", none)) [shN 2] m__law_pot := by
  obtain ⟨fd, FF⟩ := T.f__law_pot
  have h := fn_ok (b := b) (N := ["script", "k", "cell"]) (ps := ["script", "k"]) (k := 0) (bd := b__law_pot) FF sc__law_pot
  refine ⟨fd, ["script", "k"], h (fun F' B' cdv A outer s H E hcd o => ?_), FF.kp, (sh_1 (q := shN 2) (bd_N FF fun _ _ _ _ _ _ us hl => match us, hl with | [_, _], _ => rfl))⟩
  exact (dss_cons (ds_set (i := 2) o.toOkB rfl (by first | exact .inl rfl | exact .inr rfl) (d_if (y_lt (x_v 1) (x_len o T.n_len (da_cons (x_v 0) da_nil))) (x_abs o T.n_abs (da_cons (x_ix o (x_v 0) (x_v 1)) da_nil)) (x_add o.toOkB (x_mul d_int (x_v 1)) d_int)))
    (dss_one (ds_ret (d_own (da_cons (x_max o T.n_max (da_cons d_int (da_cons (x_sub (x_v 2) (x_pow d_int d_int)) da_nil))) (da_cons (x_add o.toOkB (x_mod (x_int o T.n_int (da_cons (x_add o.toOkB (x_add o.toOkB (x_mul (x_mod (x_int o T.n_int (da_cons (x_v 2) da_nil)) d_int) d_int) (x_mul d_int (x_v 1))) d_int) da_nil)) d_int) d_int) da_nil))))))
theorem sc__law_draw : FnScope ["pot", "many", "digit"] ["pot", "many"] (defScope (top 80)) := ⟨rfl, rfl, rfl, by decide +kernel, rfl, by decide +kernel, by decide +kernel⟩
theorem k__law_draw (T : Tx b) : Fk b 1 (He.fAd b.K ("_law_draw", none)) [shN 2] m__law_draw := by
  obtain ⟨fd, FF⟩ := T.f__law_draw
  have h := fn_ok (b := b) (N := ["pot", "many", "digit"]) (ps := ["pot", "many"]) (k := 0) (bd := b__law_draw) FF sc__law_draw
  refine ⟨fd, ["pot", "many"], h (fun F' B' cdv A outer s H E hcd o => ?_), FF.kp, (sh_1 (q := shN 2) (bd_N FF fun _ _ _ _ _ _ us hl => match us, hl with | [_, _], _ => rfl))⟩
  exact (dss_cons (ds_if (y_gt (x_ix o (x_v 0) d_int) d_int) (dss_cons (ds_asgG (x_divmod o T.n_divmod (da_cons (x_ix o (x_v 0) d_int) (da_cons (x_v 1) da_nil))) (gg_tup o (ggs_cons (gg_ix o (x_v 0) d_int (fun _ => rfl)) (ggs_cons (gg_name o.toOkB rfl (by first | exact .inl rfl | exact .inr rfl)) ggs_nil))))
    (dss_one (ds_ret (x_v 2)))) dss_nil)
    (dss_cons (ds_put o (x_v 0) d_int (x_mod (x_int o T.n_int (da_cons (x_add o.toOkB (x_mul (x_ix o (x_v 0) d_int) d_int) d_int) da_nil)) d_int))
    (dss_one (ds_ret (x_mod (x_int o T.n_int (da_cons (x_fdiv (x_mod (x_int o T.n_int (da_cons (x_mul (x_ix o (x_v 0) d_int) (x_ix o (x_v 0) d_int)) da_nil)) d_int) d_int) da_nil)) (x_v 1))))))
theorem sc__law_pick : FnScope ["pot", "some"] ["pot", "some"] (defScope (top 81)) := ⟨rfl, rfl, rfl, by decide +kernel, rfl, by decide +kernel, by decide +kernel⟩
theorem k__law_pick (T : Tx b) : Fk b 2 (He.fAd b.K ("_law_pick", none)) [shN 2] m__law_pick := by
  obtain ⟨fd, FF⟩ := T.f__law_pick
  have h := fn_ok (b := b) (N := ["pot", "some"]) (ps := ["pot", "some"]) (k := 1) (bd := b__law_pick) FF sc__law_pick
  refine ⟨fd, ["pot", "some"], h (fun F' B' cdv A outer s H E hcd o => ?_), FF.kp, (sh_1 (q := shN 2) (bd_N FF fun _ _ _ _ _ _ us hl => match us, hl with | [_, _], _ => rfl))⟩
  exact (dss_one (ds_ret (x_ix o (x_v 1) (d_callI o (k__law_draw T) (by decide) (shN 2) (.head _) rfl T.g__law_draw (dc_pos (da_cons (x_v 0) (da_cons (x_len o T.n_len (da_cons (x_v 1) da_nil)) da_nil)))))))
theorem sc__law_low : FnScope ["number", "under", "near", "far"] ["number", "under"] (defScope (top 82)) := ⟨rfl, rfl, rfl, by decide +kernel, rfl, by decide +kernel, by decide +kernel⟩
theorem k__law_low (T : Tx b) : Fk b 1 (He.fAd b.K ("_law_low", none)) [shN 2] m__law_low := by
  obtain ⟨fd, FF⟩ := T.f__law_low
  have h := fn_ok (b := b) (N := ["number", "under", "near", "far"]) (ps := ["number", "under"]) (k := 0) (bd := b__law_low) FF sc__law_low
  refine Fk.trim ⟨fd, ["number", "under"], h (fun F' B' cdv A outer s H E hcd o => ?_), FF.kp, (sh_1 (q := shN 2) (bd_N FF fun _ _ _ _ _ _ us hl => match us, hl with | [_, _], _ => rfl))⟩
  exact (dss_cons (ds_par2 (n := 2) (m := 3) o rfl rfl (by decide) rfl rfl (da_cons (x_abs o T.n_abs (da_cons (x_v 0) da_nil)) (da_cons (x_v 1) da_nil)))
    (dss_cons (ds_while 64 o (y_gt (x_v 3) d_int) (dss_one (ds_par2 (n := 2) (m := 3) o rfl rfl (by decide) rfl rfl (da_cons (x_v 3) (da_cons (x_mod (x_int o T.n_int (da_cons (x_v 2) da_nil)) (x_v 3)) da_nil)))))
    (dss_one (ds_ret (d_tup (da_cons (x_fdiv (x_v 0) (x_v 2)) (da_cons (x_fdiv (x_v 1) (x_v 2)) da_nil)))))))
theorem sc__law_plus : FnScope ["one", "other"] ["one", "other"] (defScope (top 83)) := ⟨rfl, rfl, rfl, by decide +kernel, rfl, by decide +kernel, by decide +kernel⟩
theorem k__law_plus (T : Tx b) : Fk b 2 (He.fAd b.K ("_law_plus", none)) [shN 2] m__law_plus := by
  obtain ⟨fd, FF⟩ := T.f__law_plus
  have h := fn_ok (b := b) (N := ["one", "other"]) (ps := ["one", "other"]) (k := 1) (bd := b__law_plus) FF sc__law_plus
  refine Fk.trim ⟨fd, ["one", "other"], h (fun F' B' cdv A outer s H E hcd o => ?_), FF.kp, (sh_1 (q := shN 2) (bd_N FF fun _ _ _ _ _ _ us hl => match us, hl with | [_, _], _ => rfl))⟩
  exact (dss_one (ds_ret (d_callP o (k__law_low T) (by decide) (shN 2) (.head _) rfl T.g__law_low (dc_pos (da_cons (x_add o.toOkB (x_mul (x_ix o (x_v 0) d_int) (x_ix o (x_v 1) d_int)) (x_mul (x_ix o (x_v 1) d_int) (x_ix o (x_v 0) d_int))) (da_cons (x_mul (x_ix o (x_v 0) d_int) (x_ix o (x_v 1) d_int)) da_nil))))))
theorem sc__law_minus : FnScope ["one", "other"] ["one", "other"] (defScope (top 84)) := ⟨rfl, rfl, rfl, by decide +kernel, rfl, by decide +kernel, by decide +kernel⟩
theorem k__law_minus (T : Tx b) : Fk b 2 (He.fAd b.K ("_law_minus", none)) [shN 2] m__law_minus := by
  obtain ⟨fd, FF⟩ := T.f__law_minus
  have h := fn_ok (b := b) (N := ["one", "other"]) (ps := ["one", "other"]) (k := 1) (bd := b__law_minus) FF sc__law_minus
  refine Fk.trim ⟨fd, ["one", "other"], h (fun F' B' cdv A outer s H E hcd o => ?_), FF.kp, (sh_1 (q := shN 2) (bd_N FF fun _ _ _ _ _ _ us hl => match us, hl with | [_, _], _ => rfl))⟩
  exact (dss_one (ds_ret (d_callP o (k__law_low T) (by decide) (shN 2) (.head _) rfl T.g__law_low (dc_pos (da_cons (x_sub (x_mul (x_ix o (x_v 0) d_int) (x_ix o (x_v 1) d_int)) (x_mul (x_ix o (x_v 1) d_int) (x_ix o (x_v 0) d_int))) (da_cons (x_mul (x_ix o (x_v 0) d_int) (x_ix o (x_v 1) d_int)) da_nil))))))
theorem sc__law_times : FnScope ["one", "other"] ["one", "other"] (defScope (top 85)) := ⟨rfl, rfl, rfl, by decide +kernel, rfl, by decide +kernel, by decide +kernel⟩
theorem k__law_times (T : Tx b) : Fk b 2 (He.fAd b.K ("_law_times", none)) [shN 2] m__law_times := by
  obtain ⟨fd, FF⟩ := T.f__law_times
  have h := fn_ok (b := b) (N := ["one", "other"]) (ps := ["one", "other"]) (k := 1) (bd := b__law_times) FF sc__law_times
  refine Fk.trim ⟨fd, ["one", "other"], h (fun F' B' cdv A outer s H E hcd o => ?_), FF.kp, (sh_1 (q := shN 2) (bd_N FF fun _ _ _ _ _ _ us hl => match us, hl with | [_, _], _ => rfl))⟩
  exact (dss_one (ds_ret (d_callP o (k__law_low T) (by decide) (shN 2) (.head _) rfl T.g__law_low (dc_pos (da_cons (x_mul (x_ix o (x_v 0) d_int) (x_ix o (x_v 1) d_int)) (da_cons (x_mul (x_ix o (x_v 0) d_int) (x_ix o (x_v 1) d_int)) da_nil))))))
theorem sc__law_less : FnScope ["one", "other"] ["one", "other"] (defScope (top 86)) := ⟨rfl, rfl, rfl, by decide +kernel, rfl, by decide +kernel, by decide +kernel⟩
theorem k__law_less (T : Tx b) : Fk b 1 (He.fAd b.K ("_law_less", none)) [shN 2] m__law_less := by
  obtain ⟨fd, FF⟩ := T.f__law_less
  have h := fn_ok (b := b) (N := ["one", "other"]) (ps := ["one", "other"]) (k := 0) (bd := b__law_less) FF sc__law_less
  refine Fk.trim ⟨fd, ["one", "other"], h (fun F' B' cdv A outer s H E hcd o => ?_), FF.kp, (sh_1 (q := shN 2) (bd_N FF fun _ _ _ _ _ _ us hl => match us, hl with | [_, _], _ => rfl))⟩
  exact (dss_one (ds_ret (x_lt (x_mul (x_ix o (x_v 0) d_int) (x_ix o (x_v 1) d_int)) (x_mul (x_ix o (x_v 1) d_int) (x_ix o (x_v 0) d_int)))))
theorem sc__law_climbed : FnScope ["tree", "place", "found", "long", "father", "length"] ["tree", "place"] (defScope (top 87)) := ⟨rfl, rfl, rfl, by decide +kernel, rfl, by decide +kernel, by decide +kernel⟩
theorem k__law_climbed (T : Tx b) : Fk b 1 (He.fAd b.K ("_law_climbed", none)) [shN 2] m__law_climbed := by
  obtain ⟨fd, FF⟩ := T.f__law_climbed
  have h := fn_ok (b := b) (N := ["tree", "place", "found", "long", "father", "length"]) (ps := ["tree", "place"]) (k := 0) (bd := b__law_climbed) FF sc__law_climbed
  refine ⟨fd, ["tree", "place"], h (fun F' B' cdv A outer s H E hcd o => ?_), FF.kp, (sh_1 (q := shN 2) (bd_N FF fun _ _ _ _ _ _ us hl => match us, hl with | [_, _], _ => rfl))⟩
  exact (dss_cons (ds_par2 (n := 2) (m := 3) o rfl rfl (by decide) rfl rfl (da_cons (d_dict1 (x_v 1) d_int) (da_cons d_int da_nil)))
    (dss_cons (ds_while 64 o (y_ne o (x_v 1) d_int) (dss_cons (ds_asg (x_ix o (x_ix o (x_v 0) d_int) (x_sub (x_v 1) d_int)) (dg_tup o.K o.calm (dgs_cons (dg_name o.nd rfl (by first | exact .inl rfl | exact .inr rfl)) (dgs_cons (dg_name o.nd rfl (by first | exact .inl rfl | exact .inr rfl)) dgs_nil))))
    (dss_cons (ds_par2 (n := 1) (m := 3) o rfl rfl (by decide) rfl rfl (da_cons (x_v 4) (da_cons (x_add o.toOkB (x_v 3) (x_v 5)) da_nil)))
    (dss_one (ds_put o (x_v 2) (x_v 1) (x_v 3))))))
    (dss_one (ds_ret (x_v 2)))))
theorem sc__law_way : FnScope ["tree", "place", "other", "near", "far", "here"] ["tree", "place", "other"] (defScope (top 88)) := ⟨rfl, rfl, rfl, by decide +kernel, rfl, by decide +kernel, by decide +kernel⟩
theorem k__law_way (T : Tx b) : Fk b 2 (He.fAd b.K ("_law_way", none)) [shN 3] m__law_way := by
  obtain ⟨fd, FF⟩ := T.f__law_way
  have h := fn_ok (b := b) (N := ["tree", "place", "other", "near", "far", "here"]) (ps := ["tree", "place", "other"]) (k := 1) (bd := b__law_way) FF sc__law_way
  refine Fk.trim ⟨fd, ["tree", "place", "other"], h (fun F' B' cdv A outer s H E hcd o => ?_), FF.kp, (sh_1 (q := shN 3) (bd_N FF fun _ _ _ _ _ _ us hl => match us, hl with | [_, _, _], _ => rfl))⟩
  exact (dss_cons (ds_asg (d_tup (da_cons (d_lockO (d_callI o (k__law_climbed T) (by decide) (shN 2) (.head _) rfl T.g__law_climbed (dc_pos (da_cons (x_v 0) (da_cons (x_v 1) da_nil))))) (da_cons (d_lockO (d_callI o (k__law_climbed T) (by decide) (shN 2) (.head _) rfl T.g__law_climbed (dc_pos (da_cons (x_v 0) (da_cons (x_v 2) da_nil))))) da_nil))) (dg_tup o.K o.calm (dgs_cons (dg_name o.nd rfl (by first | exact .inl rfl | exact .inr rfl)) (dgs_cons (dg_name o.nd rfl (by first | exact .inl rfl | exact .inr rfl)) dgs_nil))))
    (dss_one (ds_ret (x_min o T.n_min (da_cons (d_comp (own := [("here", 5)]) o (di_keys (x_v 3)) (blkOk_by (by first | (show blkC ["tree", "place", "other", "near", "far", "here"] (defScope (top 88)) _ _ = true; decide +kernel) | kernel_rfl)) (by decide) (fun s H C cl fp => (dg_name o.nd rfl (by first | exact .inl rfl | exact .inr rfl))) (fun Fq s H C cl fp o => (dts_one (y_in o (x_v 5) (x_v 4)))) (fun Fq s H C cl fp o => (x_add o.toOkB (x_ix o (x_v 3) (x_v 5)) (x_ix o (x_v 4) (x_v 5))))) da_nil)))))
theorem sc__law_tree : FnScope ["pot", "most", "found", "number", "father"] ["pot", "most"] (defScope (top 89)) := ⟨rfl, rfl, rfl, by decide +kernel, rfl, by decide +kernel, by decide +kernel⟩
theorem k__law_tree (T : Tx b) : Fk b 3 (He.fAd b.K ("_law_tree", none)) [shN 2] m__law_tree := by
  obtain ⟨fd, FF⟩ := T.f__law_tree
  have h := fn_ok (b := b) (N := ["pot", "most", "found", "number", "father"]) (ps := ["pot", "most"]) (k := 2) (bd := b__law_tree) FF sc__law_tree
  refine Fk.trim ⟨fd, ["pot", "most"], h (fun F' B' cdv A outer s H E hcd o => ?_), FF.kp, (sh_1 (q := shN 2) (bd_N FF fun _ _ _ _ _ _ us hl => match us, hl with | [_, _], _ => rfl))⟩
  exact (dss_cons (ds_set (i := 2) o.toOkB rfl (by first | exact .inl rfl | exact .inr rfl) (d_own da_nil))
    (dss_cons (ds_for o (di_range1 o.toOkB rfl T.n_range (da_cons (d_callI o (k__law_draw T) (by decide) (shN 2) (.head _) rfl T.g__law_draw (dc_pos (da_cons (x_v 0) (da_cons (x_v 1) da_nil)))) da_nil)) (dg_name o.nd rfl (by first | exact .inl rfl | exact .inr rfl)) (dss_cons (ds_set (i := 4) o.toOkB rfl (by first | exact .inl rfl | exact .inr rfl) (x_sub (x_v 3) (d_callI o (k__law_draw T) (by decide) (shN 2) (.head _) rfl T.g__law_draw (dc_pos (da_cons (x_v 0) (da_cons (x_min o T.n_min (da_cons (x_add o.toOkB (x_v 3) d_int) (da_cons (d_callI o (k__law_pick T) (by decide) (shN 2) (.head _) rfl T.g__law_pick (dc_pos (da_cons (x_v 0) (da_cons (d_lst (da_cons d_int (da_cons d_int (da_cons d_int da_nil)))) da_nil)))) da_nil))) da_nil))))))
    (dss_one (ds_expr (d_bm o.K F.slot_list_append F.type_list_append mt_append m_append (x_v 2) (da_cons (d_tup (da_cons (x_v 4) (da_cons (x_add o.toOkB d_int (d_callI o (k__law_draw T) (by decide) (shN 2) (.head _) rfl T.g__law_draw (dc_pos (da_cons (x_v 0) (da_cons d_int da_nil))))) da_nil))) da_nil))))))
    (dss_one (ds_ret (d_tup (da_cons d_str (da_cons (x_tuple o T.n_tuple (da_cons (x_v 2) da_nil)) da_nil)))))))
theorem sc__law_day : FnScope ["pot", "tree", "calls", "found", "turn", "call"] ["pot", "tree", "calls"] (defScope (top 90)) := ⟨rfl, rfl, rfl, by decide +kernel, rfl, by decide +kernel, by decide +kernel⟩
theorem k__law_day (T : Tx b) : Fk b 2 (He.fAd b.K ("_law_day", none)) [shN 3] m__law_day := by
  obtain ⟨fd, FF⟩ := T.f__law_day
  have h := fn_ok (b := b) (N := ["pot", "tree", "calls", "found", "turn", "call"]) (ps := ["pot", "tree", "calls"]) (k := 1) (bd := b__law_day) FF sc__law_day
  refine Fk.trim ⟨fd, ["pot", "tree", "calls"], h (fun F' B' cdv A outer s H E hcd o => ?_), FF.kp, (sh_1 (q := shN 3) (bd_N FF fun _ _ _ _ _ _ us hl => match us, hl with | [_, _, _], _ => rfl))⟩
  exact (dss_cons (ds_set (i := 3) o.toOkB rfl (by first | exact .inl rfl | exact .inr rfl) (d_own da_nil))
    (dss_cons (ds_for o (di_range1 o.toOkB rfl T.n_range (da_cons (x_add o.toOkB d_int (d_callI o (k__law_draw T) (by decide) (shN 2) (.head _) rfl T.g__law_draw (dc_pos (da_cons (x_v 0) (da_cons (x_v 2) da_nil))))) da_nil)) (dg_name o.nd rfl (by first | exact .inl rfl | exact .inr rfl)) (dss_cons (ds_set (i := 5) o.toOkB rfl (by first | exact .inl rfl | exact .inr rfl) (d_tup (da_cons (d_callI o (k__law_draw T) (by decide) (shN 2) (.head _) rfl T.g__law_draw (dc_pos (da_cons (x_v 0) (da_cons d_int da_nil)))) (da_cons (d_callI o (k__law_draw T) (by decide) (shN 2) (.head _) rfl T.g__law_draw (dc_pos (da_cons (x_v 0) (da_cons (x_add o.toOkB (x_len o T.n_len (da_cons (x_ix o (x_v 1) d_int) da_nil)) d_int) da_nil)))) (da_cons (d_callI o (k__law_draw T) (by decide) (shN 2) (.head _) rfl T.g__law_draw (dc_pos (da_cons (x_v 0) (da_cons d_int da_nil)))) da_nil)))))
    (dss_one (ds_expr (d_bm o.K F.slot_list_extend F.type_list_extend mt_extend m_extend (x_v 3) (da_cons (d_if (y_notIn o (x_v 5) (x_v 3)) (d_lst (da_cons (x_v 5) da_nil)) (d_lst da_nil)) da_nil))))))
    (dss_one (ds_ret (d_tup (da_cons d_str (da_cons (d_callP o (k__law_low T) (by decide) (shN 2) (.head _) rfl T.g__law_low (dc_pos (da_cons (d_callI o (k__law_draw T) (by decide) (shN 2) (.head _) rfl T.g__law_draw (dc_pos (da_cons (x_v 0) (da_cons d_int da_nil)))) (da_cons (x_add o.toOkB d_int (d_callI o (k__law_draw T) (by decide) (shN 2) (.head _) rfl T.g__law_draw (dc_pos (da_cons (x_v 0) (da_cons d_int da_nil))))) da_nil)))) (da_cons (x_tuple o T.n_tuple (da_cons (x_sortT o T.n_sorted (da_cons (x_v 3) da_nil)) da_nil)) da_nil))))))))
theorem sc__law_do_fit : FnScope ["tree", "day", "call", "other", "room", "hour", "place", "reach", "late", "goal", "far"] ["tree", "day", "call", "other"] (defScope (top 91)) := ⟨rfl, rfl, rfl, by decide +kernel, rfl, by decide +kernel, by decide +kernel⟩
theorem k__law_do_fit (T : Tx b) : Fk b 3 (He.fAd b.K ("_law_do_fit", none)) [shN 4] m__law_do_fit := by
  obtain ⟨fd, FF⟩ := T.f__law_do_fit
  have h := fn_ok (b := b) (N := ["tree", "day", "call", "other", "room", "hour", "place", "reach", "late", "goal", "far"]) (ps := ["tree", "day", "call", "other"]) (k := 2) (bd := b__law_do_fit) FF sc__law_do_fit
  refine Fk.trim ⟨fd, ["tree", "day", "call", "other"], h (fun F' B' cdv A outer s H E hcd o => ?_), FF.kp, (sh_1 (q := shN 4) (bd_N FF fun _ _ _ _ _ _ us hl => match us, hl with | [_, _, _, _], _ => rfl))⟩
  exact (dss_cons (ds_asg (d_tup (da_cons (x_ix o (x_ix o (x_v 1) d_int) (x_v 2)) (da_cons (x_ix o (x_ix o (x_v 1) d_int) (x_v 3)) da_nil))) (dg_tup o.K o.calm (dgs_cons (dg_tup o.K o.calm (dgs_cons (dg_name o.nd rfl (by first | exact .inl rfl | exact .inr rfl)) (dgs_cons (dg_name o.nd rfl (by first | exact .inl rfl | exact .inr rfl)) (dgs_cons (dg_name o.nd rfl (by first | exact .inl rfl | exact .inr rfl)) dgs_nil)))) (dgs_cons (dg_tup o.K o.calm (dgs_cons (dg_name o.nd rfl (by first | exact .inl rfl | exact .inr rfl)) (dgs_cons (dg_name o.nd rfl (by first | exact .inl rfl | exact .inr rfl)) (dgs_cons (dg_name o.nd rfl (by first | exact .inl rfl | exact .inr rfl)) dgs_nil)))) dgs_nil))))
    (dss_cons (ds_set (i := 4) o.toOkB rfl (by first | exact .inl rfl | exact .inr rfl) (d_callP o (k__law_plus T) (by decide) (shN 2) (.head _) rfl T.g__law_plus (dc_pos (da_cons (d_tup (da_cons (x_add o.toOkB (x_v 7) (x_v 10)) (da_cons d_int da_nil))) (da_cons (d_callP o (k__law_times T) (by decide) (shN 2) (.head _) rfl T.g__law_times (dc_pos (da_cons (x_ix o (x_v 1) d_int) (da_cons (d_tup (da_cons (x_abs o T.n_abs (da_cons (x_sub (x_v 8) (x_v 5)) da_nil)) (da_cons d_int da_nil))) da_nil)))) da_nil)))))
    (dss_one (ds_ret (d_not (d_callP o (k__law_less T) (by decide) (shN 2) (.head _) rfl T.g__law_less (dc_pos (da_cons (x_v 4) (da_cons (d_tup (da_cons (d_callP o (k__law_way T) (by decide) (shN 3) (.head _) rfl T.g__law_way (dc_pos (da_cons (x_v 0) (da_cons (x_v 6) (da_cons (x_v 9) da_nil))))) (da_cons d_int da_nil))) da_nil)))))))))
theorem sc__law_fewest : FnScope ["tree", "day", "some", "call", "longer", "lots", "at", "lot", "other"] ["tree", "day"] (defScope (top 92)) := ⟨rfl, rfl, rfl, by decide +kernel, rfl, by decide +kernel, by decide +kernel⟩
theorem k__law_fewest (T : Tx b) : Fk b 4 (He.fAd b.K ("_law_fewest", none)) [shN 2] m__law_fewest := by
  obtain ⟨fd, FF⟩ := T.f__law_fewest
  have h := fn_ok (b := b) (N := ["tree", "day", "some", "call", "longer", "lots", "at", "lot", "other"]) (ps := ["tree", "day"]) (k := 3) (bd := b__law_fewest) FF sc__law_fewest
  refine Fk.trim ⟨fd, ["tree", "day"], h (fun F' B' cdv A outer s H E hcd o => ?_), FF.kp, (sh_1 (q := shN 2) (bd_N FF fun _ _ _ _ _ _ us hl => match us, hl with | [_, _], _ => rfl))⟩
  exact (dss_cons (ds_set (i := 2) o.toOkB rfl (by first | exact .inl rfl | exact .inr rfl) (d_lst (da_cons (d_lst da_nil) da_nil)))
    (dss_cons (ds_for o (di_range1 o.toOkB rfl T.n_range (da_cons (x_len o T.n_len (da_cons (x_ix o (x_v 1) d_int) da_nil)) da_nil)) (dg_name o.nd rfl (by first | exact .inl rfl | exact .inr rfl)) (dss_cons (ds_set (i := 4) o.toOkB rfl (by first | exact .inl rfl | exact .inr rfl) (d_own da_nil))
    (dss_cons (ds_lk 2 (ds_for o (di_sq o.K (x_v 2)) (dg_name o.nd rfl (by first | exact .inl rfl | exact .inr rfl)) (dss_cons (ds_expr (d_bm o.K F.slot_list_append F.type_list_append mt_append m_append (x_v 4) (da_cons (x_add o.toOkB (x_v 5) (d_lst (da_cons (d_lst (da_cons (x_v 3) da_nil)) da_nil))) da_nil)))
    (dss_one (ds_for o (di_enum o.toOkB rfl T.n_enumerate (da_cons (x_v 5) da_nil)) (dg_tup o.K o.calm (dgs_cons (dg_name o.nd rfl (by first | exact .inl rfl | exact .inr rfl)) (dgs_cons (dg_name o.nd rfl (by first | exact .inl rfl | exact .inr rfl)) dgs_nil))) (dss_one (ds_if (dt_val (x_all o T.n_all (da_cons (d_comp (own := [("other", 8)]) o (di_sq o.K (x_v 7)) (blkOk_by (by first | (show blkC ["tree", "day", "some", "call", "longer", "lots", "at", "lot", "other"] (defScope (top 92)) _ _ = true; decide +kernel) | kernel_rfl)) (by decide) (fun s H C cl fp => (dg_name o.nd rfl (by first | exact .inl rfl | exact .inr rfl))) (fun Fq s H C cl fp o => dts_nil) (fun Fq s H C cl fp o => (d_callP o (k__law_do_fit T) (by decide) (shN 4) (.head _) rfl T.g__law_do_fit (dc_pos (da_cons (x_v 0) (da_cons (x_v 1) (da_cons (x_v 3) (da_cons (x_v 8) da_nil)))))))) da_nil))) (dss_one (ds_expr (d_bm o.K F.slot_list_append F.type_list_append mt_append m_append (x_v 4) (da_cons (x_add o.toOkB (x_add o.toOkB (d_sl (x_v 5) do_none (do_some (x_v 6)) o.K) (d_lst (da_cons (x_add o.toOkB (x_v 7) (d_lst (da_cons (x_v 3) da_nil))) da_nil))) (d_sl (x_v 5) (do_some (x_add o.toOkB (x_v 6) d_int)) do_none o.K)) da_nil)))) dss_nil)))))))
    (dss_one (ds_set (i := 2) o.toOkB rfl (by first | exact .inl rfl | exact .inr rfl) (x_v 4))))))
    (dss_one (ds_lk 2 (ds_ret (x_min o T.n_min (da_cons (d_comp (own := [("lots", 5)]) o (di_sq o.K (x_v 2)) (blkOk_by (by first | (show blkC ["tree", "day", "some", "call", "longer", "lots", "at", "lot", "other"] (defScope (top 92)) _ _ = true; decide +kernel) | kernel_rfl)) (by decide) (fun s H C cl fp => (dg_name o.nd rfl (by first | exact .inl rfl | exact .inr rfl))) (fun Fq s H C cl fp o => dts_nil) (fun Fq s H C cl fp o => (x_len o T.n_len (da_cons (x_v 5) da_nil)))) da_nil)))))))
end
end K91

-- K91R
set_option Elab.async false
set_option linter.all false
set_option maxRecDepth 100000
set_option maxHeartbeats 8000000
namespace K91
open PySem PySem.Spec PyProof.Rows L2 LamX DL
open K91N
section
variable {b : G0}
theorem sc__law_many_right : FnScope ["pot", "tree", "day", "many", "told", "other", "at", "longer", "great", "less", "father", "length", "hour", "place", "reach"] ["pot", "tree", "day", "many"] (defScope (top 93)) := ⟨rfl, rfl, rfl, by decide +kernel, rfl, by decide +kernel, by decide +kernel⟩
theorem k__law_many_right (T : Tx b) : Fk b 11 (He.fAd b.K ("_law_many_right", none)) [shN 4] m__law_many_right := by
  obtain ⟨fd, FF⟩ := T.f__law_many_right
  have h := fn_ok (b := b) (N := ["pot", "tree", "day", "many", "told", "other", "at", "longer", "great", "less", "father", "length", "hour", "place", "reach"]) (ps := ["pot", "tree", "day", "many"]) (k := 10) (bd := b__law_many_right) FF sc__law_many_right
  refine Fk.trim ⟨fd, ["pot", "tree", "day", "many"], h (fun F' B' cdv A outer s H E hcd o => ?_), FF.kp, (sh_1 (q := shN 4) (bd_N FF fun _ _ _ _ _ _ us hl => match us, hl with | [_, _, _, _], _ => rfl))⟩
  refine dss_cons ?_ ?_
  ·
    exact (ds_set (i := 4) o.toOkB rfl (by first | exact .inl rfl | exact .inr rfl) (d_callP o (k_least_speed T) (by decide) (shN 3) (.head _) rfl T.g_least_speed (dc_pos (da_cons (x_v 1) (da_cons (x_v 2) (da_cons (x_v 3) da_nil))))))
  refine dss_cons ?_ ?_
  ·
    exact (ds_set (i := 5) o.toOkB rfl (by first | exact .inl rfl | exact .inr rfl) (d_tup (da_cons d_str (da_cons (d_callP o (k__law_low T) (by decide) (shN 2) (.head _) rfl T.g__law_low (dc_pos (da_cons (d_callI o (k__law_draw T) (by decide) (shN 2) (.head _) rfl T.g__law_draw (dc_pos (da_cons (x_v 0) (da_cons d_int da_nil)))) (da_cons d_int da_nil)))) (da_cons (x_ix o (x_v 2) d_int) da_nil)))))
  refine dss_cons ?_ ?_
  ·
    refine ds_if (y_ne o (x_repr o.toOkB T.n_repr (da_cons (d_lst (da_cons (d_callP o (k_least_speed T) (by decide) (shR 0 ["many", "day", "tree"]) (.tail _ (.head _)) rfl T.g_least_speed (dc_kw (dk_cons (x_v 3) (dk_cons (x_v 2) (dk_cons (x_v 1) dk_nil))))) (da_cons (d_callP o (k_least_speed T) (by decide) (shN 3) (.head _) rfl T.g_least_speed (dc_pos (da_cons (x_v 1) (da_cons (x_v 5) (da_cons (x_v 3) da_nil))))) da_nil))) da_nil)) (x_repr o.toOkB T.n_repr (da_cons (d_lst (da_cons (x_v 4) (da_cons (x_v 4) da_nil))) da_nil))) ?_ ?_
    ·
      refine dss_one ?_
      exact (ds_ret d_bl)
    exact dss_nil
  refine dss_cons ?_ ?_
  ·
    refine ds_if (y_is (x_v 4) d_non) ?_ ?_
    ·
      refine dss_one ?_
      exact (ds_ret (x_gt (d_callP o (k__law_fewest T) (by decide) (shN 2) (.head _) rfl T.g__law_fewest (dc_pos (da_cons (x_v 1) (da_cons (d_tup (da_cons d_str (da_cons (d_tup (da_cons (x_pow d_int d_int) (da_cons d_int da_nil))) (da_cons (x_ix o (x_v 2) d_int) da_nil)))) da_nil)))) (x_v 3)))
    exact dss_nil
  refine dss_cons ?_ ?_
  ·
    exact (ds_set (i := 6) o.toOkB rfl (by first | exact .inl rfl | exact .inr rfl) (d_tup (da_cons d_str (da_cons (x_v 4) (da_cons (x_ix o (x_v 2) d_int) da_nil)))))
  refine dss_cons ?_ ?_
  ·
    refine ds_if (dt_w (dw_or (y_gt (d_callP o (k__law_fewest T) (by decide) (shN 2) (.head _) rfl T.g__law_fewest (dc_pos (da_cons (x_v 1) (da_cons (x_v 6) da_nil)))) (x_v 3)) (dw_or (y_gt (d_callP o (k_fewest_riders T) (by decide) (shN 2) (.head _) rfl T.g_fewest_riders (dc_pos (da_cons (x_v 1) (da_cons (x_v 6) da_nil)))) (x_v 3)) (dw_or1 (y_notB o (d_callP o (k_is_riders_paper T) (by decide) (shN 4) (.head _) rfl T.g_is_riders_paper (dc_pos (da_cons (x_v 1) (da_cons (x_v 6) (da_cons (x_v 3) (da_cons (d_callP o (k_riders_paper T) (by decide) (shN 3) (.head _) rfl T.g_riders_paper (dc_pos (da_cons (x_v 1) (da_cons (x_v 6) (da_cons (x_v 3) da_nil))))) da_nil)))))) d_bl))))) ?_ ?_
    ·
      refine dss_one ?_
      exact (ds_ret d_bl)
    exact dss_nil
  refine dss_cons ?_ ?_
  ·
    refine ds_if (y_ne o (x_v 4) (d_tup (da_cons d_int (da_cons d_int da_nil)))) ?_ ?_
    ·
      refine dss_cons ?_ ?_
      ·
        exact (ds_set (i := 9) o.toOkB rfl (by first | exact .inl rfl | exact .inr rfl) (d_tup (da_cons d_str (da_cons (d_callP o (k__law_minus T) (by decide) (shN 2) (.head _) rfl T.g__law_minus (dc_pos (da_cons (x_v 4) (da_cons (d_tup (da_cons d_int (da_cons (x_pow d_int d_int) da_nil))) da_nil)))) (da_cons (x_ix o (x_v 2) d_int) da_nil)))))
      refine dss_one ?_
      refine ds_if (dt_w (dw_or (y_le (x_mul (x_ix o (x_v 4) d_int) (x_pow d_int d_int)) (x_ix o (x_v 4) d_int)) (dw_or1 (y_le (d_callP o (k__law_fewest T) (by decide) (shN 2) (.head _) rfl T.g__law_fewest (dc_pos (da_cons (x_v 1) (da_cons (x_v 9) da_nil)))) (x_v 3))))) ?_ ?_
      ·
        refine dss_one ?_
        exact (ds_ret d_bl)
      exact dss_nil
    exact dss_nil
  refine dss_cons ?_ ?_
  ·
    exact (ds_set (i := 7) o.toOkB rfl (by first | exact .inl rfl | exact .inr rfl) (d_tup (da_cons d_str (da_cons (x_tuple o T.n_tuple (da_cons (d_comp (own := [("father", 10), ("length", 11)]) o (di_sq o.K (x_ix o (x_v 1) d_int)) (blkOk_by (by first | (show blkC ["pot", "tree", "day", "many", "told", "other", "at", "longer", "great", "less", "father", "length", "hour", "place", "reach"] (defScope (top 93)) _ _ = true; decide +kernel) | kernel_rfl)) (by decide) (fun s H C cl fp => (dg_tup o.K o.calm (dgs_cons (dg_name o.nd rfl (by first | exact .inl rfl | exact .inr rfl)) (dgs_cons (dg_name o.nd rfl (by first | exact .inl rfl | exact .inr rfl)) dgs_nil)))) (fun Fq s H C cl fp o => dts_nil) (fun Fq s H C cl fp o => (d_tup (da_cons (x_v 10) (da_cons (x_mul d_int (x_v 11)) da_nil))))) da_nil)) da_nil))))
  refine dss_cons ?_ ?_
  ·
    exact (ds_set (i := 8) o.toOkB rfl (by first | exact .inl rfl | exact .inr rfl) (d_tup (da_cons d_str (da_cons (x_ix o (x_v 2) d_int) (da_cons (x_tuple o T.n_tuple (da_cons (d_comp (own := [("hour", 12), ("place", 13), ("reach", 14)]) o (di_sq o.K (x_ix o (x_v 2) d_int)) (blkOk_by (by first | (show blkC ["pot", "tree", "day", "many", "told", "other", "at", "longer", "great", "less", "father", "length", "hour", "place", "reach"] (defScope (top 93)) _ _ = true; decide +kernel) | kernel_rfl)) (by decide) (fun s H C cl fp => (dg_tup o.K o.calm (dgs_cons (dg_name o.nd rfl (by first | exact .inl rfl | exact .inr rfl)) (dgs_cons (dg_name o.nd rfl (by first | exact .inl rfl | exact .inr rfl)) (dgs_cons (dg_name o.nd rfl (by first | exact .inl rfl | exact .inr rfl)) dgs_nil))))) (fun Fq s H C cl fp o => dts_nil) (fun Fq s H C cl fp o => (d_tup (da_cons (x_v 12) (da_cons (x_v 13) (da_cons (x_mul d_int (x_v 14)) da_nil)))))) da_nil)) da_nil)))))
  refine dss_one ?_
  exact (ds_ret (x_eq o (d_callP o (k_least_speed T) (by decide) (shN 3) (.head _) rfl T.g_least_speed (dc_pos (da_cons (x_v 7) (da_cons (x_v 8) (da_cons (x_v 3) da_nil))))) (d_callP o (k__law_times T) (by decide) (shN 2) (.head _) rfl T.g__law_times (dc_pos (da_cons (x_v 4) (da_cons (d_tup (da_cons d_int (da_cons d_int da_nil))) da_nil))))))
theorem sc__law_right : FnScope ["pot", "tree", "day", "shown_v", "many"] ["pot"] (defScope (top 94)) := ⟨rfl, rfl, rfl, by decide +kernel, rfl, by decide +kernel, by decide +kernel⟩
theorem k__law_right (T : Tx b) : Fk b 12 (He.fAd b.K ("_law_right", none)) [shN 1] m__law_right := by
  obtain ⟨fd, FF⟩ := T.f__law_right
  have h := fn_ok (b := b) (N := ["pot", "tree", "day", "shown_v", "many"]) (ps := ["pot"]) (k := 11) (bd := b__law_right) FF sc__law_right
  refine Fk.trim ⟨fd, ["pot"], h (fun F' B' cdv A outer s H E hcd o => ?_), FF.kp, (sh_1 (q := shN 1) (bd_N FF fun _ _ _ _ _ _ us hl => match us, hl with | [_], _ => rfl))⟩
  exact (dss_cons (ds_set (i := 1) o.toOkB rfl (by first | exact .inl rfl | exact .inr rfl) (d_callI o (k__law_tree T) (by decide) (shN 2) (.head _) rfl T.g__law_tree (dc_pos (da_cons (x_v 0) (da_cons d_int da_nil)))))
    (dss_cons (ds_set (i := 2) o.toOkB rfl (by first | exact .inl rfl | exact .inr rfl) (d_callI o (k__law_day T) (by decide) (shN 3) (.head _) rfl T.g__law_day (dc_pos (da_cons (x_v 0) (da_cons (x_v 1) (da_cons d_int da_nil))))))
    (dss_cons (ds_set (i := 3) o.toOkB rfl (by first | exact .inl rfl | exact .inr rfl) (x_repr o.toOkB T.n_repr (da_cons (d_lst (da_cons (x_v 1) (da_cons (x_v 2) da_nil))) da_nil)))
    (dss_cons (ds_for o (di_sq o.K (d_lst (da_cons d_int (da_cons d_int (da_cons d_int (da_cons (x_add o.toOkB d_int (d_callI o (k__law_draw T) (by decide) (shN 2) (.head _) rfl T.g__law_draw (dc_pos (da_cons (x_v 0) (da_cons d_int da_nil))))) (da_cons (x_len o T.n_len (da_cons (x_ix o (x_v 2) d_int) da_nil)) da_nil))))))) (dg_name o.nd rfl (by first | exact .inl rfl | exact .inr rfl)) (dss_one (ds_if (dt_not (dt_val (d_callI o (k__law_many_right T) (by decide) (shN 4) (.head _) rfl T.g__law_many_right (dc_pos (da_cons (x_v 0) (da_cons (x_v 1) (da_cons (x_v 2) (da_cons (x_v 4) da_nil)))))))) (dss_one (ds_ret d_bl)) dss_nil)))
    (dss_one (ds_ret (x_eq o (x_repr o.toOkB T.n_repr (da_cons (d_lst (da_cons (x_v 1) (da_cons (x_v 2) da_nil))) da_nil)) (x_v 3))))))))
theorem sc_law : FnScope ["script"] ["script"] (defScope (top 95)) := ⟨rfl, rfl, rfl, by decide +kernel, rfl, by decide +kernel, by decide +kernel⟩
theorem k_law (T : Tx b) : Fk b 13 (He.fAd b.K ("law", none)) [shN 1] m_law := by
  obtain ⟨fd, FF⟩ := T.f_law
  have h := fn_ok (b := b) (N := ["script"]) (ps := ["script"]) (k := 12) (bd := b_law) FF sc_law
  refine Fk.trim ⟨fd, ["script"], h (fun F' B' cdv A outer s H E hcd o => ?_), FF.kp, (sh_1 (q := shN 1) (bd_N FF fun _ _ _ _ _ _ us hl => match us, hl with | [_], _ => rfl))⟩
  exact (dss_one (ds_ret (d_callI o (k__law_right T) (by decide) (shN 1) (.head _) rfl T.g__law_right (dc_pos (da_cons (d_callI o (k__law_pot T) (by decide) (shN 2) (.head _) rfl T.g__law_pot (dc_pos (da_cons (x_v 0) (da_cons d_int da_nil)))) da_nil)))))
end
end K91

-- K91H
set_option Elab.async false
set_option linter.all false
set_option maxRecDepth 100000
set_option maxHeartbeats 0
/-! the head of k91 (printed by gen.py) -/
namespace K91
open PySem PySem.Spec PyProof.Rows L2 LamX DL K91N
theorem tx_of {P : Program} {w : World} {K : PySem.W.Frag} {h base : Heap} {mg : Str → Option Value} (X : K.In h) (Gl : h.Ns mainGlobals mg) (c : SaysP fa fn ps tf ex w h K) (hTB : ∀ p ∈ tf.map (He.cT K), TabB base mg p.1 p.2) : Tx ⟨P, w, base, K, mg, He.ga K, T0 K⟩ := by
  have D : He.SaysD fa fn K := c.x.t.d
  constructor
  case n_bool =>
    exact He.free_ok X Gl (D.fact 0 (f := .free "bool") rfl)
  case n_isinstance =>
    exact He.free_ok X Gl (D.fact 1 (f := .free "isinstance") rfl)
  case n_int =>
    exact He.free_ok X Gl (D.fact 2 (f := .free "int") rfl)
  case f_is_integer =>
    exact D.def_ 0 (d := ⟨("is_integer", none), "is_integer", "is_integer", defArgs (top 9), defBody (top 9), defScope (top 9), [], []⟩) rfl
  case g_is_integer =>
    exact He.glo_ok X Gl (D.fact 3 (f := .glo "is_integer") rfl)
  case f_is_within =>
    exact D.def_ 1 (d := ⟨("is_within", none), "is_within", "is_within", defArgs (top 10), defBody (top 10), defScope (top 10), [], []⟩) rfl
  case n_len =>
    exact He.free_ok X Gl (D.fact 4 (f := .free "len") rfl)
  case n_tuple =>
    exact He.free_ok X Gl (D.fact 5 (f := .free "tuple") rfl)
  case f_is_row =>
    exact D.def_ 2 (d := ⟨("is_row", none), "is_row", "is_row", defArgs (top 11), defBody (top 11), defScope (top 11), [], []⟩) rfl
  case n_zip =>
    exact He.free_ok X Gl (D.fact 6 (f := .free "zip") rfl)
  case n_all =>
    exact He.free_ok X Gl (D.fact 7 (f := .free "all") rfl)
  case f_is_rising =>
    exact D.def_ 3 (d := ⟨("is_rising", none), "is_rising", "is_rising", defArgs (top 12), defBody (top 12), defScope (top 12), [], []⟩) rfl
  case g_is_within =>
    exact He.glo_ok X Gl (D.fact 8 (f := .glo "is_within") rfl)
  case g_is_rising =>
    exact He.glo_ok X Gl (D.fact 9 (f := .glo "is_rising") rfl)
  case f_are_places_of =>
    exact D.def_ 4 (d := ⟨("are_places_of", none), "are_places_of", "are_places_of", defArgs (top 13), defBody (top 13), defScope (top 13), [], []⟩) rfl
  case b_gcd =>
    exact bf_ok X Gl (List.all_eq_true.mp (c.ex) _ (List.mem_of_getElem? (i := 0) rfl))
  case f_fraction =>
    exact D.def_ 5 (d := ⟨("fraction", none), "fraction", "fraction", defArgs (top 18), defBody (top 18), defScope (top 18), [], []⟩) rfl
  case f_whole =>
    exact D.def_ 6 (d := ⟨("whole", none), "whole", "whole", defArgs (top 19), defBody (top 19), defScope (top 19), [], []⟩) rfl
  case g_fraction =>
    exact He.glo_ok X Gl (D.fact 10 (f := .glo "fraction") rfl)
  case f_plus =>
    exact D.def_ 7 (d := ⟨("plus", none), "plus", "plus", defArgs (top 20), defBody (top 20), defScope (top 20), [], []⟩) rfl
  case f_product =>
    exact D.def_ 8 (d := ⟨("product", none), "product", "product", defArgs (top 21), defBody (top 21), defScope (top 21), [], []⟩) rfl
  case f_is_less =>
    exact D.def_ 9 (d := ⟨("is_less", none), "is_less", "is_less", defArgs (top 22), defBody (top 22), defScope (top 22), [], []⟩) rfl
  case i_LIMIT =>
    exact He.int_ok X Gl (D.fact 11 (f := .int "LIMIT" 10000000000000000000000000000000000000000000000000000000000000000000000000000000000000000000000000000000000000000000000000000000000000000000000000000000000000000000000000000000000000000000000000000000000000000000000000000000000000000000000000000000000000000000000000000000000000000000000000000000000000000000000000000000000000000000000000000000000000000000000000000000000000000000000000000000000000000) rfl)
  case n_abs =>
    exact He.free_ok X Gl (D.fact 12 (f := .free "abs") rfl)
  case f_shown =>
    exact D.def_ 10 (d := ⟨("shown", none), "shown", "shown", defArgs (top 23), defBody (top 23), defScope (top 23), [], []⟩) rfl
  case g_is_row =>
    exact He.glo_ok X Gl (D.fact 13 (f := .glo "is_row") rfl)
  case f_is_ratio =>
    exact D.def_ 11 (d := ⟨("is_ratio", none), "is_ratio", "is_ratio", defArgs (top 24), defBody (top 24), defScope (top 24), [], []⟩) rfl
  case i_MOST_LENGTH =>
    exact He.int_ok X Gl (D.fact 14 (f := .int "MOST_LENGTH" 999) rfl)
  case f_is_tie =>
    exact D.def_ 12 (d := ⟨("is_tie", none), "is_tie", "is_tie", defArgs (top 28), defBody (top 28), defScope (top 28), [], []⟩) rfl
  case n_str =>
    exact He.free_ok X Gl (D.fact 15 (f := .free "str") rfl)
  case i_MOST_PLACES =>
    exact He.int_ok X Gl (D.fact 16 (f := .int "MOST_PLACES" 24) rfl)
  case n_enumerate =>
    exact He.free_ok X Gl (D.fact 17 (f := .free "enumerate") rfl)
  case g_is_tie =>
    exact He.glo_ok X Gl (D.fact 18 (f := .glo "is_tie") rfl)
  case f_is_tree =>
    exact D.def_ 13 (d := ⟨("is_tree", none), "is_tree", "is_tree", defArgs (top 29), defBody (top 29), defScope (top 29), [], []⟩) rfl
  case g_is_tree =>
    exact He.glo_ok X Gl (D.fact 19 (f := .glo "is_tree") rfl)
  case c_InvalidTree =>
    exact He.glo_ok X Gl (D.fact 20 (f := .glo "InvalidTree") rfl)
  case e_InvalidTree =>
    obtain ⟨fd, FF⟩ := D.def_ 14 (d := ⟨("InvalidTree", some "__init__"), "__init__", "WoodError.__init__", defArgs (sub (top 2) 0), defBody (sub (top 2) 0), defScope (sub (top 2) 0), [.non], []⟩) rfl
    exact rk1 PySem.F.excBase_ValueError PySem.F.store_ValueError (List.all_eq_true.mp (c.ex) _ (List.mem_of_getElem? (i := 1) rfl)) FF (f := "value") ⟨rfl, rfl, rfl, by decide +kernel, rfl, by decide +kernel, by decide +kernel⟩ (bd_dfl FF fun _ _ _ _ _ _ _ us its hl hl2 => match us, its, hl, hl2 with | [_, _], [_], _, _ => ⟨_, rfl, rfl⟩) fun cdv A outer s H E => pss_one (ps_os (pv 0) (pv 1))
  case f_want_tree =>
    exact D.def_ 15 (d := ⟨("want_tree", none), "want_tree", "want_tree", defArgs (top 30), defBody (top 30), defScope (top 30), [], []⟩) rfl
  case f_place_count =>
    exact D.def_ 16 (d := ⟨("place_count", none), "place_count", "place_count", defArgs (top 31), defBody (top 31), defScope (top 31), [], []⟩) rfl
  case f_father_of =>
    exact D.def_ 17 (d := ⟨("father_of", none), "father_of", "father_of", defArgs (top 32), defBody (top 32), defScope (top 32), [], []⟩) rfl
  case g_father_of =>
    exact He.glo_ok X Gl (D.fact 21 (f := .glo "father_of") rfl)
  case f_path_up =>
    exact D.def_ 18 (d := ⟨("path_up", none), "path_up", "path_up", defArgs (top 33), defBody (top 33), defScope (top 33), [], []⟩) rfl
  case f_depths_in =>
    exact D.def_ 19 (d := ⟨("depths_in", none), "depths_in", "depths_in", defArgs (top 34), defBody (top 34), defScope (top 34), [], []⟩) rfl
  case g_path_up =>
    exact He.glo_ok X Gl (D.fact 22 (f := .glo "path_up") rfl)
  case f_path_in =>
    exact D.def_ 20 (d := ⟨("path_in", none), "path_in", "path_in", defArgs (top 35), defBody (top 35), defScope (top 35), [], []⟩) rfl
  case g_path_in =>
    exact He.glo_ok X Gl (D.fact 23 (f := .glo "path_in") rfl)
  case n_min =>
    exact He.free_ok X Gl (D.fact 24 (f := .free "min") rfl)
  case f_top_in =>
    exact D.def_ 21 (d := ⟨("top_in", none), "top_in", "top_in", defArgs (top 36), defBody (top 36), defScope (top 36), [], []⟩) rfl
  case g_depths_in =>
    exact He.glo_ok X Gl (D.fact 25 (f := .glo "depths_in") rfl)
  case g_top_in =>
    exact He.glo_ok X Gl (D.fact 26 (f := .glo "top_in") rfl)
  case f_way_in =>
    exact D.def_ 22 (d := ⟨("way_in", none), "way_in", "way_in", defArgs (top 37), defBody (top 37), defScope (top 37), [], []⟩) rfl
  case i_MOST_MANY =>
    exact He.int_ok X Gl (D.fact 27 (f := .int "MOST_MANY" 99) rfl)
  case c_InvalidMany =>
    exact He.glo_ok X Gl (D.fact 28 (f := .glo "InvalidMany") rfl)
  case e_InvalidMany =>
    obtain ⟨fd, FF⟩ := D.def_ 23 (d := ⟨("InvalidMany", some "__init__"), "__init__", "WoodError.__init__", defArgs (sub (top 2) 0), defBody (sub (top 2) 0), defScope (sub (top 2) 0), [.non], []⟩) rfl
    exact rk1 PySem.F.excBase_ValueError PySem.F.store_ValueError (List.all_eq_true.mp (c.ex) _ (List.mem_of_getElem? (i := 2) rfl)) FF (f := "value") ⟨rfl, rfl, rfl, by decide +kernel, rfl, by decide +kernel, by decide +kernel⟩ (bd_dfl FF fun _ _ _ _ _ _ _ us its hl hl2 => match us, its, hl, hl2 with | [_, _], [_], _, _ => ⟨_, rfl, rfl⟩) fun cdv A outer s H E => pss_one (ps_os (pv 0) (pv 1))
  case f_want_many =>
    exact D.def_ 24 (d := ⟨("want_many", none), "want_many", "want_many", defArgs (top 40), defBody (top 40), defScope (top 40), [], []⟩) rfl
  case i_MOST_REACH =>
    exact He.int_ok X Gl (D.fact 29 (f := .int "MOST_REACH" 9999) rfl)
  case i_MOST_HOUR =>
    exact He.int_ok X Gl (D.fact 30 (f := .int "MOST_HOUR" 99) rfl)
  case g_place_count =>
    exact He.glo_ok X Gl (D.fact 31 (f := .glo "place_count") rfl)
  case f_is_call =>
    exact D.def_ 25 (d := ⟨("is_call", none), "is_call", "is_call", defArgs (top 45), defBody (top 45), defScope (top 45), [], []⟩) rfl
  case g_is_ratio =>
    exact He.glo_ok X Gl (D.fact 32 (f := .glo "is_ratio") rfl)
  case g_is_call =>
    exact He.glo_ok X Gl (D.fact 33 (f := .glo "is_call") rfl)
  case i_MOST_CALLS =>
    exact He.int_ok X Gl (D.fact 34 (f := .int "MOST_CALLS" 8) rfl)
  case f_is_day_in =>
    exact D.def_ 26 (d := ⟨("is_day_in", none), "is_day_in", "is_day_in", defArgs (top 46), defBody (top 46), defScope (top 46), [], []⟩) rfl
  case g_want_tree =>
    exact He.glo_ok X Gl (D.fact 35 (f := .glo "want_tree") rfl)
  case g_is_day_in =>
    exact He.glo_ok X Gl (D.fact 36 (f := .glo "is_day_in") rfl)
  case c_InvalidDay =>
    exact He.glo_ok X Gl (D.fact 37 (f := .glo "InvalidDay") rfl)
  case e_InvalidDay =>
    obtain ⟨fd, FF⟩ := D.def_ 27 (d := ⟨("InvalidDay", some "__init__"), "__init__", "WoodError.__init__", defArgs (sub (top 2) 0), defBody (sub (top 2) 0), defScope (sub (top 2) 0), [.non], []⟩) rfl
    exact rk1 PySem.F.excBase_ValueError PySem.F.store_ValueError (List.all_eq_true.mp (c.ex) _ (List.mem_of_getElem? (i := 3) rfl)) FF (f := "value") ⟨rfl, rfl, rfl, by decide +kernel, rfl, by decide +kernel, by decide +kernel⟩ (bd_dfl FF fun _ _ _ _ _ _ _ us its hl hl2 => match us, its, hl, hl2 with | [_, _], [_], _, _ => ⟨_, rfl, rfl⟩) fun cdv A outer s H E => pss_one (ps_os (pv 0) (pv 1))
  case f_want_day =>
    exact D.def_ 28 (d := ⟨("want_day", none), "want_day", "want_day", defArgs (top 47), defBody (top 47), defScope (top 47), [], []⟩) rfl
  case g_whole =>
    exact He.glo_ok X Gl (D.fact 38 (f := .glo "whole") rfl)
  case g_product =>
    exact He.glo_ok X Gl (D.fact 39 (f := .glo "product") rfl)
  case g_plus =>
    exact He.glo_ok X Gl (D.fact 40 (f := .glo "plus") rfl)
  case g_way_in =>
    exact He.glo_ok X Gl (D.fact 41 (f := .glo "way_in") rfl)
  case g_is_less =>
    exact He.glo_ok X Gl (D.fact 42 (f := .glo "is_less") rfl)
  case f_fit_in =>
    exact D.def_ 29 (d := ⟨("fit_in", none), "fit_in", "fit_in", defArgs (top 48), defBody (top 48), defScope (top 48), [], []⟩) rfl
  case g_fit_in =>
    exact He.glo_ok X Gl (D.fact 43 (f := .glo "fit_in") rfl)
  case f_do_all_fit =>
    exact D.def_ 30 (d := ⟨("do_all_fit", none), "do_all_fit", "do_all_fit", defArgs (top 49), defBody (top 49), defScope (top 49), [], []⟩) rfl
  case n_range =>
    exact He.free_ok X Gl (D.fact 44 (f := .free "range") rfl)
  case f_contrary_in =>
    exact D.def_ 31 (d := ⟨("contrary_in", none), "contrary_in", "contrary_in", defArgs (top 57), defBody (top 57), defScope (top 57), [], []⟩) rfl
  case n_any =>
    exact He.free_ok X Gl (D.fact 45 (f := .free "any") rfl)
  case f_touches =>
    exact D.def_ 32 (d := ⟨("touches", none), "touches", "touches", defArgs (top 59), defBody (top 59), defScope (top 59), [], []⟩) rfl
  case f_are_all_contrary =>
    exact D.def_ 33 (d := ⟨("are_all_contrary", none), "are_all_contrary", "are_all_contrary", defArgs (top 58), defBody (top 58), defScope (top 58), [], []⟩) rfl
  case g_touches =>
    exact He.glo_ok X Gl (D.fact 46 (f := .glo "touches") rfl)
  case f_greatest_lots =>
    exact D.def_ 34 (d := ⟨("greatest_lots", none), "greatest_lots", "greatest_lots", defArgs (top 60), defBody (top 60), defScope (top 60), [], []⟩) rfl
  case f_share_in =>
    exact D.def_ 35 (d := ⟨("share_in", none), "share_in", "share_in", defArgs (top 61), defBody (top 61), defScope (top 61), [], []⟩) rfl
  case g_contrary_in =>
    exact He.glo_ok X Gl (D.fact 47 (f := .glo "contrary_in") rfl)
  case g_greatest_lots =>
    exact He.glo_ok X Gl (D.fact 48 (f := .glo "greatest_lots") rfl)
  case g_share_in =>
    exact He.glo_ok X Gl (D.fact 49 (f := .glo "share_in") rfl)
  case f_fewest_in =>
    exact D.def_ 36 (d := ⟨("fewest_in", none), "fewest_in", "fewest_in", defArgs (top 62), defBody (top 62), defScope (top 62), [], []⟩) rfl
  case f_best_split =>
    exact D.def_ 37 (d := ⟨("best_split", none), "best_split", "best_split", defArgs (top 63), defBody (top 63), defScope (top 63), [], []⟩) rfl
  case f_cases_in =>
    exact D.def_ 38 (d := ⟨("cases_in", none), "cases_in", "cases_in", defArgs (top 64), defBody (top 64), defScope (top 64), [], []⟩) rfl
  case f_lot_of =>
    exact D.def_ 39 (d := ⟨("lot_of", none), "lot_of", "lot_of", defArgs (top 65), defBody (top 65), defScope (top 65), [], []⟩) rfl
  case f_is_end =>
    exact D.def_ 40 (d := ⟨("is_end", none), "is_end", "is_end", defArgs (top 66), defBody (top 66), defScope (top 66), [], []⟩) rfl
  case f_is_node =>
    exact D.def_ 41 (d := ⟨("is_node", none), "is_node", "is_node", defArgs (top 67), defBody (top 67), defScope (top 67), [], []⟩) rfl
  case f_are_nodes =>
    exact D.def_ 42 (d := ⟨("are_nodes", none), "are_nodes", "are_nodes", defArgs (top 68), defBody (top 68), defScope (top 68), [], []⟩) rfl
  case f_are_cases =>
    exact D.def_ 43 (d := ⟨("are_cases", none), "are_cases", "are_cases", defArgs (top 69), defBody (top 69), defScope (top 69), [], []⟩) rfl
  case g_are_places_of =>
    exact He.glo_ok X Gl (D.fact 50 (f := .glo "are_places_of") rfl)
  case g_do_all_fit =>
    exact He.glo_ok X Gl (D.fact 51 (f := .glo "do_all_fit") rfl)
  case n_sorted =>
    exact He.free_ok X Gl (D.fact 52 (f := .free "sorted") rfl)
  case n_list =>
    exact He.free_ok X Gl (D.fact 53 (f := .free "list") rfl)
  case f_is_share =>
    exact D.def_ 44 (d := ⟨("is_share", none), "is_share", "is_share", defArgs (top 70), defBody (top 70), defScope (top 70), [], []⟩) rfl
  case f_at_speed =>
    exact D.def_ 45 (d := ⟨("at_speed", none), "at_speed", "at_speed", defArgs (top 71), defBody (top 71), defScope (top 71), [], []⟩) rfl
  case t_NOUGHT =>
    exact ⟨_, He.glo_ok X Gl (D.fact 54 (f := .glo "NOUGHT") rfl), fun H => He.tupB_ok (List.all_eq_true.mp (c.ex) _ (List.mem_of_getElem? (i := 4) rfl)) H⟩
  case f_speeds_in =>
    exact D.def_ 46 (d := ⟨("speeds_in", none), "speeds_in", "speeds_in", defArgs (top 72), defBody (top 72), defScope (top 72), [], []⟩) rfl
  case g_speeds_in =>
    exact He.glo_ok X Gl (D.fact 55 (f := .glo "speeds_in") rfl)
  case g_at_speed =>
    exact He.glo_ok X Gl (D.fact 56 (f := .glo "at_speed") rfl)
  case g_fewest_in =>
    exact He.glo_ok X Gl (D.fact 57 (f := .glo "fewest_in") rfl)
  case f_least_in =>
    exact D.def_ 47 (d := ⟨("least_in", none), "least_in", "least_in", defArgs (top 73), defBody (top 73), defScope (top 73), [], []⟩) rfl
  case g_want_day =>
    exact He.glo_ok X Gl (D.fact 58 (f := .glo "want_day") rfl)
  case f_fewest_riders =>
    exact D.def_ 48 (d := ⟨("fewest_riders", none), "fewest_riders", "fewest_riders", defArgs (top 74), defBody (top 74), defScope (top 74), [], []⟩) rfl
  case g_want_many =>
    exact He.glo_ok X Gl (D.fact 59 (f := .glo "want_many") rfl)
  case s_RIDERS =>
    exact He.str_ok X Gl (D.fact 60 (f := .str "RIDERS" "riders") rfl)
  case g_cases_in =>
    exact He.glo_ok X Gl (D.fact 61 (f := .glo "cases_in") rfl)
  case s_MORE =>
    exact He.str_ok X Gl (D.fact 62 (f := .str "MORE" "more") rfl)
  case f_riders_paper =>
    exact D.def_ 49 (d := ⟨("riders_paper", none), "riders_paper", "riders_paper", defArgs (top 75), defBody (top 75), defScope (top 75), [], []⟩) rfl
  case g_is_share =>
    exact He.glo_ok X Gl (D.fact 63 (f := .glo "is_share") rfl)
  case g_are_cases =>
    exact He.glo_ok X Gl (D.fact 64 (f := .glo "are_cases") rfl)
  case g_are_nodes =>
    exact He.glo_ok X Gl (D.fact 65 (f := .glo "are_nodes") rfl)
  case f_is_riders_paper =>
    exact D.def_ 50 (d := ⟨("is_riders_paper", none), "is_riders_paper", "is_riders_paper", defArgs (top 76), defBody (top 76), defScope (top 76), [], []⟩) rfl
  case g_least_in =>
    exact He.glo_ok X Gl (D.fact 66 (f := .glo "least_in") rfl)
  case g_shown =>
    exact He.glo_ok X Gl (D.fact 67 (f := .glo "shown") rfl)
  case f_least_speed =>
    exact D.def_ 51 (d := ⟨("least_speed", none), "least_speed", "least_speed", defArgs (top 77), defBody (top 77), defScope (top 77), [], []⟩) rfl
  case n_max =>
    exact He.free_ok X Gl (D.fact 68 (f := .free "max") rfl)
  case f__law_pot =>
    exact D.def_ 52 (d := ⟨("_law_pot", none), "_law_pot", "_law_pot", defArgs (top 79), defBody (top 79), defScope (top 79), [], []⟩) rfl
  case n_divmod =>
    exact He.free_ok X Gl (D.fact 69 (f := .free "divmod") rfl)
  case f__law_draw =>
    exact D.def_ 53 (d := ⟨("_law_draw", none), "_law_draw", "_law_draw", defArgs (top 80), defBody (top 80), defScope (top 80), [], []⟩) rfl
  case g__law_draw =>
    exact He.glo_ok X Gl (D.fact 70 (f := .glo "_law_draw") rfl)
  case f__law_pick =>
    exact D.def_ 54 (d := ⟨("_law_pick", none), "_law_pick", "_law_pick", defArgs (top 81), defBody (top 81), defScope (top 81), [], []⟩) rfl
  case f__law_low =>
    exact D.def_ 55 (d := ⟨("_law_low", none), "_law_low", "_law_low", defArgs (top 82), defBody (top 82), defScope (top 82), [], []⟩) rfl
  case g__law_low =>
    exact He.glo_ok X Gl (D.fact 71 (f := .glo "_law_low") rfl)
  case f__law_plus =>
    exact D.def_ 56 (d := ⟨("_law_plus", none), "_law_plus", "_law_plus", defArgs (top 83), defBody (top 83), defScope (top 83), [], []⟩) rfl
  case f__law_minus =>
    exact D.def_ 57 (d := ⟨("_law_minus", none), "_law_minus", "_law_minus", defArgs (top 84), defBody (top 84), defScope (top 84), [], []⟩) rfl
  case f__law_times =>
    exact D.def_ 58 (d := ⟨("_law_times", none), "_law_times", "_law_times", defArgs (top 85), defBody (top 85), defScope (top 85), [], []⟩) rfl
  case f__law_less =>
    exact D.def_ 59 (d := ⟨("_law_less", none), "_law_less", "_law_less", defArgs (top 86), defBody (top 86), defScope (top 86), [], []⟩) rfl
  case f__law_climbed =>
    exact D.def_ 60 (d := ⟨("_law_climbed", none), "_law_climbed", "_law_climbed", defArgs (top 87), defBody (top 87), defScope (top 87), [], []⟩) rfl
  case g__law_climbed =>
    exact He.glo_ok X Gl (D.fact 72 (f := .glo "_law_climbed") rfl)
  case f__law_way =>
    exact D.def_ 61 (d := ⟨("_law_way", none), "_law_way", "_law_way", defArgs (top 88), defBody (top 88), defScope (top 88), [], []⟩) rfl
  case g__law_pick =>
    exact He.glo_ok X Gl (D.fact 73 (f := .glo "_law_pick") rfl)
  case f__law_tree =>
    exact D.def_ 62 (d := ⟨("_law_tree", none), "_law_tree", "_law_tree", defArgs (top 89), defBody (top 89), defScope (top 89), [], []⟩) rfl
  case f__law_day =>
    exact D.def_ 63 (d := ⟨("_law_day", none), "_law_day", "_law_day", defArgs (top 90), defBody (top 90), defScope (top 90), [], []⟩) rfl
  case g__law_times =>
    exact He.glo_ok X Gl (D.fact 74 (f := .glo "_law_times") rfl)
  case g__law_plus =>
    exact He.glo_ok X Gl (D.fact 75 (f := .glo "_law_plus") rfl)
  case g__law_way =>
    exact He.glo_ok X Gl (D.fact 76 (f := .glo "_law_way") rfl)
  case g__law_less =>
    exact He.glo_ok X Gl (D.fact 77 (f := .glo "_law_less") rfl)
  case f__law_do_fit =>
    exact D.def_ 64 (d := ⟨("_law_do_fit", none), "_law_do_fit", "_law_do_fit", defArgs (top 91), defBody (top 91), defScope (top 91), [], []⟩) rfl
  case g__law_do_fit =>
    exact He.glo_ok X Gl (D.fact 78 (f := .glo "_law_do_fit") rfl)
  case f__law_fewest =>
    exact D.def_ 65 (d := ⟨("_law_fewest", none), "_law_fewest", "_law_fewest", defArgs (top 92), defBody (top 92), defScope (top 92), [], []⟩) rfl
  case g_least_speed =>
    exact He.glo_ok X Gl (D.fact 79 (f := .glo "least_speed") rfl)
  case n_repr =>
    exact He.free_ok X Gl (D.fact 80 (f := .free "repr") rfl)
  case g__law_fewest =>
    exact He.glo_ok X Gl (D.fact 81 (f := .glo "_law_fewest") rfl)
  case g_riders_paper =>
    exact He.glo_ok X Gl (D.fact 82 (f := .glo "riders_paper") rfl)
  case g_is_riders_paper =>
    exact He.glo_ok X Gl (D.fact 83 (f := .glo "is_riders_paper") rfl)
  case g_fewest_riders =>
    exact He.glo_ok X Gl (D.fact 84 (f := .glo "fewest_riders") rfl)
  case g__law_minus =>
    exact He.glo_ok X Gl (D.fact 85 (f := .glo "_law_minus") rfl)
  case f__law_many_right =>
    exact D.def_ 66 (d := ⟨("_law_many_right", none), "_law_many_right", "_law_many_right", defArgs (top 93), defBody (top 93), defScope (top 93), [], []⟩) rfl
  case g__law_tree =>
    exact He.glo_ok X Gl (D.fact 86 (f := .glo "_law_tree") rfl)
  case g__law_day =>
    exact He.glo_ok X Gl (D.fact 87 (f := .glo "_law_day") rfl)
  case g__law_many_right =>
    exact He.glo_ok X Gl (D.fact 88 (f := .glo "_law_many_right") rfl)
  case f__law_right =>
    exact D.def_ 67 (d := ⟨("_law_right", none), "_law_right", "_law_right", defArgs (top 94), defBody (top 94), defScope (top 94), [], []⟩) rfl
  case g__law_pot =>
    exact He.glo_ok X Gl (D.fact 89 (f := .glo "_law_pot") rfl)
  case g__law_right =>
    exact He.glo_ok X Gl (D.fact 90 (f := .glo "_law_right") rfl)
  case f_law =>
    exact D.def_ 68 (d := ⟨("law", none), "law", "law", defArgs (top 95), defBody (top 95), defScope (top 95), [], []⟩) rfl
  case g_law =>
    exact He.glo_ok X Gl (D.fact 91 (f := .glo "law") rfl)
end K91

-- K91Z
set_option Elab.async false
set_option linter.all false
set_option maxRecDepth 100000
set_option maxHeartbeats 0
namespace K91
open PySem PySem.Spec PyProof.Rows L2 LamX DL K91N
theorem kin {w : World} {mg : Str → Option Value} {h : Heap} {f : Addr} {K : PySem.W.Frag} (P : Program) (KX : K.In h) (c : SaysP fa fn ps tf ex w h K) (G : h.Ns mainGlobals mg) (hmg : mg ("law" : Str) = some (.ref f)) :
    ∃ (K : PySem.W.Frag) (cs : List (Addr × Addr)) (ca : Str → Addr) (T : List (Addr × Str)), K.In h ∧
      (∀ p ∈ cs, h.get? p.2 = some tblO) ∧ (∀ p ∈ cs, K.lookup p.2 = none) ∧ (∀ p ∈ cs, PySem.W.CodeHd h p.1 p.2) ∧ (∀ p ∈ T, ∃ c ∈ cs, c.2 = p.1) ∧
      ∀ base : Heap, K.In base → base.Ns mainGlobals mg → (∀ p ∈ cs, TabB base mg p.1 p.2) → Fk ⟨P, w, base, K, mg, ca, T⟩ 13 f [shN 1] m_law := by
  refine ⟨K, tf.map (He.cT K), He.ga K, T0 K, KX, fun p hp => ?_, fun p hp => ?_, fun p hp => ?_, fun p hp => ?_, fun base hK hN hTB => ?_⟩
  · obtain ⟨q, hq, rfl⟩ := List.mem_map.mp hp
    exact c.x.empty q hq
  · obtain ⟨q, hq, rfl⟩ := List.mem_map.mp hp
    exact c.x.out q hq
  · obtain ⟨q, hq, rfl⟩ := List.mem_map.mp hp
    exact PySem.W.codeHd_of_K KX (c.x.hd q hq)
  · cases hp
  · have T := tx_of (P := P) (w := w) KX G c hTB
    have e := hmg.symm.trans T.g_law
    cases e
    exact k_law T
end K91

-- K91J
set_option Elab.async false
set_option linter.all false
set_option maxRecDepth 100000
set_option maxHeartbeats 0
open PySem PySem.W PySem.Calls PyProof.Rows
theorem PySem.Challenge.cw_treeposts_k91_whole_least_speeds_holds : PySem.Challenge.rw_treeposts_k91_whole_least_speeds.Holds := by
  w_on; o_law
  refine DLI.head_imp (r := K91N.R) (q := K91N.qv) (H := K91N.hk) (ob := K91N.ob) (M1 := 3000) (M := 60000) (loose := K91N.names) (d := HandSHeadRun.topDef K91N.R.prog 95) (kwd := []) K91N.ob_eq
    K91N.run (by kernel_rfl) (by kernel_rfl) (by kernel_rfl) (by rfl) (by first | assumption | decide +kernel) (by decide +kernel) ⟨rfl, rfl, rfl, rfl, rfl, by decide +kernel⟩ ?hw ?hc
  case hw => w_witness2
  case hc =>
    refine DL.walk_G (l := PySem.Challenge.rw_treeposts_k91_whole_least_speeds) (n := 63) (k := 13) (m := K91.m_law) rfl (by decide) (by kernel_rfl) ⟨rfl, by decide, by decide⟩ ?F (fun ns hl hb => K91P.plain ns)
    intro w mg fa h Y G hmg0
    obtain ⟨K, KX, c⟩ := Y
    have hmg : mg ("law" : PySem.Str) = some (.ref fa) := by
      have e : (HandSHeadRun.topDef K91N.R.prog 95).name = ("law" : PySem.Str) := by kernel_rfl
      rw [← e]
      exact hmg0
    exact K91.kin _ KX c G hmg
